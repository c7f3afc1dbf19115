import PyProof.Rows.All
import Wide.All
import Open.Line
import PyProof.P3Statements
import PySem.Sem
import PySem.Builtin.Str.Common
import PyProof.StrLaws
import PyProof.Defs
import PyProof.Rows.Top
import PyProof.CompMap
import PyProof.Cells
import PyProof.TupleIter
import PyProof.ListOps
import PyProof.TupleOps
import PyProof.Rows.Tup
import PyProof.Rows.PlainObj
import PyProof.RaisesMany
import PyProof.RulesTry
import PyProof.Walks
import PyProof.WalksMore
import PyProof.StrWalks
import PyProof.RangeFor
import PyProof.Rows.StrRules
import PyProof.Rows.RuleB_floordiv
import PyProof.Rows.RuleB_mod
import PyProof.Rows.RuleB_mul
import PyProof.Rows.RuleB_sub
import PyProof.Rows.IntRules
import PyProof.Rows.RuleC_int
import PyProof.Rows.RuleU_int
import PyProof.Rows.StrTemp
import PyProof.PureInt
import PyProof.Truth
import PyProof.ListTruth
import PyProof.CallRoads
import PyProof.CallType
import PyProof.EqLayable
import PyProof.P3In
import PyProof.Rows.Nodes
import PyProof.Rows.RuleB_pow
import PyProof.NoPylong
import PyProof.StrBlock2
import PyProof.ListMulRoad
import PyProof.AutoListH
import PyProof.ListIndexNeg
import PyProof.SliceMore
import PyProof.SliceStr2
import PyProof.Rows.ListMul
import PyProof.Rows.StrPins
import PyProof.IsInstanceH
import PyProof.IsiSeqPairs
import PyProof.IsiPairs
import PyProof.Rules3
import PyProof.Rules2
import PyProof.DictRoadsH
import PyProof.DictKinds
import PyProof.ExcClass2
import PyProof.P3Eq
import PyProof.EqAt
import PyProof.SeqRoads
import PyProof.FactsAll.list_1
import PyProof.Rows.Chain
import PyProof.NeData
import PyProof.IsiNone
import PyProof.DefCall
import PyProof.Rows.Range3
import PyProof.ListNew
import PyProof.ReprLoop
import PyProof.FactsAll.list
import PyProof.FactsAll.list_2
import PyProof.Draws
import PyProof.EnumMake
import PyProof.ZipIter
import PyProof.Conv_int
import PyProof.Conv_int_bool
import PyProof.CallStr
import PyProof.TupleOfSeq
import KE.IntTextLaws
import PyProof.DictIter
import PyProof.DictWalks
import PyProof.DictDisplay
import PyProof.ListCopy
import PyProof.ListStr
import PyProof.ListRange
import PyProof.Rows.StrJoin2
import PyProof.SliceSyntax
import PyProof.StrBlockL
import PyProof.Rows.SumAny
import PyProof.WalkInts
import PyProof.SeqI3
import PyProof.Rows.CallKwBuiltin
import PyProof.MinMaxWalk
import PyProof.CompFree
import PyProof.Comp
import PyProof.WalksPairs
import PyProof.Rows.TupIter
import PyProof.Rows.TopObj
import PyProof.Rows.AttrNodeAny
import PyProof.ExcArgsOwn
import PyProof.ExcAttrAll.ValueError
import PyProof.IsInstance
import PyProof.Raises
import PyProof.RulesAssignMore
import PyProof.Rows.TupAssign
import PyProof.ForAny
import PyProof.ExcBaseAll.ValueError
import PyProof.NsDelKeeps
import PyProof.ExcQuiet
import PySem.Challenge.RW_uf020039_12
set_option Elab.async false
set_option tactic.hygienic false
set_option genSizeOf false
set_option bootstrap.genMatcherCode false
set_option linter.all false
section
set_option maxRecDepth 100000
set_option maxHeartbeats 8000000
open PySem PySem.W PyProof.Rows
noncomputable def Mine.viewX : Program := view PySem.Challenge.rw_uf020039_12.row.prog [1,2,3,4,5,7,8,9,10,11,12,13,14,15,16,17,18,19,20,21,23,24,25,27,28,29,30,32,33,34,35,36,37,38,39,41,42,43,44,45,46,47,48,49,51,52,53,54,55,56,57,58,59,60]
theorem Mine.leftX : LeftO PySem.Challenge.rw_uf020039_12.row.prog Mine.viewX [] (fun s => xlAt Mine.viewX [] s && recOk (RowW.records PySem.Challenge.rw_uf020039_12.row.toRowW) s) (Hook.obs Hook.none) (Hook.val Hook.none) 5414 := by
 intro w
 kernel_rfl
theorem Mine.saidX : PySem.Challenge.rw_uf020039_12.wellSaid = true := by
 unfold OpenLaw.wellSaid OpenRow.wellSaid OpenRow.partSaid looksOpen
 repeat' with_reducible refine look_both ?_ ?_
 all_goals decide +kernel
end
section
set_option autoImplicit false
namespace Mine
open PySem
inductive V where
 | none
 | bool (b : Bool)
 | int (i : Int)
 | str (s : Str)
 | tup (vs : List V)
 | lst (vs : List V)
 | ref (a : Nat)
 | inst (c : Nat) (ns : List String) (vs : List V)
 | iref (c : Nat) (ns : List String) (a : Nat)
 | exc (c : String)
 | dct
inductive At where
 | i (n : Int)
 | s (x : Str)
deriving DecidableEq
noncomputable abbrev HFn := List At → Int
inductive AO where
 | list (vs : List V)
 | dict (kvs : List (List At × V))
 | inst (c : Nat) (ns : List String) (vs : List V)
noncomputable abbrev AH := Nat → Option AO
noncomputable def AH.upd (H : AH) (a : Nat) (o : AO) : AH := fun b => if b = a then some o else H b
structure St where
 ρ : List (Option V)
 H : AH
 B : AH
set_option genSizeOf false
set_option genInjectivity false
inductive Bop where
 | add | sub | mul | fdiv | mod | pow
inductive Cop where
 | eq | ne | lt | le | gt | ge | is | isnot | isin | notin
set_option genCtorIdx false
inductive Ty where
 | int | bool | str | tuple | list | own (c : String) | ValueError
inductive Tg where
 | var (i : Nat)
 | tup (is : List Nat)
mutual
inductive E where
 | none
 | bool (b : Bool)
 | int (i : Int)
 | str (s : Str)
 | var (i : Nat)
 | glob (x : String)
 | bin (op : Bop) (a b : E)
 | neg (a : E)
 | not (a : E)
 | and (a b : E)
 | or (a b : E)
 | ite (t a b : E)
 | list (es : Es)
 | tup (es : Es)
 | cmp (a : E) (c : Ch)
 | sub (a i : E)
 | slice (a lo hi : E)
 | call (f : String) (args : Es)
 | isinst (a : E) (t : Ty)
 | len (a : E)
 | sum (a : E)
 | max2 (a b : E)
 | min2 (a b : E)
 | maxl (a : E)
 | maxd (a d : E)
 | strOf (a : E)
 | intOf (a : E)
 | tupOf (a : E)
 | listOf (it : It)
 | join (s a : E)
 | get (d k v : E)
 | dict0
 | attr (a : E) (n : String)
 | new (c : String) (args : Es)
 | comp (elt : E) (t : Tg) (it : It)
 | compIf (elt : E) (t : Tg) (it : It) (c : E)
 | isexc (a : E) (t : String)
 | only (a : E)
inductive Es where
 | nil
 | cons (e : E) (es : Es)
inductive Ch where
 | one (op : Cop) (e : E)
 | more (op : Cop) (e : E) (c : Ch)
inductive It where
 | seq (e : E)
 | rev (e : E)
 | range1 (n : E)
 | range2 (a b : E)
 | range3 (a b c : E)
 | enum (e : E)
 | zip (a b : E)
 | keys (e : E)
end
mutual
inductive A where
 | pure (e : E)
 | thaw (e : E)
 | list (as : As)
 | dict
 | new (c : String) (args : Es)
 | callO (f : String) (args : Es)
inductive As where
 | nil
 | cons (a : A) (as : As)
end
mutual
inductive S where
 | expr (e : E)
 | assign (t : Tg) (e : E)
 | own (i : Nat) (a : A)
 | append (e : E) (a : A)
 | pop (t : Tg) (e : E)
 | setitem (e k v : E)
 | setkey (e k v : E)
 | setattr (e : E) (n : String) (v : E)
 | setlast (e v : E)
 | ite (t : E) (a b : Bl)
 | while (t : E) (b : Bl)
 | for (t : Tg) (it : It) (b : Bl)
 | ret (e : E)
 | retO (e : E)
 | raise (c : String) (msg : E)
 | rz (c : String) (msg : E)
 | tryEx (e : E) (c : String) (x : Option Nat) (h : Bl)
inductive Bl where
 | nil
 | cons (s : S) (b : Bl)
end
structure Fn where
 np : Nat
 vars : List String
 nv : Nat
 body : Bl
set_option genCtorIdx true
set_option genInjectivity true
noncomputable def signsOf (s : Str) : List V := s.cps.toList.map fun c => V.str ⟨#[c]⟩
noncomputable def seqL (H : AH) : V → Option (List V)
 | .lst vs => some vs
 | .ref a => match H a with
  | some (.list vs) => some vs
  | _ => Option.none
 | _ => Option.none
noncomputable def atV : At → V
 | .i n => .int n
 | .s x => .str x
noncomputable def keyV (ks : List At) : V := .tup (ks.map atV)
noncomputable def itemsV (H : AH) : V → Option (List V)
 | .lst vs => some vs
 | .tup vs => some vs
 | .str s => some (signsOf s)
 | .ref a => match H a with
  | some (.list vs) => some vs
  | _ => Option.none
 | _ => Option.none
noncomputable def depsV : V → List Nat
 | .ref a => [a]
 | _ => []
noncomputable def sizeV (H : AH) : V → Option Nat
 | .lst vs => some vs.length
 | .tup vs => some vs.length
 | .str s => some s.length
 | .ref a => match H a with
  | some (.list vs) => some vs.length
  | _ => Option.none
 | _ => Option.none
noncomputable def truthV (_H : AH) : V → Option Bool
 | .bool b => some b
 | _ => Option.none
noncomputable def resV (H : AH) : V → V
 | .ref a => match H a with
  | some (.list vs) => .lst vs
  | _ => .ref a
 | v => v
mutual
noncomputable def toD : V → Option PyData
 | .none => some .none
 | .bool b => some (.bool b)
 | .int i => some (.int i)
 | .str s => some (.str s)
 | .tup vs => (toDs vs).map .tuple
 | .lst vs => (toDs vs).map .list
 | .ref _ => Option.none
 | .inst _ _ _ => Option.none
 | .iref _ _ _ => Option.none
 | .exc _ => Option.none
 | .dct => Option.none
noncomputable def toDs : List V → Option (List PyData)
 | [] => some []
 | v :: vs => match toD v, toDs vs with
  | some d, some ds => some (d :: ds)
  | _, _ => Option.none
end
noncomputable def eqV (H : AH) (a b : V) (Q : Bool → Prop) : Prop :=
 match toD (resV H a), toD (resV H b) with
 | some x, some y => x.depth ≤ 64 ∧ Q (PyData.eqv x y)
 | _, _ => False
noncomputable def hasSub (s t : Str) : Bool := !(Builtin.Str.occurrences s t 0 s.length 1).isEmpty
noncomputable def atOf : V → Option At
 | .int n => some (.i n)
 | .str x => some (.s x)
 | _ => Option.none
noncomputable def atsOf : List V → Option (List At)
 | [] => some []
 | v :: vs => (match atOf v, atsOf vs with
  | some a, some as => some (a :: as)
  | _, _ => Option.none)
noncomputable def keyP : V → (List At → Prop) → Prop
 | .tup vs, P => (match atsOf vs with
  | some ks => P ks
  | Option.none => False)
 | _, _ => False
noncomputable def dlook (k : List At) : List (List At × V) → Option V
 | [] => Option.none
 | (a, v) :: r => if a = k then some v else dlook k r
noncomputable def dput (k : List At) (v : V) : List (List At × V) → List (List At × V)
 | [] => [(k, v)]
 | (a, w) :: r => if a = k then (a, v) :: r else (a, w) :: dput k v r
noncomputable def dictP (H : AH) (u : V) (P : Nat → List (List At × V) → Prop) : Prop := match u with
 | .ref a => (match H a with
  | some (.dict kvs) => P a kvs
  | _ => False)
 | _ => False
noncomputable def intP : V → (Int → Prop) → Prop
 | .int i, P => P i
 | _, _ => False
noncomputable def smallI (i : Int) : Prop := -(2 ^ 62) ≤ i ∧ i < 2 ^ 62
noncomputable def strP : V → (Str → Prop) → Prop
 | .str s, P => P s
 | _, _ => False
noncomputable def noneP : V → Prop → Prop
 | .none, P => P
 | _, _ => False
noncomputable def isNone : V → Bool
 | .none => true
 | _ => false
noncomputable def seqP (H : AH) (v : V) (P : List V → Prop) : Prop := match seqL H v with
 | some x => P x
 | Option.none => False
noncomputable def rowL (H : AH) : V → Option (List V)
 | .lst vs => some vs
 | .tup vs => some vs
 | .ref a => match H a with
  | some (.list vs) => some vs
  | _ => Option.none
 | _ => Option.none
noncomputable def rowP (H : AH) (v : V) (P : List V → Prop) : Prop := match rowL H v with
 | some x => P x
 | Option.none => False
noncomputable def inL (x : V) (vs : List V) (Q : Bool → Prop) : Prop := match toD x, toDs vs with
 | some d, some ds => d.depth ≤ 64 ∧ Q (ds.any fun y => PyData.eqv y d)
 | _, _ => False
noncomputable def inV (H : AH) (x c : V) (Q : Bool → Prop) : Prop := match c with
 | .str s => strP x fun t => Q (hasSub s t)
 | .lst vs => inL x vs Q
 | .tup vs => inL x vs Q
 | c => dictP H c fun z' kvs => keyP x fun ks => Q (dlook ks kvs).isSome
noncomputable def cmpV (H : AH) (op : Cop) (a b : V) (Q : Bool → Prop) : Prop := match op with
 | .eq => eqV H a b Q
 | .ne => eqV H a b fun r => Q (!r)
 | .lt => intP a fun i => intP b fun j => Q (decide (i < j))
 | .le => intP a fun i => intP b fun j => Q (decide (i ≤ j))
 | .gt => intP a fun i => intP b fun j => Q (decide (i > j))
 | .ge => intP a fun i => intP b fun j => Q (decide (i ≥ j))
 | .is => noneP b (Q (isNone a))
 | .isnot => noneP b (Q (!isNone a))
 | .isin => inV H a b Q
 | .notin => inV H a b fun r => Q (!r)
noncomputable def repL {α : Type} (n : Nat) (xs : List α) : List α := (List.replicate n xs).flatten
noncomputable def addV (H : AH) (a b : V) (Q : V → Prop) : Prop := match a with
 | .int i => intP b fun j => Q (.int (i + j))
 | .str s => strP b fun t => s.length + t.length ≤ sizeLine ∧ Q (.str (s ++ t))
 | a => seqP H a fun x => seqP H b fun y => x.length + y.length ≤ sizeLine ∧ Q (.lst (x ++ y))
noncomputable def mulV (a b : V) (Q : V → Prop) : Prop := match a with
 | .int i => intP b fun j => (i.natAbs < 2 ^ 62 ∨ j.natAbs < 2 ^ 62) ∧ Q (.int (i * j))
 | .lst vs => intP b fun n => -(2 ^ 62) ≤ n ∧ n < 2 ^ 62 ∧ vs.length * n.toNat ≤ sizeLine ∧ Q (.lst (repL n.toNat vs))
 | .str s => intP b fun n => 0 ≤ n ∧ n < 2 ^ 30 ∧ s.length * n.toNat ≤ sizeLine ∧ Q (.str ⟨(repL n.toNat s.cps.toList).toArray⟩)
 | _ => False
noncomputable def binV (H : AH) (op : Bop) (a b : V) (Q : V → Prop) : Prop := match op with
 | .add => addV H a b Q
 | .sub => intP a fun i => intP b fun j => Q (.int (i - j))
 | .mul => mulV a b Q
 | .fdiv => intP a fun i => intP b fun j => j ≠ 0 ∧ Q (.int (i.fdiv j))
 | .mod => intP a fun i => intP b fun j => j ≠ 0 ∧ Q (.int (i.fmod j))
 | .pow => intP a fun i => intP b fun j => i = 10 ∧ (j = 30 ∨ j = 40) ∧ Q (.int (10 ^ j.toNat))
noncomputable def idx (n : Nat) (i : Int) : Option Nat :=
 if 0 ≤ i then (if i < n then some i.toNat else Option.none) else (if 0 ≤ i + n then some (i + n).toNat else Option.none)
noncomputable def subV (H : AH) : V → V → (V → Prop) → Prop
 | .ref a, k, Q => (match H a with
  | some (.dict kvs) => keyP k fun ks => (match dlook ks kvs with
   | some v => Q v
   | Option.none => False)
  | some (.list vs) => (match k with
   | .int i => (match idx vs.length i with
    | some n => (match vs[n]? with
     | some v => Q v
     | Option.none => False)
    | Option.none => False)
   | _ => False)
  | _ => False)
 | .str s, .int i, Q => (match idx s.length i with
  | some n => (match s.cps.toList[n]? with
   | some c => Q (.str ⟨#[c]⟩)
   | Option.none => False)
  | Option.none => False)
 | .lst vs, .int i, Q => (match idx vs.length i with
  | some n => (match vs[n]? with
   | some v => Q v
   | Option.none => False)
  | Option.none => False)
 | .tup vs, .int i, Q => (match idx vs.length i with
  | some n => (match vs[n]? with
   | some v => Q v
   | Option.none => False)
  | Option.none => False)
 | _, _, _ => False
noncomputable def clip (n : Nat) (i : Int) : Nat := (max 0 (min (if i < 0 then i + n else i) n)).toNat
noncomputable def bnd (n d : Nat) : V → Option Nat
 | .none => some d
 | .int i => some (clip n i)
 | _ => Option.none
noncomputable def cutL {α : Type} (xs : List α) (lo hi : Nat) : List α := (xs.drop lo).take (hi - lo)
noncomputable def sliceV (H : AH) (a lo hi : V) (Q : V → Prop) : Prop :=
 match a with
 | .str s => (match bnd s.length 0 lo, bnd s.length s.length hi with
  | some l, some h => Q (.str ⟨(cutL s.cps.toList l h).toArray⟩)
  | _, _ => False)
 | v => (match seqL H v with
  | some vs => (match bnd vs.length 0 lo, bnd vs.length vs.length hi with
   | some l, some h => Q (.lst (cutL vs l h))
   | _, _ => False)
  | Option.none => False)
noncomputable def isV : Ty → V → Option Bool
 | _, .ref _ => Option.none
 | _, .inst _ _ _ => Option.none
 | _, .iref _ _ _ => Option.none
 | _, .exc _ => Option.none
 | .int, .int _ => some true
 | .int, .bool _ => some true
 | .int, _ => some false
 | .bool, .bool _ => some true
 | .bool, _ => some false
 | .str, .str _ => some true
 | .str, _ => some false
 | .tuple, .tup _ => some true
 | .tuple, _ => some false
 | .list, .lst _ => some true
 | .list, _ => some false
 | _, _ => Option.none
noncomputable def isT (H : AH) (t : Ty) (v : V) : Option Bool := match v with
 | .ref a => (match H a with
  | some (.list _) => isV t (.lst [])
  | _ => Option.none)
 | v => isV t v
noncomputable def intsOf : List V → Option (List Int)
 | [] => some []
 | .int i :: r => (intsOf r).map (i :: ·)
 | _ => Option.none
noncomputable def strsOf : List V → Option (List Str)
 | [] => some []
 | .str s :: r => (strsOf r).map (s :: ·)
 | _ => Option.none
noncomputable def lenAll : List Str → Nat
 | [] => 0
 | s :: r => s.length + lenAll r
noncomputable def maxI : Int → List Int → Int
 | m, [] => m
 | m, x :: r => maxI (if x > m then x else m) r
noncomputable def digitsVal (l : List Nat) : Nat := l.foldl (fun n c => n * 10 + (c - 48)) 0
noncomputable def allDigits (l : List Nat) : Bool := l.all fun c => 48 ≤ c && c ≤ 57
noncomputable def intOfV : V → (V → Prop) → Prop
 | .bool b, Q => Q (.int (if b then 1 else 0))
 | .str s, Q => allDigits s.cps.toList = true ∧ 0 < s.length ∧ s.length ≤ 100 ∧ Q (.int (digitsVal s.cps.toList))
 | _, _ => False
noncomputable def upL (a b : Int) : List V := (List.range (b - a).toNat).map fun (k : Nat) => .int (a + k)
noncomputable def downL (a b : Int) : List V := (List.range (a - b).toNat).map fun (k : Nat) => .int (a - k)
noncomputable def enumL (n : Nat) : List V → List V
 | [] => []
 | v :: vs => .tup [.int n, v] :: enumL (n + 1) vs
noncomputable def zipL : List V → List V → List V
 | x :: xs, y :: ys => .tup [x, y] :: zipL xs ys
 | _, _ => []
noncomputable def putV (i : Nat) (v : V) (ρ : List (Option V)) : Option (List (Option V)) := if i < ρ.length then some (ρ.set i (some v)) else Option.none
noncomputable def setAll : List Nat → List V → List (Option V) → Option (List (Option V))
 | [], [], ρ => some ρ
 | i :: is, v :: vs, ρ => match putV i v ρ with
  | some ρ' => setAll is vs ρ'
  | Option.none => Option.none
 | _, _, _ => Option.none
noncomputable def bindT : Tg → V → List (Option V) → Option (List (Option V))
 | .var i, v, ρ => putV i v ρ
 | .tup is, .tup vs, ρ => setAll is vs ρ
 | _, _, _ => Option.none
noncomputable def rng1 : List V → (Int → Prop) → Prop
 | [u], P => intP u fun i => smallI i ∧ P i
 | _, _ => False
noncomputable def rng2 : List V → (Int → Int → Prop) → Prop
 | [u, v], P => intP u fun i => intP v fun j => smallI i ∧ smallI j ∧ P i j
 | _, _ => False
noncomputable def rng3 : List V → (Int → Int → Int → Prop) → Prop
 | [u, v, w], P => intP u fun i => intP v fun j => intP w fun k => smallI i ∧ smallI j ∧ P i j k
 | _, _ => False
noncomputable def intsP (vs : List V) (P : List Int → Prop) : Prop := match intsOf vs with
 | some is => P is
 | Option.none => False
noncomputable def sum1 (H : AH) : List V → (Int → Prop) → Prop
 | [u], P => seqP H u fun vs => intsP vs fun is => P is.sum
 | _, _ => False
noncomputable def max1 (H : AH) : List V → (Int → Prop) → Prop
 | [u], P => seqP H u fun vs => intsP vs fun is => is ≠ [] ∧ P (maxI (is.headD 0) is.tail)
 | _, _ => False
noncomputable def maxD (H : AH) (u v : V) (Q : V → Prop) : Prop := seqP H u fun vs => intsP vs fun is => Q (match is with
 | [] => v
 | i :: r => .int (maxI i r))
noncomputable def int2 : List V → (Int → Int → Prop) → Prop
 | [u, v], P => intP u fun i => intP v fun j => P i j
 | _, _ => False
noncomputable def setV (H B : AH) (u kk : V) (P : Nat → List V → Nat → Prop) : Prop := match u with
 | .ref ad => intP kk fun i => B ad = Option.none ∧ 0 ≤ i ∧ ∃ vs, H ad = some (.list vs) ∧ i < vs.length ∧ P ad vs i.toNat
 | _ => False
noncomputable def mapO (f : V → Option V) : List V → Option (List V)
 | [] => some []
 | v :: vs => match f v, mapO f vs with
  | some x, some xs => some (x :: xs)
  | _, _ => Option.none
noncomputable def frz (H B : AH) : Nat → V → Option V
 | 0, _ => Option.none
 | n + 1, v => match v with
  | .ref a => (match B a with
   | some _ => some (.ref a)
   | Option.none => (match H a with
    | some (.list vs) => (mapO (frz H B n) vs).map .lst
    | _ => Option.none))
  | .iref c ns a => (match B a with
   | some _ => some (.iref c ns a)
   | Option.none => (match H a with
    | some (.inst _ ns' vs) => if ns' = ns then (mapO (frz H B n) vs).map (.inst c ns) else Option.none
    | _ => Option.none))
  | .tup vs => (mapO (frz H B n) vs).map .tup
  | .lst vs => (mapO (frz H B n) vs).map .lst
  | .inst c ns vs => (mapO (frz H B n) vs).map (.inst c ns)
  | v => some v
noncomputable def frzs (H B : AH) (n : Nat) (vs : List V) : Option (List V) := mapO (frz H B n) vs
noncomputable abbrev RunSem := String → List V → AH → (V → AH → Prop) → (String → Prop) → Prop
noncomputable def giveV (H' H : AH) (a : Nat) (w : V) : Option V := match w with
 | .ref b => if b = a then Option.none else (match H b with
  | some _ => Option.none
  | Option.none => (match H' b with
   | some (.list us) => some (.lst us)
   | _ => Option.none))
 | w => some w
noncomputable def giveP (H' H : AH) (v : V) (Q : List V → Prop) : Prop := match v with
 | .ref a => (match H a with
  | some _ => False
  | Option.none => (match H' a with
   | some (.list ws) => (match mapO (giveV H' H a) ws with
    | some ws' => Q ws'
    | Option.none => False)
   | _ => False))
 | _ => False
inductive Ini where
 | arg (i : Nat)
 | val (v : V)
structure Cx where
 run : RunSem
 glob : String → Option V
 cls : String → Option (Nat × Nat × List (String × Ini))
 has : Nat → List String → Bool
noncomputable def Cx.call (C : Cx) (f : String) (vs : List V) (H : AH) (Q : V → Prop) (X : String → Prop) : Prop := C.run f vs H (fun v H' => match frz H' H 8 v with
 | some v' => Q v'
 | Option.none => False) X
noncomputable def Cx.callO (C : Cx) (f : String) (vs : List V) (H : AH) (Q : List V → Prop) (X : String → Prop) : Prop := C.run f vs H (fun v H' => giveP H' H v Q) X
noncomputable def iniV (args : List V) : Ini → V
 | .arg i => (args[i]?).getD .none
 | .val v => v
noncomputable def attrL (n : String) : List String → List V → Option V
 | m :: ns, v :: vs => if m = n then some v else attrL n ns vs
 | _, _ => Option.none
noncomputable def setAttrL (n : String) (w : V) : List String → List V → Option (List V)
 | m :: ns, v :: vs => if m = n then some (w :: vs) else (setAttrL n w ns vs).map (v :: ·)
 | _, _ => Option.none
noncomputable def allX : List String := ["BookError", "NoBook", "NoText", "NoPlace", "NoWord"]
noncomputable def subX (c t : String) : Bool := allX.contains c && (decide (c = t) || decide (t = "BookError") || decide (t = "ValueError"))
noncomputable def compL (f : V → (Option V → Prop) → Prop) : List V → (List V → Prop) → Prop
 | [], Q => Q []
 | x :: xs, Q => f x fun r => compL f xs fun ys => Q (match r with
  | some y => y :: ys
  | Option.none => ys)
mutual
noncomputable def WE (C : Cx) : E → St → (V → Prop) → (String → Prop) → Prop
 | .none, _, Q, _ => Q .none
 | .bool b, _, Q, _ => Q (.bool b)
 | .int i, _, Q, _ => Q (.int i)
 | .str s, _, Q, _ => Q (.str s)
 | .var i, st, Q, _ => (match st.ρ[i]? with
  | some (some v) => Q v
  | _ => False)
 | .glob x, _, Q, _ => (match C.glob x with
  | some v => Q v
  | Option.none => False)
 | .bin op a b, st, Q, X => WE C a st (fun u => WE C b st (fun v => binV st.H op u v Q) X) X
 | .neg a, st, Q, X => WE C a st (fun u => match u with
  | .int i => Q (.int (-i))
  | _ => False) X
 | .not a, st, Q, X => WE C a st (fun u => match truthV st.H u with
  | some b => Q (.bool (!b))
  | Option.none => False) X
 | .and a b, st, Q, X => WE C a st (fun u => match truthV st.H u with
  | some true => WE C b st Q X
  | some false => Q u
  | Option.none => False) X
 | .or a b, st, Q, X => WE C a st (fun u => match truthV st.H u with
  | some true => Q u
  | some false => WE C b st Q X
  | Option.none => False) X
 | .ite t a b, st, Q, X => WE C t st (fun u => match truthV st.H u with
  | some true => WE C a st Q X
  | some false => WE C b st Q X
  | Option.none => False) X
 | .list es, st, Q, X => WEs C es st (fun vs => vs.length ≤ sizeLine ∧ Q (.lst vs)) X
 | .tup es, st, Q, X => WEs C es st (fun vs => vs.length ≤ sizeLine ∧ Q (.tup vs)) X
 | .cmp a c, st, Q, X => WE C a st (fun u => WCh C c st u (fun b => Q (.bool b)) X) X
 | .sub a i, st, Q, X => WE C a st (fun u => WE C i st (fun k => subV st.H u k Q) X) X
 | .slice a lo hi, st, Q, X => WE C a st (fun u => WE C lo st (fun l => WE C hi st (fun h => sliceV st.H u l h Q) X) X) X
 | .call f args, st, Q, X => WEs C args st (fun vs => C.call f vs st.H Q X) X
 | .isinst a t, st, Q, X => WE C a st (fun u => match isT st.H t u with
  | some b => Q (.bool b)
  | Option.none => False) X
 | .len a, st, Q, X => WE C a st (fun u => match sizeV st.H u with
  | some n => Q (.int n)
  | Option.none => False) X
 | .sum a, st, Q, X => WE C a st (fun u => sum1 st.H [u] fun n => Q (.int n)) X
 | .max2 a b, st, Q, X => WE C a st (fun u => WE C b st (fun v => int2 [u, v] fun i j => Q (.int (if j > i then j else i))) X) X
 | .min2 a b, st, Q, X => WE C a st (fun u => WE C b st (fun v => int2 [u, v] fun i j => Q (.int (if j < i then j else i))) X) X
 | .maxl a, st, Q, X => WE C a st (fun u => max1 st.H [u] fun n => Q (.int n)) X
 | .maxd a d, st, Q, X => WE C a st (fun u => WE C d st (fun v => maxD st.H u v Q) X) X
 | .strOf a, st, Q, X => WE C a st (fun u => intP u fun i => i.natAbs < 2 ^ 62 ∧ Q (.str (Str.ofString (toString i)))) X
 | .intOf a, st, Q, X => WE C a st (fun u => intOfV u Q) X
 | .tupOf a, st, Q, X => WE C a st (fun u => seqP st.H u fun vs => Q (.tup vs)) X
 | .listOf it, st, Q, X => WI C it st (fun vs z' => vs.length ≤ sizeLine ∧ Q (.lst vs)) X
 | .join s a, st, Q, X => WE C s st (fun u => WE C a st (fun v => match u, (seqL st.H v).bind strsOf with
  | .str s, some ss => lenAll ss + s.length * ss.length ≤ sizeLine ∧ Q (.str (Str.join s ss))
  | _, _ => False) X) X
 | .get d k v, st, Q, X => WE C d st (fun u => dictP st.H u fun z' kvs => WE C k st (fun kk => WE C v st (fun w => keyP kk fun ks => Q ((dlook ks kvs).getD w)) X) X) X
 | .dict0, _, Q, _ => Q .dct
 | .attr a n, st, Q, X => WE C a st (fun u => match u with
  | .inst c ns vs => C.has c ns = true ∧ (match attrL n ns vs with
   | some v => Q v
   | Option.none => False)
  | .iref c ns ad => (match st.H ad with
   | some (.inst c' ns' vs) => C.has c ns = true ∧ c' = c ∧ ns' = ns ∧ (match attrL n ns vs with
    | some v => Q v
    | Option.none => False)
   | _ => False)
  | _ => False) X
 | .new c args, st, Q, X => (match C.cls c with
  | some (k, n, fs) => WEs C args st (fun vs => vs.length = n ∧ Q (.inst k (fs.map (·.1)) (fs.map fun f => iniV vs f.2))) X
  | Option.none => False)
 | .comp elt t it, st, Q, X => WI C it st (fun xs z' => xs.length ≤ sizeLine ∧
   compL (fun x k => match bindT t x st.ρ with
    | some ρ' => WE C elt { st with ρ := ρ' } (fun y => k (some y)) (fun z' => False)
    | Option.none => False) xs (fun ys => Q (.lst ys))) X
 | .compIf elt t it c, st, Q, X => WI C it st (fun xs z' => xs.length ≤ sizeLine ∧
   compL (fun x k => match bindT t x st.ρ with
    | some ρ' => WE C c { st with ρ := ρ' } (fun u => match truthV st.H u with
     | some true => WE C elt { st with ρ := ρ' } (fun y => k (some y)) (fun z' => False)
     | some false => k Option.none
     | Option.none => False) (fun z' => False)
    | Option.none => False) xs (fun ys => Q (.lst ys))) X
 | .isexc a t, st, Q, X => WE C a st (fun u => match u with
  | .exc c => allX.contains c = true ∧ Q (.bool (subX c t))
  | _ => False) X
 | .only a, st, _, X => WE C a st (fun z' => False) X
noncomputable def WEs (C : Cx) : Es → St → (List V → Prop) → (String → Prop) → Prop
 | .nil, _, Q, _ => Q []
 | .cons e es, st, Q, X => WE C e st (fun v => WEs C es st (fun vs => Q (v :: vs)) X) X
noncomputable def WCh (C : Cx) : Ch → St → V → (Bool → Prop) → (String → Prop) → Prop
 | .one op e, st, u, Q, X => WE C e st (fun v => cmpV st.H op u v Q) X
 | .more op e c, st, u, Q, X => WE C e st (fun v => cmpV st.H op u v (fun b => if b then WCh C c st v Q X else Q false)) X
noncomputable def WI (C : Cx) : It → St → (List V → List Nat → Prop) → (String → Prop) → Prop
 | .seq e, st, Q, X => WE C e st (fun u => match itemsV st.H u with
  | some vs => Q vs (depsV u)
  | Option.none => False) X
 | .rev e, st, Q, X => WE C e st (fun u => match seqL st.H u with
  | some vs => Q vs.reverse (depsV u)
  | Option.none => False) X
 | .range1 n, st, Q, X => WE C n st (fun u => rng1 [u] fun i => Q (upL 0 i) []) X
 | .range2 a b, st, Q, X => WE C a st (fun u => WE C b st (fun v => rng2 [u, v] fun i j => Q (upL i j) []) X) X
 | .range3 a b c, st, Q, X => WE C a st (fun u => WE C b st (fun v => WE C c st (fun w => rng3 [u, v, w] fun i j k => k = -1 ∧ Q (downL i j) []) X) X) X
 | .enum e, st, Q, X => WE C e st (fun u => rowP st.H u fun vs => Q (enumL 0 vs) (depsV u)) X
 | .zip a b, st, Q, X => WE C a st (fun u => WE C b st (fun v => rowP st.H u fun xs => rowP st.H v fun ys => Q (zipL xs ys) (depsV u ++ depsV v)) X) X
 | .keys e, st, Q, X => WE C e st (fun u => dictP st.H u fun a kvs => Q (kvs.map fun p => keyV p.1) [a]) X
end
noncomputable def freshAt (st : St) (a : Nat) : Prop := st.H a = Option.none ∧ st.B a = Option.none
mutual
noncomputable def WA (C : Cx) : A → St → (V → AH → Prop) → (String → Prop) → Prop
 | .pure e, st, Q, X => WE C e st (fun v => Q v st.H) X
 | .thaw e, st, Q, X => WE C e st (fun v => match v with
  | .lst vs => ∀ a, freshAt st a → Q (.ref a) (st.H.upd a (.list vs))
  | _ => False) X
 | .list as, st, Q, X => WAs C as st (fun vs H' => vs.length ≤ sizeLine ∧ ∀ a, H' a = Option.none → st.B a = Option.none → Q (.ref a) (H'.upd a (.list vs))) X
 | .dict, st, Q, _ => ∀ a, freshAt st a → Q (.ref a) (st.H.upd a (.dict []))
 | .new c args, st, Q, X => (match C.cls c with
  | some (k, n, fs) => WEs C args st (fun vs => vs.length = n ∧ ∀ a, freshAt st a → Q (.iref k (fs.map (·.1)) a) (st.H.upd a (.inst k (fs.map (·.1)) (fs.map fun f => iniV vs f.2)))) X
  | Option.none => False)
 | .callO f args, st, Q, X => WEs C args st (fun vs => C.callO f vs st.H (fun ws => ∀ a, freshAt st a → Q (.ref a) (st.H.upd a (.list ws))) X) X
noncomputable def WAs (C : Cx) : As → St → (List V → AH → Prop) → (String → Prop) → Prop
 | .nil, st, Q, _ => Q [] st.H
 | .cons a as, st, Q, X => WA C a st (fun v H' => WAs C as { st with H := H' } (fun vs H'' => Q (v :: vs) H'') X) X
end
set_option backward.match.sparseCases false
mutual
noncomputable def quietS : S → Bool
 | .expr _ => true
 | .assign _ _ => true
 | .own _ _ => true
 | .ite _ a b => quietB a && quietB b
 | .ret _ => true
 | _ => false
noncomputable def quietB : Bl → Bool
 | .nil => true
 | .cons s b => quietS s && quietB b
end
set_option backward.match.sparseCases true
set_option genInjectivity false
inductive Fl where
 | next | brk | cont
 | ret (v : V)
noncomputable def whileN (T : St → (Bool → Prop) → Prop) (W : St → (Fl → St → Prop) → Prop) (Q : Fl → St → Prop) : Nat → St → Prop
 | 0, _ => False
 | n + 1, st => T st fun b => if b then W st (fun f st' => match f with
   | .next | .cont => whileN T W Q n st'
   | .brk => Q .next st'
   | .ret v => Q (.ret v) st') else Q .next st
noncomputable def forL (t : Tg) (W : St → (Fl → St → Prop) → Prop) (Q : Fl → St → Prop) : List V → St → Prop
 | [], st => Q .next st
 | x :: xs, st => match bindT t x st.ρ with
  | some ρ' => W { st with ρ := ρ' } (fun f st' => match f with
   | .next | .cont => forL t W Q xs st'
   | .brk => Q .next st'
   | .ret v => Q (.ret v) st')
  | Option.none => False
mutual
noncomputable def WS (C : Cx) : S → St → (Fl → St → Prop) → (String → St → Prop) → Prop
 | .expr e, st, Q, X => WE C e st (fun z' => Q .next st) (fun x => X x st)
 | .assign t e, st, Q, X => WE C e st (fun v => match bindT t v st.ρ with
  | some ρ' => Q .next { st with ρ := ρ' }
  | Option.none => False) (fun x => X x st)
 | .own i a, st, Q, X => WA C a st (fun v H' => match putV i v st.ρ with
  | some ρ' => Q .next { st with ρ := ρ', H := H' }
  | Option.none => False) (fun x => X x st)
 | .append e a, st, Q, X => WE C e st (fun v => match v with
  | .ref ad => (match st.H ad with
   | some (.list _) => WA C a st (fun w H' => match H' ad with
    | some (.list vs) => st.B ad = Option.none ∧ vs.length < sizeLine ∧ Q .next { st with H := H'.upd ad (.list (vs ++ [w])) }
    | _ => False) (fun x => X x st)
   | _ => False)
  | _ => False) (fun x => X x st)
 | .pop t e, st, Q, X => WE C e st (fun v => match v with
  | .ref ad => (match st.H ad with
   | some (.list vs) => (match vs.getLast? with
    | some w => st.B ad = Option.none ∧ (match bindT t w st.ρ with
     | some ρ' => Q .next { st with ρ := ρ', H := st.H.upd ad (.list vs.dropLast) }
     | Option.none => False)
    | Option.none => False)
   | _ => False)
  | _ => False) (fun x => X x st)
 | .setitem e k v, st, Q, X => WE C v st (fun w => WE C e st (fun u => WE C k st (fun kk => setV st.H st.B u kk fun ad vs n => Q .next { st with H := st.H.upd ad (.list (vs.set n w)) }) (fun x => X x st)) (fun x => X x st)) (fun x => X x st)
 | .setkey e k v, st, Q, X => WE C v st (fun w => WE C e st (fun u => WE C k st (fun kk => dictP st.H u fun ad kvs => keyP kk fun ks => st.B ad = Option.none ∧ kvs.length < sizeLine ∧ Q .next { st with H := st.H.upd ad (.dict (dput ks w kvs)) }) (fun x => X x st)) (fun x => X x st)) (fun x => X x st)
 | .setattr e n v, st, Q, X => WE C v st (fun w => WE C e st (fun u => match u with
  | .iref c' ns' ad => st.B ad = Option.none ∧ (match st.H ad with
   | some (.inst c ns vs) => C.has c ns = true ∧ c = c' ∧ ns = ns' ∧ (match setAttrL n w ns vs with
    | some vs' => Q .next { st with H := st.H.upd ad (.inst c ns vs') }
    | Option.none => False)
   | _ => False)
  | _ => False) (fun x => X x st)) (fun x => X x st)
 | .setlast e v, st, Q, X => WE C v st (fun w => WE C e st (fun u => match u with
  | .ref ad => st.B ad = Option.none ∧ (match st.H ad with
   | some (.list vs) => vs ≠ [] ∧ Q .next { st with H := st.H.upd ad (.list (vs.set (vs.length - 1) w)) }
   | _ => False)
  | _ => False) (fun x => X x st)) (fun x => X x st)
 | .ite t a b, st, Q, X => WE C t st (fun u => match truthV st.H u with
  | some true => WB C a st Q X
  | some false => WB C b st Q X
  | Option.none => False) (fun x => X x st)
 | .while t b, st, Q, X => ∃ n, whileN (fun st' K => WE C t st' (fun u => match truthV st'.H u with
   | some r => K r
   | Option.none => False) (fun x => X x st')) (fun st' K => WB C b st' K X) Q n st
 | .for t it b, st, Q, X => WI C it st (fun xs ds => (quietB b = true ∨ ∀ a ∈ ds, st.B a ≠ Option.none) ∧ forL t (fun st' K => WB C b st' K X) Q xs st) (fun x => X x st)
 | .ret e, st, Q, X => WE C e st (fun v => Q (.ret v) st) (fun x => X x st)
 | .retO e, st, Q, X => WE C e st (fun v => match v with
  | .lst vs => ∀ a, freshAt st a → Q (.ret (.ref a)) { st with H := st.H.upd a (.list vs) }
  | _ => False) (fun x => X x st)
 | .raise _ _, _, _, _ => False
 | .rz c m, st, _, X => WE C m st (fun z' => X c st) (fun x => X x st)
 | .tryEx e cl x h, st, Q, X => WE C e st (fun z' => Q .next st) (fun c => subX c cl = true ∧ (match x with
  | Option.none => WB C h st Q (fun z' z' => False)
  | some i => i < st.ρ.length ∧ WB C h { st with ρ := st.ρ.set i (some (.exc c)) } (fun f st' => Q f { st' with ρ := st'.ρ.set i Option.none }) (fun z' z' => False)))
noncomputable def WB (C : Cx) : Bl → St → (Fl → St → Prop) → (String → St → Prop) → Prop
 | .nil, st, Q, _ => Q .next st
 | .cons s b, st, Q, X => WS C s st (fun f st' => match f with
  | .next => WB C b st' Q X
  | f => Q f st') X
end
noncomputable abbrev Tbl := List (String × Fn)
noncomputable abbrev Clss := List (String × Nat × Nat × List (String × Ini))
noncomputable def hasC (cls : Clss) (c : Nat) (ns : List String) : Bool := cls.any fun r => decide (r.2.1 = c) && decide (r.2.2.2.map (·.1) = ns)
noncomputable def runN (tbl : Tbl) (glob : List (String × V)) (cls : Clss) : Nat → RunSem
 | 0 => fun z' z' z' z' z' => False
 | d + 1 => fun f args H Q X => match tbl.lookup f with
  | Option.none => False
  | some fn => args.length = fn.np ∧ fn.np ≤ fn.nv ∧ WB ⟨runN tbl glob cls d, fun x => glob.lookup x, fun x => cls.lookup x, hasC cls⟩ fn.body
    ⟨args.map some ++ List.replicate (fn.nv - fn.np) Option.none, H, H⟩
    (fun fl st => match fl with
     | .ret v => Q v st.H
     | .next => Q .none st.H
     | _ => False) (fun x z' => X x)
noncomputable def cxN (tbl : Tbl) (glob : List (String × V)) (cls : Clss) (d : Nat) : Cx := ⟨runN tbl glob cls d, fun x => glob.lookup x, fun x => cls.lookup x, hasC cls⟩
set_option backward.match.sparseCases false
noncomputable def isFresh : E → Bool
 | .list _ => true
 | .comp _ _ _ => true
 | .compIf _ _ _ _ => true
 | .listOf _ => true
 | .bin _ _ _ => true
 | _ => false
set_option backward.match.sparseCases true
end Mine
end
set_option autoImplicit false
namespace Mine
open PySem
@[local simp] theorem we_0 {C} {u1} {Q} {u3} : WE C (.none) u1 Q u3 = (Q .none) := rfl
@[local simp] theorem we_1 {C} {b} {u1} {Q} {u3} : WE C (.bool b) u1 Q u3 = (Q (.bool b)) := rfl
@[local simp] theorem we_2 {C} {i} {u1} {Q} {u3} : WE C (.int i) u1 Q u3 = (Q (.int i)) := rfl
@[local simp] theorem we_3 {C} {s} {u1} {Q} {u3} : WE C (.str s) u1 Q u3 = (Q (.str s)) := rfl
theorem we_4 {C} {i} {st} {Q} {u3} : WE C (.var i) st Q u3 = ((match st.ρ[i]? with
  | some (some v) => Q v
  | _ => False)) := rfl
@[local simp] theorem we_5 {C} {x} {u1} {Q} {u3} : WE C (.glob x) u1 Q u3 = ((match C.glob x with
  | some v => Q v
  | Option.none => False)) := rfl
@[local simp] theorem we_6 {C} {op} {a} {b} {st} {Q} {X} : WE C (.bin op a b) st Q X = (WE C a st (fun u => WE C b st (fun v => binV st.H op u v Q) X) X) := rfl
@[local simp] theorem we_7 {C} {a} {st} {Q} {X} : WE C (.neg a) st Q X = (WE C a st (fun u => match u with
  | .int i => Q (.int (-i))
  | _ => False) X) := rfl
@[local simp] theorem we_8 {C} {a} {st} {Q} {X} : WE C (.not a) st Q X = (WE C a st (fun u => match truthV st.H u with
  | some b => Q (.bool (!b))
  | Option.none => False) X) := rfl
@[local simp] theorem we_9 {C} {a} {b} {st} {Q} {X} : WE C (.and a b) st Q X = (WE C a st (fun u => match truthV st.H u with
  | some true => WE C b st Q X
  | some false => Q u
  | Option.none => False) X) := rfl
@[local simp] theorem we_10 {C} {a} {b} {st} {Q} {X} : WE C (.or a b) st Q X = (WE C a st (fun u => match truthV st.H u with
  | some true => Q u
  | some false => WE C b st Q X
  | Option.none => False) X) := rfl
@[local simp] theorem we_11 {C} {t} {a} {b} {st} {Q} {X} : WE C (.ite t a b) st Q X = (WE C t st (fun u => match truthV st.H u with
  | some true => WE C a st Q X
  | some false => WE C b st Q X
  | Option.none => False) X) := rfl
@[local simp] theorem we_12 {C} {es} {st} {Q} {X} : WE C (.list es) st Q X = (WEs C es st (fun vs => vs.length ≤ sizeLine ∧ Q (.lst vs)) X) := rfl
@[local simp] theorem we_13 {C} {es} {st} {Q} {X} : WE C (.tup es) st Q X = (WEs C es st (fun vs => vs.length ≤ sizeLine ∧ Q (.tup vs)) X) := rfl
@[local simp] theorem we_14 {C} {a} {c} {st} {Q} {X} : WE C (.cmp a c) st Q X = (WE C a st (fun u => WCh C c st u (fun b => Q (.bool b)) X) X) := rfl
@[local simp] theorem we_15 {C} {a} {i} {st} {Q} {X} : WE C (.sub a i) st Q X = (WE C a st (fun u => WE C i st (fun k => subV st.H u k Q) X) X) := rfl
@[local simp] theorem we_16 {C} {a} {lo} {hi} {st} {Q} {X} : WE C (.slice a lo hi) st Q X = (WE C a st (fun u => WE C lo st (fun l => WE C hi st (fun h => sliceV st.H u l h Q) X) X) X) := rfl
@[local simp] theorem we_17 {C} {f} {args} {st} {Q} {X} : WE C (.call f args) st Q X = (WEs C args st (fun vs => C.call f vs st.H Q X) X) := rfl
@[local simp] theorem we_18 {C} {a} {t} {st} {Q} {X} : WE C (.isinst a t) st Q X = (WE C a st (fun u => match isT st.H t u with
  | some b => Q (.bool b)
  | Option.none => False) X) := rfl
@[local simp] theorem we_19 {C} {a} {st} {Q} {X} : WE C (.len a) st Q X = (WE C a st (fun u => match sizeV st.H u with
  | some n => Q (.int n)
  | Option.none => False) X) := rfl
@[local simp] theorem we_20 {C} {a} {st} {Q} {X} : WE C (.sum a) st Q X = (WE C a st (fun u => sum1 st.H [u] fun n => Q (.int n)) X) := rfl
@[local simp] theorem we_21 {C} {a} {b} {st} {Q} {X} : WE C (.max2 a b) st Q X = (WE C a st (fun u => WE C b st (fun v => int2 [u, v] fun i j => Q (.int (if j > i then j else i))) X) X) := rfl
@[local simp] theorem we_22 {C} {a} {b} {st} {Q} {X} : WE C (.min2 a b) st Q X = (WE C a st (fun u => WE C b st (fun v => int2 [u, v] fun i j => Q (.int (if j < i then j else i))) X) X) := rfl
@[local simp] theorem we_23 {C} {a} {st} {Q} {X} : WE C (.maxl a) st Q X = (WE C a st (fun u => max1 st.H [u] fun n => Q (.int n)) X) := rfl
@[local simp] theorem we_24 {C} {a} {d} {st} {Q} {X} : WE C (.maxd a d) st Q X = (WE C a st (fun u => WE C d st (fun v => maxD st.H u v Q) X) X) := rfl
@[local simp] theorem we_25 {C} {a} {st} {Q} {X} : WE C (.strOf a) st Q X = (WE C a st (fun u => intP u fun i => i.natAbs < 2 ^ 62 ∧ Q (.str (Str.ofString (toString i)))) X) := rfl
@[local simp] theorem we_26 {C} {a} {st} {Q} {X} : WE C (.intOf a) st Q X = (WE C a st (fun u => intOfV u Q) X) := rfl
@[local simp] theorem we_27 {C} {a} {st} {Q} {X} : WE C (.tupOf a) st Q X = (WE C a st (fun u => seqP st.H u fun vs => Q (.tup vs)) X) := rfl
@[local simp] theorem we_28 {C} {it} {st} {Q} {X} : WE C (.listOf it) st Q X = (WI C it st (fun vs z' => vs.length ≤ sizeLine ∧ Q (.lst vs)) X) := rfl
@[local simp] theorem we_29 {C} {s} {a} {st} {Q} {X} : WE C (.join s a) st Q X = (WE C s st (fun u => WE C a st (fun v => match u, (seqL st.H v).bind strsOf with
  | .str s, some ss => lenAll ss + s.length * ss.length ≤ sizeLine ∧ Q (.str (Str.join s ss))
  | _, _ => False) X) X) := rfl
@[local simp] theorem we_30 {C} {d} {k} {v} {st} {Q} {X} : WE C (.get d k v) st Q X = (WE C d st (fun u => dictP st.H u fun z' kvs => WE C k st (fun kk => WE C v st (fun w => keyP kk fun ks => Q ((dlook ks kvs).getD w)) X) X) X) := rfl
@[local simp] theorem we_31 {C} {u1} {Q} {u3} : WE C (.dict0) u1 Q u3 = (Q .dct) := rfl
@[local simp] theorem we_32 {C} {a} {n} {st} {Q} {X} : WE C (.attr a n) st Q X = (WE C a st (fun u => match u with
  | .inst c ns vs => C.has c ns = true ∧ (match attrL n ns vs with
   | some v => Q v
   | Option.none => False)
  | .iref c ns ad => (match st.H ad with
   | some (.inst c' ns' vs) => C.has c ns = true ∧ c' = c ∧ ns' = ns ∧ (match attrL n ns vs with
    | some v => Q v
    | Option.none => False)
   | _ => False)
  | _ => False) X) := rfl
@[local simp] theorem we_33 {C} {c} {args} {st} {Q} {X} : WE C (.new c args) st Q X = ((match C.cls c with
  | some (k, n, fs) => WEs C args st (fun vs => vs.length = n ∧ Q (.inst k (fs.map (·.1)) (fs.map fun f => iniV vs f.2))) X
  | Option.none => False)) := rfl
@[local simp] theorem we_34 {C} {elt} {t} {it} {st} {Q} {X} : WE C (.comp elt t it) st Q X = (WI C it st (fun xs z' => xs.length ≤ sizeLine ∧
   compL (fun x k => match bindT t x st.ρ with
    | some ρ' => WE C elt { st with ρ := ρ' } (fun y => k (some y)) (fun z' => False)
    | Option.none => False) xs (fun ys => Q (.lst ys))) X) := rfl
@[local simp] theorem we_35 {C} {elt} {t} {it} {c} {st} {Q} {X} : WE C (.compIf elt t it c) st Q X = (WI C it st (fun xs z' => xs.length ≤ sizeLine ∧
   compL (fun x k => match bindT t x st.ρ with
    | some ρ' => WE C c { st with ρ := ρ' } (fun u => match truthV st.H u with
     | some true => WE C elt { st with ρ := ρ' } (fun y => k (some y)) (fun z' => False)
     | some false => k Option.none
     | Option.none => False) (fun z' => False)
    | Option.none => False) xs (fun ys => Q (.lst ys))) X) := rfl
@[local simp] theorem we_36 {C} {a} {t} {st} {Q} {X} : WE C (.isexc a t) st Q X = (WE C a st (fun u => match u with
  | .exc c => allX.contains c = true ∧ Q (.bool (subX c t))
  | _ => False) X) := rfl
@[local simp] theorem we_37 {C} {a} {st} {u2} {X} : WE C (.only a) st u2 X = (WE C a st (fun z' => False) X) := rfl
@[local simp] theorem wes_0 {C} {u1} {Q} {u3} : WEs C (.nil) u1 Q u3 = (Q []) := rfl
@[local simp] theorem wes_1 {C} {e} {es} {st} {Q} {X} : WEs C (.cons e es) st Q X = (WE C e st (fun v => WEs C es st (fun vs => Q (v :: vs)) X) X) := rfl
@[local simp] theorem wch_0 {C} {op} {e} {st} {u} {Q} {X} : WCh C (.one op e) st u Q X = (WE C e st (fun v => cmpV st.H op u v Q) X) := rfl
@[local simp] theorem wch_1 {C} {op} {e} {c} {st} {u} {Q} {X} : WCh C (.more op e c) st u Q X = (WE C e st (fun v => cmpV st.H op u v (fun b => if b then WCh C c st v Q X else Q false)) X) := rfl
@[local simp] theorem wi_0 {C} {e} {st} {Q} {X} : WI C (.seq e) st Q X = (WE C e st (fun u => match itemsV st.H u with
  | some vs => Q vs (depsV u)
  | Option.none => False) X) := rfl
@[local simp] theorem wa_0 {C} {e} {st} {Q} {X} : WA C (.pure e) st Q X = (WE C e st (fun v => Q v st.H) X) := rfl
@[local simp] theorem wa_1 {C} {e} {st} {Q} {X} : WA C (.thaw e) st Q X = (WE C e st (fun v => match v with
  | .lst vs => ∀ a, freshAt st a → Q (.ref a) (st.H.upd a (.list vs))
  | _ => False) X) := rfl
@[local simp] theorem wa_2 {C} {as} {st} {Q} {X} : WA C (.list as) st Q X = (WAs C as st (fun vs H' => vs.length ≤ sizeLine ∧ ∀ a, H' a = Option.none → st.B a = Option.none → Q (.ref a) (H'.upd a (.list vs))) X) := rfl
@[local simp] theorem wa_4 {C} {c} {args} {st} {Q} {X} : WA C (.new c args) st Q X = ((match C.cls c with
  | some (k, n, fs) => WEs C args st (fun vs => vs.length = n ∧ ∀ a, freshAt st a → Q (.iref k (fs.map (·.1)) a) (st.H.upd a (.inst k (fs.map (·.1)) (fs.map fun f => iniV vs f.2)))) X
  | Option.none => False)) := rfl
@[local simp] theorem was_0 {C} {st} {Q} {u3} : WAs C (.nil) st Q u3 = (Q [] st.H) := rfl
@[local simp] theorem was_1 {C} {a} {as} {st} {Q} {X} : WAs C (.cons a as) st Q X = (WA C a st (fun v H' => WAs C as { st with H := H' } (fun vs H'' => Q (v :: vs) H'') X) X) := rfl
@[local simp] theorem ws_0 {C} {e} {st} {Q} {X} : WS C (.expr e) st Q X = (WE C e st (fun z' => Q .next st) (fun x => X x st)) := rfl
@[local simp] theorem ws_1 {C} {t} {e} {st} {Q} {X} : WS C (.assign t e) st Q X = (WE C e st (fun v => match bindT t v st.ρ with
  | some ρ' => Q .next { st with ρ := ρ' }
  | Option.none => False) (fun x => X x st)) := rfl
@[local simp] theorem ws_2 {C} {i} {a} {st} {Q} {X} : WS C (.own i a) st Q X = (WA C a st (fun v H' => match putV i v st.ρ with
  | some ρ' => Q .next { st with ρ := ρ', H := H' }
  | Option.none => False) (fun x => X x st)) := rfl
@[local simp] theorem ws_3 {C} {e} {a} {st} {Q} {X} : WS C (.append e a) st Q X = (WE C e st (fun v => match v with
  | .ref ad => (match st.H ad with
   | some (.list _) => WA C a st (fun w H' => match H' ad with
    | some (.list vs) => st.B ad = Option.none ∧ vs.length < sizeLine ∧ Q .next { st with H := H'.upd ad (.list (vs ++ [w])) }
    | _ => False) (fun x => X x st)
   | _ => False)
  | _ => False) (fun x => X x st)) := rfl
@[local simp] theorem ws_4 {C} {t} {e} {st} {Q} {X} : WS C (.pop t e) st Q X = (WE C e st (fun v => match v with
  | .ref ad => (match st.H ad with
   | some (.list vs) => (match vs.getLast? with
    | some w => st.B ad = Option.none ∧ (match bindT t w st.ρ with
     | some ρ' => Q .next { st with ρ := ρ', H := st.H.upd ad (.list vs.dropLast) }
     | Option.none => False)
    | Option.none => False)
   | _ => False)
  | _ => False) (fun x => X x st)) := rfl
@[local simp] theorem ws_5 {C} {e} {k} {v} {st} {Q} {X} : WS C (.setitem e k v) st Q X = (WE C v st (fun w => WE C e st (fun u => WE C k st (fun kk => setV st.H st.B u kk fun ad vs n => Q .next { st with H := st.H.upd ad (.list (vs.set n w)) }) (fun x => X x st)) (fun x => X x st)) (fun x => X x st)) := rfl
@[local simp] theorem ws_6 {C} {e} {k} {v} {st} {Q} {X} : WS C (.setkey e k v) st Q X = (WE C v st (fun w => WE C e st (fun u => WE C k st (fun kk => dictP st.H u fun ad kvs => keyP kk fun ks => st.B ad = Option.none ∧ kvs.length < sizeLine ∧ Q .next { st with H := st.H.upd ad (.dict (dput ks w kvs)) }) (fun x => X x st)) (fun x => X x st)) (fun x => X x st)) := rfl
@[local simp] theorem ws_7 {C} {e} {n} {v} {st} {Q} {X} : WS C (.setattr e n v) st Q X = (WE C v st (fun w => WE C e st (fun u => match u with
  | .iref c' ns' ad => st.B ad = Option.none ∧ (match st.H ad with
   | some (.inst c ns vs) => C.has c ns = true ∧ c = c' ∧ ns = ns' ∧ (match setAttrL n w ns vs with
    | some vs' => Q .next { st with H := st.H.upd ad (.inst c ns vs') }
    | Option.none => False)
   | _ => False)
  | _ => False) (fun x => X x st)) (fun x => X x st)) := rfl
@[local simp] theorem ws_8 {C} {e} {v} {st} {Q} {X} : WS C (.setlast e v) st Q X = (WE C v st (fun w => WE C e st (fun u => match u with
  | .ref ad => st.B ad = Option.none ∧ (match st.H ad with
   | some (.list vs) => vs ≠ [] ∧ Q .next { st with H := st.H.upd ad (.list (vs.set (vs.length - 1) w)) }
   | _ => False)
  | _ => False) (fun x => X x st)) (fun x => X x st)) := rfl
@[local simp] theorem ws_9 {C} {t} {a} {b} {st} {Q} {X} : WS C (.ite t a b) st Q X = (WE C t st (fun u => match truthV st.H u with
  | some true => WB C a st Q X
  | some false => WB C b st Q X
  | Option.none => False) (fun x => X x st)) := rfl
@[local simp] theorem ws_10 {C} {t} {b} {st} {Q} {X} : WS C (.while t b) st Q X = (∃ n, whileN (fun st' K => WE C t st' (fun u => match truthV st'.H u with
   | some r => K r
   | Option.none => False) (fun x => X x st')) (fun st' K => WB C b st' K X) Q n st) := rfl
@[local simp] theorem ws_11 {C} {t} {it} {b} {st} {Q} {X} : WS C (.for t it b) st Q X = (WI C it st (fun xs ds => (quietB b = true ∨ ∀ a ∈ ds, st.B a ≠ Option.none) ∧ forL t (fun st' K => WB C b st' K X) Q xs st) (fun x => X x st)) := rfl
@[local simp] theorem ws_12 {C} {e} {st} {Q} {X} : WS C (.ret e) st Q X = (WE C e st (fun v => Q (.ret v) st) (fun x => X x st)) := rfl
@[local simp] theorem ws_13 {C} {e} {st} {Q} {X} : WS C (.retO e) st Q X = (WE C e st (fun v => match v with
  | .lst vs => ∀ a, freshAt st a → Q (.ret (.ref a)) { st with H := st.H.upd a (.list vs) }
  | _ => False) (fun x => X x st)) := rfl
@[local simp] theorem ws_14 {C} {w0_7} {w0_9} {u1} {u2} {u3} : WS C (.raise w0_7 w0_9) u1 u2 u3 = (False) := rfl
@[local simp] theorem ws_15 {C} {c} {m} {st} {u2} {X} : WS C (.rz c m) st u2 X = (WE C m st (fun z' => X c st) (fun x => X x st)) := rfl
@[local simp] theorem ws_16 {C} {e} {cl} {x} {h} {st} {Q} {X} : WS C (.tryEx e cl x h) st Q X = (WE C e st (fun z' => Q .next st) (fun c => subX c cl = true ∧ (match x with
  | Option.none => WB C h st Q (fun z' z' => False)
  | some i => i < st.ρ.length ∧ WB C h { st with ρ := st.ρ.set i (some (.exc c)) } (fun f st' => Q f { st' with ρ := st'.ρ.set i Option.none }) (fun z' z' => False)))) := rfl
theorem wb_0 {C} {st} {Q} {u3} : WB C (.nil) st Q u3 = (Q .next st) := rfl
theorem wb_1 {C} {s} {b} {st} {Q} {X} : WB C (.cons s b) st Q X = (WS C s st (fun f st' => match f with
  | .next => WB C b st' Q X
  | f => Q f st') X) := rfl
@[local simp] theorem tv_none {H : AH}  : truthV H .none = Option.none := rfl
@[local simp] theorem tv_bool {H : AH} {b : Bool} : truthV H (.bool b) = some b := rfl
@[local simp] theorem tv_int {H : AH} {i : Int} : truthV H (.int i) = Option.none := rfl
@[local simp] theorem tv_str {H : AH} {s : Str} : truthV H (.str s) = Option.none := rfl
@[local simp] theorem tv_tup {H : AH} {vs : List V} : truthV H (.tup vs) = Option.none := rfl
@[local simp] theorem tv_lst {H : AH} {vs : List V} : truthV H (.lst vs) = Option.none := rfl
@[local simp] theorem tv_ref {H : AH} {a : Nat} : truthV H (.ref a) = Option.none := rfl
@[local simp] theorem tv_inst {H : AH} {c : Nat} {ns : List String} {vs : List V} : truthV H (.inst c ns vs) = Option.none := rfl
@[local simp] theorem tv_iref {H : AH} {c : Nat} {ns : List String} {a : Nat} : truthV H (.iref c ns a) = Option.none := rfl
@[local simp] theorem tv_exc {H : AH} {c : String} : truthV H (.exc c) = Option.none := rfl
@[local simp] theorem tv_dct {H : AH}  : truthV H .dct = Option.none := rfl
@[local simp] theorem iv_none {H : AH}  : itemsV H .none = Option.none := rfl
@[local simp] theorem iv_bool {H : AH} {b : Bool} : itemsV H (.bool b) = Option.none := rfl
@[local simp] theorem iv_int {H : AH} {i : Int} : itemsV H (.int i) = Option.none := rfl
@[local simp] theorem iv_str {H : AH} {s : Str} : itemsV H (.str s) = some (signsOf s) := rfl
@[local simp] theorem iv_tup {H : AH} {vs : List V} : itemsV H (.tup vs) = some vs := rfl
@[local simp] theorem iv_lst {H : AH} {vs : List V} : itemsV H (.lst vs) = some vs := rfl
@[local simp] theorem iv_ref {H : AH} {a : Nat} : itemsV H (.ref a) = (match H a with
  | some (.list vs) => some vs
  | _ => Option.none) := rfl
@[local simp] theorem iv_inst {H : AH} {c : Nat} {ns : List String} {vs : List V} : itemsV H (.inst c ns vs) = Option.none := rfl
@[local simp] theorem iv_iref {H : AH} {c : Nat} {ns : List String} {a : Nat} : itemsV H (.iref c ns a) = Option.none := rfl
@[local simp] theorem iv_exc {H : AH} {c : String} : itemsV H (.exc c) = Option.none := rfl
@[local simp] theorem iv_dct {H : AH}  : itemsV H .dct = Option.none := rfl
@[local simp] theorem sq_none {H : AH}  : seqL H .none = Option.none := rfl
@[local simp] theorem sq_bool {H : AH} {b : Bool} : seqL H (.bool b) = Option.none := rfl
@[local simp] theorem sq_int {H : AH} {i : Int} : seqL H (.int i) = Option.none := rfl
@[local simp] theorem sq_str {H : AH} {s : Str} : seqL H (.str s) = Option.none := rfl
@[local simp] theorem sq_tup {H : AH} {vs : List V} : seqL H (.tup vs) = Option.none := rfl
@[local simp] theorem sq_lst {H : AH} {vs : List V} : seqL H (.lst vs) = some vs := rfl
@[local simp] theorem sq_ref {H : AH} {a : Nat} : seqL H (.ref a) = (match H a with
  | some (.list vs) => some vs
  | _ => Option.none) := rfl
@[local simp] theorem sq_inst {H : AH} {c : Nat} {ns : List String} {vs : List V} : seqL H (.inst c ns vs) = Option.none := rfl
@[local simp] theorem sq_iref {H : AH} {c : Nat} {ns : List String} {a : Nat} : seqL H (.iref c ns a) = Option.none := rfl
@[local simp] theorem sq_exc {H : AH} {c : String} : seqL H (.exc c) = Option.none := rfl
@[local simp] theorem sq_dct {H : AH}  : seqL H .dct = Option.none := rfl
@[local simp] theorem dv_none   : depsV .none = [] := rfl
@[local simp] theorem dv_bool  {b : Bool} : depsV (.bool b) = [] := rfl
@[local simp] theorem dv_int  {i : Int} : depsV (.int i) = [] := rfl
@[local simp] theorem dv_str  {s : Str} : depsV (.str s) = [] := rfl
@[local simp] theorem dv_tup  {vs : List V} : depsV (.tup vs) = [] := rfl
@[local simp] theorem dv_lst  {vs : List V} : depsV (.lst vs) = [] := rfl
@[local simp] theorem dv_ref  {a : Nat} : depsV (.ref a) = [a] := rfl
@[local simp] theorem dv_inst  {c : Nat} {ns : List String} {vs : List V} : depsV (.inst c ns vs) = [] := rfl
@[local simp] theorem dv_iref  {c : Nat} {ns : List String} {a : Nat} : depsV (.iref c ns a) = [] := rfl
@[local simp] theorem dv_exc  {c : String} : depsV (.exc c) = [] := rfl
@[local simp] theorem dv_dct   : depsV .dct = [] := rfl
theorem rv_none {H : AH}  : resV H .none = .none := rfl
theorem rv_bool {H : AH} {b : Bool} : resV H (.bool b) = (.bool b) := rfl
theorem rv_int {H : AH} {i : Int} : resV H (.int i) = (.int i) := rfl
theorem rv_str {H : AH} {s : Str} : resV H (.str s) = (.str s) := rfl
theorem rv_tup {H : AH} {vs : List V} : resV H (.tup vs) = (.tup vs) := rfl
theorem rv_lst {H : AH} {vs : List V} : resV H (.lst vs) = (.lst vs) := rfl
theorem rv_ref {H : AH} {a : Nat} : resV H (.ref a) = (match H a with
  | some (.list vs) => .lst vs
  | _ => .ref a) := rfl
theorem rv_inst {H : AH} {c : Nat} {ns : List String} {vs : List V} : resV H (.inst c ns vs) = (.inst c ns vs) := rfl
theorem rv_iref {H : AH} {c : Nat} {ns : List String} {a : Nat} : resV H (.iref c ns a) = (.iref c ns a) := rfl
theorem rv_exc {H : AH} {c : String} : resV H (.exc c) = (.exc c) := rfl
theorem rv_dct {H : AH}  : resV H .dct = .dct := rfl
theorem td_none   : toD .none = some .none := rfl
theorem td_bool  {b : Bool} : toD (.bool b) = some (.bool b) := rfl
theorem td_int  {i : Int} : toD (.int i) = some (.int i) := rfl
theorem td_str  {s : Str} : toD (.str s) = some (.str s) := rfl
theorem td_tup  {vs : List V} : toD (.tup vs) = (toDs vs).map .tuple := rfl
theorem td_lst  {vs : List V} : toD (.lst vs) = (toDs vs).map .list := rfl
theorem td_ref  {a : Nat} : toD (.ref a) = Option.none := rfl
theorem td_inst  {c : Nat} {ns : List String} {vs : List V} : toD (.inst c ns vs) = Option.none := rfl
theorem td_iref  {c : Nat} {ns : List String} {a : Nat} : toD (.iref c ns a) = Option.none := rfl
theorem td_exc  {c : String} : toD (.exc c) = Option.none := rfl
theorem td_dct   : toD .dct = Option.none := rfl
theorem tds_nil  : toDs [] = some [] := rfl
theorem tds_cons {v : V} {vs : List V} : toDs (v :: vs) = (match toD v, toDs vs with
  | some d, some ds => some (d :: ds)
  | _, _ => Option.none) := rfl
@[local simp] theorem fz_zero {H B : AH} {v : V} : frz H B 0 v = Option.none := rfl
@[local simp] theorem fz_none {H B : AH} {n : Nat}  : frz H B (n + 1) .none = some .none := rfl
@[local simp] theorem fz_bool {H B : AH} {n : Nat} {b : Bool} : frz H B (n + 1) (.bool b) = some (.bool b) := rfl
@[local simp] theorem fz_int {H B : AH} {n : Nat} {i : Int} : frz H B (n + 1) (.int i) = some (.int i) := rfl
@[local simp] theorem fz_str {H B : AH} {n : Nat} {s : Str} : frz H B (n + 1) (.str s) = some (.str s) := rfl
@[local simp] theorem fz_tup {H B : AH} {n : Nat} {vs : List V} : frz H B (n + 1) (.tup vs) = (frzs H B n vs).map .tup := rfl
@[local simp] theorem fz_lst {H B : AH} {n : Nat} {vs : List V} : frz H B (n + 1) (.lst vs) = (frzs H B n vs).map .lst := rfl
@[local simp] theorem fz_inst {H B : AH} {n : Nat} {c : Nat} {ns : List String} {vs : List V} : frz H B (n + 1) (.inst c ns vs) = (frzs H B n vs).map (.inst c ns) := rfl
@[local simp] theorem fz_ref {H B : AH} {n : Nat} {a : Nat} : frz H B (n + 1) (.ref a) = (match B a with
   | some _ => some (.ref a)
   | Option.none => (match H a with
    | some (.list vs) => (frzs H B n vs).map .lst
    | _ => Option.none)) := rfl
@[local simp] theorem fz_iref {H B : AH} {n : Nat} {c : Nat} {ns : List String} {a : Nat} : frz H B (n + 1) (.iref c ns a) = (match B a with
   | some _ => some (.iref c ns a)
   | Option.none => (match H a with
    | some (.inst _ ns' vs) => if ns' = ns then (frzs H B n vs).map (.inst c ns) else Option.none
    | _ => Option.none)) := rfl
@[local simp] theorem fzs_nil {H B : AH} {n : Nat} : frzs H B n [] = some [] := rfl
@[local simp] theorem fzs_cons {H B : AH} {n : Nat} {v : V} {vs : List V} : frzs H B n (v :: vs) = (match frz H B n v, frzs H B n vs with
  | some x, some xs => some (x :: xs)
  | _, _ => Option.none) := rfl
theorem putV_inv {i : Nat} {v : V} {ρ : List (Option V)} {P : List (Option V) → Prop} (h : match putV i v ρ with
  | some ρ' => P ρ'
  | Option.none => False) : i < ρ.length ∧ P (ρ.set i (some v)) := by
 unfold putV at h
 by_cases hi : i < ρ.length
 ·rw [if_pos hi] at h; exact ⟨hi, h⟩
 ·rw [if_neg hi] at h; exact False.elim h
noncomputable def PK (H : AH) (Q : V → Prop) (fl : Fl) (st : St) : Prop := match fl with
 | .ret v => (match frz st.H H 8 v with
  | some v' => Q v'
  | Option.none => False)
 | .next => Q .none
 | _ => False
@[local simp] theorem pk_ret {H : AH} {Q : V → Prop} {v : V} {st : St} : PK H Q (.ret v) st = (match frz st.H H 8 v with
  | some v' => Q v'
  | Option.none => False) := rfl
@[local simp] theorem pk_next {H : AH} {Q : V → Prop} {st : St} : PK H Q .next st = Q .none := rfl
@[local simp] theorem lv_0 {C : Cx} {H B : AH} {Q : V → Prop} {X : String → Prop} {v : V} {ρ : List (Option V)} : WE C (.var 0) ⟨some v :: ρ, H, B⟩ Q X = Q v := rfl
@[local simp] theorem lv_1 {C : Cx} {H B : AH} {Q : V → Prop} {X : String → Prop} {x0 : Option V} {v : V} {ρ : List (Option V)} : WE C (.var 1) ⟨x0 :: some v :: ρ, H, B⟩ Q X = Q v := rfl
theorem bd_var {i : Nat} {v : V} {ρ : List (Option V)} : bindT (.var i) v ρ = (if i < ρ.length then some (ρ.set i (some v)) else Option.none) := rfl
@[local simp] theorem bd_tup {is : List Nat} {vs : List V} {ρ : List (Option V)} : bindT (.tup is) (.tup vs) ρ = setAll is vs ρ := rfl
@[local simp] theorem bd_none {is : List Nat}  {ρ : List (Option V)} : bindT (.tup is) .none ρ = Option.none := rfl
@[local simp] theorem bd_bool {is : List Nat} {b : Bool} {ρ : List (Option V)} : bindT (.tup is) (.bool b) ρ = Option.none := rfl
@[local simp] theorem bd_int {is : List Nat} {i : Int} {ρ : List (Option V)} : bindT (.tup is) (.int i) ρ = Option.none := rfl
@[local simp] theorem bd_str {is : List Nat} {s : Str} {ρ : List (Option V)} : bindT (.tup is) (.str s) ρ = Option.none := rfl
@[local simp] theorem bd_lst {is : List Nat} {vs : List V} {ρ : List (Option V)} : bindT (.tup is) (.lst vs) ρ = Option.none := rfl
@[local simp] theorem bd_ref {is : List Nat} {a : Nat} {ρ : List (Option V)} : bindT (.tup is) (.ref a) ρ = Option.none := rfl
@[local simp] theorem bd_inst {is : List Nat} {c : Nat} {ns : List String} {vs : List V} {ρ : List (Option V)} : bindT (.tup is) (.inst c ns vs) ρ = Option.none := rfl
@[local simp] theorem bd_iref {is : List Nat} {c : Nat} {ns : List String} {a : Nat} {ρ : List (Option V)} : bindT (.tup is) (.iref c ns a) ρ = Option.none := rfl
@[local simp] theorem bd_exc {is : List Nat} {c : String} {ρ : List (Option V)} : bindT (.tup is) (.exc c) ρ = Option.none := rfl
@[local simp] theorem bd_dct {is : List Nat}  {ρ : List (Option V)} : bindT (.tup is) .dct ρ = Option.none := rfl
@[local simp] theorem bn_none {n d : Nat} : bnd n d .none = some d := rfl
@[local simp] theorem bn_int {n d : Nat} {i : Int} : bnd n d (.int i) = some (clip n i) := rfl
@[local simp] theorem bn_bool {n d : Nat} {b : Bool} : bnd n d (.bool b) = Option.none := rfl
@[local simp] theorem bn_str {n d : Nat} {s : Str} : bnd n d (.str s) = Option.none := rfl
@[local simp] theorem bn_tup {n d : Nat} {vs : List V} : bnd n d (.tup vs) = Option.none := rfl
@[local simp] theorem bn_lst {n d : Nat} {vs : List V} : bnd n d (.lst vs) = Option.none := rfl
@[local simp] theorem bn_ref {n d : Nat} {a : Nat} : bnd n d (.ref a) = Option.none := rfl
@[local simp] theorem bn_inst {n d : Nat} {c : Nat} {ns : List String} {vs : List V} : bnd n d (.inst c ns vs) = Option.none := rfl
@[local simp] theorem bn_iref {n d : Nat} {c : Nat} {ns : List String} {a : Nat} : bnd n d (.iref c ns a) = Option.none := rfl
@[local simp] theorem bn_exc {n d : Nat} {c : String} : bnd n d (.exc c) = Option.none := rfl
@[local simp] theorem bn_dct {n d : Nat}  : bnd n d .dct = Option.none := rfl
theorem io_nil  : intsOf [] = some [] := rfl
theorem so_nil  : strsOf [] = some [] := rfl
theorem io_none  {r : List V} : intsOf (.none :: r) = Option.none := rfl
theorem so_none  {r : List V} : strsOf (.none :: r) = Option.none := rfl
theorem io_bool {b : Bool} {r : List V} : intsOf ((.bool b) :: r) = Option.none := rfl
theorem so_bool {b : Bool} {r : List V} : strsOf ((.bool b) :: r) = Option.none := rfl
theorem io_int {i : Int} {r : List V} : intsOf ((.int i) :: r) = (intsOf r).map (i :: ·) := rfl
theorem so_int {i : Int} {r : List V} : strsOf ((.int i) :: r) = Option.none := rfl
theorem io_str {s : Str} {r : List V} : intsOf ((.str s) :: r) = Option.none := rfl
theorem so_str {s : Str} {r : List V} : strsOf ((.str s) :: r) = (strsOf r).map (s :: ·) := rfl
theorem io_tup {ws : List V} {r : List V} : intsOf ((.tup ws) :: r) = Option.none := rfl
theorem so_tup {ws : List V} {r : List V} : strsOf ((.tup ws) :: r) = Option.none := rfl
theorem io_lst {ws : List V} {r : List V} : intsOf ((.lst ws) :: r) = Option.none := rfl
theorem so_lst {ws : List V} {r : List V} : strsOf ((.lst ws) :: r) = Option.none := rfl
theorem io_ref {a : Nat} {r : List V} : intsOf ((.ref a) :: r) = Option.none := rfl
theorem so_ref {a : Nat} {r : List V} : strsOf ((.ref a) :: r) = Option.none := rfl
theorem io_inst {c : Nat} {ns : List String} {ws : List V} {r : List V} : intsOf ((.inst c ns ws) :: r) = Option.none := rfl
theorem so_inst {c : Nat} {ns : List String} {ws : List V} {r : List V} : strsOf ((.inst c ns ws) :: r) = Option.none := rfl
theorem io_iref {c : Nat} {ns : List String} {a : Nat} {r : List V} : intsOf ((.iref c ns a) :: r) = Option.none := rfl
theorem so_iref {c : Nat} {ns : List String} {a : Nat} {r : List V} : strsOf ((.iref c ns a) :: r) = Option.none := rfl
theorem io_exc {c : String} {r : List V} : intsOf ((.exc c) :: r) = Option.none := rfl
theorem so_exc {c : String} {r : List V} : strsOf ((.exc c) :: r) = Option.none := rfl
theorem io_dct  {r : List V} : intsOf (.dct :: r) = Option.none := rfl
theorem so_dct  {r : List V} : strsOf (.dct :: r) = Option.none := rfl
theorem la_nil  : lenAll [] = 0 := rfl
theorem la_cons {s : Str} {r : List Str} : lenAll (s :: r) = s.length + lenAll r := rfl
theorem cl_nil {f : V → (Option V → Prop) → Prop} {Q : List V → Prop} : compL f [] Q = Q [] := rfl
theorem cl_cons {f : V → (Option V → Prop) → Prop} {Q : List V → Prop} {x : V} {xs : List V} : compL f (x :: xs) Q = f x fun r => compL f xs fun ys => Q (match r with
  | some y => y :: ys
  | Option.none => ys) := rfl
@[local simp] theorem bv_add {H : AH} {Q : V → Prop} {i j : Int} : binV H .add (.int i) (.int j) Q = Q (.int (i + j)) := rfl
@[local simp] theorem bv_adds {H : AH} {Q : V → Prop} {s t : Str} : binV H .add (.str s) (.str t) Q = (s.length + t.length ≤ sizeLine ∧ Q (.str (s ++ t))) := rfl
@[local simp] theorem bv_addl {H : AH} {Q : V → Prop} {x y : List V} : binV H .add (.lst x) (.lst y) Q = (x.length + y.length ≤ sizeLine ∧ Q (.lst (x ++ y))) := rfl
@[local simp] theorem bv_sub {H : AH} {Q : V → Prop} {i j : Int} : binV H .sub (.int i) (.int j) Q = Q (.int (i - j)) := rfl
@[local simp] theorem bv_mul {H : AH} {Q : V → Prop} {i j : Int} : binV H .mul (.int i) (.int j) Q = ((i.natAbs < 2 ^ 62 ∨ j.natAbs < 2 ^ 62) ∧ Q (.int (i * j))) := rfl
@[local simp] theorem bv_fdiv {H : AH} {Q : V → Prop} {i j : Int} : binV H .fdiv (.int i) (.int j) Q = (j ≠ 0 ∧ Q (.int (i.fdiv j))) := rfl
@[local simp] theorem bv_mod {H : AH} {Q : V → Prop} {i j : Int} : binV H .mod (.int i) (.int j) Q = (j ≠ 0 ∧ Q (.int (i.fmod j))) := rfl
@[local simp] theorem bv_mull {H : AH} {Q : V → Prop} {vs : List V} {n : Int} : binV H .mul (.lst vs) (.int n) Q = (-(2 ^ 62) ≤ n ∧ n < 2 ^ 62 ∧ vs.length * n.toNat ≤ sizeLine ∧ Q (.lst (repL n.toNat vs))) := rfl
@[local simp] theorem bv_muls {H : AH} {Q : V → Prop} {s : Str} {n : Int} : binV H .mul (.str s) (.int n) Q = (0 ≤ n ∧ n < 2 ^ 30 ∧ s.length * n.toNat ≤ sizeLine ∧ Q (.str ⟨(repL n.toNat s.cps.toList).toArray⟩)) := rfl
theorem in_str {H : AH} {Q : Bool → Prop} {s t : Str} : inV H (.str t) (.str s) Q = Q (hasSub s t) := rfl
@[local simp] theorem sb_tup {H : AH} {Q : V → Prop} {vs : List V} {i : Int} : subV H (.tup vs) (.int i) Q = (match idx vs.length i with
  | some n => (match vs[n]? with
   | some v => Q v
   | Option.none => False)
  | Option.none => False) := rfl
@[local simp] theorem sb_lst {H : AH} {Q : V → Prop} {vs : List V} {i : Int} : subV H (.lst vs) (.int i) Q = (match idx vs.length i with
  | some n => (match vs[n]? with
   | some v => Q v
   | Option.none => False)
  | Option.none => False) := rfl
@[local simp] theorem sb_str {H : AH} {Q : V → Prop} {s : Str} {i : Int} : subV H (.str s) (.int i) Q = (match idx s.length i with
  | some n => (match s.cps.toList[n]? with
   | some v => Q (.str ⟨#[v]⟩)
   | Option.none => False)
  | Option.none => False) := rfl
@[local simp] theorem sb_ref {H : AH} {Q : V → Prop} {a : Nat} {k : V} : subV H (.ref a) k Q = (match H a with
  | some (.dict kvs) => keyP k fun ks => (match dlook ks kvs with
   | some v => Q v
   | Option.none => False)
  | some (.list vs) => (match k with
   | .int i => (match idx vs.length i with
    | some n => (match vs[n]? with
     | some v => Q v
     | Option.none => False)
    | Option.none => False)
   | _ => False)
  | _ => False) := rfl
@[local simp] theorem sl_str {H : AH} {Q : V → Prop} {s : Str} {lo hi : V} : sliceV H (.str s) lo hi Q = (match bnd s.length 0 lo, bnd s.length s.length hi with
  | some l, some h => Q (.str ⟨(cutL s.cps.toList l h).toArray⟩)
  | _, _ => False) := rfl
@[local simp] theorem sl_lst {H : AH} {Q : V → Prop} {vs : List V} {lo hi : V} : sliceV H (.lst vs) lo hi Q = (match bnd vs.length 0 lo, bnd vs.length vs.length hi with
  | some l, some h => Q (.lst (cutL vs l h))
  | _, _ => False) := rfl
theorem fl_nil {t : Tg} {W : St → (Fl → St → Prop) → Prop} {Q : Fl → St → Prop} {st : St} : forL t W Q [] st = Q .next st := rfl
theorem fl_cons {t : Tg} {W : St → (Fl → St → Prop) → Prop} {Q : Fl → St → Prop} {st : St} {x : V} {xs : List V} : forL t W Q (x :: xs) st = (match bindT t x st.ρ with
  | some ρ' => W { st with ρ := ρ' } (fun f st' => match f with
   | .next | .cont => forL t W Q xs st'
   | .brk => Q .next st'
   | .ret v => Q (.ret v) st')
  | Option.none => False) := rfl
theorem wn_zero {T : St → (Bool → Prop) → Prop} {W : St → (Fl → St → Prop) → Prop} {Q : Fl → St → Prop} {st : St} : whileN T W Q 0 st = False := rfl
theorem wn_succ {T : St → (Bool → Prop) → Prop} {W : St → (Fl → St → Prop) → Prop} {Q : Fl → St → Prop} {st : St} {n : Nat} : whileN T W Q (n + 1) st = (T st fun b => if b then W st (fun f st' => match f with
   | .next | .cont => whileN T W Q n st'
   | .brk => Q .next st'
   | .ret v => Q (.ret v) st') else Q .next st) := rfl
@[local simp] theorem rg1 {i : Int} {P : Int → Prop} : rng1 [.int i] P = (smallI i ∧ P i) := rfl
@[local simp] theorem rg2 {i j : Int} {P : Int → Int → Prop} : rng2 [.int i, .int j] P = (smallI i ∧ smallI j ∧ P i j) := rfl
@[local simp] theorem rg3 {i j k : Int} {P : Int → Int → Int → Prop} : rng3 [.int i, .int j, .int k] P = (smallI i ∧ smallI j ∧ P i j k) := rfl
theorem dp_none  : PyData.depth .none = 0 := rfl
theorem dp_int {i : Int} : PyData.depth (.int i) = 0 := rfl
theorem dp_bool {b : Bool} : PyData.depth (.bool b) = 0 := rfl
theorem dp_str {s : Str} : PyData.depth (.str s) = 0 := rfl
theorem dp_list {xs : List PyData} : PyData.depth (.list xs) = PyData.depthAll xs + 1 := rfl
theorem dp_tup {xs : List PyData} : PyData.depth (.tuple xs) = PyData.depthAll xs + 1 := rfl
theorem da_nil  : PyData.depthAll [] = 0 := rfl
theorem da_cons {x : PyData} {xs : List PyData} : PyData.depthAll (x :: xs) = max (PyData.depth x) (PyData.depthAll xs) := rfl
theorem ev_int {i j : Int} : PyData.eqv (.int i) (.int j) = (i == j) := rfl
theorem ev_str {s t : Str} : PyData.eqv (.str s) (.str t) = (s == t) := rfl
theorem ev_bool {b c : Bool} : PyData.eqv (.bool b) (.bool c) = (b == c) := rfl
theorem ev_none  : PyData.eqv .none .none = true := rfl
theorem ev_list {x y : List PyData} : PyData.eqv (.list x) (.list y) = PyData.eqvAll x y := rfl
theorem ev_tup {x y : List PyData} : PyData.eqv (.tuple x) (.tuple y) = PyData.eqvAll x y := rfl
theorem ea_nil  : PyData.eqvAll [] [] = true := rfl
theorem ea_cons {a b : PyData} {x y : List PyData} : PyData.eqvAll (a :: x) (b :: y) = (PyData.eqv a b && PyData.eqvAll x y) := rfl
section
set_option linter.unusedSimpArgs false
set_option autoImplicit false
namespace Lib
open PySem Mine
noncomputable def SIGNS : Str := Str.ofString " !\"#$&'()*+,-./0123456789:;<=>?@ABCDEFGHIJKLMNOPQRSTUVWXYZ[\\]^_`abcdefghijklmnopqrstuvwxyz{|}~\n"
noncomputable def SG : List Nat := SIGNS.cps.toList
theorem call_of {tbl : Tbl} {gl : List (String × V)} {cls : Clss} {d : Nat} {f : String} {fn : Fn} {args : List V} {H : AH} {Q : V → Prop} {X : String → Prop} (h : tbl.lookup f = some fn) (h1 : args.length = fn.np) (h2 : fn.np ≤ fn.nv)
  (h3 : WB (cxN tbl gl cls d) fn.body ⟨args.map some ++ List.replicate (fn.nv - fn.np) none, H, H⟩ (PK H Q) (fun x z' => X x)) : (cxN tbl gl cls (d + 1)).call f args H Q X := by
 show runN tbl gl cls (d + 1) f args H (fun v H' => match frz H' H 8 v with
  | some v' => Q v'
  | none => False) X
 unfold runN
 rw [h]
 refine ⟨h1, h2, ?_⟩
 have e : (fun (fl : Fl) (st : St) => (match fl with
   | .ret v => (match frz st.H H 8 v with
    | some v' => Q v'
    | none => False)
   | .next => (match frz st.H H 8 .none with
    | some v' => Q v'
    | none => False)
   | _ => False)) = PK H Q := by
  funext fl st
  cases fl <;> rfl
 exact e ▸ h3
inductive Sy where
 | ch (c : Nat)
 | ru (k : Nat)
noncomputable def Sy.v : Sy → V
 | .ch c => .str ⟨#[c]⟩
 | .ru k => .int k
noncomputable def Sy.ok (n : Nat) : Sy → Prop
 | .ch c => c ∈ SG
 | .ru k => k < n
theorem Sy.ok.mono {n m : Nat} {s : Sy} (h : s.ok n) (hm : n ≤ m) : s.ok m := by
 cases s with
 | ch c => exact h
 | ru k => exact Nat.lt_of_lt_of_le h hm
theorem has_sign : ∀ c ∈ SG, hasSub SIGNS ⟨#[c]⟩ = true := by decide +kernel
theorem idx_nat {n k : Nat} (h : k < n) : idx n (k : Int) = some k := by
 unfold idx
 rw [if_pos (by omega), if_pos (by omega)]
 simp
theorem eqV_int {H : AH} {a b : Int} {Q : Bool → Prop} : eqV H (.int a) (.int b) Q = Q (decide (a = b)) := by
 have e : (a == b) = decide (a = b) := by rw [Bool.eq_iff_iff]; simp
 simp [eqV, rv_none, rv_bool, rv_int, rv_str, rv_tup, rv_lst, rv_ref, rv_inst, rv_iref, rv_exc, rv_dct, td_none, td_bool, td_int, td_str, td_tup, td_lst, td_ref, td_inst, td_iref, td_exc, td_dct, dp_none, dp_int, dp_bool, dp_str, dp_list, dp_tup, ev_int, ev_str, ev_bool, ev_none, ev_list, ev_tup, e]
section
variable {tbl : Tbl} {gl : List (String × V)} {cls : Clss} {d : Nat} {H : AH} {Q : V → Prop} {X : String → Prop}
noncomputable abbrev Rl := Sy × Sy
noncomputable def pv (p : Rl) : V := .tup [p.1.v, p.2.v]
noncomputable def RulesOk (rs : List Rl) : Prop := ∀ (i : Nat) (p : Rl), rs[i]? = some p → p.1.ok i ∧ p.2.ok i
noncomputable def RowOk (n : Nat) (row : List Sy) : Prop := ∀ s ∈ row, s.ok n
noncomputable def bookV (rs : List Rl) (row : List Sy) : V := .tup [.lst (rs.map pv), .lst (row.map Sy.v)]
theorem upL_nil {a b : Int} (h : b ≤ a) : upL a b = [] := by
 unfold upL
 have : (b - a).toNat = 0 := by omega
 simp [this]
theorem upL_cons {a b : Int} (h : a < b) : upL a b = .int a :: upL (a + 1) b := by
 unfold upL
 have : (b - a).toNat = (b - (a + 1)).toNat + 1 := by omega
 rw [this, List.range_succ_eq_map]
 simp only [List.map_cons, List.map_map, List.cons.injEq]
 refine ⟨by simp, List.map_congr_left fun k z' => ?_⟩
 simp only [Function.comp]
 congr 1
 omega
end
end Lib
end
section
set_option autoImplicit false
set_option linter.unusedSimpArgs false
set_option linter.unusedVariables false
namespace Lib
open PySem Mine
noncomputable def tx (ts : List (List Nat)) : Sy → List Nat
 | .ch c => [c]
 | .ru k => ts.getD k []
noncomputable def Tx (rs : List Rl) : List (List Nat) := rs.foldl (fun ts p => ts ++ [tx ts p.1 ++ tx ts p.2]) []
theorem Tx_snoc (rs : List Rl) (p : Rl) : Tx (rs ++ [p]) = Tx rs ++ [tx (Tx rs) p.1 ++ tx (Tx rs) p.2] := by simp [Tx]
theorem fold_more : ∀ (rs : List Rl) (ts : List (List Nat)), ∃ us, rs.foldl (fun ts p => ts ++ [tx ts p.1 ++ tx ts p.2]) ts = ts ++ us ∧ us.length = rs.length
 | [], ts => ⟨[], by simp⟩
 | p :: rs, ts => by
  obtain ⟨us, h1, h2⟩ := fold_more rs (ts ++ [tx ts p.1 ++ tx ts p.2])
  exact ⟨(tx ts p.1 ++ tx ts p.2) :: us, by simp [h1], by simp [h2]⟩
theorem Tx_length (rs : List Rl) : (Tx rs).length = rs.length := by
 obtain ⟨us, h1, h2⟩ := fold_more rs []
 simp [Tx, h1, h2]
theorem Tx_append (a b : List Rl) : ∃ us, Tx (a ++ b) = Tx a ++ us ∧ us.length = b.length := by
 unfold Tx
 rw [List.foldl_append]
 exact fold_more b _
theorem tx_more {ts us : List (List Nat)} {s : Sy} (h : s.ok ts.length) : tx (ts ++ us) s = tx ts s := by
 cases s with
 | ch c => rfl
 | ru k =>
  have h : k < ts.length := h
  simp [tx, List.getD, List.getElem?_append_left h]
theorem Tx_get {rs : List Rl} (hr : RulesOk rs) {i : Nat} {p : Rl} (hp : rs[i]? = some p) : (Tx rs)[i]? = some (tx (Tx rs) p.1 ++ tx (Tx rs) p.2) := by
 obtain ⟨hlt, e⟩ := List.getElem?_eq_some_iff.mp hp
 obtain ⟨o1, o2⟩ := hr i p hp
 have hsplit : rs = (rs.take i ++ [p]) ++ rs.drop (i + 1) := by
  rw [List.append_assoc, List.singleton_append, ← e, List.getElem_cons_drop, List.take_append_drop]
 have htl : (Tx (rs.take i)).length = i := by rw [Tx_length, List.length_take]; omega
 obtain ⟨us, h1, _⟩ := Tx_append (rs.take i ++ [p]) (rs.drop (i + 1))
 rw [Tx_snoc] at h1
 have hT : Tx rs = Tx (rs.take i) ++ ([tx (Tx (rs.take i)) p.1 ++ tx (Tx (rs.take i)) p.2] ++ us) := by
  rw [← List.append_assoc, ← h1, ← hsplit]
 have m1 : tx (Tx rs) p.1 = tx (Tx (rs.take i)) p.1 := by rw [hT]; exact tx_more (by rw [htl]; exact o1)
 have m2 : tx (Tx rs) p.2 = tx (Tx (rs.take i)) p.2 := by rw [hT]; exact tx_more (by rw [htl]; exact o2)
 rw [m1, m2, hT, List.getElem?_append_right (by omega), htl]
 simp
theorem tx_pos {rs : List Rl} (hr : RulesOk rs) : ∀ {s : Sy}, s.ok rs.length → 1 ≤ (tx (Tx rs) s).length := by
 have key : ∀ n k, k ≤ n → k < rs.length → 1 ≤ ((Tx rs).getD k []).length := by
  intro n
  induction n with
  | zero =>
   intro k hk hlt
   have hp := List.getElem?_eq_getElem hlt
   obtain ⟨o1, o2⟩ := hr k _ hp
   have hg := Tx_get hr hp
   simp only [List.getD, hg, Option.getD_some, List.length_append]
   cases h1 : rs[k].1 with
   | ch c => simp [tx]
   | ru j => rw [h1] at o1; have : j < k := o1; omega
  | succ n ih =>
   intro k hk hlt
   have hp := List.getElem?_eq_getElem hlt
   obtain ⟨o1, o2⟩ := hr k _ hp
   have hg := Tx_get hr hp
   simp only [List.getD, hg, Option.getD_some, List.length_append]
   cases h1 : rs[k].1 with
   | ch c => simp [tx]
   | ru j =>
    rw [h1] at o1
    have hj : j < k := o1
    have := ih j (by omega) (by omega)
    simp only [tx]; omega
 intro s hs
 cases s with
 | ch c => simp [tx]
 | ru k => exact key k k (Nat.le_refl _) hs
noncomputable def bt (rs : List Rl) (row : List Sy) : List Nat := (row.map (tx (Tx rs))).flatten
noncomputable def lst (l : List Nat) : V := .str ⟨l.toArray⟩
end Lib
end
section
set_option autoImplicit false
set_option linter.unusedSimpArgs false
set_option linter.unusedVariables false
namespace Lib
open PySem Mine
section
variable {tbl : Tbl} {gl : List (String × V)} {cls : Clss} {d : Nat} {H : AH} {Q : V → Prop} {X : String → Prop}
theorem fm (a : Int) {b : Int} (h : 0 < b) : 0 ≤ a.fmod b ∧ a.fmod b < b := ⟨Int.fmod_nonneg_of_pos a h, Int.fmod_lt_of_pos a h⟩
end
end Lib
end
section
set_option autoImplicit false
set_option linter.unusedSimpArgs false
set_option linter.unusedVariables false
namespace Lib
open PySem Mine
section
variable {tbl : Tbl} {gl : List (String × V)} {cls : Clss} {d : Nat} {H : AH} {Q : V → Prop} {X : String → Prop}
noncomputable def szv (ts : List (List Nat)) : List V := ts.map fun l => V.int (l.length : Int)
theorem seq_ref {a : Nat} {vs : List V} (h : H a = some (.list vs)) : seqL H (.ref a) = some vs := by simp [h]
set_option tactic.hygienic true in
theorem sub_seq {u : V} {vs : List V} {k : Nat} {w : V} (hu : seqL H u = some vs) (hk : vs[k]? = some w) (hq : Q w) : subV H u (.int k) Q := by
 have hlt : k < vs.length := (List.getElem?_eq_some_iff.mp hk).1
 cases u <;> simp at hu
 ·subst hu; simp [idx_nat hlt, hk, hq]
 ·rename_i a
  cases ho : H a with
  | none => simp [ho] at hu
  | some o =>
   cases o <;> simp [ho] at hu
   subst hu; simp [ho, idx_nat hlt, hk, hq]
end
end Lib
end
section
set_option autoImplicit false
set_option linter.unusedSimpArgs false
set_option linter.unusedVariables false
namespace Lib
open PySem Mine
noncomputable def S1 (l : List Nat) : Str := ⟨l.toArray⟩
theorem strs_lst : ∀ L : List (List Nat), strsOf (L.map lst) = some (L.map S1)
 | [] => rfl
 | l :: L => by simp [so_nil, so_none, so_bool, so_int, so_str, so_tup, so_lst, so_ref, so_inst, so_iref, so_exc, so_dct, lst, strs_lst L, S1]
theorem lenAll_S1 : ∀ L : List (List Nat), lenAll (L.map S1) = L.flatten.length
 | [] => rfl
 | l :: L => by simp only [List.map_cons, la_nil, la_cons, lenAll_S1 L, S1, Str.length, List.flatten_cons, List.length_append]; simp
theorem join_S1 : ∀ L : List (List Nat), Str.join (Str.ofString "") (L.map S1) = S1 L.flatten
 | [] => rfl
 | [l] => by simp [Str.join]
 | l :: m :: L => by
  show S1 l ++ Str.ofString "" ++ Str.join (Str.ofString "") (S1 m :: L.map S1) = _
  have := join_S1 (m :: L)
  simp only [List.map_cons] at this
  rw [this]
  apply Str.ext'
  simp [S1, Str.cps_append, show (Str.ofString "").cps = #[] from rfl]
section
variable {tbl : Tbl} {gl : List (String × V)} {cls : Clss} {d : Nat} {H : AH} {Q : V → Prop} {X : String → Prop}
end
end Lib
end
section
set_option autoImplicit false
set_option linter.unusedSimpArgs false
set_option linter.unusedVariables false
namespace Lib
open PySem Mine
noncomputable def ones (l : List Nat) : List V := l.map fun c => V.str ⟨#[c]⟩
theorem flat_ones (l : List Nat) : (l.map fun c => [c]).flatten = l := by
 induction l with
 | nil => rfl
 | cons c l ih => simp [ih]
noncomputable def stk (w : List Sy) : List V := (w.map Sy.v).reverse
theorem bt_cons {rs : List Rl} {s : Sy} {w : List Sy} : bt rs (s :: w) = tx (Tx rs) s ++ bt rs w := by simp [bt]
end Lib
end
section
set_option autoImplicit false
set_option linter.unusedSimpArgs false
set_option linter.unusedVariables false
namespace Lib
open PySem Mine
noncomputable def Dn (n : Nat) (v : V) : Prop := ∃ x, toD v = some x ∧ x.depth ≤ n ∧ PyData.eqv x x = true
theorem Dn.mono {n m : Nat} {v : V} (h : Dn n v) (hm : n ≤ m) : Dn m v := by
 obtain ⟨x, h1, h2, h3⟩ := h
 exact ⟨x, h1, by omega, h3⟩
theorem Dn.int {n : Nat} (i : Int) : Dn n (.int i) := ⟨.int i, by simp [td_none, td_bool, td_int, td_str, td_tup, td_lst, td_ref, td_inst, td_iref, td_exc, td_dct], by simp [dp_none, dp_int, dp_bool, dp_str, dp_list, dp_tup], by simp [ev_int, ev_str, ev_bool, ev_none, ev_list, ev_tup]⟩
theorem Dn.str {n : Nat} (i : Str) : Dn n (.str i) := ⟨.str i, by simp [td_none, td_bool, td_int, td_str, td_tup, td_lst, td_ref, td_inst, td_iref, td_exc, td_dct], by simp [dp_none, dp_int, dp_bool, dp_str, dp_list, dp_tup], by simp [ev_int, ev_str, ev_bool, ev_none, ev_list, ev_tup]⟩
theorem Dn.all {n : Nat} : ∀ {vs : List V}, (∀ v ∈ vs, Dn n v) → ∃ xs, toDs vs = some xs ∧ PyData.depthAll xs ≤ n ∧ PyData.eqvAll xs xs = true
 | [], _ => ⟨[], by simp [tds_nil, tds_cons], by simp [da_nil, da_cons], by simp [ea_nil, ea_cons]⟩
 | v :: vs, h => by
  obtain ⟨x, h1, h2, h3⟩ := h v (by simp)
  obtain ⟨xs, g1, g2, g3⟩ := Dn.all (vs := vs) fun w hw => h w (by simp [hw])
  refine ⟨x :: xs, by simp [tds_nil, tds_cons, h1, g1], ?_, by simp [ea_nil, ea_cons, h3, g3]⟩
  simp only [da_nil, da_cons]; omega
theorem Dn.lst {n : Nat} {vs : List V} (h : ∀ v ∈ vs, Dn n v) : Dn (n + 1) (.lst vs) := by
 obtain ⟨xs, g1, g2, g3⟩ := Dn.all h
 exact ⟨.list xs, by simp [td_none, td_bool, td_int, td_str, td_tup, td_lst, td_ref, td_inst, td_iref, td_exc, td_dct, g1], by simp only [dp_none, dp_int, dp_bool, dp_str, dp_list, dp_tup]; omega, by simp [ev_int, ev_str, ev_bool, ev_none, ev_list, ev_tup, g3]⟩
theorem Dn.tup {n : Nat} {vs : List V} (h : ∀ v ∈ vs, Dn n v) : Dn (n + 1) (.tup vs) := by
 obtain ⟨xs, g1, g2, g3⟩ := Dn.all h
 exact ⟨.tuple xs, by simp [td_none, td_bool, td_int, td_str, td_tup, td_lst, td_ref, td_inst, td_iref, td_exc, td_dct, g1], by simp only [dp_none, dp_int, dp_bool, dp_str, dp_list, dp_tup]; omega, by simp [ev_int, ev_str, ev_bool, ev_none, ev_list, ev_tup, g3]⟩
theorem Dn.sy {n : Nat} (s : Sy) : Dn n s.v := by cases s with
 | ch c => exact .str _
 | ru k => exact .int _
theorem Dn.pv {n : Nat} (p : Rl) : Dn (n + 1) (pv p) := .tup fun v hv => by
 simp at hv
 rcases hv with rfl | rfl <;> exact .sy _
theorem Dn.book {n : Nat} (rs : List Rl) (row : List Sy) : Dn (n + 3) (bookV rs row) := .tup fun v hv => by
 simp at hv
 rcases hv with rfl | rfl
 ·refine .lst fun v hv => ?_
  obtain ⟨p, _, rfl⟩ := List.mem_map.mp hv
  exact .pv p
 ·refine (Dn.lst (n := n + 1) fun v hv => ?_).mono (by omega)
  obtain ⟨p, _, rfl⟩ := List.mem_map.mp hv
  exact .sy p
theorem eqV_same {H : AH} {v : V} {Q : Bool → Prop} (h : Dn 64 v) (hq : Q true) : eqV H v v Q := by
 obtain ⟨x, h1, h2, h3⟩ := h
 have hr : resV H v = v := by cases v <;> first | rfl | (simp [td_none, td_bool, td_int, td_str, td_tup, td_lst, td_ref, td_inst, td_iref, td_exc, td_dct] at h1)
 simp [eqV, hr, h1, h2, h3, hq]
theorem eqV_str {H : AH} {s t : Str} {Q : Bool → Prop} : eqV H (.str s) (.str t) Q = Q (decide (s = t)) := by
 have e : (s == t) = decide (s = t) := by rw [Bool.eq_iff_iff]; simp
 simp [eqV, rv_none, rv_bool, rv_int, rv_str, rv_tup, rv_lst, rv_ref, rv_inst, rv_iref, rv_exc, rv_dct, td_none, td_bool, td_int, td_str, td_tup, td_lst, td_ref, td_inst, td_iref, td_exc, td_dct, dp_none, dp_int, dp_bool, dp_str, dp_list, dp_tup, ev_int, ev_str, ev_bool, ev_none, ev_list, ev_tup, e]
end Lib
end
section
set_option autoImplicit false
set_option linter.unusedSimpArgs false
set_option linter.unusedVariables false
namespace Lib
open PySem Mine
theorem ints_map {α : Type} {g : α → Int} : ∀ (r : List α), intsOf (r.map fun s => V.int (g s)) = some (r.map g)
 | [] => rfl
 | s :: r => by simp [io_nil, io_none, io_bool, io_int, io_str, io_tup, io_lst, io_ref, io_inst, io_iref, io_exc, io_dct, ints_map r]
theorem ints_p {α : Type} {g : α → Int} {P : List Int → Prop} (r : List α) : intsP (r.map fun s => V.int (g s)) P = P (r.map g) := by simp only [intsP, ints_map]
theorem bt_sum {rs : List Rl} : ∀ (r : List Sy), (r.map fun s => ((tx (Tx rs) s).length : Int)).sum = ((bt rs r).length : Int)
 | [] => rfl
 | s :: r => by simp [bt_cons, bt_sum r]
theorem szv_snoc (rs : List Rl) (p : Rl) : szv (Tx (rs ++ [p])) = szv (Tx rs) ++ [V.int ((tx (Tx rs) p.1).length + (tx (Tx rs) p.2).length)] := by rw [Tx_snoc]; simp [szv]
theorem szv_length (ts : List (List Nat)) : (szv ts).length = ts.length := by simp [szv]
section
variable {tbl : Tbl} {gl : List (String × V)} {cls : Clss} {d : Nat} {H : AH} {Q : V → Prop} {X : String → Prop}
end
end Lib
end
section
set_option autoImplicit false
set_option linter.unusedSimpArgs false
set_option linter.unusedVariables false
namespace Lib
open PySem Mine
inductive Way (rs : List Rl) : Sy → Nat → Nat → List Nat → Prop
 | ch (c : Nat) : Way rs (.ch c) 0 c []
 | left (k : Nat) (a b : Sy) (p c : Nat) (l : List Nat) (h : rs[k]? = some (a, b)) (hp : p < (tx (Tx rs) a).length) (w : Way rs a p c l) : Way rs (.ru k) p c (k :: l)
 | right (k : Nat) (a b : Sy) (p c : Nat) (l : List Nat) (h : rs[k]? = some (a, b)) (hp : p < (tx (Tx rs) b).length) (w : Way rs b p c l) : Way rs (.ru k) ((tx (Tx rs) a).length + p) c (k :: l)
theorem tx_rule {rs : List Rl} (hr : RulesOk rs) {k : Nat} {a b : Sy} (h : rs[k]? = some (a, b)) : tx (Tx rs) (.ru k) = tx (Tx rs) a ++ tx (Tx rs) b := by
 have := Tx_get hr h
 simp only [tx, List.getD, this, Option.getD_some]
theorem way_of {rs : List Rl} (hr : RulesOk rs) : ∀ (s : Sy), s.ok rs.length → ∀ p, p < (tx (Tx rs) s).length → ∃ c l, Way rs s p c l ∧ (tx (Tx rs) s)[p]? = some c ∧ l.length ≤ rs.length := by
 have key : ∀ n (s : Sy), s.ok n → n ≤ rs.length → ∀ p, p < (tx (Tx rs) s).length → ∃ c l, Way rs s p c l ∧ (tx (Tx rs) s)[p]? = some c ∧ l.length ≤ n := by
  intro n
  induction n using Nat.strongRecOn with
  | _ n ih =>
   intro s hs hn p hp
   cases s with
   | ch c =>
    have : p = 0 := by simp [tx] at hp; exact hp
    subst this
    exact ⟨c, [], .ch c, by simp [tx], by simp⟩
   | ru k =>
    have hk : k < n := hs
    have hlt : k < rs.length := by omega
    have hg : rs[k]? = some (rs[k].1, rs[k].2) := List.getElem?_eq_getElem hlt
    obtain ⟨o1, o2⟩ := hr k _ hg
    rw [tx_rule hr hg] at hp ⊢
    simp only [List.length_append] at hp
    rcases Nat.lt_or_ge p (tx (Tx rs) rs[k].1).length with q | q
    ·obtain ⟨c, l, w, e, hl⟩ := ih k hk _ o1 (by omega) p q
     exact ⟨c, k :: l, .left k _ _ p c l hg q w, by rw [List.getElem?_append_left q]; exact e, by simp; omega⟩
    ·obtain ⟨c, l, w, e, hl⟩ := ih k hk _ o2 (by omega) (p - (tx (Tx rs) rs[k].1).length) (by show _ < (tx (Tx rs) rs[k].2).length; omega)
     refine ⟨c, k :: l, ?_, by rw [List.getElem?_append_right q]; exact e, by simp; omega⟩
     have := Way.right k _ _ _ c l hg (by omega) w
     rwa [Nat.add_sub_cancel' q] at this
 intro s hs p hp
 exact key _ s hs (Nat.le_refl _) p hp
theorem bt_append {rs : List Rl} {a b : List Sy} : bt rs (a ++ b) = bt rs a ++ bt rs b := by simp [bt]
theorem split_at {rs : List Rl} : ∀ (r : List Sy) (p : Nat), p < (bt rs r).length → ∃ pre s post p0, r = pre ++ s :: post ∧ p = (bt rs pre).length + p0 ∧ p0 < (tx (Tx rs) s).length
 | [], p, h => by simp [bt] at h
 | s :: r, p, h => by
  rw [bt_cons] at h
  simp only [List.length_append] at h
  rcases Nat.lt_or_ge p (tx (Tx rs) s).length with q | q
  ·exact ⟨[], s, r, p, rfl, by simp [bt], q⟩
  ·obtain ⟨pre, s', post, p0, e1, e2, e3⟩ := split_at (rs := rs) r (p - (tx (Tx rs) s).length) (by omega)
   refine ⟨s :: pre, s', post, p0, by simp [e1], ?_, e3⟩
   rw [bt_cons]; simp only [List.length_append]; omega
noncomputable def nv (l : List Nat) : List V := l.map fun (k : Nat) => V.int (k : Int)
theorem nv_snoc (l : List Nat) (k : Nat) : nv l ++ [V.int (k : Int)] = nv (l ++ [k]) := by simp [nv]
theorem nv_length (l : List Nat) : (nv l).length = l.length := by simp [nv]
section
variable {tbl : Tbl} {gl : List (String × V)} {cls : Clss} {d : Nat} {H : AH} {Q : V → Prop} {X : String → Prop}
end
end Lib
end
section
set_option autoImplicit false
set_option linter.unusedSimpArgs false
set_option linter.unusedVariables false
namespace Lib
open PySem Mine
section
variable {tbl : Tbl} {gl : List (String × V)} {cls : Clss} {d : Nat} {H : AH} {Q : V → Prop} {X : String → Prop}
end
end Lib
end
section
set_option autoImplicit false
set_option linter.unusedSimpArgs false
set_option linter.unusedVariables false
namespace Lib
open PySem Mine
section
variable {tbl : Tbl} {gl : List (String × V)} {cls : Clss} {d : Nat} {H : AH} {Q : V → Prop} {X : String → Prop}
theorem Dn.nv {n : Nat} (l : List Nat) : Dn (n + 1) (.lst (nv l)) := .lst fun v hv => by
 obtain ⟨k, _, rfl⟩ := List.mem_map.mp hv
 exact .int _
end
end Lib
end
section
set_option autoImplicit false
set_option linter.unusedSimpArgs false
set_option linter.unusedVariables false
namespace Lib
open PySem Mine
noncomputable def ht (hs : List Nat) : Sy → Nat
 | .ch _ => 0
 | .ru k => hs.getD k 0
noncomputable def Hts (rs : List Rl) : List Nat := rs.foldl (fun hs p => hs ++ [1 + max (ht hs p.1) (ht hs p.2)]) []
theorem Hts_snoc (rs : List Rl) (p : Rl) : Hts (rs ++ [p]) = Hts rs ++ [1 + max (ht (Hts rs) p.1) (ht (Hts rs) p.2)] := by simp [Hts]
theorem Hts_length (rs : List Rl) : (Hts rs).length = rs.length := by
 have : ∀ (rs : List Rl) (hs : List Nat), (rs.foldl (fun hs p => hs ++ [1 + max (ht hs p.1) (ht hs p.2)]) hs).length = hs.length + rs.length := by
  intro rs
  induction rs with
  | nil => intro hs; simp
  | cons p rs ih => intro hs; simp [ih]; omega
 simp [Hts, this]
noncomputable def dp (rs : List Rl) (row : List Sy) : Int := match row.map (fun s => ((ht (Hts rs) s : Nat) : Int)) with
 | [] => 0
 | i :: r => maxI i r
section
variable {tbl : Tbl} {gl : List (String × V)} {cls : Clss} {d : Nat} {H : AH} {Q : V → Prop} {X : String → Prop}
end
end Lib
end
section
set_option autoImplicit false
set_option linter.unusedSimpArgs false
set_option linter.unusedVariables false
namespace Lib
open PySem Mine
section
variable {tbl : Tbl} {gl : List (String × V)} {cls : Clss} {d : Nat} {H : AH} {Q : V → Prop} {X : String → Prop}
end
end Lib
end
section
set_option autoImplicit false
set_option linter.unusedSimpArgs false
set_option linter.unusedVariables false
namespace Lib
open PySem Mine
noncomputable def up (f : Nat → Int) (k : Nat) (x : Int) : Nat → Int := fun j => if j = k then x else f j
noncomputable def fl (n : Nat) (f : Nat → Int) : List V := (List.range n).map fun j => V.int (f j)
theorem fl_length (n : Nat) (f : Nat → Int) : (fl n f).length = n := by simp [fl]
theorem fl_get {n k : Nat} {f : Nat → Int} (h : k < n) : (fl n f)[k]? = some (V.int (f k)) := by simp [fl, h]
theorem fl_set {n k : Nat} {f : Nat → Int} {x : Int} (h : k < n) : (fl n f).set k (V.int x) = fl n (up f k x) := by
 apply List.ext_getElem
 ·simp [fl]
 ·intro i h1 h2
  simp [fl] at h1 h2
  by_cases e : i = k
  ·subst e; simp [fl, up]
  ·rw [List.getElem_set_ne (Ne.symm e)]
   simp [fl, up, e]
noncomputable def mt (s : Sy) (j : Nat) (g : Int) : Int := match s with
 | .ch _ => 0
 | .ru k => if k = j then g else 0
noncomputable def cn (row : List Sy) (j : Nat) : Int := (row.map fun s => mt s j 1).sum
noncomputable def rl (rs : List Rl) (t : Nat) : Rl := rs.getD t (.ch 0, .ch 0)
theorem mt_low {s : Sy} {n j : Nat} {g : Int} (h : s.ok n) (hj : n ≤ j) : mt s j g = 0 := by
 cases s with
 | ch c => rfl
 | ru k => have h : k < n := h; simp only [mt]; rw [if_neg (by omega)]
theorem up_add {f : Nat → Int} {k : Nat} {g : Int} : up f k (f k + g) = fun j => f j + mt (.ru k) j g := by
 funext j
 simp only [up, mt]
 by_cases h : j = k
 ·subst h; simp
 ·rw [if_neg h, if_neg (Ne.symm h)]; omega
theorem rl_ok {rs : List Rl} (hr : RulesOk rs) {t : Nat} (h : t < rs.length) : (rl rs t).1.ok t ∧ (rl rs t).2.ok t := by
 have hg := List.getElem?_eq_getElem h
 have : rl rs t = rs[t] := by simp [rl, List.getD, hg]
 rw [this]; exact hr t _ hg
theorem downL_cons (m : Nat) : downL (m : Int) (-1) = V.int m :: downL ((m : Int) - 1) (-1) := by
 unfold downL
 have e1 : ((m : Int) - -1).toNat = m + 1 := by omega
 have e2 : ((m : Int) - 1 - -1).toNat = m := by omega
 rw [e1, e2, List.range_succ_eq_map]
 simp only [List.map_cons, List.map_map, List.cons.injEq]
 refine ⟨by simp, List.map_congr_left fun k z' => ?_⟩
 simp only [Function.comp]
 congr 1
 omega
theorem downL_nil : downL (-1) (-1) = [] := by simp [downL]
section
variable {tbl : Tbl} {gl : List (String × V)} {cls : Clss} {d : Nat} {H : AH} {Q : V → Prop} {X : String → Prop}
end
end Lib
end
section
set_option autoImplicit false
set_option linter.unusedSimpArgs false
set_option linter.unusedVariables false
namespace Lib
open PySem
noncomputable def at? (W t : List Nat) (k : Nat) : Bool := decide ((t.drop k).take W.length = W)
noncomputable def occs (W t : List Nat) : List Nat := (List.range t.length).filter (at? W t)
noncomputable def tl (m : Nat) (t : List Nat) : List Nat := t.drop (t.length - m)
noncomputable def near (m : Nat) (a b : List Nat) : List Nat := tl m a ++ b.take m
noncomputable def cross (W : List Nat) (m : Nat) (a b : List Nat) : List Nat := ((List.range (tl m a).length).filter (at? W (near m a b))).map fun k => a.length - (tl m a).length + k
theorem tl_len (m : Nat) (t : List Nat) : (tl m t).length = min m t.length := by rw [tl, List.length_drop, Nat.sub_sub_eq_min, Nat.min_comm]
theorem filter_none {α : Type} {p : α → Bool} {l : List α} (h : ∀ x ∈ l, p x = false) : l.filter p = [] := by
 rw [List.filter_eq_nil_iff]
 intro x hx; rw [h x hx]; exact Bool.false_ne_true
theorem at_short {W t : List Nat} {k : Nat} (h : t.length < k + W.length) (hW : 0 < W.length) : at? W t k = false := by
 refine decide_eq_false fun e => ?_
 have h1 := List.length_take_le' W.length (t.drop k)
 rw [e, List.length_drop] at h1
 have h2 := Nat.le_of_lt (Nat.lt_of_sub_pos (Nat.lt_of_lt_of_le hW h1))
 exact absurd (Nat.add_le_of_le_sub h2 h1) (Nat.not_le.mpr (Nat.add_comm k _ ▸ h))
theorem at_eq {W s t : List Nat} {j k : Nat} (h : (s.drop j).take W.length = (t.drop k).take W.length) : at? W s j = at? W t k := by
 unfold at?; rw [h]
theorem occs_append {W : List Nat} {m : Nat} (hm : W.length = m + 1) (a b : List Nat) : occs W (a ++ b) = occs W a ++ cross W m a b ++ (occs W b).map (a.length + ·) := by
 unfold occs cross
 obtain ⟨p, ep⟩ : ∃ p, p = a.length - m := ⟨_, rfl⟩
 have htl : tl m a = a.drop p := by rw [ep]; rfl
 have pl : p ≤ a.length := by rw [ep]; exact Nat.sub_le ..
 have hp : a.length = p + (tl m a).length := by rw [htl, List.length_drop]; exact (Nat.add_sub_cancel' pl).symm
 have e1 : ∀ k, at? W (a ++ b) (a.length + k) = at? W b k := fun k => at_eq (by rw [← List.drop_drop, List.drop_left])
 have e2 : ∀ k, k < p → at? W (a ++ b) k = at? W a k := fun k hk => at_eq (by rw [List.drop_append_of_le_length (Nat.le_of_lt (Nat.lt_of_lt_of_le hk pl)), List.take_append_of_le_length (by rw [List.length_drop, hm]; rw [ep] at hk; exact Nat.le_sub_of_add_le (Nat.add_comm k (m + 1) ▸ Nat.add_lt_of_lt_sub hk))])
 have e3 : ∀ j, j < (tl m a).length → at? W (a ++ b) (p + j) = at? W (near m a b) j := fun j hj => at_eq (by
  rw [near, ← List.drop_drop, List.drop_append_of_le_length pl, ← htl, List.drop_append_of_le_length (Nat.le_of_lt hj), List.drop_append_of_le_length (Nat.le_of_lt hj), List.take_append, List.take_append, List.take_take, Nat.min_eq_left]
  rw [hm, List.length_drop]
  exact Nat.sub_le_of_le_add (Nat.add_le_add_left (Nat.sub_pos_of_lt hj) m))
 have e4 : ∀ j, at? W a (p + j) = false := fun j => at_short (Nat.lt_of_le_of_lt (Nat.sub_le_iff_le_add.mp (Nat.le_of_eq ep.symm)) (by rw [hm]; exact Nat.add_lt_add_of_le_of_lt (Nat.le_add_right p j) (Nat.lt_succ_self m))) (hm ▸ Nat.succ_pos m)
 have h1 : (List.range a.length).filter (at? W a) = (List.range p).filter (at? W a) := by
  rw [hp, List.range_add, List.filter_append, List.filter_map, filter_none (p := at? W a ∘ fun x => p + x) (fun x z' => e4 x), List.map_nil, List.append_nil]
 have h2 : (List.range a.length).filter (at? W (a ++ b)) = (List.range p).filter (at? W a) ++ ((List.range (tl m a).length).filter (at? W (near m a b))).map (p + ·) := by
  rw [hp, List.range_add, List.filter_append, List.filter_map]
  congr 1
  ·exact List.filter_congr fun k hk => e2 k (List.mem_range.mp hk)
  ·congr 1
   exact List.filter_congr fun j hj => e3 j (List.mem_range.mp hj)
 rw [List.length_append, List.range_add, List.filter_append, List.filter_map, h2, h1]
 congr 2
 ·rw [Nat.sub_eq_of_eq_add hp]
 ·congr 1
  exact funext fun k => e1 k
theorem occs_nil (W : List Nat) : occs W [] = [] := rfl
theorem occs_one {W : List Nat} {c : Nat} (h : 0 < W.length) : occs W [c] = if W = [c] then [0] else [] := by
 unfold occs
 show (List.filter (at? W [c]) [0]) = _
 by_cases e : W = [c]
 ·subst e; rw [if_pos rfl]; simp [at?]
 ·rw [if_neg e]
  refine filter_none fun x hx => ?_
  rw [List.mem_singleton.mp hx]
  refine decide_eq_false fun q => e ?_
  rw [List.drop_zero] at q
  rw [← q]
  refine List.take_of_length_le ?_
  show 1 ≤ W.length
  exact h
theorem head_long {m : Nat} {a b : List Nat} (h : m ≤ a.length) : (a ++ b).take m = a.take m := List.take_append_of_le_length h
theorem head_short {m : Nat} {a b : List Nat} (h : a.length < m) : (a.take m ++ b.take m).take m = (a ++ b).take m := by rw [List.take_of_length_le (Nat.le_of_lt h), List.take_append, List.take_append, List.take_take, Nat.min_eq_left (Nat.sub_le ..)]
theorem tail_long {m : Nat} {a b : List Nat} (h : m ≤ b.length) : tl m (a ++ b) = tl m b := by
 unfold tl
 rw [List.length_append, Nat.add_sub_assoc h, ← List.drop_drop, List.drop_left]
theorem tail_short {m : Nat} {a b : List Nat} (h : b.length < m) : (tl m a ++ tl m b).drop ((tl m a ++ tl m b).length - m) = tl m (a ++ b) := by
 have hb : tl m b = b := by rw [tl, Nat.sub_eq_zero_of_le (Nat.le_of_lt h)]; rfl
 have hl := tl_len m a
 rw [hb, List.length_append]
 unfold tl at hl ⊢
 rw [List.length_append]
 rcases Nat.le_total a.length m with q | q
 ·rw [Nat.sub_eq_zero_of_le q, List.drop_zero]
 ·rw [hl, Nat.min_eq_left q, Nat.add_sub_cancel_left, Nat.sub_add_comm q, ← List.drop_drop, List.drop_append_of_le_length (Nat.sub_le ..)]
theorem tl_one {m c : Nat} : tl m [c] = [c].take m := by
 cases m with
 | zero => rfl
 | succ m => unfold tl; rw [show [c].length - (m + 1) = 0 by simp]; simp
end Lib
end
section
set_option autoImplicit false
set_option linter.unusedSimpArgs false
set_option linter.unusedVariables false
namespace Lib
open PySem Mine
noncomputable def Ev (C : Cx) (st : St) (e : E) (w : V) : Prop := ∀ (Q : V → Prop) (X : String → Prop), Q w → WE C e st Q X
noncomputable def Evs (C : Cx) (st : St) (e : Es) (w : List V) : Prop := ∀ (Q : List V → Prop) (X : String → Prop), Q w → WEs C e st Q X
noncomputable def Ec (C : Cx) (st : St) (c : Ch) (u : V) (b : Bool) : Prop := ∀ (Q : Bool → Prop) (X : String → Prop), Q b → WCh C c st u Q X
noncomputable def Cm (H : AH) (op : Cop) (u v : V) (b : Bool) : Prop := ∀ Q : Bool → Prop, Q b → cmpV H op u v Q
noncomputable def Sb (H : AH) (u k w : V) : Prop := ∀ Q : V → Prop, Q w → subV H u k Q
noncomputable def Ca (C : Cx) (f : String) (vs : List V) (H : AH) (w : V) : Prop := ∀ (Q : V → Prop) (X : String → Prop), Q w → C.call f vs H Q X
noncomputable def Ei (C : Cx) (st : St) (it : It) (vs : List V) (ds : List Nat) : Prop := ∀ (Q : List V → List Nat → Prop) (X : String → Prop), Q vs ds → WI C it st Q X
section
variable {C : Cx} {st : St} {ρ : List (Option V)} {H B : AH}
theorem ev_none : Ev C st .none .none := fun z' z' h => h
theorem ev_bool {b : Bool} : Ev C st (.bool b) (.bool b) := fun z' z' h => h
theorem ev_int {i : Int} : Ev C st (.int i) (.int i) := fun z' z' h => h
theorem ev_str {s : Str} : Ev C st (.str s) (.str s) := fun z' z' h => h
theorem ev_var {i : Nat} {v : V} (h : ρ[i]? = some (some v)) : Ev C ⟨ρ, H, B⟩ (.var i) v := fun Q X q => by
 show (match ρ[i]? with
  | some (some v) => Q v
  | _ => False)
 rw [h]; exact q
theorem ev_glob {x : String} {v : V} (h : C.glob x = some v) : Ev C st (.glob x) v := fun Q X q => by
 show (match C.glob x with
  | some v => Q v
  | Option.none => False)
 rw [h]; exact q
theorem ev_bin {op : Bop} {a b : E} {u v w : V} (ha : Ev C st a u) (hb : Ev C st b v) (hw : ∀ Q : V → Prop, Q w → binV st.H op u v Q) : Ev C st (.bin op a b) w := fun Q X q => ha _ _ (hb _ _ (hw _ q))
theorem ev_add {a b : E} {i j : Int} (ha : Ev C st a (.int i)) (hb : Ev C st b (.int j)) : Ev C st (.bin .add a b) (.int (i + j)) := ev_bin ha hb fun z' q => q
theorem ev_sb {a b : E} {i j : Int} (ha : Ev C st a (.int i)) (hb : Ev C st b (.int j)) : Ev C st (.bin .sub a b) (.int (i - j)) := ev_bin ha hb fun z' q => q
theorem ev_fdiv {a b : E} {i j : Int} (ha : Ev C st a (.int i)) (hb : Ev C st b (.int j)) (h : j ≠ 0) : Ev C st (.bin .fdiv a b) (.int (i.fdiv j)) := ev_bin ha hb fun z' q => ⟨h, q⟩
theorem ev_mod {a b : E} {i j : Int} (ha : Ev C st a (.int i)) (hb : Ev C st b (.int j)) (h : j ≠ 0) : Ev C st (.bin .mod a b) (.int (i.fmod j)) := ev_bin ha hb fun z' q => ⟨h, q⟩
theorem ev_mul {a b : E} {i j : Int} (ha : Ev C st a (.int i)) (hb : Ev C st b (.int j)) (h : i.natAbs < 2 ^ 62 ∨ j.natAbs < 2 ^ 62) : Ev C st (.bin .mul a b) (.int (i * j)) := ev_bin ha hb fun z' q => ⟨h, q⟩
theorem ev_cat {a b : E} {s t : Str} (ha : Ev C st a (.str s)) (hb : Ev C st b (.str t)) (h : s.length + t.length ≤ sizeLine) : Ev C st (.bin .add a b) (.str (s ++ t)) := ev_bin ha hb fun z' q => ⟨h, q⟩
theorem ev_catl {a b : E} {x y : List V} (ha : Ev C st a (.lst x)) (hb : Ev C st b (.lst y)) (h : x.length + y.length ≤ sizeLine) : Ev C st (.bin .add a b) (.lst (x ++ y)) := ev_bin ha hb fun z' q => ⟨h, q⟩
theorem ev_neg {a : E} {i : Int} (ha : Ev C st a (.int i)) : Ev C st (.neg a) (.int (-i)) := fun Q X q => ha _ _ q
theorem ev_not {a : E} {b : Bool} (ha : Ev C st a (.bool b)) : Ev C st (.not a) (.bool !b) := fun Q X q => ha _ _ q
theorem ev_and {a b : E} {p q : Bool} (ha : Ev C st a (.bool p)) (hb : p = true → Ev C st b (.bool q)) : Ev C st (.and a b) (.bool (p && q)) := fun Q X h => ha _ _ (by cases p; exact h; exact hb rfl _ _ h)
theorem ev_or {a b : E} {p q : Bool} (ha : Ev C st a (.bool p)) (hb : p = false → Ev C st b (.bool q)) : Ev C st (.or a b) (.bool (p || q)) := fun Q X h => ha _ _ (by cases p; exact hb rfl _ _ h; exact h)
theorem evs_nil : Evs C st .nil [] := fun z' z' q => q
theorem evs_cons {e : E} {es : Es} {v : V} {vs : List V} (h : Ev C st e v) (hs : Evs C st es vs) : Evs C st (.cons e es) (v :: vs) := fun z' z' q => h _ _ (hs _ _ q)
theorem ev_list {es : Es} {vs : List V} (h : Evs C st es vs) (hn : Nat.ble vs.length 16777216 = true) : Ev C st (.list es) (.lst vs) := fun z' z' q => h _ _ ⟨Nat.le_of_ble_eq_true hn, q⟩
theorem ev_tup {es : Es} {vs : List V} (h : Evs C st es vs) (hn : Nat.ble vs.length 16777216 = true) : Ev C st (.tup es) (.tup vs) := fun z' z' q => h _ _ ⟨Nat.le_of_ble_eq_true hn, q⟩
theorem ev_cmp {a : E} {c : Ch} {u : V} {b : Bool} (ha : Ev C st a u) (hc : Ec C st c u b) : Ev C st (.cmp a c) (.bool b) := fun z' z' q => ha _ _ (hc _ _ q)
theorem ec_one {op : Cop} {e : E} {u v : V} {b : Bool} (he : Ev C st e v) (hc : Cm st.H op u v b) : Ec C st (.one op e) u b := fun z' z' q => he _ _ (hc _ q)
theorem ec_more {op : Cop} {e : E} {c : Ch} {u v : V} {p q : Bool} (he : Ev C st e v) (hc : Cm st.H op u v p) (h2 : p = true → Ec C st c v q) : Ec C st (.more op e c) u (p && q) := fun z' z' h => he _ _ (hc _ (by cases p; exact h; exact h2 rfl _ _ h))
theorem cm_lt {i j : Int} : Cm H .lt (.int i) (.int j) (decide (i < j)) := fun z' q => q
theorem cm_le {i j : Int} : Cm H .le (.int i) (.int j) (decide (i ≤ j)) := fun z' q => q
theorem cm_gt {i j : Int} : Cm H .gt (.int i) (.int j) (decide (i > j)) := fun z' q => q
theorem cm_ge {i j : Int} : Cm H .ge (.int i) (.int j) (decide (i ≥ j)) := fun z' q => q
theorem cm_eq {i j : Int} : Cm H .eq (.int i) (.int j) (decide (i = j)) := fun Q q => (show eqV H (.int i) (.int j) Q from by rw [eqV_int]; exact q)
theorem cm_ne {i j : Int} : Cm H .ne (.int i) (.int j) (!decide (i = j)) := fun Q q => (show eqV H (.int i) (.int j) (fun r => Q (!r)) from by rw [eqV_int]; exact q)
theorem cm_is {u : V} : Cm H .is u .none (isNone u) := fun z' q => q
theorem cm_isnot {u : V} : Cm H .isnot u .none (!isNone u) := fun z' q => q
theorem ev_sub {a i : E} {u k w : V} (ha : Ev C st a u) (hi : Ev C st i k) (hs : Sb st.H u k w) : Ev C st (.sub a i) w := fun z' z' q => ha _ _ (hi _ _ (hs _ q))
theorem sb_lst {vs : List V} {n : Nat} {w : V} (h : vs[n]? = some w) : Sb H (.lst vs) (.int n) w := fun Q q => by
 show (match idx vs.length (n : Int) with
  | some n => (match vs[n]? with
   | some v => Q v
   | Option.none => False)
  | Option.none => False)
 rw [idx_nat (List.getElem?_eq_some_iff.mp h).1]
 show (match vs[n]? with
   | some v => Q v
   | Option.none => False)
 rw [h]; exact q
theorem sb_ref {a : Nat} {vs : List V} {n : Nat} {w : V} (ha : H a = some (.list vs)) (h : vs[n]? = some w) : Sb H (.ref a) (.int n) w := fun Q q => by
 show (match H a with
  | some (.dict kvs) => _
  | some (.list vs) => _
  | _ => False)
 rw [ha]
 exact sb_lst (H := H) h Q q
theorem ev_call {f : String} {es : Es} {vs : List V} {w : V} (he : Evs C st es vs) (hc : Ca C f vs st.H w) : Ev C st (.call f es) w := fun z' z' q => he _ _ (hc _ _ q)
theorem ev_isi {a : E} {t : Ty} {u : V} {b : Bool} (ha : Ev C st a u) (h : isT st.H t u = some b) : Ev C st (.isinst a t) (.bool b) := fun Q z' q => ha _ _ (by
 show (match isT st.H t u with
  | some b => Q (.bool b)
  | Option.none => False)
 rw [h]; exact q)
theorem ev_len {a : E} {u : V} {n : Nat} (ha : Ev C st a u) (h : sizeV st.H u = some n) : Ev C st (.len a) (.int n) := fun Q z' q => ha _ _ (by
 show (match sizeV st.H u with
  | some n => Q (.int n)
  | Option.none => False)
 rw [h]; exact q)
theorem ev_max2 {a b : E} {i j : Int} (ha : Ev C st a (.int i)) (hb : Ev C st b (.int j)) : Ev C st (.max2 a b) (.int (max i j)) := fun Q z' q => ha _ _ (hb _ _ (by
 show Q (.int (if j > i then j else i))
 rw [show (if j > i then j else i) = max i j from by split <;> omega]; exact q))
theorem ev_min2 {a b : E} {i j : Int} (ha : Ev C st a (.int i)) (hb : Ev C st b (.int j)) : Ev C st (.min2 a b) (.int (min i j)) := fun Q z' q => ha _ _ (hb _ _ (by
 show Q (.int (if j < i then j else i))
 rw [show (if j < i then j else i) = min i j from by split <;> omega]; exact q))
theorem ei_seq {e : E} {u : V} {vs : List V} (he : Ev C st e u) (h : itemsV st.H u = some vs) : Ei C st (.seq e) vs (depsV u) := fun Q z' q => he _ _ (by
 show (match itemsV st.H u with
  | some vs => Q vs (depsV u)
  | Option.none => False)
 rw [h]; exact q)
theorem ei_rev {e : E} {u : V} {vs : List V} (he : Ev C st e u) (h : seqL st.H u = some vs) : Ei C st (.rev e) vs.reverse (depsV u) := fun Q z' q => he _ _ (by
 show (match seqL st.H u with
  | some vs => Q vs.reverse (depsV u)
  | Option.none => False)
 rw [h]; exact q)
theorem ei_range1 {e : E} {i : Int} (he : Ev C st e (.int i)) (h : smallI i) : Ei C st (.range1 e) (upL 0 i) [] := fun Q z' q => he _ _ ⟨h, q⟩
theorem ei_range3 {a b c : E} {i j : Int} (ha : Ev C st a (.int i)) (hb : Ev C st b (.int j)) (hc : Ev C st c (.int (-1))) (h : smallI i) (h2 : smallI j) : Ei C st (.range3 a b c) (downL i j) [] := fun Q z' q => ha _ _ (hb _ _ (hc _ _ ⟨h, h2, rfl, q⟩))
theorem ev_listOf {it : It} {vs : List V} {ds : List Nat} (h : Ei C st it vs ds) (hn : vs.length ≤ sizeLine) : Ev C st (.listOf it) (.lst vs) := fun Q z' q => h _ _ ⟨hn, q⟩
theorem ev_join {s a : E} {u : V} {t : Str} {vs : List V} {ss : List Str} (hs : Ev C st s (.str t)) (ha : Ev C st a u) (h1 : seqL st.H u = some vs) (h2 : strsOf vs = some ss) (h3 : lenAll ss + t.length * ss.length ≤ sizeLine) : Ev C st (.join s a) (.str (Str.join t ss)) := fun Q z' q => hs _ _ (ha _ _ (by
 show (match (V.str t), (seqL st.H u).bind strsOf with
  | .str s, some ss => lenAll ss + s.length * ss.length ≤ sizeLine ∧ Q (.str (Str.join s ss))
  | _, _ => False)
 rw [h1]
 show (match (V.str t), strsOf vs with
  | .str s, some ss => lenAll ss + s.length * ss.length ≤ sizeLine ∧ Q (.str (Str.join s ss))
  | _, _ => False)
 rw [h2]; exact ⟨h3, q⟩))
theorem ev_comp {elt : E} {i : Nat} {it : It} {α : Type} {v g : α → V} {r : List α} {ds : List Nat} (hi : Ei C ⟨ρ, H, B⟩ it (r.map v) ds) (hl : r.length ≤ sizeLine) (hlt : i < ρ.length) (he : ∀ x ∈ r, Ev C ⟨ρ.set i (some (v x)), H, B⟩ elt (g x)) : Ev C ⟨ρ, H, B⟩ (.comp elt (.var i) it) (.lst (r.map g)) := fun Q X q => by
 refine hi _ _ ⟨by rw [List.length_map]; exact hl, ?_⟩
 have key : ∀ (r : List α) (K : List V → Prop), (∀ x ∈ r, Ev C ⟨ρ.set i (some (v x)), H, B⟩ elt (g x)) → K (r.map g) → compL (fun x k => match bindT (.var i) x ρ with
    | some ρ' => WE C elt ⟨ρ', H, B⟩ (fun y => k (some y)) (fun z' => False)
    | Option.none => False) (r.map v) K := by
  intro r
  induction r with
  | nil => intro K _ h; exact h
  | cons x r ih =>
   intro K h1 h2
   show (match bindT (.var i) (v x) ρ with
    | some ρ' => WE C elt ⟨ρ', H, B⟩ _ (fun z' => False)
    | Option.none => False)
   have : bindT (.var i) (v x) ρ = some (ρ.set i (some (v x))) := by show putV _ _ _ = _; unfold putV; rw [if_pos hlt]
   rw [this]
   exact h1 x (List.mem_cons_self ..) _ _ (ih _ (fun y hy => h1 y (List.mem_cons_of_mem _ hy)) h2)
 exact key r _ he q
theorem ev_sum {a : E} {u : V} {vs : List V} {is : List Int} (ha : Ev C st a u) (h : seqL st.H u = some vs) (h2 : intsOf vs = some is) : Ev C st (.sum a) (.int is.sum) := fun Q z' q => ha _ _ (by
 show seqP st.H u _
 unfold seqP; rw [h]
 show intsP vs _
 unfold intsP; rw [h2]; exact q)
noncomputable def Kn (C : Cx) (r : Bl) (Q : Fl → St → Prop) (X : String → St → Prop) : Fl → St → Prop := fun f st' => match f with
  | .next => WB C r st' Q X
  | f => Q f st'
noncomputable def Fo (C : Cx) (t : Tg) (b r : Bl) (Q : Fl → St → Prop) (X : String → St → Prop) (xs : List V) (st : St) : Prop := forL t (fun st' K => WB C b st' K X) (Kn C r Q X) xs st
noncomputable def Kf (C : Cx) (t : Tg) (b r : Bl) (Q : Fl → St → Prop) (X : String → St → Prop) (xs : List V) : Fl → St → Prop := fun f st' => match f with
   | .next | .cont => Fo C t b r Q X xs st'
   | .brk => Kn C r Q X .next st'
   | .ret v => Kn C r Q X (.ret v) st'
variable {Q : Fl → St → Prop} {X : String → St → Prop} {b r : Bl}
theorem kn_nil (h : WB C r st Q X) : WB C .nil st (Kn C r Q X) X := h
theorem kf_nil {t : Tg} {xs : List V} (h : Fo C t b r Q X xs st) : WB C .nil st (Kf C t b r Q X xs) X := h
theorem w_asg {i : Nat} {e : E} {w : V} (he : Ev C ⟨ρ, H, B⟩ e w) (hi : Nat.blt i ρ.length = true) (hb : WB C b ⟨ρ.set i (some w), H, B⟩ Q X) : WB C (.cons (.assign (.var i) e) b) ⟨ρ, H, B⟩ Q X := he _ _ (by
 show (match (match putV i w ρ with
  | some ρ' => _
  | none => False) with
  | p => p)
 unfold putV; rw [if_pos (Nat.blt_eq.mp hi)]; exact hb)
theorem w_asgt {is : List Nat} {e : E} {vs : List V} {ρ' : List (Option V)} (he : Ev C ⟨ρ, H, B⟩ e (.tup vs)) (hi : setAll is vs ρ = some ρ') (hb : WB C b ⟨ρ', H, B⟩ Q X) : WB C (.cons (.assign (.tup is) e) b) ⟨ρ, H, B⟩ Q X := he _ _ (by
 show (match setAll is vs ρ with
  | some ρ' => WB C b ⟨ρ', H, B⟩ Q X
  | none => False)
 rw [hi]; exact hb)
theorem w_own0 {i : Nat} (hi : Nat.blt i ρ.length = true) (hb : ∀ a, H a = none → B a = none → WB C b ⟨ρ.set i (some (.ref a)), H.upd a (.list []), B⟩ Q X) : WB C (.cons (.own i (.list .nil)) b) ⟨ρ, H, B⟩ Q X := by
 refine ⟨by decide, fun a h1 h2 => ?_⟩
 show (match (match putV i (.ref a) ρ with
  | some ρ' => _
  | none => False) with
  | p => p)
 unfold putV; rw [if_pos (Nat.blt_eq.mp hi)]; exact hb a h1 h2
theorem w_thaw {i : Nat} {e : E} {vs : List V} (he : Ev C ⟨ρ, H, B⟩ e (.lst vs)) (hi : Nat.blt i ρ.length = true) (hb : ∀ a, H a = none → B a = none → WB C b ⟨ρ.set i (some (.ref a)), H.upd a (.list vs), B⟩ Q X) : WB C (.cons (.own i (.thaw e)) b) ⟨ρ, H, B⟩ Q X := by
 refine he _ _ (fun a h1 => ?_)
 show (match (match putV i (.ref a) ρ with
  | some ρ' => _
  | none => False) with
  | p => p)
 unfold putV; rw [if_pos (Nat.blt_eq.mp hi)]; exact hb a h1.1 h1.2
theorem w_app {i a : Nat} {e : E} {vs : List V} {w : V} (hx : ρ[i]? = some (some (.ref a))) (ha : H a = some (.list vs)) (hB : B a = none) (he : Ev C ⟨ρ, H, B⟩ e w) (hl : vs.length < sizeLine) (hb : WB C b ⟨ρ, H.upd a (.list (vs ++ [w])), B⟩ Q X) : WB C (.cons (.append (.var i) (.pure e)) b) ⟨ρ, H, B⟩ Q X := by
 refine ev_var (C := C) (H := H) (B := B) hx _ (fun x => X x ⟨ρ, H, B⟩) ?_
 show (match H a with
   | some (.list _) => _
   | _ => False)
 rw [ha]
 refine he _ _ ?_
 show (match H a with
    | some (.list vs) => _
    | _ => False)
 rw [ha]
 exact ⟨hB, hl, hb⟩
theorem w_pop {t : Tg} {i a : Nat} {vs : List V} {w : V} {ρ' : List (Option V)} (hx : ρ[i]? = some (some (.ref a))) (ha : H a = some (.list (vs ++ [w]))) (hB : B a = none) (ht : bindT t w ρ = some ρ') (hb : WB C b ⟨ρ', H.upd a (.list vs), B⟩ Q X) : WB C (.cons (.pop t (.var i)) b) ⟨ρ, H, B⟩ Q X := by
 refine ev_var (C := C) (H := H) (B := B) hx _ (fun x => X x ⟨ρ, H, B⟩) ?_
 show (match H a with
   | some (.list vs) => _
   | _ => False)
 rw [ha]
 show (match (vs ++ [w]).getLast? with
    | some w => _
    | none => False)
 rw [List.getLast?_concat]
 refine ⟨hB, ?_⟩
 show (match bindT t w ρ with
     | some ρ' => _
     | none => False)
 rw [ht]
 show WB C b ⟨ρ', H.upd a (.list (vs ++ [w]).dropLast), B⟩ Q X
 rw [List.dropLast_concat]; exact hb
theorem w_set {i a n : Nat} {k v : E} {vs : List V} {w : V} (hv : Ev C ⟨ρ, H, B⟩ v w) (hx : ρ[i]? = some (some (.ref a))) (hk : Ev C ⟨ρ, H, B⟩ k (.int n)) (ha : H a = some (.list vs)) (hB : B a = none) (hn : n < vs.length) (hb : WB C b ⟨ρ, H.upd a (.list (vs.set n w)), B⟩ Q X) : WB C (.cons (.setitem (.var i) k v) b) ⟨ρ, H, B⟩ Q X := by
 refine hv _ _ (ev_var (C := C) (H := H) (B := B) hx _ (fun x => X x ⟨ρ, H, B⟩) (hk _ _ ⟨hB, by omega, vs, ha, by omega, ?_⟩))
 exact hb
theorem w_if {t : E} {a a' : Bl} (p : Bool) (ht : Ev C st t (.bool p)) (h1 : p = true → WB C a st (Kn C r Q X) X) (h0 : p = false → WB C a' st (Kn C r Q X) X) : WB C (.cons (.ite t a a') r) st Q X := by
 refine ht _ _ ?_
 cases p
 ·exact h0 rfl
 ·exact h1 rfl
theorem w_ift {t : E} {a a' : Bl} (ht : Ev C st t (.bool true)) (h1 : WB C a st (Kn C r Q X) X) : WB C (.cons (.ite t a a') r) st Q X := ht _ _ h1
theorem w_iff {t : E} {a a' : Bl} (ht : Ev C st t (.bool false)) (h1 : WB C a' st (Kn C r Q X) X) : WB C (.cons (.ite t a a') r) st Q X := ht _ _ h1
theorem w_exp {e : E} {w : V} (he : Ev C st e w) (hb : WB C b st Q X) : WB C (.cons (.expr e) b) st Q X := he _ _ hb
theorem w_ret {e : E} {w : V} (he : Ev C st e w) (h : Q (.ret w) st) : WB C (.cons (.ret e) b) st Q X := he _ _ h
theorem w_for {t : Tg} {it : It} {xs : List V} {ds : List Nat} (hi : Ei C st it xs ds) (hq : quietB b = true ∨ ∀ a ∈ ds, st.B a ≠ Option.none) (h : Fo C t b r Q X xs st) : WB C (.cons (.for t it b) r) st Q X := hi _ _ ⟨hq, h⟩
theorem fo_nil {t : Tg} (h : WB C r st Q X) : Fo C t b r Q X [] st := h
theorem fo_cons {t : Tg} {x : V} {xs : List V} {ρ' : List (Option V)} (hb : bindT t x ρ = some ρ') (h : WB C b ⟨ρ', H, B⟩ (Kf C t b r Q X xs) X) : Fo C t b r Q X (x :: xs) ⟨ρ, H, B⟩ := by
 show (match bindT t x ρ with
  | some ρ' => WB C b ⟨ρ', H, B⟩ (Kf C t b r Q X xs) X
  | Option.none => False)
 rw [hb]; exact h
noncomputable def Wh (C : Cx) (t : E) (b r : Bl) (Q : Fl → St → Prop) (X : String → St → Prop) (n : Nat) (st : St) : Prop := whileN (fun st' K => WE C t st' (fun u => match truthV st'.H u with
   | some r => K r
   | Option.none => False) (fun x => X x st')) (fun st' K => WB C b st' K X) (Kn C r Q X) n st
noncomputable def Kw (C : Cx) (t : E) (b r : Bl) (Q : Fl → St → Prop) (X : String → St → Prop) (n : Nat) : Fl → St → Prop := fun f st' => match f with
   | .next | .cont => Wh C t b r Q X n st'
   | .brk => Kn C r Q X .next st'
   | .ret v => Kn C r Q X (.ret v) st'
theorem w_while {t : E} (n : Nat) (h : Wh C t b r Q X n st) : WB C (.cons (.while t b) r) st Q X := ⟨n, h⟩
theorem kw_nil {t : E} {n : Nat} (h : Wh C t b r Q X n st) : WB C .nil st (Kw C t b r Q X n) X := h
theorem wh_end {t : E} {n : Nat} (ht : Ev C st t (.bool false)) (h : WB C r st Q X) : Wh C t b r Q X (n + 1) st := ht _ _ h
theorem wh_step {t : E} {n : Nat} (ht : Ev C st t (.bool true)) (h : WB C b st (Kw C t b r Q X n) X) : Wh C t b r Q X (n + 1) st := ht _ _ h
end
section
variable {tbl : Tbl} {gl : List (String × V)} {cls : Clss} {d : Nat} {H H' B : AH} {Q : V → Prop} {ρ : List (Option V)}
theorem ca_of {f : String} {fn : Fn} {args : List V} {w : V} (h : tbl.lookup f = some fn) (h1 : args.length = fn.np) (h2 : fn.np ≤ fn.nv)
  (h3 : ∀ (Q : V → Prop) (X : String → Prop), Q w → WB (cxN tbl gl cls d) fn.body ⟨args.map some ++ List.replicate (fn.nv - fn.np) none, H, H⟩ (PK H Q) (fun x z' => X x)) : Ca (cxN tbl gl cls (d + 1)) f args H w := fun Q X q => call_of h h1 h2 (h3 Q X q)
theorem pk_of {v w : V} (h : frz H' H 8 v = some w) (q : Q w) : PK H Q (.ret v) ⟨ρ, H', B⟩ := by
 rw [pk_ret, h]; exact q
end
theorem upd_eq {H : AH} {a : Nat} {o : AO} : (H.upd a o) a = some o := if_pos rfl
theorem upd_ne {H : AH} {a b : Nat} {o : AO} (h : b ≠ a) : (H.upd a o) b = H b := if_neg h
theorem of_upd {H : AH} {a b : Nat} {o o' : AO} (h : (H.upd a o) b = none) : b ≠ a := fun e => by rw [e, upd_eq] at h; cases h
end Lib
end
section
set_option autoImplicit false
namespace L12
open PySem Mine
noncomputable def F_is_whole : Fn := ⟨1, ["thing"], 1, (.cons (.ret (.and (.isinst (.var 0) .int) (.not (.isinst (.var 0) .bool)))) .nil)⟩
noncomputable def F_is_text : Fn := ⟨1, ["thing", "sign"], 2, (.cons (.ite (.not (.isinst (.var 0) .str)) (.cons (.ret (.bool false)) .nil) .nil) (.cons (.for (.var 1) (.seq (.var 0)) (.cons (.ite (.cmp (.var 1) (.one .notin (.glob "SIGNS"))) (.cons (.ret (.bool false)) .nil) .nil) .nil)) (.cons (.ret (.bool true)) .nil)))⟩
noncomputable def F_is_symbol : Fn := ⟨2, ["thing", "below"], 2, (.cons (.ite (.call "is_whole" (.cons (.var 0) .nil)) (.cons (.ret (.cmp (.int 0) (.more .le (.var 0) (.one .lt (.var 1))))) .nil) .nil) (.cons (.ret (.and (.call "is_text" (.cons (.var 0) .nil)) (.cmp (.len (.var 0)) (.one .eq (.int 1))))) .nil))⟩
noncomputable def F_is_rule : Fn := ⟨2, ["rule", "number"], 2, (.cons (.ite (.or (.not (.isinst (.var 0) .tuple)) (.cmp (.len (.var 0)) (.one .ne (.int 2)))) (.cons (.ret (.bool false)) .nil) .nil) (.cons (.ret (.and (.call "is_symbol" (.cons (.sub (.var 0) (.int 0)) (.cons (.var 1) .nil))) (.call "is_symbol" (.cons (.sub (.var 0) (.int 1)) (.cons (.var 1) .nil))))) .nil))⟩
noncomputable def F_need_book : Fn := ⟨1, ["book", "rules", "row", "number", "symbol"], 5, (.cons (.ite (.or (.not (.isinst (.var 0) .tuple)) (.cmp (.len (.var 0)) (.one .ne (.int 2)))) (.cons (.raise "NoBook" (.str (Str.ofString "no pair"))) .nil) .nil) (.cons (.assign (.var 1) (.sub (.var 0) (.int 0))) (.cons (.assign (.var 2) (.sub (.var 0) (.int 1))) (.cons (.ite (.or (.not (.isinst (.var 1) .list)) (.not (.isinst (.var 2) .list))) (.cons (.raise "NoBook" (.str (Str.ofString "no two lists"))) .nil) .nil) (.cons (.ite (.or (.cmp (.len (.var 1)) (.one .gt (.glob "MOST_RULES"))) (.cmp (.len (.var 2)) (.one .gt (.glob "MOST_ROW")))) (.cons (.raise "NoBook" (.str (Str.ofString "too long"))) .nil) .nil) (.cons (.for (.var 3) (.range1 (.len (.var 1))) (.cons (.ite (.not (.call "is_rule" (.cons (.sub (.var 1) (.var 3)) (.cons (.var 3) .nil)))) (.cons (.raise "NoBook" (.str (Str.ofString "no rule"))) .nil) .nil) .nil)) (.cons (.for (.var 4) (.seq (.var 2)) (.cons (.ite (.not (.call "is_symbol" (.cons (.var 4) (.cons (.len (.var 1)) .nil)))) (.cons (.raise "NoBook" (.str (Str.ofString "no symbol"))) .nil) .nil) .nil)) (.cons (.ret (.var 0)) .nil))))))))⟩
noncomputable def F_length_of : Fn := ⟨2, ["symbol", "sizes"], 2, (.cons (.ite (.isinst (.var 0) .str) (.cons (.ret (.int 1)) .nil) .nil) (.cons (.ret (.sub (.var 1) (.var 0))) .nil))⟩
noncomputable def F_lengths : Fn := ⟨1, ["book", "sizes", "rule"], 3, (.cons (.expr (.call "need_book" (.cons (.var 0) .nil))) (.cons (.own 1 (.list .nil)) (.cons (.for (.var 2) (.seq (.sub (.var 0) (.int 0))) (.cons (.append (.var 1) (.pure (.bin .add (.call "length_of" (.cons (.sub (.var 2) (.int 0)) (.cons (.var 1) .nil))) (.call "length_of" (.cons (.sub (.var 2) (.int 1)) (.cons (.var 1) .nil)))))) .nil)) (.cons (.ret (.var 1)) .nil))))⟩
noncomputable def F_length : Fn := ⟨1, ["book", "sizes"], 3, (.cons (.assign (.var 1) (.call "lengths" (.cons (.var 0) .nil))) (.cons (.ret (.sum (.comp (.call "length_of" (.cons (.var 2) (.cons (.var 1) .nil))) (.var 2) (.seq (.sub (.var 0) (.int 1)))))) .nil))⟩
noncomputable def F_height_of : Fn := ⟨2, ["symbol", "heights"], 2, (.cons (.ite (.isinst (.var 0) .str) (.cons (.ret (.int 0)) .nil) .nil) (.cons (.ret (.sub (.var 1) (.var 0))) .nil))⟩
noncomputable def F_depth : Fn := ⟨1, ["book", "heights", "rule"], 4, (.cons (.expr (.call "need_book" (.cons (.var 0) .nil))) (.cons (.own 1 (.list .nil)) (.cons (.for (.var 2) (.seq (.sub (.var 0) (.int 0))) (.cons (.append (.var 1) (.pure (.bin .add (.int 1) (.max2 (.call "height_of" (.cons (.sub (.var 2) (.int 0)) (.cons (.var 1) .nil))) (.call "height_of" (.cons (.sub (.var 2) (.int 1)) (.cons (.var 1) .nil))))))) .nil)) (.cons (.ret (.maxd (.comp (.call "height_of" (.cons (.var 3) (.cons (.var 1) .nil))) (.var 3) (.seq (.sub (.var 0) (.int 1)))) (.int 0))) .nil))))⟩
noncomputable def F_uses : Fn := ⟨1, ["book", "rules", "found", "symbol", "number"], 6, (.cons (.expr (.call "need_book" (.cons (.var 0) .nil))) (.cons (.assign (.var 1) (.sub (.var 0) (.int 0))) (.cons (.own 2 (.thaw (.comp (.int 0) (.var 5) (.seq (.var 1))))) (.cons (.for (.var 3) (.seq (.sub (.var 0) (.int 1))) (.cons (.ite (.call "is_whole" (.cons (.var 3) .nil)) (.cons (.setitem (.var 2) (.var 3) (.bin .add (.sub (.var 2) (.var 3)) (.int 1))) .nil) .nil) .nil)) (.cons (.for (.var 4) (.range3 (.bin .sub (.len (.var 1)) (.int 1)) (.neg (.int 1)) (.neg (.int 1))) (.cons (.for (.var 3) (.seq (.sub (.var 1) (.var 4))) (.cons (.ite (.call "is_whole" (.cons (.var 3) .nil)) (.cons (.setitem (.var 2) (.var 3) (.bin .add (.sub (.var 2) (.var 3)) (.sub (.var 2) (.var 4)))) .nil) .nil) .nil)) .nil)) (.cons (.ret (.var 2)) .nil))))))⟩
noncomputable def F_written_out : Fn := ⟨1, ["book", "waiting", "signs", "symbol"], 4, (.cons (.expr (.call "need_book" (.cons (.var 0) .nil))) (.cons (.own 1 (.thaw (.listOf (.rev (.sub (.var 0) (.int 1)))))) (.cons (.own 2 (.list .nil)) (.cons (.while (.cmp (.len (.var 1)) (.one .gt (.int 0))) (.cons (.pop (.var 3) (.var 1)) (.cons (.ite (.isinst (.var 3) .str) (.cons (.append (.var 2) (.pure (.var 3))) .nil) (.cons (.append (.var 1) (.pure (.sub (.sub (.sub (.var 0) (.int 0)) (.var 3)) (.int 1)))) (.cons (.append (.var 1) (.pure (.sub (.sub (.sub (.var 0) (.int 0)) (.var 3)) (.int 0)))) .nil))) .nil))) (.cons (.ret (.join (.str (Str.ofString "")) (.var 2))) .nil)))))⟩
noncomputable def F_total_of : Fn := ⟨2, ["book", "sizes"], 3, (.cons (.ret (.sum (.comp (.call "length_of" (.cons (.var 2) (.cons (.var 1) .nil))) (.var 2) (.seq (.sub (.var 0) (.int 1)))))) .nil)⟩
noncomputable def F_sign_at : Fn := ⟨2, ["book", "place", "sizes", "at", "symbol", "opened", "rule", "size"], 8, (.cons (.assign (.var 2) (.call "lengths" (.cons (.var 0) .nil))) (.cons (.ite (.or (.not (.call "is_whole" (.cons (.var 1) .nil))) (.not (.cmp (.int 0) (.more .le (.var 1) (.one .lt (.call "total_of" (.cons (.var 0) (.cons (.var 2) .nil)))))))) (.cons (.raise "NoPlace" (.str (Str.ofString "no such place"))) .nil) .nil) (.cons (.assign (.var 3) (.int 0)) (.cons (.while (.cmp (.var 1) (.one .ge (.call "length_of" (.cons (.sub (.sub (.var 0) (.int 1)) (.var 3)) (.cons (.var 2) .nil))))) (.cons (.assign (.var 1) (.bin .sub (.var 1) (.call "length_of" (.cons (.sub (.sub (.var 0) (.int 1)) (.var 3)) (.cons (.var 2) .nil))))) (.cons (.assign (.var 3) (.bin .add (.var 3) (.int 1))) .nil))) (.cons (.assign (.var 4) (.sub (.sub (.var 0) (.int 1)) (.var 3))) (.cons (.own 5 (.list .nil)) (.cons (.while (.not (.isinst (.var 4) .str)) (.cons (.append (.var 5) (.pure (.var 4))) (.cons (.assign (.var 6) (.sub (.sub (.var 0) (.int 0)) (.var 4))) (.cons (.assign (.var 7) (.call "length_of" (.cons (.sub (.var 6) (.int 0)) (.cons (.var 2) .nil)))) (.cons (.assign (.var 4) (.sub (.var 6) (.int 0))) (.cons (.ite (.cmp (.var 1) (.one .ge (.var 7))) (.cons (.assign (.var 1) (.bin .sub (.var 1) (.var 7))) (.cons (.assign (.var 4) (.sub (.var 6) (.int 1))) .nil)) .nil) .nil)))))) (.cons (.ret (.tup (.cons (.var 4) (.cons (.var 5) .nil)))) .nil))))))))⟩
noncomputable def F_cut : Fn := ⟨3, ["book", "start", "end", "sizes", "total", "waiting", "behind", "symbol", "signs", "opened", "one", "stop", "rule"], 13, (.cons (.assign (.var 3) (.call "lengths" (.cons (.var 0) .nil))) (.cons (.assign (.var 4) (.call "total_of" (.cons (.var 0) (.cons (.var 3) .nil)))) (.cons (.ite (.or (.not (.call "is_whole" (.cons (.var 1) .nil))) (.or (.not (.call "is_whole" (.cons (.var 2) .nil))) (.not (.cmp (.int 0) (.more .le (.var 1) (.more .le (.var 2) (.one .le (.var 4)))))))) (.cons (.raise "NoPlace" (.str (Str.ofString "no such stretch"))) .nil) .nil) (.cons (.own 5 (.list .nil)) (.cons (.assign (.var 6) (.var 4)) (.cons (.for (.var 7) (.rev (.sub (.var 0) (.int 1))) (.cons (.assign (.var 6) (.bin .sub (.var 6) (.call "length_of" (.cons (.var 7) (.cons (.var 3) .nil))))) (.cons (.append (.var 5) (.pure (.tup (.cons (.var 7) (.cons (.var 6) .nil))))) .nil))) (.cons (.own 8 (.list .nil)) (.cons (.assign (.var 9) (.int 0)) (.cons (.while (.cmp (.len (.var 5)) (.one .gt (.int 0))) (.cons (.pop (.var 10) (.var 5)) (.cons (.assign (.var 11) (.bin .add (.sub (.var 10) (.int 1)) (.call "length_of" (.cons (.sub (.var 10) (.int 0)) (.cons (.var 3) .nil))))) (.cons (.ite (.cmp (.max2 (.sub (.var 10) (.int 1)) (.var 1)) (.one .lt (.min2 (.var 11) (.var 2)))) (.cons (.ite (.isinst (.sub (.var 10) (.int 0)) .str) (.cons (.append (.var 8) (.pure (.sub (.var 10) (.int 0)))) .nil) (.cons (.assign (.var 9) (.bin .add (.var 9) (.int 1))) (.cons (.assign (.var 12) (.sub (.sub (.var 0) (.int 0)) (.sub (.var 10) (.int 0)))) (.cons (.append (.var 5) (.pure (.tup (.cons (.sub (.var 12) (.int 1)) (.cons (.bin .add (.sub (.var 10) (.int 1)) (.call "length_of" (.cons (.sub (.var 12) (.int 0)) (.cons (.var 3) .nil)))) .nil))))) (.cons (.append (.var 5) (.pure (.tup (.cons (.sub (.var 12) (.int 0)) (.cons (.sub (.var 10) (.int 1)) .nil))))) .nil))))) .nil) .nil) .nil)))) (.cons (.ret (.tup (.cons (.join (.str (Str.ofString "")) (.var 8)) (.cons (.var 9) .nil)))) .nil))))))))))⟩
noncomputable def F_best_pair : Fn := ⟨1, ["row", "counts", "last", "at", "best", "pair"], 6, (.cons (.own 1 .dict) (.cons (.own 2 .dict) (.cons (.for (.var 3) (.range1 (.bin .sub (.len (.var 0)) (.int 1))) (.cons (.assign (.var 5) (.tup (.cons (.sub (.var 0) (.var 3)) (.cons (.sub (.var 0) (.bin .add (.var 3) (.int 1))) .nil)))) (.cons (.ite (.or (.cmp (.var 5) (.one .notin (.var 2))) (.cmp (.sub (.var 2) (.var 5)) (.one .ne (.bin .sub (.var 3) (.int 1))))) (.cons (.setkey (.var 1) (.var 5) (.bin .add (.get (.var 1) (.var 5) (.int 0)) (.int 1))) (.cons (.setkey (.var 2) (.var 5) (.var 3)) .nil)) .nil) .nil))) (.cons (.assign (.var 4) .none) (.cons (.for (.var 5) (.keys (.var 1)) (.cons (.ite (.and (.cmp (.sub (.var 1) (.var 5)) (.one .gt (.int 1))) (.or (.cmp (.var 4) (.one .is .none)) (.cmp (.sub (.var 1) (.var 5)) (.one .gt (.sub (.var 1) (.var 4)))))) (.cons (.assign (.var 4) (.var 5)) .nil) .nil) .nil)) (.cons (.ret (.var 4)) .nil))))))⟩
noncomputable def F_replaced : Fn := ⟨3, ["row", "pair", "number", "made_row", "at"], 5, (.cons (.own 3 (.list .nil)) (.cons (.assign (.var 4) (.int 0)) (.cons (.while (.cmp (.var 4) (.one .lt (.len (.var 0)))) (.cons (.ite (.and (.cmp (.bin .add (.var 4) (.int 1)) (.one .lt (.len (.var 0)))) (.and (.cmp (.sub (.var 0) (.var 4)) (.one .eq (.sub (.var 1) (.int 0)))) (.cmp (.sub (.var 0) (.bin .add (.var 4) (.int 1))) (.one .eq (.sub (.var 1) (.int 1)))))) (.cons (.append (.var 3) (.pure (.var 2))) (.cons (.assign (.var 4) (.bin .add (.var 4) (.int 2))) .nil)) (.cons (.append (.var 3) (.pure (.sub (.var 0) (.var 4)))) (.cons (.assign (.var 4) (.bin .add (.var 4) (.int 1))) .nil))) .nil)) (.cons (.ret (.var 3)) .nil))))⟩
noncomputable def F_made : Fn := ⟨1, ["text", "rules", "row", "pair"], 5, (.cons (.ite (.or (.not (.call "is_text" (.cons (.var 0) .nil))) (.cmp (.len (.var 0)) (.one .gt (.glob "MOST_SIGNS")))) (.cons (.raise "NoText" (.str (Str.ofString "no text of at most 1000 signs"))) .nil) .nil) (.cons (.own 1 (.list .nil)) (.cons (.assign (.var 2) (.comp (.var 4) (.var 4) (.seq (.var 0)))) (.cons (.assign (.var 3) (.call "best_pair" (.cons (.var 2) .nil))) (.cons (.while (.cmp (.var 3) (.one .isnot .none)) (.cons (.assign (.var 2) (.call "replaced" (.cons (.var 2) (.cons (.var 3) (.cons (.len (.var 1)) .nil))))) (.cons (.append (.var 1) (.pure (.var 3))) (.cons (.assign (.var 3) (.call "best_pair" (.cons (.var 2) .nil))) .nil)))) (.cons (.ret (.tup (.cons (.var 1) (.cons (.var 2) .nil)))) .nil))))))⟩
noncomputable def F_symbol_shown : Fn := ⟨1, ["symbol"], 1, (.cons (.ite (.isinst (.var 0) .str) (.cons (.ret (.bin .add (.str (Str.ofString "'")) (.var 0))) .nil) .nil) (.cons (.ret (.strOf (.var 0))) .nil))⟩
noncomputable def F_row_shown : Fn := ⟨1, ["row"], 2, (.cons (.ret (.join (.str (Str.ofString " ")) (.comp (.call "symbol_shown" (.cons (.var 1) .nil)) (.var 1) (.seq (.var 0))))) .nil)⟩
noncomputable def F_shown : Fn := ⟨1, ["book", "rows"], 3, (.cons (.expr (.call "need_book" (.cons (.var 0) .nil))) (.cons (.assign (.var 1) (.bin .add (.comp (.call "row_shown" (.cons (.var 2) .nil)) (.var 2) (.seq (.sub (.var 0) (.int 0)))) (.list (.cons (.call "row_shown" (.cons (.sub (.var 0) (.int 1)) .nil)) .nil)))) (.cons (.ret (.join (.str (Str.ofString "\n")) (.var 1))) .nil)))⟩
noncomputable def F_symbol_at : Fn := ⟨2, ["line", "at", "stop", "figures"], 4, (.cons (.ite (.cmp (.slice (.var 0) (.var 1) (.bin .add (.var 1) (.int 1))) (.one .eq (.str (Str.ofString "'")))) (.cons (.ite (.cmp (.bin .add (.var 1) (.int 1)) (.one .ge (.len (.var 0)))) (.cons (.raise "NoBook" (.str (Str.ofString "no sign"))) .nil) .nil) (.cons (.ret (.tup (.cons (.sub (.var 0) (.bin .add (.var 1) (.int 1))) (.cons (.bin .add (.var 1) (.int 2)) .nil)))) .nil)) .nil) (.cons (.assign (.var 2) (.var 1)) (.cons (.while (.and (.cmp (.var 2) (.one .lt (.len (.var 0)))) (.cmp (.sub (.var 0) (.var 2)) (.one .isin (.glob "FIGURES")))) (.cons (.assign (.var 2) (.bin .add (.var 2) (.int 1))) .nil)) (.cons (.assign (.var 3) (.slice (.var 0) (.var 1) (.var 2))) (.cons (.ite (.or (.cmp (.var 3) (.one .eq (.str (Str.ofString "")))) (.or (.cmp (.len (.var 3)) (.one .gt (.glob "MOST_FIGURES"))) (.and (.cmp (.len (.var 3)) (.one .gt (.int 1))) (.cmp (.sub (.var 3) (.int 0)) (.one .eq (.str (Str.ofString "0"))))))) (.cons (.raise "NoBook" (.str (Str.ofString "no number"))) .nil) .nil) (.cons (.ret (.tup (.cons (.intOf (.var 3)) (.cons (.var 2) .nil)))) .nil))))))⟩
noncomputable def F_rows_of : Fn := ⟨1, ["line", "rows", "at", "told"], 4, (.cons (.own 1 (.list (.cons (.list .nil) .nil))) (.cons (.assign (.var 2) (.int 0)) (.cons (.while (.cmp (.var 2) (.one .lt (.len (.var 0)))) (.cons (.ite (.and (.cmp (.sub (.var 0) (.var 2)) (.one .eq (.str (Str.ofString "\n")))) (.cmp (.sub (.var 1) (.neg (.int 1))) (.one .eq (.list .nil)))) (.cons (.raise "NoBook" (.str (Str.ofString "an empty rule"))) .nil) .nil) (.cons (.assign (.var 3) (.call "symbol_at" (.cons (.var 0) (.cons (.var 2) .nil)))) (.cons (.append (.sub (.var 1) (.neg (.int 1))) (.pure (.sub (.var 3) (.int 0)))) (.cons (.assign (.var 2) (.sub (.var 3) (.int 1))) (.cons (.ite (.cmp (.var 2) (.one .lt (.len (.var 0)))) (.cons (.ite (.cmp (.sub (.var 0) (.var 2)) (.one .eq (.str (Str.ofString "\n")))) (.cons (.append (.var 1) (.list .nil)) .nil) (.cons (.ite (.or (.cmp (.sub (.var 0) (.var 2)) (.one .ne (.str (Str.ofString " ")))) (.cmp (.bin .add (.var 2) (.int 1)) (.one .eq (.len (.var 0))))) (.cons (.raise "NoBook" (.str (Str.ofString "no blank and symbol"))) .nil) .nil) .nil)) (.cons (.assign (.var 2) (.bin .add (.var 2) (.int 1))) .nil)) .nil) .nil)))))) (.cons (.ret (.var 1)) .nil))))⟩
noncomputable def F_read : Fn := ⟨1, ["line", "rows"], 3, (.cons (.ite (.not (.isinst (.var 0) .str)) (.cons (.raise "NoBook" (.str (Str.ofString "no text"))) .nil) .nil) (.cons (.assign (.var 1) (.call "rows_of" (.cons (.var 0) .nil))) (.cons (.ret (.call "need_book" (.cons (.tup (.cons (.comp (.tupOf (.var 2)) (.var 2) (.seq (.slice (.var 1) .none (.neg (.int 1))))) (.cons (.sub (.var 1) (.neg (.int 1))) .nil))) .nil))) .nil)))⟩
noncomputable def F_piece_of : Fn := ⟨2, ["sign", "word", "most", "piece"], 4, (.cons (.assign (.var 2) (.bin .sub (.len (.var 1)) (.int 1))) (.cons (.own 3 (.new "Piece" (.cons (.int 1) (.cons (.slice (.var 0) .none (.var 2)) (.cons (.slice (.var 0) .none (.var 2)) .nil))))) (.cons (.ite (.cmp (.var 0) (.one .eq (.var 1))) (.cons (.setattr (.var 3) "times" (.int 1)) (.cons (.setattr (.var 3) "first" (.int 0)) .nil)) .nil) (.cons (.ret (.var 3)) .nil))))⟩
noncomputable def F_crossing : Fn := ⟨3, ["left", "right", "word", "near", "found", "at"], 6, (.cons (.assign (.var 3) (.bin .add (.attr (.var 0) "tail") (.attr (.var 1) "head"))) (.cons (.own 4 (.list .nil)) (.cons (.for (.var 5) (.range1 (.len (.attr (.var 0) "tail"))) (.cons (.ite (.cmp (.slice (.var 3) (.var 5) (.bin .add (.var 5) (.len (.var 2)))) (.one .eq (.var 2))) (.cons (.append (.var 4) (.pure (.bin .add (.bin .sub (.attr (.var 0) "size") (.len (.attr (.var 0) "tail"))) (.var 5)))) .nil) .nil) .nil)) (.cons (.ret (.var 4)) .nil))))⟩
noncomputable def F_two : Fn := ⟨3, ["left", "right", "word", "most", "head", "tail", "piece", "places", "both"], 9, (.cons (.assign (.var 3) (.bin .sub (.len (.var 2)) (.int 1))) (.cons (.assign (.var 4) (.slice (.bin .add (.attr (.var 0) "head") (.attr (.var 1) "head")) .none (.var 3))) (.cons (.ite (.cmp (.attr (.var 0) "size") (.one .ge (.var 3))) (.cons (.assign (.var 4) (.attr (.var 0) "head")) .nil) .nil) (.cons (.assign (.var 5) (.attr (.var 1) "tail")) (.cons (.ite (.cmp (.attr (.var 1) "size") (.one .lt (.var 3))) (.cons (.assign (.var 8) (.bin .add (.attr (.var 0) "tail") (.attr (.var 1) "tail"))) (.cons (.assign (.var 5) (.slice (.var 8) (.max2 (.int 0) (.bin .sub (.len (.var 8)) (.var 3))) .none)) .nil)) .nil) (.cons (.own 6 (.new "Piece" (.cons (.bin .add (.attr (.var 0) "size") (.attr (.var 1) "size")) (.cons (.var 4) (.cons (.var 5) .nil))))) (.cons (.assign (.var 7) (.call "crossing" (.cons (.var 0) (.cons (.var 1) (.cons (.var 2) .nil))))) (.cons (.setattr (.var 6) "times" (.bin .add (.bin .add (.attr (.var 0) "times") (.len (.var 7))) (.attr (.var 1) "times"))) (.cons (.setattr (.var 6) "first" (.attr (.var 0) "first")) (.cons (.ite (.and (.cmp (.attr (.var 6) "first") (.one .is .none)) (.cmp (.len (.var 7)) (.one .gt (.int 0)))) (.cons (.setattr (.var 6) "first" (.sub (.var 7) (.int 0))) .nil) .nil) (.cons (.ite (.and (.cmp (.attr (.var 6) "first") (.one .is .none)) (.cmp (.attr (.var 1) "first") (.one .isnot .none))) (.cons (.setattr (.var 6) "first" (.bin .add (.attr (.var 0) "size") (.attr (.var 1) "first"))) .nil) .nil) (.cons (.ret (.var 6)) .nil))))))))))))⟩
noncomputable def F_piece_by : Fn := ⟨3, ["symbol", "pieces", "word"], 3, (.cons (.ite (.isinst (.var 0) .str) (.cons (.ret (.call "piece_of" (.cons (.var 0) (.cons (.var 2) .nil)))) .nil) .nil) (.cons (.ret (.sub (.var 1) (.var 0))) .nil))⟩
noncomputable def F_whole : Fn := ⟨2, ["book", "word", "pieces", "rule", "found", "symbol"], 6, (.cons (.expr (.call "need_book" (.cons (.var 0) .nil))) (.cons (.ite (.or (.not (.call "is_text" (.cons (.var 1) .nil))) (.not (.cmp (.int 1) (.more .le (.len (.var 1)) (.one .le (.glob "MOST_WORD")))))) (.cons (.raise "NoWord" (.str (Str.ofString "no word of 1 to 200 signs"))) .nil) .nil) (.cons (.own 2 (.list .nil)) (.cons (.for (.var 3) (.seq (.sub (.var 0) (.int 0))) (.cons (.append (.var 2) (.pure (.call "two" (.cons (.call "piece_by" (.cons (.sub (.var 3) (.int 0)) (.cons (.var 2) (.cons (.var 1) .nil)))) (.cons (.call "piece_by" (.cons (.sub (.var 3) (.int 1)) (.cons (.var 2) (.cons (.var 1) .nil)))) (.cons (.var 1) .nil)))))) .nil)) (.cons (.assign (.var 4) (.new "Piece" (.cons (.int 0) (.cons (.str (Str.ofString "")) (.cons (.str (Str.ofString "")) .nil))))) (.cons (.for (.var 5) (.seq (.sub (.var 0) (.int 1))) (.cons (.assign (.var 4) (.call "two" (.cons (.var 4) (.cons (.call "piece_by" (.cons (.var 5) (.cons (.var 2) (.cons (.var 1) .nil)))) (.cons (.var 1) .nil))))) .nil)) (.cons (.ret (.var 4)) .nil)))))))⟩
noncomputable def F_how_often : Fn := ⟨2, ["book", "word"], 2, (.cons (.ret (.attr (.call "whole" (.cons (.var 0) (.cons (.var 1) .nil))) "times")) .nil)⟩
noncomputable def F_first_place : Fn := ⟨2, ["book", "word"], 2, (.cons (.ret (.attr (.call "whole" (.cons (.var 0) (.cons (.var 1) .nil))) "first")) .nil)⟩
noncomputable def F_law_whole : Fn := ⟨1, ["_law_found"], 1, (.cons (.ret (.and (.isinst (.var 0) .int) (.not (.isinst (.var 0) .bool)))) .nil)⟩
noncomputable def F_law_cell_at : Fn := ⟨2, ["_law_script", "_law_k"], 2, (.cons (.ite (.cmp (.var 1) (.one .lt (.len (.var 0)))) (.cons (.ret (.sub (.var 0) (.var 1))) .nil) .nil) (.cons (.ret (.int 0)) .nil))⟩
noncomputable def F_law_sign_by : Fn := ⟨1, ["_law_cell", "_law_some"], 2, (.cons (.assign (.var 1) (.str (Str.ofString " !\"#$&'()*+,-./0123456789:;<=>?@ABCDEFGHIJKLMNOPQRSTUVWXYZ[\\]^_`"))) (.cons (.assign (.var 1) (.bin .add (.var 1) (.str (Str.ofString "abcdefghijklmnopqrstuvwxyz{|}~\n")))) (.cons (.ret (.sub (.var 1) (.bin .mod (.var 0) (.int 95)))) .nil)))⟩
noncomputable def F_law_text_by : Fn := ⟨1, ["_law_script", "_law_first", "_law_way", "_law_some", "_law_step", "_law_cells", "_law_found", "_law_part", "_law_one", "_law_other", "_law_turn"], 12, (.cons (.assign (.var 1) (.call "_law_cell_at" (.cons (.var 0) (.cons (.int 0) .nil)))) (.cons (.assign (.var 2) (.bin .mod (.var 1) (.int 5))) (.cons (.assign (.var 3) (.bin .add (.int 2) (.bin .mod (.bin .fdiv (.var 1) (.int 5)) (.int 3)))) (.cons (.assign (.var 4) (.bin .add (.int 1) (.bin .mod (.bin .fdiv (.var 1) (.int 95)) (.int 94)))) (.cons (.assign (.var 5) (.slice (.var 0) (.int 2) (.int 62))) (.cons (.ite (.cmp (.var 2) (.one .eq (.int 4))) (.cons (.ret (.join (.str (Str.ofString "")) (.comp (.call "_law_sign_by" (.cons (.var 11) .nil)) (.var 11) (.seq (.var 5))))) .nil) .nil) (.cons (.assign (.var 6) (.join (.str (Str.ofString "")) (.comp (.call "_law_sign_by" (.cons (.bin .add (.bin .fdiv (.var 1) (.int 7)) (.bin .mul (.var 4) (.bin .mod (.var 11) (.var 3)))) .nil)) (.var 11) (.seq (.var 5))))) (.cons (.ite (.cmp (.var 2) (.one .eq (.int 0))) (.cons (.ret (.var 6)) .nil) .nil) (.cons (.ite (.cmp (.var 2) (.one .eq (.int 1))) (.cons (.assign (.var 7) (.slice (.var 6) .none (.bin .add (.int 1) (.bin .mod (.call "_law_cell_at" (.cons (.var 0) (.cons (.int 1) .nil))) (.int 9))))) (.cons (.ret (.slice (.bin .mul (.var 7) (.int 60)) .none (.bin .add (.int 20) (.bin .mod (.bin .fdiv (.call "_law_cell_at" (.cons (.var 0) (.cons (.int 1) .nil))) (.int 9)) (.int 90))))) .nil)) .nil) (.cons (.ite (.cmp (.var 2) (.one .eq (.int 2))) (.cons (.assign (.var 8) (.slice (.var 6) .none (.int 2))) (.cons (.assign (.var 9) (.slice (.var 6) (.int 2) (.int 5))) (.cons (.for (.var 10) (.range1 (.bin .add (.int 3) (.bin .mod (.call "_law_cell_at" (.cons (.var 0) (.cons (.int 1) .nil))) (.int 4)))) (.cons (.assign (.tup [8, 9]) (.tup (.cons (.bin .add (.var 8) (.var 9)) (.cons (.var 8) .nil)))) .nil)) (.cons (.ret (.slice (.var 8) .none (.int 110))) .nil)))) .nil) (.cons (.ret (.bin .add (.var 6) (.slice (.var 6) .none (.bin .mod (.call "_law_cell_at" (.cons (.var 0) (.cons (.int 1) .nil))) (.int 61))))) .nil)))))))))))⟩
noncomputable def F_law_signs : Fn := ⟨3, ["_law_book", "_law_text", "_law_deep", "_law_place", "_law_sign", "_law_opened", "_law_one", "_law_other"], 8, (.cons (.for (.var 3) (.range1 (.len (.var 1))) (.cons (.assign (.tup [4, 5]) (.call "sign_at" (.cons (.var 0) (.cons (.var 3) .nil)))) (.cons (.ite (.or (.cmp (.var 4) (.one .ne (.sub (.var 1) (.var 3)))) (.cmp (.len (.var 5)) (.one .gt (.var 2)))) (.cons (.ret (.bool false)) .nil) .nil) (.cons (.ite (.or (.and (.cmp (.var 5) (.one .eq (.list .nil))) (.cmp (.var 4) (.one .notin (.sub (.var 0) (.int 1))))) (.and (.cmp (.var 5) (.one .ne (.list .nil))) (.cmp (.sub (.var 5) (.int 0)) (.one .notin (.sub (.var 0) (.int 1)))))) (.cons (.ret (.bool false)) .nil) .nil) (.cons (.for (.tup [6, 7]) (.zip (.var 5) (.bin .add (.slice (.var 5) (.int 1) .none) (.list (.cons (.var 4) .nil)))) (.cons (.ite (.cmp (.var 7) (.one .notin (.sub (.sub (.var 0) (.int 0)) (.var 6)))) (.cons (.ret (.bool false)) .nil) .nil) .nil)) .nil))))) (.cons (.ret (.bool true)) .nil))⟩
noncomputable def F_law_stretch : Fn := ⟨4, ["_law_book", "_law_text", "_law_deep", "_law_cell", "_law_start", "_law_end", "_law_found", "_law_opened"], 8, (.cons (.assign (.var 4) (.bin .mod (.var 3) (.bin .add (.len (.var 1)) (.int 1)))) (.cons (.assign (.var 5) (.bin .add (.var 4) (.bin .mod (.bin .fdiv (.var 3) (.int 111)) (.bin .sub (.bin .add (.len (.var 1)) (.int 1)) (.var 4))))) (.cons (.assign (.tup [6, 7]) (.call "cut" (.cons (.var 0) (.cons (.var 4) (.cons (.var 5) .nil))))) (.cons (.ite (.or (.not (.isinst (.var 6) .str)) (.or (.cmp (.var 6) (.one .ne (.slice (.var 1) (.var 4) (.var 5)))) (.not (.call "_law_whole" (.cons (.var 7) .nil))))) (.cons (.ret (.bool false)) .nil) .nil) (.cons (.ret (.and (.cmp (.var 7) (.one .le (.bin .add (.bin .sub (.var 5) (.var 4)) (.bin .mul (.int 2) (.var 2))))) (.or (.cmp (.var 4) (.one .lt (.var 5))) (.cmp (.var 7) (.one .eq (.int 0)))))) .nil)))))⟩
noncomputable def F_law_word : Fn := ⟨3, ["_law_book", "_law_text", "_law_cell", "_law_start", "_law_word_here", "_law_places"], 7, (.cons (.ite (.cmp (.var 1) (.one .eq (.str (Str.ofString "")))) (.cons (.ret (.and (.cmp (.call "how_often" (.cons (.var 0) (.cons (.str (Str.ofString "a")) .nil))) (.one .eq (.int 0))) (.cmp (.call "first_place" (.cons (.var 0) (.cons (.str (Str.ofString "a")) .nil))) (.one .is .none)))) .nil) .nil) (.cons (.assign (.var 3) (.bin .mod (.var 2) (.len (.var 1)))) (.cons (.assign (.var 4) (.slice (.var 1) (.var 3) (.bin .add (.bin .add (.var 3) (.int 1)) (.bin .mod (.bin .fdiv (.var 2) (.int 113)) (.int 12))))) (.cons (.assign (.var 5) (.compIf (.var 6) (.var 6) (.range1 (.len (.var 1))) (.cmp (.slice (.var 1) (.var 6) (.bin .add (.var 6) (.len (.var 4)))) (.one .eq (.var 4))))) (.cons (.ret (.and (.cmp (.call "how_often" (.cons (.var 0) (.cons (.var 4) .nil))) (.one .eq (.len (.var 5)))) (.cmp (.call "first_place" (.cons (.var 0) (.cons (.var 4) .nil))) (.one .eq (.sub (.var 5) (.int 0)))))) .nil)))))⟩
noncomputable def F_law : Fn := ⟨1, ["_law_script", "_law_text", "_law_book", "_law_deep", "_law_k", "_law_cell"], 7, (.cons (.assign (.var 1) (.call "_law_text_by" (.cons (.var 0) .nil))) (.cons (.assign (.var 2) (.call "made" (.cons (.var 1) .nil))) (.cons (.assign (.var 3) (.call "depth" (.cons (.var 2) .nil))) (.cons (.ite (.or (.not (.call "_law_whole" (.cons (.var 3) .nil))) (.or (.cmp (.call "length" (.cons (.var 2) .nil)) (.one .ne (.len (.var 1)))) (.cmp (.call "written_out" (.cons (.var 2) .nil)) (.one .ne (.var 1))))) (.cons (.ret (.bool false)) .nil) .nil) (.cons (.ite (.or (.not (.call "_law_signs" (.cons (.var 2) (.cons (.var 1) (.cons (.var 3) .nil))))) (.cmp (.len (.compIf (.var 6) (.var 6) (.seq (.call "uses" (.cons (.var 2) .nil))) (.cmp (.var 6) (.one .lt (.int 2))))) (.one .gt (.int 0)))) (.cons (.ret (.bool false)) .nil) .nil) (.cons (.for (.var 4) (.range1 (.int 4)) (.cons (.assign (.var 5) (.call "_law_cell_at" (.cons (.var 0) (.cons (.bin .add (.int 58) (.var 4)) .nil)))) (.cons (.ite (.or (.not (.call "_law_stretch" (.cons (.var 2) (.cons (.var 1) (.cons (.var 3) (.cons (.var 5) .nil)))))) (.not (.call "_law_word" (.cons (.var 2) (.cons (.var 1) (.cons (.bin .fdiv (.var 5) (.int 7)) .nil)))))) (.cons (.ret (.bool false)) .nil) .nil) .nil))) (.cons (.ret (.cmp (.call "read" (.cons (.call "shown" (.cons (.var 2) .nil)) .nil)) (.one .eq (.var 2)))) .nil)))))))⟩
noncomputable def tbl : Tbl := [("is_whole", F_is_whole), ("is_text", F_is_text), ("is_symbol", F_is_symbol), ("is_rule", F_is_rule), ("need_book", F_need_book), ("length_of", F_length_of), ("lengths", F_lengths), ("length", F_length), ("height_of", F_height_of), ("depth", F_depth), ("uses", F_uses), ("written_out", F_written_out), ("total_of", F_total_of), ("sign_at", F_sign_at), ("cut", F_cut), ("best_pair", F_best_pair), ("replaced", F_replaced), ("made", F_made), ("symbol_shown", F_symbol_shown), ("row_shown", F_row_shown), ("shown", F_shown), ("symbol_at", F_symbol_at), ("rows_of", F_rows_of), ("read", F_read), ("piece_of", F_piece_of), ("crossing", F_crossing), ("two", F_two), ("piece_by", F_piece_by), ("whole", F_whole), ("how_often", F_how_often), ("first_place", F_first_place), ("_law_whole", F_law_whole), ("_law_cell_at", F_law_cell_at), ("_law_sign_by", F_law_sign_by), ("_law_text_by", F_law_text_by), ("_law_signs", F_law_signs), ("_law_stretch", F_law_stretch), ("_law_word", F_law_word), ("law", F_law)]
noncomputable def gtab : List (String × V) := [("SIGNS", .str (Str.ofString " !\"#$&'()*+,-./0123456789:;<=>?@ABCDEFGHIJKLMNOPQRSTUVWXYZ[\\]^_`abcdefghijklmnopqrstuvwxyz{|}~\n")), ("MOST_RULES", .int 600), ("MOST_ROW", .int 2000), ("MOST_SIGNS", .int 1000), ("FIGURES", .str (Str.ofString "0123456789")), ("MOST_FIGURES", .int 4), ("MOST_WORD", .int 200)]
noncomputable def ctab (ad : Nat) : Clss := [("Piece", ad, 3, [("size", .arg 0), ("head", .arg 1), ("tail", .arg 2), ("times", .val (.int 0)), ("first", .val .none)])]
end L12
end
section
set_option autoImplicit false
set_option linter.unusedSimpArgs false
set_option linter.unusedVariables false
namespace Lib
open PySem Mine
noncomputable abbrev C2 (ad d : Nat) : Cx := cxN L12.tbl L12.gtab (L12.ctab ad) d
section
variable {C : Cx} {ρ : List (Option V)} {H H' B : AH} {Q : V → Prop} {X X' X'' : String → St → Prop} {b b' r r' : Bl} {t : Tg} {xs : List V} {e : E} {w w' : V}
theorem r1 (he : Ev C ⟨ρ, H', B⟩ e w) (hf : frz H' H 8 w = some w') (q : Q w') : WB C (.cons (.ret e) b) ⟨ρ, H', B⟩ (PK H Q) X := w_ret he (pk_of hf q)
theorem r2 (he : Ev C ⟨ρ, H', B⟩ e w) (hf : frz H' H 8 w = some w') (q : Q w') : WB C (.cons (.ret e) b) ⟨ρ, H', B⟩ (Kn C r (PK H Q) X') X := w_ret he (show PK H Q (.ret w) ⟨ρ, H', B⟩ from pk_of hf q)
end
theorem mapO_same {f : V → Option V} : ∀ {l : List V}, (∀ v ∈ l, f v = some v) → mapO f l = some l
 | [], _ => rfl
 | v :: l, h => by
  show (match f v, mapO f l with
   | some x, some xs => some (x :: xs)
   | _, _ => none) = _
  rw [h v (List.mem_cons_self ..), mapO_same fun u hu => h u (List.mem_cons_of_mem _ hu)]
theorem up_nil {n : Nat} : upL (n : Int) (n : Int) = [] := upL_nil (Int.le_refl _)
theorem up_cons {k n : Nat} (h : k < n) : upL (k : Int) n = .int k :: upL ((k + 1 : Nat) : Int) n := upL_cons (Int.ofNat_lt.mpr h)
theorem nx_lt {k m n : Nat} (e : k + (m + 1) = n) : k < n := e ▸ Nat.lt_add_of_pos_right (Nat.succ_pos m)
theorem nx_eq {k m n : Nat} (e : k + (m + 1) = n) : k + 1 + m = n := (Nat.succ_add_eq_add_succ k m).trans e
theorem small_nat {n : Nat} (h : n ≤ 5000) : smallI (n : Int) := ⟨Int.le_trans (by decide) (Int.natCast_nonneg n), Int.lt_of_le_of_lt (Int.ofNat_le.mpr h) (by decide)⟩
structure Bk (rs : List Rl) (row : List Sy) : Prop where
 r : RulesOk rs
 w : RowOk rs.length row
 n : rs.length ≤ 600
 m : row.length ≤ 2000
section
variable {ad d : Nat} {H : AH} {rs : List Rl} {row : List Sy}
theorem frz_lst {n : Nat} {l : List V} {H' : AH} (h : ∀ v ∈ l, frz H' H n v = some v) : frz H' H (n + 1) (.lst l) = some (.lst l) := by
 show (mapO (frz H' H n) l).map V.lst = _
 rw [mapO_same h]; rfl
theorem frz_ref {n a : Nat} {l : List V} {H' : AH} (h0 : H a = none) (h1 : H' a = some (.list l)) (h : ∀ v ∈ l, frz H' H n v = some v) : frz H' H (n + 1) (.ref a) = some (.lst l) := by
 show (match H a with
  | some _ => some (V.ref a)
  | none => (match H' a with
   | some (.list vs) => (mapO (frz H' H n) vs).map V.lst
   | _ => none)) = _
 rw [h0, h1]
 exact frz_lst (n := n) h
theorem frz_two {n : Nat} {x y x' y' : V} {H' : AH} (h1 : frz H' H n x = some x') (h2 : frz H' H n y = some y') : frz H' H (n + 1) (.tup [x, y]) = some (.tup [x', y']) := by
 show (match frz H' H n x, mapO (frz H' H n) [y] with
  | some x, some xs => some (x :: xs)
  | _, _ => none).map V.tup = _
 have : mapO (frz H' H n) [y] = some [y'] := by
  show (match frz H' H n y, some ([] : List V) with
   | some x, some xs => some (x :: xs)
   | _, _ => none) = _
  rw [h2]
 rw [h1, this]; rfl
theorem fz_sy {n : Nat} {H' : AH} (s : Sy) : frz H' H (n + 1) s.v = some s.v := by cases s <;> rfl
theorem fz_pv {n : Nat} {H' : AH} (p : Rl) : frz H' H (n + 2) (pv p) = some (pv p) := frz_two (fz_sy _) (fz_sy _)
theorem fz_row {n : Nat} {H' : AH} : ∀ v ∈ row.map Sy.v, frz H' H (n + 1) v = some v := fun v hv => by obtain ⟨s, _, rfl⟩ := List.mem_map.mp hv; exact fz_sy s
theorem fz_rules {n : Nat} {H' : AH} : ∀ v ∈ rs.map pv, frz H' H (n + 2) v = some v := fun v hv => by obtain ⟨s, _, rfl⟩ := List.mem_map.mp hv; exact fz_pv s
theorem fz_bk {H' : AH} : frz H' H 8 (bookV rs row) = some (bookV rs row) := frz_two (frz_lst fz_rules) (frz_lst fz_row)
noncomputable def txB : Bl := .cons (.ite (.cmp (.var 1) (.one .notin (.glob "SIGNS"))) (.cons (.ret (.bool false)) .nil) .nil) .nil
theorem tx_loop {Q : V → Prop} {X : String → St → Prop} {v0 : V} (q : Q (.bool true)) : ∀ (l : List Nat) (x : Option V), (∀ c ∈ l, c ∈ SG) → Fo (C2 ad d) (.var 1) txB (.cons (.ret (.bool true)) .nil) (PK H Q) X (l.map fun c => .str ⟨#[c]⟩) ⟨[some v0, x], H, H⟩
 | [], x, _ => fo_nil (r1 ev_bool rfl q)
 | c :: l, x, h => by
  have e : (!hasSub SIGNS ⟨#[c]⟩) = false := by rw [has_sign c (h c (List.mem_cons_self ..))]; rfl
  exact fo_cons (ρ' := [some v0, some (.str ⟨#[c]⟩)]) rfl (w_iff (e ▸ ev_cmp (ev_var rfl) (ec_one (ev_glob (v := .str SIGNS) rfl) fun z' q => q)) (kn_nil (kf_nil (tx_loop q l _ fun c hc => h c (List.mem_cons_of_mem _ hc)))))
theorem tx_ok {l : List Nat} (h : ∀ c ∈ l, c ∈ SG) : Ca (C2 ad (d + 1)) "is_text" [lst l] H (.bool true) := ca_of (fn := L12.F_is_text) rfl rfl (by decide) fun Q X q => w_iff (fun z' z' q => q) (kn_nil (w_for (ei_seq (vs := l.map fun c => .str ⟨#[c]⟩) (ev_var rfl) rfl) (.inl rfl) (tx_loop q l none h)))
theorem pair_no {C : Cx} {ρ : List (Option V)} {B : AH} {a b : V} (h : ρ[0]? = some (some (.tup [a, b]))) : Ev C ⟨ρ, H, B⟩ (.or (.not (.isinst (.var 0) .tuple)) (.cmp (.len (.var 0)) (.one .ne (.int 2)))) (.bool false) := ev_or (p := false) (q := false) (ev_not (b := true) (ev_isi (ev_var h) rfl)) fun z' => ev_cmp (ev_len (n := 2) (ev_var h) rfl) (ec_one ev_int cm_ne)
theorem wh_ch {s : Str} : Ca (C2 ad (d + 1)) "is_whole" [.str s] H (.bool false) := ca_of (fn := L12.F_is_whole) rfl rfl (by decide) fun z' z' q => q
theorem wh_nt {i : Int} : Ca (C2 ad (d + 1)) "is_whole" [.int i] H (.bool true) := ca_of (fn := L12.F_is_whole) rfl rfl (by decide) fun z' z' q => q
theorem sy_ok {s : Sy} {n : Nat} (h : s.ok n) : Ca (C2 ad (d + 2)) "is_symbol" [s.v, .int n] H (.bool true) := ca_of (fn := L12.F_is_symbol) rfl rfl (by decide) fun Q X q => by
 cases s with
 | ch c => exact w_iff (fun z' z' q => wh_ch _ _ q) (kn_nil (r1 (ev_and (p := true) (q := true) (fun z' z' q => tx_ok (l := [c]) (fun x hx => List.mem_singleton.mp hx ▸ h) _ _ q) fun z' => ev_cmp (ev_len (n := 1) (ev_var rfl) rfl) (ec_one ev_int cm_eq)) rfl q))
 | ru k =>
  have q : Q (.bool (decide ((0 : Int) ≤ k) && decide ((k : Int) < n))) := by rw [decide_eq_true (Int.natCast_nonneg k), decide_eq_true (Int.ofNat_lt.mpr h)]; exact q
  exact w_ift (fun z' z' q => wh_nt _ _ q) (r2 (ev_cmp ev_int (ec_more (ev_var rfl) cm_le fun z' => ec_one (ev_var rfl) cm_lt)) rfl q)
theorem ru_ok {p : Rl} {n : Nat} (h : p.1.ok n ∧ p.2.ok n) : Ca (C2 ad (d + 3)) "is_rule" [pv p, .int n] H (.bool true) := ca_of (fn := L12.F_is_rule) rfl rfl (by decide) fun Q X q => w_iff (pair_no rfl) (kn_nil (r1 (w := .bool true) (fun z' z' q => sy_ok h.1 _ _ (sy_ok h.2 _ _ q)) rfl q))
section
variable {Q : Fl → St → Prop} {X : String → St → Prop} {r : Bl} {v0 v2 : V}
noncomputable def nbR : Bl := .cons (.ite (.not (.call "is_rule" (.cons (.sub (.var 1) (.var 3)) (.cons (.var 3) .nil)))) (.cons (.raise "NoBook" (.str (Str.ofString "no rule"))) .nil) .nil) .nil
noncomputable def nbS : Bl := .cons (.ite (.not (.call "is_symbol" (.cons (.var 4) (.cons (.len (.var 1)) .nil)))) (.cons (.raise "NoBook" (.str (Str.ofString "no symbol"))) .nil) .nil) .nil
theorem lp_ru (h : RulesOk rs) (hr : ∀ x, WB (C2 ad (d + 3)) r ⟨[some v0, some (.lst (rs.map pv)), some v2, x, none], H, H⟩ Q X) : ∀ (m k : Nat) (x : Option V), k + m = rs.length → Fo (C2 ad (d + 3)) (.var 3) nbR r Q X (upL k rs.length) ⟨[some v0, some (.lst (rs.map pv)), some v2, x, none], H, H⟩
 | 0, k, x, e => by rw [upL_nil (by omega)]; exact fo_nil (hr x)
 | m + 1, k, x, e => by
  have hk : k < rs.length := by omega
  have hg := List.getElem?_eq_getElem hk
  rw [upL_cons (Int.ofNat_lt.mpr hk)]
  exact fo_cons (ρ' := [some v0, some (.lst (rs.map pv)), some v2, some (.int k), none]) rfl (w_iff (fun z' z' q => sb_lst (H := H) (by rw [List.getElem?_map, hg]; rfl) _ (ru_ok (h k _ hg) _ _ q)) (kn_nil (kf_nil (lp_ru h hr m (k + 1) _ (by omega)))))
theorem lp_sy {x3 : Option V} (hr : ∀ x, WB (C2 ad (d + 3)) r ⟨[some v0, some (.lst (rs.map pv)), some v2, x3, x], H, H⟩ Q X) : ∀ (ks : List Sy) (x : Option V), RowOk rs.length ks → Fo (C2 ad (d + 3)) (.var 4) nbS r Q X (ks.map Sy.v) ⟨[some v0, some (.lst (rs.map pv)), some v2, x3, x], H, H⟩
 | [], x, _ => fo_nil (hr x)
 | k :: ks, x, h => fo_cons (ρ' := [some v0, some (.lst (rs.map pv)), some v2, x3, some k.v]) rfl (w_iff (ev_not (b := true) (ev_call (evs_cons (ev_var rfl) (evs_cons (ev_len (n := rs.length) (ev_var rfl) (show some (rs.map pv).length = _ from congrArg some (List.length_map ..))) evs_nil)) (sy_ok (d := d + 1) (h k (List.mem_cons_self ..))))) (kn_nil (kf_nil (lp_sy hr ks _ fun j hj => h j (List.mem_cons_of_mem _ hj)))))
end
theorem ca_need (h : Bk rs row) : Ca (C2 ad (d + 4)) "need_book" [bookV rs row] H (bookV rs row) := ca_of (fn := L12.F_need_book) rfl rfl (by decide) fun Q X q => by
 have h1 := h.n
 have h2 := h.m
 have hl : (rs.map pv).length = rs.length := List.length_map ..
 have hl2 : (row.map Sy.v).length = row.length := List.length_map ..
 refine w_iff (pair_no rfl) (kn_nil (w_asg (w := .lst (rs.map pv)) (fun z' z' q => q) rfl (w_asg (w := .lst (row.map Sy.v)) (fun z' z' q => q) rfl (w_iff (fun z' z' q => q) (kn_nil (w_iff ?_ (kn_nil (w_for (ei_range1 (ev_len (n := rs.length) (ev_var rfl) (congrArg some hl)) (small_nat (Nat.le_trans h.n (by decide)))) (.inr nofun) (lp_ru h.r (fun x => ?_) rs.length 0 _ (Nat.zero_add _))))))))))
 ·exact ev_or (p := false) (q := false) (decide_eq_false (show ¬ ((rs.length : Int) > 600) by omega) ▸ ev_cmp (ev_len (ev_var rfl) (congrArg some hl)) (ec_one (fun z' z' q => q) cm_gt)) fun z' => decide_eq_false (show ¬ ((row.length : Int) > 2000) by omega) ▸ ev_cmp (ev_len (ev_var rfl) (congrArg some hl2)) (ec_one (fun z' z' q => q) cm_gt)
 ·exact w_for (xs := row.map Sy.v) (ds := []) (fun z' z' q => q) (.inr nofun) (lp_sy (fun x => r1 (ev_var rfl) fz_bk q) _ _ h.w)
theorem Sb.of {u : V} {vs : List V} {k : Nat} {w : V} (hu : seqL H u = some vs) (hk : vs[k]? = some w) : Sb H u (.int k) w := fun z' q => sub_seq hu hk q
theorem lof_ch {c : Nat} {u : V} : Ca (C2 ad (d + 1)) "length_of" [.str ⟨#[c]⟩, u] H (.int 1) := ca_of (fn := L12.F_length_of) rfl rfl (by decide) fun z' z' q => q
theorem lof_ru {k : Nat} {u : V} {i : Int} (h : Sb H u (.int k) (.int i)) : Ca (C2 ad (d + 1)) "length_of" [.int k, u] H (.int i) := ca_of (fn := L12.F_length_of) rfl rfl (by decide) fun Q X q => h _ q
theorem ho_ch {c : Nat} {u : V} : Ca (C2 ad (d + 1)) "height_of" [.str ⟨#[c]⟩, u] H (.int 0) := ca_of (fn := L12.F_height_of) rfl rfl (by decide) fun z' z' q => q
theorem ho_ru {k : Nat} {u : V} {i : Int} (h : Sb H u (.int k) (.int i)) : Ca (C2 ad (d + 1)) "height_of" [.int k, u] H (.int i) := ca_of (fn := L12.F_height_of) rfl rfl (by decide) fun Q X q => h _ q
theorem szv_at {ts : List (List Nat)} {k : Nat} (h : k < ts.length) : (szv ts)[k]? = some (.int (tx ts (.ru k)).length) := by simp [szv, tx, List.getD, List.getElem?_eq_getElem h]
theorem lof {s : Sy} {u : V} {ts : List (List Nat)} (hu : seqL H u = some (szv ts)) (hs : s.ok ts.length) : Ca (C2 ad (d + 1)) "length_of" [s.v, u] H (.int (tx ts s).length) := match s with
 | .ch _ => lof_ch
 | .ru _ => lof_ru (.of hu (szv_at hs))
theorem nv_at {hs : List Nat} {k : Nat} (h : k < hs.length) : (nv hs)[k]? = some (.int (ht hs (.ru k))) := by simp [nv, ht, List.getD, List.getElem?_eq_getElem h]
theorem hof {s : Sy} {u : V} {hs : List Nat} (hu : seqL H u = some (nv hs)) (h : s.ok hs.length) : Ca (C2 ad (d + 1)) "height_of" [s.v, u] H (.int (ht hs s)) := match s with
 | .ch _ => ho_ch
 | .ru _ => ho_ru (.of hu (nv_at h))
theorem fz_szv {n : Nat} {H' : AH} {ts : List (List Nat)} : ∀ v ∈ szv ts, frz H' H (n + 1) v = some v := fun v hv => by obtain ⟨s, _, rfl⟩ := List.mem_map.mp hv; rfl
theorem sl {n : Nat} (h : n ≤ 5000) : n < sizeLine := Nat.lt_of_le_of_lt h (Nat.blt_eq.mp rfl)
theorem at_pre {α : Type} {pre r : List α} {p : α} {l : List α} (e : pre ++ p :: r = l) : l[pre.length]? = some p := by rw [← e]; simp
theorem pre_le {α : Type} {pre r : List α} {p : α} {l : List α} (e : pre ++ p :: r = l) : pre.length < l.length := (List.getElem?_eq_some_iff.mp (at_pre e)).1
theorem cat1 {α : Type} {pre r : List α} {p : α} {l : List α} (e : pre ++ p :: r = l) : (pre ++ [p]) ++ r = l := by rw [← e, List.append_assoc]; rfl
theorem cat0 {α : Type} {pre l : List α} (e : pre ++ [] = l) : pre = l := by rw [← e, List.append_nil]
theorem okT {pre r : List Rl} {p : Rl} (hr : RulesOk rs) (e : pre ++ p :: r = rs) : p.1.ok (Tx pre).length ∧ p.2.ok (Tx pre).length := by rw [Tx_length]; exact hr _ _ (at_pre e)
noncomputable def lensB : Bl := .cons (.append (.var 1) (.pure (.bin .add (.call "length_of" (.cons (.sub (.var 2) (.int 0)) (.cons (.var 1) .nil))) (.call "length_of" (.cons (.sub (.var 2) (.int 1)) (.cons (.var 1) .nil)))))) .nil
theorem lens_loop {Q : V → Prop} {X : String → St → Prop} {bk : V} {a : Nat} (hr : RulesOk rs) (hn : rs.length ≤ 600) (hB : H a = none) (q : Q (.lst (szv (Tx rs)))) : ∀ (r pre : List Rl) (H' : AH) (x : Option V), pre ++ r = rs → H' a = some (.list (szv (Tx pre))) →
  Fo (C2 ad (d + 1)) (.var 2) lensB (.cons (.ret (.var 1)) .nil) (PK H Q) X (r.map pv) ⟨[some bk, some (.ref a), x], H', H⟩
 | [], pre, H', x, e, ha => fo_nil (w_ret (w := .ref a) (fun z' z' q => q) (pk_of (frz_ref hB ha fz_szv) (cat0 e ▸ q)))
 | p :: r, pre, H', x, e, ha => by
  have o := okT hr e
  have hl := pre_le e
  refine fo_cons (ρ' := [some bk, some (.ref a), some (pv p)]) rfl (w_app rfl ha hB (fun z' z' q => lof (seq_ref ha) o.1 _ _ (lof (seq_ref ha) o.2 _ _ q)) (sl (by rw [szv_length, Tx_length]; omega)) (kf_nil (lens_loop hr hn hB q r (pre ++ [p]) _ _ (cat1 e) ?_)))
  rw [szv_snoc]; exact upd_eq
theorem ca_lens (h : Bk rs row) : Ca (C2 ad (d + 5)) "lengths" [bookV rs row] H (.lst (szv (Tx rs))) := ca_of (fn := L12.F_lengths) rfl rfl (by decide) fun Q X q => w_exp (w := bookV rs row) (fun z' z' q => ca_need h _ _ q) (w_own0 rfl fun a h1 h2 => w_for (xs := rs.map pv) (ds := []) (fun z' z' q => q) (.inr nofun) (lens_loop (d := d + 3) h.r h.n h2 q rs [] _ none rfl upd_eq))
theorem ev_tot (h : Bk rs row) : Ev (C2 ad (d + 1)) ⟨[some (bookV rs row), some (.lst (szv (Tx rs))), none], H, H⟩ (.sum (.comp (.call "length_of" (.cons (.var 2) (.cons (.var 1) .nil))) (.var 2) (.seq (.sub (.var 0) (.int 1))))) (.int (bt rs row).length) := by
 have e := ev_comp (C := C2 ad (d + 1)) (ρ := [some (bookV rs row), some (.lst (szv (Tx rs))), none]) (H := H) (B := H) (elt := .call "length_of" (.cons (.var 2) (.cons (.var 1) .nil))) (i := 2) (it := .seq (.sub (.var 0) (.int 1))) (v := Sy.v) (g := fun s => V.int (tx (Tx rs) s).length) (r := row) (ds := []) (fun z' z' q => q) (Nat.le_of_lt (sl (Nat.le_trans h.m (by decide)))) (Nat.lt_succ_self 2) fun s hs => fun z' z' q => lof rfl (by rw [Tx_length]; exact h.w s hs) _ _ q
 exact bt_sum (rs := rs) row ▸ ev_sum e rfl (ints_map row)
theorem ca_total (h : Bk rs row) : Ca (C2 ad (d + 2)) "total_of" [bookV rs row, .lst (szv (Tx rs))] H (.int (bt rs row).length) := ca_of (fn := L12.F_total_of) rfl rfl (by decide) fun Q X q => r1 (ev_tot h) rfl q
theorem ca_length (h : Bk rs row) : Ca (C2 ad (d + 6)) "length" [bookV rs row] H (.int (bt rs row).length) := ca_of (fn := L12.F_length) rfl rfl (by decide) fun Q X q => w_asg (fun z' z' q => ca_lens h _ _ q) rfl (r1 (ev_tot (d := d + 4) h) rfl q)
noncomputable def dpB : Bl := .cons (.append (.var 1) (.pure (.bin .add (.int 1) (.max2 (.call "height_of" (.cons (.sub (.var 2) (.int 0)) (.cons (.var 1) .nil))) (.call "height_of" (.cons (.sub (.var 2) (.int 1)) (.cons (.var 1) .nil))))))) .nil
noncomputable def dpR : Bl := .cons (.ret (.maxd (.comp (.call "height_of" (.cons (.var 3) (.cons (.var 1) .nil))) (.var 3) (.seq (.sub (.var 0) (.int 1)))) (.int 0))) .nil
theorem dp_ret {Q : V → Prop} {X : String → St → Prop} {a : Nat} {x : Option V} {H' : AH} (h : Bk rs row) (ha : H' a = some (.list (nv (Hts rs)))) (q : Q (.int (dp rs row))) : WB (C2 ad (d + 1)) dpR ⟨[some (bookV rs row), some (.ref a), x, none], H', H⟩ (PK H Q) X := by
 have e := ev_comp (C := C2 ad (d + 1)) (ρ := [some (bookV rs row), some (.ref a), x, none]) (H := H') (B := H) (elt := .call "height_of" (.cons (.var 3) (.cons (.var 1) .nil))) (i := 3) (it := .seq (.sub (.var 0) (.int 1))) (v := Sy.v) (g := fun s => V.int (ht (Hts rs) s : Nat)) (r := row) (ds := []) (fun z' z' q => q) (Nat.le_of_lt (sl (Nat.le_trans h.m (by decide)))) (Nat.lt_succ_self 3) fun s hs => fun z' z' q => hof (seq_ref ha) (by rw [Hts_length]; exact h.w s hs) _ _ q
 refine r1 (w := .int (dp rs row)) (fun Q' X' q' => e (fun u => WE (C2 ad (d + 1)) (.int 0) ⟨[some (bookV rs row), some (.ref a), x, none], H', H⟩ (fun v => maxD H' u v Q') X') X' ?_) rfl q
 show intsP (row.map fun s => V.int (ht (Hts rs) s : Nat)) fun is => Q' (match is with
  | [] => .int 0
  | i :: r => .int (maxI i r))
 rw [ints_p]
 unfold dp at q'
 generalize (row.map fun s => ((ht (Hts rs) s : Nat) : Int)) = L at q' ⊢
 cases L <;> exact q'
theorem dp_loop {Q : V → Prop} {X : String → St → Prop} {a : Nat} (h : Bk rs row) (hB : H a = none) (q : Q (.int (dp rs row))) : ∀ (r pre : List Rl) (H' : AH) (x : Option V), pre ++ r = rs → H' a = some (.list (nv (Hts pre))) →
  Fo (C2 ad (d + 1)) (.var 2) dpB dpR (PK H Q) X (r.map pv) ⟨[some (bookV rs row), some (.ref a), x, none], H', H⟩
 | [], pre, H', x, e, ha => fo_nil (dp_ret h (cat0 e ▸ ha) q)
 | p :: r, pre, H', x, e, ha => by
  have o := h.r _ _ (at_pre e)
  rw [← Hts_length pre] at o
  have hl := pre_le e
  have hn := h.n
  refine fo_cons (ρ' := [some (bookV rs row), some (.ref a), some (pv p), none]) rfl (w_app rfl ha hB (ev_add ev_int (ev_max2 (fun z' z' q => hof (seq_ref ha) o.1 _ _ q) (fun z' z' q => hof (seq_ref ha) o.2 _ _ q))) (sl (by rw [nv_length, Hts_length]; omega)) (kf_nil (dp_loop h hB q r (pre ++ [p]) _ _ (cat1 e) ?_)))
  rw [Hts_snoc, ← nv_snoc, show ((1 + max (ht (Hts pre) p.1) (ht (Hts pre) p.2) : Nat) : Int) = 1 + max (ht (Hts pre) p.1 : Int) (ht (Hts pre) p.2 : Int) from by omega]; exact upd_eq
theorem ca_depth (h : Bk rs row) : Ca (C2 ad (d + 5)) "depth" [bookV rs row] H (.int (dp rs row)) := ca_of (fn := L12.F_depth) rfl rfl (by decide) fun Q X q => w_exp (w := bookV rs row) (fun z' z' q => ca_need h _ _ q) (w_own0 rfl fun a h1 h2 => w_for (xs := rs.map pv) (ds := []) (fun z' z' q => q) (.inr nofun) (dp_loop (d := d + 3) h h2 q rs [] _ none rfl upd_eq))
end
end Lib
end
section
set_option autoImplicit false
set_option linter.unusedSimpArgs false
set_option linter.unusedVariables false
namespace Lib
open PySem Mine
noncomputable def s1 (m : Nat) (f : Nat → Int) : Sy → Nat → Int
 | .ch _ => f
 | .ru j => up f j (f j + f m)
noncomputable def s2 (rs : List Rl) (m : Nat) (f : Nat → Int) : Nat → Int := [(rl rs m).1, (rl rs m).2].foldl (s1 m) f
noncomputable def run (rs : List Rl) : Nat → (Nat → Int) → Nat → Int
 | 0, f => f
 | m + 1, f => run rs m (s2 rs m f)
section
variable {ad d : Nat} {H : AH} {rs : List Rl} {row : List Sy}
theorem rl_get {m : Nat} (h : m < rs.length) : rs[m]? = some (rl rs m) := by simp [rl, List.getD, List.getElem?_eq_getElem h]
theorem sb_rl {m : Nat} (h : m < rs.length) : Sb H (.lst (rs.map pv)) (.int m) (pv (rl rs m)) := sb_lst (by rw [List.getElem?_map, rl_get h]; rfl)
theorem fz_fl {n k : Nat} {f : Nat → Int} {H' : AH} : ∀ v ∈ fl n f, frz H' H (k + 1) v = some v := fun v hv => by obtain ⟨s, _, rfl⟩ := List.mem_map.mp hv; rfl
section
variable {Q : Fl → St → Prop} {X : String → St → Prop} {r : Bl} {v0 v1 : V} {x4 x5 : Option V} {a n : Nat}
noncomputable def usA : Bl := .cons (.ite (.call "is_whole" (.cons (.var 3) .nil)) (.cons (.setitem (.var 2) (.var 3) (.bin .add (.sub (.var 2) (.var 3)) (.int 1))) .nil) .nil) .nil
noncomputable def usB : Bl := .cons (.ite (.call "is_whole" (.cons (.var 3) .nil)) (.cons (.setitem (.var 2) (.var 3) (.bin .add (.sub (.var 2) (.var 3)) (.sub (.var 2) (.var 4)))) .nil) .nil) .nil
theorem cn_snoc {pre : List Sy} {s : Sy} : cn (pre ++ [s]) = fun j => cn pre j + mt s j 1 := funext fun j => by simp [cn]
theorem us_row (hB : H a = none) (hr : ∀ x H', H' a = some (.list (fl n (cn row))) → WB (C2 ad (d + 1)) r ⟨[some v0, some v1, some (.ref a), x, x4, x5], H', H⟩ Q X) : ∀ (ss pre : List Sy) (x : Option V) (H' : AH), pre ++ ss = row → RowOk n ss → H' a = some (.list (fl n (cn pre))) → Fo (C2 ad (d + 1)) (.var 3) usA r Q X (ss.map Sy.v) ⟨[some v0, some v1, some (.ref a), x, x4, x5], H', H⟩
 | [], pre, x, H', e, _, ha => fo_nil (hr x H' (cat0 e ▸ ha))
 | .ch c :: ss, pre, x, H', e, o, ha => fo_cons (ρ' := [some v0, some v1, some (.ref a), some (.str ⟨#[c]⟩), x4, x5]) rfl (w_iff (fun z' z' q => wh_ch _ _ q) (kn_nil (kf_nil (us_row hB hr ss (pre ++ [.ch c]) _ _ (cat1 e) (fun s hs => o s (List.mem_cons_of_mem _ hs)) (by rw [cn_snoc, show (fun j => cn pre j + mt (.ch c) j 1) = cn pre from funext fun j => Int.add_zero _]; exact ha)))))
 | .ru k :: ss, pre, x, H', e, o, ha => by
  have hk : k < n := o _ (List.mem_cons_self ..)
  refine fo_cons (ρ' := [some v0, some v1, some (.ref a), some (.int k), x4, x5]) rfl (w_ift (fun z' z' q => wh_nt _ _ q) (w_set (ev_add (ev_sub (ev_var rfl) (ev_var rfl) (sb_ref ha (fl_get hk))) ev_int) rfl (ev_var rfl) ha hB (by rw [fl_length]; exact hk) (kn_nil (kf_nil (us_row hB hr ss (pre ++ [.ru k]) _ _ (cat1 e) (fun s hs => o s (List.mem_cons_of_mem _ hs)) ?_)))))
  rw [fl_set hk, up_add, ← cn_snoc]; exact upd_eq
theorem us_in {m : Nat} (hB : H a = none) (hm : m < n) : ∀ (ss : List Sy) (f : Nat → Int) (x : Option V) (H' : AH), RowOk n ss → H' a = some (.list (fl n f)) → (∀ x H', H' a = some (.list (fl n (ss.foldl (s1 m) f))) → WB (C2 ad (d + 1)) r ⟨[some v0, some v1, some (.ref a), x, some (.int m), x5], H', H⟩ Q X) → Fo (C2 ad (d + 1)) (.var 3) usB r Q X (ss.map Sy.v) ⟨[some v0, some v1, some (.ref a), x, some (.int m), x5], H', H⟩
 | [], f, x, H', _, ha, hr => fo_nil (hr x H' ha)
 | .ch c :: ss, f, x, H', o, ha, hr => fo_cons (ρ' := [some v0, some v1, some (.ref a), some (.str ⟨#[c]⟩), some (.int m), x5]) rfl (w_iff (fun z' z' q => wh_ch _ _ q) (kn_nil (kf_nil (us_in hB hm ss f _ _ (fun s hs => o s (List.mem_cons_of_mem _ hs)) ha hr))))
 | .ru k :: ss, f, x, H', o, ha, hr => by
  have hk : k < n := o _ (List.mem_cons_self ..)
  refine fo_cons (ρ' := [some v0, some v1, some (.ref a), some (.int k), some (.int m), x5]) rfl (w_ift (fun z' z' q => wh_nt _ _ q) (w_set (ev_add (ev_sub (ev_var rfl) (ev_var rfl) (sb_ref ha (fl_get hk))) (ev_sub (ev_var rfl) (ev_var rfl) (sb_ref ha (fl_get hm)))) rfl (ev_var rfl) ha hB (by rw [fl_length]; exact hk) (kn_nil (kf_nil (us_in hB hm ss (up f k (f k + f m)) _ _ (fun s hs => o s (List.mem_cons_of_mem _ hs)) ?_ hr)))))
  rw [fl_set hk]; exact upd_eq
theorem rl_row {m : Nat} (hr : RulesOk rs) (h : m < rs.length) : RowOk rs.length [(rl rs m).1, (rl rs m).2] := fun s hs => by
 have o := rl_ok hr h
 rcases List.mem_cons.mp hs with rfl | hs
 ·exact o.1.mono (Nat.le_of_lt h)
 ·rw [List.mem_singleton.mp hs]; exact o.2.mono (Nat.le_of_lt h)
end
variable {Q : V → Prop} {X : String → St → Prop} {a : Nat} {x5 : Option V} {v0 : V}
noncomputable def retF : Bl := .cons (.ret (.var 2)) .nil
theorem us_ret {ρ : List (Option V)} {H' : AH} {f : Nat → Int} {n : Nat} (h2 : ρ[2]? = some (some (.ref a))) (hB : H a = none) (ha : H' a = some (.list (fl n f))) (q : Q (.lst (fl n f))) : WB (C2 ad d) retF ⟨ρ, H', H⟩ (PK H Q) X := r1 (ev_var h2) (frz_ref hB ha fz_fl) q
theorem us_dn (hr : RulesOk rs) (hB : H a = none) : ∀ (m : Nat) (f : Nat → Int) (x y : Option V) (H' : AH), m ≤ rs.length → H' a = some (.list (fl rs.length f)) → Q (.lst (fl rs.length (run rs m f))) →
  Fo (C2 ad (d + 1)) (.var 4) (.cons (.for (.var 3) (.seq (.sub (.var 1) (.var 4))) usB) .nil) retF (PK H Q) X (downL ((m : Int) - 1) (-1)) ⟨[some v0, some (.lst (rs.map pv)), some (.ref a), x, y, x5], H', H⟩
 | 0, f, x, y, H', hm, ha, q => by rw [show downL (((0 : Nat) : Int) - 1) (-1) = [] from downL_nil]; exact fo_nil (us_ret rfl hB ha q)
 | m + 1, f, x, y, H', hm, ha, q => by
  rw [show (((m + 1 : Nat) : Int) - 1) = (m : Int) by omega, downL_cons]
  exact fo_cons (ρ' := [some v0, some (.lst (rs.map pv)), some (.ref a), x, some (.int m), x5]) rfl (w_for (xs := [(rl rs m).1.v, (rl rs m).2.v]) (ds := []) (fun z' z' q => sb_rl (H := H') hm _ q) (.inr nofun) (us_in hB hm [(rl rs m).1, (rl rs m).2] f _ _ (rl_row hr hm) ha fun x H' ha => kf_nil (us_dn hr hB m _ _ _ _ (Nat.le_of_lt hm) ha q)))
theorem fl_zero {α : Type} {l : List α} {n : Nat} (h : l.length = n) : l.map (fun z' => V.int 0) = fl n fun z' => 0 := by
 rw [List.map_const', h]; simp [fl, List.map_const']
theorem ca_uses (h : Bk rs row) : Ca (C2 ad (d + 5)) "uses" [bookV rs row] H (.lst (fl rs.length (run rs rs.length (cn row)))) := ca_of (fn := L12.F_uses) rfl rfl (by decide) fun Q X q => by
 have hn := h.n
 have hl : (rs.map pv).length = rs.length := List.length_map ..
 have e := ev_comp (C := C2 ad (d + 4)) (ρ := [some (bookV rs row), some (.lst (rs.map pv)), none, none, none, none]) (H := H) (B := H) (elt := .int 0) (i := 5) (it := .seq (.var 1)) (v := pv) (g := fun z' => V.int 0) (r := rs) (ds := []) (fun z' z' q => q) (Nat.le_of_lt (sl (by omega))) (Nat.lt_succ_self 5) fun s hs => ev_int
 rw [fl_zero rfl] at e
 exact w_exp (w := bookV rs row) (fun z' z' q => ca_need h _ _ q) (w_asg (w := .lst (rs.map pv)) (fun z' z' q => q) rfl (w_thaw e rfl fun a h1 h2 => w_for (xs := row.map Sy.v) (ds := []) (fun z' z' q => q) (.inr nofun) (us_row (d := d + 3) (v0 := bookV rs row) (v1 := .lst (rs.map pv)) (x4 := none) (x5 := none) h2 (fun x H' ha => w_for (xs := downL ((rs.length : Int) - 1) (-1)) (ds := []) (ei_range3 (ev_sb (ev_len (u := .lst (rs.map pv)) (ev_var rfl) (congrArg some hl)) ev_int) (ev_neg ev_int) (ev_neg ev_int) ⟨by omega, by omega⟩ ⟨by decide, by decide⟩) (.inr nofun) (us_dn h.r h2 rs.length _ _ _ _ (Nat.le_refl _) ha q)) row [] _ _ rfl h.w upd_eq)))
end
end Lib
end
section
set_option autoImplicit false
set_option linter.unusedSimpArgs false
set_option linter.unusedVariables false
namespace Lib
open PySem Mine
theorem ge_t {n m : Nat} (h : m ≤ n) : decide ((n : Int) ≥ m) = true := decide_eq_true (Int.ofNat_le.mpr h)
theorem ge_f {n m : Nat} (h : n < m) : decide ((n : Int) ≥ m) = false := decide_eq_false (Int.not_le.mpr (Int.ofNat_lt.mpr h))
theorem le2 {x y : V} : [x, y].length ≤ sizeLine := Nat.le_of_ble_eq_true rfl
theorem ev_sbN {C : Cx} {st : St} {a b : E} {n m : Nat} (ha : Ev C st a (.int (n + m : Nat))) (hb : Ev C st b (.int n)) : Ev C st (.bin .sub a b) (.int m) := by
 have := ev_sb ha hb
 rwa [show ((n + m : Nat) : Int) - n = m by omega] at this
section
variable {ad d : Nat} {H : AH} {rs : List Rl} {row pre post : List Sy} {s : Sy} {Q : V → Prop} {X : String → St → Prop}
theorem fz_nv {n : Nat} {l : List Nat} {H' : AH} : ∀ v ∈ nv l, frz H' H (n + 1) v = some v := fun v hv => by obtain ⟨s, _, rfl⟩ := List.mem_map.mp hv; rfl
theorem sb_row {k : Nat} (h : row[k]? = some s) : Sb H (.lst (row.map Sy.v)) (.int k) s.v := sb_lst (by rw [List.getElem?_map, h]; rfl)
theorem sb_rule {k : Nat} {a b : Sy} (h : rs[k]? = some (a, b)) : Sb H (.lst (rs.map pv)) (.int k) (pv (a, b)) := sb_lst (by rw [List.getElem?_map, h]; rfl)
noncomputable def sgW : E := .not (.isinst (.var 4) .str)
noncomputable def sgI : Bl := .cons (.ite (.cmp (.var 1) (.one .ge (.var 7))) (.cons (.assign (.var 1) (.bin .sub (.var 1) (.var 7))) (.cons (.assign (.var 4) (.sub (.var 6) (.int 1))) .nil)) .nil) .nil
noncomputable def sgB : Bl := .cons (.append (.var 5) (.pure (.var 4))) (.cons (.assign (.var 6) (.sub (.sub (.var 0) (.int 0)) (.var 4))) (.cons (.assign (.var 7) (.call "length_of" (.cons (.sub (.var 6) (.int 0)) (.cons (.var 2) .nil)))) (.cons (.assign (.var 4) (.sub (.var 6) (.int 0))) sgI)))
noncomputable def sgR : Bl := .cons (.ret (.tup (.cons (.var 4) (.cons (.var 5) .nil)))) .nil
theorem sg_rule {k m : Nat} {a b : Sy} {acc : List Nat} {at' y z : Option V} {i : V} {ad' : Nat} {H' : AH} (hr : RulesOk rs) (hB : H ad' = none) (hg : rs[k]? = some (a, b)) (ha : H' ad' = some (.list (nv acc))) (hl : acc.length < 600)
  (h : ∀ H', H' ad' = some (.list (nv (acc ++ [k]))) → WB (C2 ad (d + 1)) sgI ⟨[some (bookV rs row), some i, some (.lst (szv (Tx rs))), at', some a.v, some (.ref ad'), some (pv (a, b)), some (.int (tx (Tx rs) a).length)], H', H⟩ (Kw (C2 ad (d + 1)) sgW sgB sgR (PK H Q) X m) X) :
  Wh (C2 ad (d + 1)) sgW sgB sgR (PK H Q) X (m + 1) ⟨[some (bookV rs row), some i, some (.lst (szv (Tx rs))), at', some (.int k), some (.ref ad'), y, z], H', H⟩ := by
 have o := hr k _ hg
 have hk := (List.getElem?_eq_some_iff.mp hg).1
 refine wh_step (fun z' z' q => q) (w_app rfl ha hB (ev_var rfl) (sl (by rw [nv_length]; omega)) (w_asg (w := pv (a, b)) (fun z' z' q => sb_rule (H := H) hg _ q) rfl (w_asg (w := .int (tx (Tx rs) a).length) (fun z' z' q => lof rfl (by rw [Tx_length]; exact o.1.mono (Nat.le_of_lt hk)) _ _ q) rfl (w_asg (w := a.v) (fun z' z' q => q) rfl (h _ ?_)))))
 rw [← nv_snoc]; exact upd_eq
theorem sg_loop {at' : Option V} {p c a : Nat} {l : List Nat} (hr : RulesOk rs) (hB : H a = none) (w : Way rs s p c l) : ∀ (acc : List Nat) (y z : Option V) (H' : AH), acc.length + l.length ≤ 600 → H' a = some (.list (nv acc)) → Q (.tup [.str ⟨#[c]⟩, .lst (nv (acc ++ l))]) →
  Wh (C2 ad (d + 1)) sgW sgB sgR (PK H Q) X (l.length + 1) ⟨[some (bookV rs row), some (.int p), some (.lst (szv (Tx rs))), at', some s.v, some (.ref a), y, z], H', H⟩ := by
 induction w with
 | ch => exact fun acc y z H' hl ha q => wh_end (fun z' z' q => q) (r1 (w := .tup [.str ⟨#[_]⟩, .ref a]) (fun z' z' q => ⟨le2, q⟩) (frz_two rfl (frz_ref hB ha fz_nv)) (List.append_nil acc ▸ q))
 | left k a' b' p c l hg hp w ih => exact fun acc y z H' hl ha q => sg_rule hr hB hg ha (by simp at hl; omega) fun H' ha => w_iff (ge_f hp ▸ ev_cmp (ev_var rfl) (ec_one (ev_var rfl) cm_ge)) (kn_nil (kw_nil (ih (acc ++ [k]) _ _ _ (by simp at hl ⊢; omega) ha (by rw [List.append_assoc]; exact q))))
 | right k a' b' p c l hg hp w ih => exact fun acc y z H' hl ha q => sg_rule hr hB hg ha (by simp at hl; omega) fun H' ha => w_ift (ge_t (Nat.le_add_right _ _) ▸ ev_cmp (ev_var rfl) (ec_one (ev_var rfl) cm_ge)) (w_asg (w := .int p) (ev_sbN (ev_var rfl) (ev_var rfl)) rfl (w_asg (w := b'.v) (fun z' z' q => q) rfl (kn_nil (kw_nil (ih (acc ++ [k]) _ _ _ (by simp at hl ⊢; omega) ha (by rw [List.append_assoc]; exact q))))))
noncomputable def sgT : E := .cmp (.var 1) (.one .ge (.call "length_of" (.cons (.sub (.sub (.var 0) (.int 1)) (.var 3)) (.cons (.var 2) .nil))))
noncomputable def sgA : Bl := .cons (.assign (.var 1) (.bin .sub (.var 1) (.call "length_of" (.cons (.sub (.sub (.var 0) (.int 1)) (.var 3)) (.cons (.var 2) .nil))))) (.cons (.assign (.var 3) (.bin .add (.var 3) (.int 1))) .nil)
theorem ev_lofR {k : Nat} {i : V} (h : Bk rs row) (hg : row[k]? = some s) : Ev (C2 ad (d + 1)) ⟨[some (bookV rs row), some i, some (.lst (szv (Tx rs))), some (.int k), none, none, none, none], H, H⟩ (.call "length_of" (.cons (.sub (.sub (.var 0) (.int 1)) (.var 3)) (.cons (.var 2) .nil))) (.int (tx (Tx rs) s).length) := fun z' z' q => sb_row (H := H) hg _ (lof rfl (by rw [Tx_length]; exact h.w _ (List.mem_of_getElem? hg)) _ _ q)
theorem sgA_loop {Q : Fl → St → Prop} {r : Bl} {p : Nat} (h : Bk rs row) (hp : p < (tx (Tx rs) s).length) (hr : ∀ k : Nat, row[k]? = some s → WB (C2 ad (d + 1)) r ⟨[some (bookV rs row), some (.int p), some (.lst (szv (Tx rs))), some (.int k), none, none, none, none], H, H⟩ Q X) : ∀ (todo dn : List Sy), dn ++ (todo ++ s :: post) = row →
  Wh (C2 ad (d + 1)) sgT sgA r Q X (todo.length + 1) ⟨[some (bookV rs row), some (.int ((bt rs todo).length + p : Nat)), some (.lst (szv (Tx rs))), some (.int dn.length), none, none, none, none], H, H⟩
 | [], dn, e => by
  have hg := at_pre e
  rw [show (bt rs []).length + p = p from Nat.zero_add p]
  exact wh_end (ge_f hp ▸ ev_cmp (ev_var rfl) (ec_one (ev_lofR h hg) cm_ge)) (hr _ hg)
 | t :: todo, dn, e => by
  have hg := at_pre e
  have he : (bt rs (t :: todo)).length + p = (tx (Tx rs) t).length + ((bt rs todo).length + p) := by rw [bt_cons, List.length_append, Nat.add_assoc]
  rw [he]
  have ih := sgA_loop h hp hr todo (dn ++ [t]) (by rw [← e, List.append_assoc]; rfl)
  rw [List.length_append] at ih
  exact wh_step (ge_t (Nat.le_add_right _ _) ▸ ev_cmp (ev_var rfl) (ec_one (ev_lofR h hg) cm_ge)) (w_asg (w := .int ((bt rs todo).length + p : Nat)) (ev_sbN (ev_var rfl) (ev_lofR h hg)) rfl (w_asg (w := .int ((dn.length + 1 : Nat) : Int)) (fun z' z' q => q) rfl (kw_nil ih)))
theorem ca_sign {p c : Nat} {l : List Nat} (h : Bk rs row) (e : pre ++ s :: post = row) (hp : p < (tx (Tx rs) s).length) (w : Way rs s p c l) (hl : l.length ≤ 600) : Ca (C2 ad (d + 6)) "sign_at" [bookV rs row, .int ((bt rs pre).length + p : Nat)] H (.tup [.str ⟨#[c]⟩, .lst (nv l)]) := ca_of (fn := L12.F_sign_at) rfl rfl (by decide) fun Q X q => by
 have g : decide ((((bt rs pre).length + p : Nat) : Int) < (bt rs row).length) = true := decide_eq_true (by rw [← e, bt_append, bt_cons, List.length_append, List.length_append]; omega)
 refine w_asg (w := .lst (szv (Tx rs))) (fun z' z' q => ca_lens h _ _ q) rfl (w_iff (ev_or (p := false) (q := false) (fun z' z' q => wh_nt _ _ q) fun z' => ev_not (b := true) (ev_cmp ev_int (ec_more (p := true) (q := true) (ev_var rfl) ((decide_eq_true (Int.natCast_nonneg _)) ▸ cm_le) fun z' => ec_one (fun z' z' q => ca_total h _ _ q) (g ▸ cm_lt)))) (kn_nil (w_asg (w := .int 0) (fun z' z' q => q) rfl (w_while (pre.length + 1) (sgA_loop (d := d + 4) h hp (fun k hg => ?_) pre [] e)))))
 exact w_asg (w := s.v) (fun z' z' q => sb_row (H := H) hg _ q) rfl (w_own0 rfl fun a h1 h2 => w_while (l.length + 1) (sg_loop h.r h2 w [] _ _ _ (by simpa using hl) upd_eq q))
end
end Lib
end
section
set_option autoImplicit false
set_option linter.unusedSimpArgs false
set_option linter.unusedVariables false
namespace Lib
open PySem Mine
noncomputable def hit (S E p n : Nat) : Bool := decide (S < E) && (decide (p < E) && decide (S < p + n))
theorem hit_lt {S E p n : Nat} (h : hit S E p n = true) : S < E := of_decide_eq_true (Bool.and_eq_true_iff.mp h).1
inductive Ct (rs : List Rl) (S E : Nat) : Sy → Nat → List Nat → Nat → Prop
 | out (s : Sy) (p : Nat) (h : hit S E p ((tx (Tx rs) s).length) = false) : Ct rs S E s p [] 0
 | ch (c p : Nat) (h : hit S E p 1 = true) : Ct rs S E (.ch c) p [c] 0
 | ru (k p : Nat) (a b : Sy) (l1 l2 : List Nat) (o1 o2 : Nat) (h : hit S E p ((tx (Tx rs) (.ru k)).length) = true) (hg : rs[k]? = some (a, b)) (ha : Ct rs S E a p l1 o1) (hb : Ct rs S E b (p + (tx (Tx rs) a).length) l2 o2) : Ct rs S E (.ru k) p (l1 ++ l2) (o1 + o2 + 1)
inductive CtL (rs : List Rl) (S E : Nat) : List (Sy × Nat) → List Nat → Nat → Prop
 | nil : CtL rs S E [] [] 0
 | cons {s : Sy} {p : Nat} {l l' : List Nat} {o o' : Nat} {r : List (Sy × Nat)} (h : Ct rs S E s p l o) (hs : CtL rs S E r l' o') : CtL rs S E ((s, p) :: r) (l ++ l') (o + o')
noncomputable def offs (rs : List Rl) : Nat → List Sy → List (Sy × Nat)
 | _, [] => []
 | p, s :: r => (s, p) :: offs rs (p + (tx (Tx rs) s).length) r
noncomputable def sp2 (x : Sy × Nat) : V := .tup [x.1.v, .int (x.2 : Int)]
noncomputable def stp (w : List (Sy × Nat)) : List V := (w.map sp2).reverse
theorem stp_cons (x : Sy × Nat) (w : List (Sy × Nat)) : stp (x :: w) = stp w ++ [sp2 x] := by unfold stp; rw [List.map_cons, List.reverse_cons]
theorem stp_len (w : List (Sy × Nat)) : (stp w).length = w.length := by unfold stp; rw [List.length_reverse, List.length_map]
theorem offs_len (rs : List Rl) : ∀ (r : List Sy) (p : Nat), (offs rs p r).length = r.length
 | [], _ => rfl
 | s :: r, p => congrArg (· + 1) (offs_len rs r _)
theorem offs_ok (rs : List Rl) {n : Nat} : ∀ {r : List Sy} {p : Nat}, RowOk n r → ∀ x ∈ offs rs p r, x.1.ok n
 | s :: r, p, h, x, hx => by
  rcases List.mem_cons.mp hx with rfl | hx
  ·exact h s (List.mem_cons_self ..)
  ·exact offs_ok rs (fun z hz => h z (List.mem_cons_of_mem _ hz)) x hx
theorem ct_of {rs : List Rl} {S E : Nat} (hr : RulesOk rs) : ∀ (h : Nat) (s : Sy), s.ok h → h ≤ rs.length → ∀ p, ∃ l o, Ct rs S E s p l o := by
 intro h
 induction h with
 | zero =>
  intro s hs _ p
  cases s with
  | ru k => cases hs
  | ch c =>
   cases e : hit S E p 1
   ·exact ⟨[], 0, .out _ _ e⟩
   ·exact ⟨[c], 0, .ch c p e⟩
 | succ h ih =>
  intro s hs hh p
  cases s with
  | ch c => exact ih (.ch c) hs (Nat.le_of_succ_le hh) p
  | ru k =>
   cases e : hit S E p (tx (Tx rs) (.ru k)).length
   ·exact ⟨[], 0, .out _ _ e⟩
   ·have hk : k < h + 1 := hs
    have hg := List.getElem?_eq_getElem (Nat.lt_of_lt_of_le hk hh)
    have o := hr k _ hg
    obtain ⟨l1, o1, c1⟩ := ih _ (o.1.mono (Nat.lt_succ_iff.mp hk)) (Nat.le_of_succ_le hh) p
    obtain ⟨l2, o2, c2⟩ := ih _ (o.2.mono (Nat.lt_succ_iff.mp hk)) (Nat.le_of_succ_le hh) (p + (tx (Tx rs) rs[k].1).length)
    exact ⟨_, _, .ru k p _ _ _ _ _ _ e hg c1 c2⟩
theorem ctL_of {rs : List Rl} {S E : Nat} (hr : RulesOk rs) : ∀ (r : List Sy), RowOk rs.length r → ∀ p, ∃ l o, CtL rs S E (offs rs p r) l o
 | [], _, p => ⟨[], 0, .nil⟩
 | s :: r, h, p => by
  obtain ⟨l1, o1, c1⟩ := ct_of (S := S) (E := E) hr _ s (h s (List.mem_cons_self ..)) (Nat.le_refl _) p
  obtain ⟨l2, o2, c2⟩ := ctL_of (S := S) (E := E) hr r (fun z hz => h z (List.mem_cons_of_mem _ hz)) (p + (tx (Tx rs) s).length)
  exact ⟨_, _, .cons c1 c2⟩
theorem le4 {n : Nat} (h : n ≤ 4000) : n < sizeLine := sl (Nat.le_trans h (by decide))
theorem sl_ones {sg : List Nat} {n : Nat} (h : sg.length + n ≤ 4000) : (ones sg).length < sizeLine := le4 (by unfold ones; rw [List.length_map]; exact Nat.le_trans (Nat.le_add_right ..) h)
theorem sl_stp {w : List (Sy × Nat)} {n : Nat} (h : w.length + n ≤ 3000) : (stp w).length < sizeLine := le4 (by rw [stp_len]; exact Nat.le_trans (Nat.le_add_right ..) (Nat.le_trans h (by decide)))
theorem up1 {w h k : Nat} (hw : w + h ≤ 3000) (hk : k < h) : w + 1 + k ≤ 3000 := Nat.le_trans (by rw [Nat.add_assoc, Nat.add_comm 1]; exact Nat.add_le_add_left hk w) hw
theorem dn1 {w h k : Nat} (hw : w + h ≤ 3000) (hk : k < h) : w + k ≤ 3000 := Nat.le_trans (Nat.add_le_add_left (Nat.le_of_lt hk) w) hw
theorem le_l {a b c n : Nat} (h : a + (b + c) ≤ n) : a + b ≤ n := Nat.le_trans (Nat.add_le_add_left (Nat.le_add_right ..) a) h
theorem le_r {a b c n : Nat} (h : a + (b + c) ≤ n) : a + b + c ≤ n := Nat.add_assoc a b c ▸ h
theorem op4 {a b c : Nat} : a + 1 + b + c = a + (b + c + 1) := by omega
theorem strs1 : ∀ (cs : List Nat), strsOf (ones cs) = some (cs.map fun c => ⟨#[c]⟩)
 | [] => rfl
 | c :: cs => by
  show (strsOf (ones cs)).map _ = _
  rw [strs1 cs]; rfl
theorem lenAll1 : ∀ (cs : List Nat), lenAll (cs.map fun c => (⟨#[c]⟩ : Str)) = cs.length
 | [] => rfl
 | c :: cs => by
  show 1 + lenAll (cs.map fun c => (⟨#[c]⟩ : Str)) = cs.length + 1
  rw [lenAll1 cs, Nat.add_comm]
noncomputable def jn (l : List Nat) : V := .str (Str.join (Str.ofString "") (l.map fun c => ⟨#[c]⟩))
theorem size_ref {H : AH} {a : Nat} {l : List V} (h : H a = some (.list l)) : sizeV H (.ref a) = some l.length := by
 show (match H a with
  | some (.list vs) => some vs.length
  | _ => none) = _
 rw [h]
theorem gt0 {C : Cx} {ρ : List (Option V)} {H B : AH} {a : Nat} {x : Sy × Nat} {w : List (Sy × Nat)} (h : ρ[5]? = some (some (.ref a))) (ha : H a = some (.list (stp (x :: w)))) : Ev C ⟨ρ, H, B⟩ (.cmp (.len (.var 5)) (.one .gt (.int 0))) (.bool true) := (show decide ((((stp (x :: w)).length : Nat) : Int) > 0) = true from decide_eq_true (by rw [stp_len]; exact Int.natCast_pos.mpr (Nat.succ_pos _))) ▸ ev_cmp (ev_len (ev_var h) (size_ref ha)) (ec_one ev_int cm_gt)
theorem gt1 {C : Cx} {ρ : List (Option V)} {H B : AH} {a : Nat} (h : ρ[5]? = some (some (.ref a))) (ha : H a = some (.list (stp []))) : Ev C ⟨ρ, H, B⟩ (.cmp (.len (.var 5)) (.one .gt (.int 0))) (.bool false) := ev_cmp (ev_len (n := 0) (ev_var h) (size_ref ha)) (ec_one ev_int cm_gt)
noncomputable def cwT : E := .cmp (.len (.var 5)) (.one .gt (.int 0))
noncomputable def cwX : Bl := .cons (.ite (.isinst (.sub (.var 10) (.int 0)) .str) (.cons (.append (.var 8) (.pure (.sub (.var 10) (.int 0)))) .nil) (.cons (.assign (.var 9) (.bin .add (.var 9) (.int 1))) (.cons (.assign (.var 12) (.sub (.sub (.var 0) (.int 0)) (.sub (.var 10) (.int 0)))) (.cons (.append (.var 5) (.pure (.tup (.cons (.sub (.var 12) (.int 1)) (.cons (.bin .add (.sub (.var 10) (.int 1)) (.call "length_of" (.cons (.sub (.var 12) (.int 0)) (.cons (.var 3) .nil)))) .nil))))) (.cons (.append (.var 5) (.pure (.tup (.cons (.sub (.var 12) (.int 0)) (.cons (.sub (.var 10) (.int 1)) .nil))))) .nil))))) .nil
noncomputable def cwC : E := .cmp (.max2 (.sub (.var 10) (.int 1)) (.var 1)) (.one .lt (.min2 (.var 11) (.var 2)))
noncomputable def cwB : Bl := .cons (.pop (.var 10) (.var 5)) (.cons (.assign (.var 11) (.bin .add (.sub (.var 10) (.int 1)) (.call "length_of" (.cons (.sub (.var 10) (.int 0)) (.cons (.var 3) .nil))))) (.cons (.ite cwC cwX .nil) .nil))
noncomputable def cwR : Bl := .cons (.ret (.tup (.cons (.join (.str (Str.ofString "")) (.var 8)) (.cons (.var 9) .nil)))) .nil
section
variable {ad d : Nat} {H : AH} {rs : List Rl} {row : List Sy} {S E a b : Nat}
theorem ones_snoc' (l : List Nat) (c : Nat) : ones (l ++ [c]) = ones l ++ [V.str ⟨#[c]⟩] := List.map_append ..
theorem ct_ret {Q : V → Prop} {X : String → St → Prop} {ρ : List (Option V)} {H' : AH} {l : List Nat} {o : Nat} (h8 : ρ[8]? = some (some (.ref b))) (h9 : ρ[9]? = some (some (.int o))) (hb : H' b = some (.list (ones l))) (hl : l.length ≤ 4000) (q : Q (.tup [jn l, .int o])) : WB (C2 ad d) cwR ⟨ρ, H', H⟩ (PK H Q) X := r1 (w := .tup [jn l, .int o]) (ev_tup (vs := [jn l, .int o]) (evs_cons (ev_join ev_str (ev_var h8) (seq_ref hb) (strs1 l) (by rw [lenAll1, show (Str.ofString "").length = 0 from rfl, Nat.zero_mul]; exact Nat.le_of_lt (le4 hl))) (evs_cons (ev_var h9) evs_nil)) rfl) (frz_two rfl rfl) q
noncomputable def ctB : Bl := .cons (.assign (.var 6) (.bin .sub (.var 6) (.call "length_of" (.cons (.var 7) (.cons (.var 3) .nil))))) (.cons (.append (.var 5) (.pure (.tup (.cons (.var 7) (.cons (.var 6) .nil))))) .nil)
theorem ct_for {Q : Fl → St → Prop} {X : String → St → Prop} {r : Bl} {v1 v2 v4 : V} (h : Bk rs row) (hB : H a = none) (hr : ∀ x H', H' a = some (.list (stp (offs rs 0 row))) → WB (C2 ad (d + 1)) r ⟨[some (bookV rs row), some v1, some v2, some (.lst (szv (Tx rs))), some v4, some (.ref a), some (.int 0), x, none, none, none, none, none], H', H⟩ Q X) : ∀ (rr dn : List Sy) (x : Option V) (H' : AH), rr.reverse ++ dn = row → H' a = some (.list (stp (offs rs (bt rs rr.reverse).length dn))) →
  Fo (C2 ad (d + 1)) (.var 7) ctB r Q X (rr.map Sy.v) ⟨[some (bookV rs row), some v1, some v2, some (.lst (szv (Tx rs))), some v4, some (.ref a), some (.int (bt rs rr.reverse).length), x, none, none, none, none, none], H', H⟩
 | [], dn, x, H', e, ha => by
  cases e
  exact fo_nil (hr x H' ha)
 | s :: rr, dn, x, H', e, ha => by
  have e2 : rr.reverse ++ (s :: dn) = row := by rw [← e, List.reverse_cons, List.append_assoc]; rfl
  have os : s.ok (Tx rs).length := by rw [Tx_length]; exact h.w s (by rw [← e2]; exact List.mem_append_right _ (List.mem_cons_self ..))
  have e3 : (bt rs (s :: rr).reverse).length = (tx (Tx rs) s).length + (bt rs rr.reverse).length := by
   rw [List.reverse_cons, bt_append, List.length_append, show (bt rs [s]).length = (tx (Tx rs) s).length from congrArg List.length (List.append_nil _), Nat.add_comm]
  have hdn : dn.length + 1 ≤ 2000 := Nat.le_trans (Nat.le_add_left (dn.length + 1) rr.reverse.length) (List.length_append (as := rr.reverse) (bs := s :: dn) ▸ e2.symm ▸ h.m)
  rw [e3] at ha ⊢
  refine fo_cons (ρ' := [some (bookV rs row), some v1, some v2, some (.lst (szv (Tx rs))), some v4, some (.ref a), some (.int ((tx (Tx rs) s).length + (bt rs rr.reverse).length : Nat)), some s.v, none, none, none, none, none]) rfl (w_asg (w := .int (bt rs rr.reverse).length) (ev_sbN (ev_var rfl) (fun z' z' q => lof rfl os _ _ q)) rfl (w_app (w := sp2 (s, (bt rs rr.reverse).length)) rfl ha hB (fun z' z' q => ⟨le2, q⟩) (le4 (by rw [stp_len, offs_len]; exact Nat.le_trans (Nat.le_of_succ_le hdn) (by decide))) (kf_nil (ct_for h hB hr rr (s :: dn) _ _ e2 ?_))))
  rw [offs, stp_cons, Nat.add_comm]; exact upd_eq
noncomputable def cS (rs : List Rl) (row : List Sy) (S E a b : Nat) (v4 : V) (x7 : Option V) (o : Nat) (y z u : Option V) : List (Option V) := [some (bookV rs row), some (.int S), some (.int E), some (.lst (szv (Tx rs))), some v4, some (.ref a), some (.int 0), x7, some (.ref b), some (.int o), y, z, u]
variable {Q : V → Prop} {X : String → St → Prop} {v4 : V} {x7 : Option V}
noncomputable abbrev cW (ad d : Nat) (H : AH) (Q : V → Prop) (X : String → St → Prop) (m : Nat) (ρ : List (Option V)) (H' : AH) : Prop := Wh (C2 ad (d + 1)) cwT cwB cwR (PK H Q) X m ⟨ρ, H', H⟩
theorem hit_max {p n : Nat} (hn : 1 ≤ n) : decide (max (p : Int) S < min ((p : Int) + n) E) = hit S E p n := by
 unfold hit
 rw [← Bool.decide_and, ← Bool.decide_and, decide_eq_decide, Int.max_lt, Int.lt_min, Int.lt_min]
 exact ⟨fun ⟨⟨_, h1⟩, h2, h3⟩ => ⟨Int.ofNat_lt.mp h3, Int.ofNat_lt.mp h1, Int.ofNat_lt.mp h2⟩, fun ⟨h1, h2, h3⟩ => ⟨⟨Int.ofNat_lt.mpr (Nat.lt_add_of_pos_right hn), Int.ofNat_lt.mpr h2⟩, Int.ofNat_lt.mpr h3, Int.ofNat_lt.mpr h1⟩⟩
theorem ct_turn {s : Sy} {p m o : Nat} {W : List (Sy × Nat)} {y z u : Option V} {H' : AH} {g : Bool} (hr : RulesOk rs) (ok : s.ok rs.length) (hB : H a = none) (ha : H' a = some (.list (stp ((s, p) :: W)))) (hg : hit S E p ((tx (Tx rs) s).length) = g)
  (hb : WB (C2 ad (d + 1)) (if g then cwX else .nil) ⟨cS rs row S E a b v4 x7 o (some (sp2 (s, p))) (some (.int ((p : Int) + (tx (Tx rs) s).length))) u, H'.upd a (.list (stp W)), H⟩ (Kn (C2 ad (d + 1)) .nil (Kw (C2 ad (d + 1)) cwT cwB cwR (PK H Q) X m) X) X) : cW ad d H Q X (m + 1) (cS rs row S E a b v4 x7 o y z u) H' := by
 have hn : 1 ≤ (tx (Tx rs) s).length := tx_pos hr ok
 have hc := (hit_max (p := p) hn).trans hg
 rw [stp_cons] at ha
 refine wh_step (gt0 (x := (s, p)) (w := W) rfl (stp_cons _ _ ▸ ha)) (w_pop (ρ' := cS rs row S E a b v4 x7 o (some (sp2 (s, p))) z u) rfl ha hB rfl (w_asg (w := .int ((p : Int) + (tx (Tx rs) s).length)) (fun z' z' q => lof rfl (by rw [Tx_length]; exact ok) _ _ q) rfl ?_))
 refine w_if g (hc ▸ ev_cmp (ev_max2 (fun z' z' q => q) (ev_var rfl)) (ec_one (ev_min2 (ev_var rfl) (ev_var rfl)) cm_lt)) (fun e => ?_) fun e => ?_
 ·subst e; exact hb
 ·subst e; exact hb
theorem ct_one (hr : RulesOk rs) (hA : H a = none) (hB : H b = none) (hab : a ≠ b) {s : Sy} {p : Nat} {l : List Nat} {o : Nat} (w : Ct rs S E s p l o) : ∀ (h : Nat), s.ok h → h ≤ rs.length → ∀ (W : List (Sy × Nat)) (sg : List Nat) (op : Nat) (y z u : Option V) (H' : AH), W.length + h ≤ 3000 → sg.length + l.length ≤ 4000 → H' a = some (.list (stp ((s, p) :: W))) → H' b = some (.list (ones sg)) →
  (∀ y z u H', H' a = some (.list (stp W)) → H' b = some (.list (ones (sg ++ l))) → ∃ m, cW ad d H Q X m (cS rs row S E a b v4 x7 (op + o) y z u) H') → ∃ m, cW ad d H Q X m (cS rs row S E a b v4 x7 op y z u) H' := by
 induction w with
 | out s p h =>
  intro hh ok hk W sg op y z u H' _ _ ha hb c
  obtain ⟨m, hm⟩ := c (some (sp2 (s, p))) (some (.int ((p : Int) + (tx (Tx rs) s).length))) u (H'.upd a (.list (stp W))) upd_eq (by rw [upd_ne (Ne.symm hab), List.append_nil]; exact hb)
  exact ⟨m + 1, ct_turn hr (ok.mono hk) hA ha h (kn_nil (kw_nil hm))⟩
 | ch c p h =>
  intro hh ok hk W sg op y z u H' _ hl ha hb cc
  obtain ⟨m, hm⟩ := cc (some (sp2 (.ch c, p))) (some (.int ((p : Int) + 1))) u ((H'.upd a (.list (stp W))).upd b (.list (ones sg ++ [.str ⟨#[c]⟩]))) (by rw [upd_ne hab]; exact upd_eq) (by rw [ones_snoc']; exact upd_eq)
  exact ⟨m + 1, ct_turn hr (ok.mono hk) hA ha h (w_ift (fun z' z' q => q) (w_app (w := .str ⟨#[c]⟩) rfl (by rw [upd_ne (Ne.symm hab)]; exact hb) hB (fun z' z' q => q) (sl_ones hl) (kn_nil (kn_nil (kw_nil hm)))))⟩
 | ru k p a' b' l1 l2 o1 o2 h hg _ _ ih1 ih2 =>
  intro hh ok hk W sg op y z u H' hw hl ha hb cc
  have hkh : k < hh := ok
  have ok2 := hr k _ hg
  have hkr := (List.getElem?_eq_some_iff.mp hg).1
  rw [List.length_append] at hl
  obtain ⟨m, hm⟩ := ih1 k ok2.1 (Nat.le_of_lt hkr) ((b', p + (tx (Tx rs) a').length) :: W) sg (op + 1) (some (sp2 (.ru k, p))) (some (.int ((p : Int) + (tx (Tx rs) (.ru k)).length))) (some (pv (a', b'))) (((H'.upd a (.list (stp W))).upd a (.list (stp ((b', p + (tx (Tx rs) a').length) :: W)))).upd a (.list (stp ((a', p) :: (b', p + (tx (Tx rs) a').length) :: W)))) (up1 hw hkh) (le_l hl) upd_eq (by rw [upd_ne (Ne.symm hab), upd_ne (Ne.symm hab), upd_ne (Ne.symm hab)]; exact hb) fun y z u H' ha hb => ih2 k ok2.2 (Nat.le_of_lt hkr) W (sg ++ l1) (op + 1 + o1) y z u H' (dn1 hw hkh) (by rw [List.length_append]; exact le_r hl) ha hb fun y z u H' ha hb => by
   rw [op4]
   exact cc y z u H' ha (by rw [← List.append_assoc]; exact hb)
  rw [stp_cons (a', p), stp_cons (b', p + (tx (Tx rs) a').length)] at hm
  have e := stp_cons (b', p + (tx (Tx rs) a').length) W
  exact ⟨m + 1, ct_turn hr (ok.mono hk) hA ha h (w_iff (fun z' z' q => q) (w_asg (w := .int ((op + 1 : Nat) : Int)) (fun z' z' q => q) rfl (w_asg (w := pv (a', b')) (fun z' z' q => sb_rule (H := H) hg _ q) rfl (w_app (w := sp2 (b', p + (tx (Tx rs) a').length)) rfl upd_eq hA (fun z' z' q => lof rfl (by rw [Tx_length]; exact ok2.1.mono (Nat.le_of_lt hkr)) _ _ ⟨le2, q⟩) (sl_stp hw) (w_app (w := sp2 (a', p)) rfl upd_eq hA (fun z' z' q => ⟨le2, q⟩) (by rw [← e]; exact sl_stp (up1 hw hkh)) (kn_nil (kn_nil (kw_nil hm))))))))⟩
theorem ct_all (hr : RulesOk rs) (hn : rs.length ≤ 600) (hA : H a = none) (hB : H b = none) (hab : a ≠ b) {w : List (Sy × Nat)} {l : List Nat} {o : Nat} (c : CtL rs S E w l o) : (∀ x ∈ w, x.1.ok rs.length) → ∀ (sg : List Nat) (op : Nat) (y z u : Option V) (H' : AH), w.length ≤ 2000 → sg.length + l.length ≤ 4000 → H' a = some (.list (stp w)) → H' b = some (.list (ones sg)) → Q (.tup [jn (sg ++ l), .int (op + o : Nat)]) →
  ∃ m, cW ad d H Q X m (cS rs row S E a b v4 x7 op y z u) H' := by
 induction c with
 | nil => exact fun z' sg op y z u H' z' hl ha hb q => ⟨1, wh_end (gt1 rfl ha) (ct_ret (o := op) rfl rfl hb hl (by rw [List.append_nil] at q; exact q))⟩
 | cons c cs ih =>
  intro ok sg op y z u H' hw hl ha hb q
  rw [List.length_append] at hl
  rw [List.length_cons] at hw
  refine ct_one hr hA hB hab c _ (ok _ (List.mem_cons_self ..)) (Nat.le_refl _) _ sg op y z u H' (Nat.le_trans (Nat.add_le_add (Nat.le_of_succ_le hw) hn) (by decide)) (le_l hl) ha hb fun y z u H' ha hb => ih (fun x hx => ok x (List.mem_cons_of_mem _ hx)) _ _ y z u H' (Nat.le_of_succ_le hw) (by rw [List.length_append]; exact le_r hl) ha hb ?_
  rw [List.append_assoc, Nat.add_assoc]; exact q
theorem ctL_same (e : ¬ S < E) {w : List (Sy × Nat)} {l : List Nat} {o : Nat} (c : CtL rs S E w l o) : l = [] ∧ o = 0 := by
 induction c with
 | nil => exact ⟨rfl, rfl⟩
 | cons c cs ih =>
  rw [ih.1, ih.2]
  cases c with
  | out => exact ⟨rfl, rfl⟩
  | ch c p h => exact absurd (hit_lt h) e
  | ru k p a b l1 l2 o1 o2 h => exact absurd (hit_lt h) e
theorem ca_cut {l : List Nat} {o : Nat} (h : Bk rs row) (hSE : S ≤ E) (hE : E ≤ (bt rs row).length) (w : CtL rs S E (offs rs 0 row) l o) (hl : l.length ≤ 4000) : Ca (C2 ad (d + 6)) "cut" [bookV rs row, .int S, .int E] H (.tup [jn l, .int o]) := ca_of (fn := L12.F_cut) rfl rfl (by decide) fun Q X q => by
 have g0 : decide ((0 : Int) ≤ S) = true := decide_eq_true (Int.natCast_nonneg _)
 have g1 : decide ((S : Int) ≤ E) = true := decide_eq_true (Int.ofNat_le.mpr hSE)
 have g2 : decide ((E : Int) ≤ (bt rs row).length) = true := decide_eq_true (Int.ofNat_le.mpr hE)
 refine w_asg (w := .lst (szv (Tx rs))) (fun z' z' q => ca_lens h _ _ q) rfl (w_asg (w := .int (bt rs row).length) (fun z' z' q => ca_total h _ _ q) rfl (w_iff (ev_or (p := false) (q := false) (fun z' z' q => wh_nt _ _ q) fun z' => ev_or (p := false) (q := false) (fun z' z' q => wh_nt _ _ q) fun z' => ev_not (b := true) (ev_cmp ev_int (ec_more (p := true) (q := true) (ev_var rfl) (g0 ▸ cm_le) fun z' => ec_more (p := true) (q := true) (ev_var rfl) (g1 ▸ cm_le) fun z' => ec_one (ev_var rfl) (g2 ▸ cm_le)))) (kn_nil (w_own0 rfl fun a h1 h2 => w_asg (w := .int (bt rs row).length) (ev_var rfl) rfl (w_for (xs := row.reverse.map Sy.v) (ds := []) (fun z' z' q => ?_) (.inr nofun) ?_)))))
 ·rw [List.map_reverse] at q; exact q
 ·have hf := ct_for (ad := ad) (d := d + 4) (Q := PK H Q) (X := fun x z' => X x) (v1 := .int S) (v2 := .int E) (v4 := .int (bt rs row).length) (r := .cons (.own 8 (.list .nil)) (.cons (.assign (.var 9) (.int 0)) (.cons (.while cwT cwB) cwR))) h h2 (fun x H' ha => w_own0 rfl fun b b1 b2 => w_asg (w := .int 0) (fun z' z' q => q) rfl ?_) row.reverse [] none (H.upd a (.list [])) (by rw [List.reverse_reverse, List.append_nil]) upd_eq
  ·rw [List.reverse_reverse] at hf
   exact hf
  ·have hab : a ≠ b := fun e => by rw [← e, ha] at b1; cases b1
   obtain ⟨m, hm⟩ := ct_all (ad := ad) (d := d + 4) (row := row) (Q := Q) (X := fun x z' => X x) (v4 := .int (bt rs row).length) (x7 := x) h.r h.n h2 b2 hab w (offs_ok rs h.w) [] 0 none none none (H'.upd b (.list [])) (by rw [offs_len]; exact h.m) ((Nat.zero_add _).symm ▸ hl) (by rw [upd_ne hab]; exact ha) upd_eq (by rw [Nat.zero_add]; exact q)
   exact w_while m hm
end
end Lib
end
section
set_option autoImplicit false
set_option linter.unusedSimpArgs false
set_option linter.unusedVariables false
namespace Lib
open PySem Mine
noncomputable def pn : List String := ["size", "head", "tail", "times", "first"]
noncomputable def pcL (sz : Int) (h t : List Nat) (tm : Int) (fi : V) : List V := [.int sz, lst h, lst t, .int tm, fi]
noncomputable def fV : Option Nat → V
 | some k => .int k
 | none => .none
noncomputable def pcV (ad : Nat) (W : List Nat) (m : Nat) (t : List Nat) : V := .inst ad pn (pcL t.length (t.take m) (tl m t) (occs W t).length (fV (occs W t).head?))
theorem fz_fV {H H' : AH} {n : Nat} (o : Option Nat) : frz H' H (n + 1) (fV o) = some (fV o) := by cases o <;> rfl
theorem fz_pcL {H H' : AH} {n : Nat} {sz : Int} {h t : List Nat} {tm : Int} (o : Option Nat) : mapO (frz H' H (n + 1)) (pcL sz h t tm (fV o)) = some (pcL sz h t tm (fV o)) := by cases o <;> rfl
theorem fz_pc {H H' : AH} {n ad m : Nat} {W t : List Nat} : frz H' H (n + 2) (pcV ad W m t) = some (pcV ad W m t) := by
 show (mapO (frz H' H (n + 1)) (pcL _ _ _ _ (fV _))).map (V.inst ad pn) = _
 rw [fz_pcL]; rfl
theorem fz_iref {H H' : AH} {n a ad : Nat} {sz : Int} {h t : List Nat} {tm : Int} {o : Option Nat} (h0 : H a = none) (h1 : H' a = some (.inst ad pn (pcL sz h t tm (fV o)))) : frz H' H (n + 2) (.iref ad pn a) = some (.inst ad pn (pcL sz h t tm (fV o))) := by
 show (match H a with
   | some _ => some (V.iref ad pn a)
   | none => (match H' a with
    | some (.inst _ ns' vs) => if ns' = pn then (mapO (frz H' H (n + 1)) vs).map (.inst ad pn) else none
    | _ => none)) = _
 rw [h0, h1]
 show (if pn = pn then (mapO (frz H' H (n + 1)) (pcL sz h t tm (fV o))).map (V.inst ad pn) else none) = _
 rw [if_pos rfl, fz_pcL]; rfl
theorem has_pc {ad : Nat} : hasC (L12.ctab ad) ad pn = true := by
 show ((decide (ad = ad) && decide (pn = pn)) || false) = true
 simp
section
variable {ad d : Nat} {H : AH} {ρ : List (Option V)} {B : AH} {Q : Fl → St → Prop} {X : String → St → Prop} {b : Bl} {i a : Nat} {n : String} {vs vs' : List V} {w : V}
theorem ev_at (h : ρ[i]? = some (some (.inst ad pn vs))) (hn : attrL n pn vs = some w) : Ev (C2 ad d) ⟨ρ, H, B⟩ (.attr (.var i) n) w := fun Q X q => ev_var (C := C2 ad d) (H := H) (B := B) h _ X (show hasC (L12.ctab ad) ad pn = true ∧ (match attrL n pn vs with
   | some v => Q v
   | none => False) from ⟨has_pc, by rw [hn]; exact q⟩)
theorem ev_ati (h : ρ[i]? = some (some (.iref ad pn a))) (ha : H a = some (.inst ad pn vs)) (hn : attrL n pn vs = some w) : Ev (C2 ad d) ⟨ρ, H, B⟩ (.attr (.var i) n) w := fun Q X q => ev_var (C := C2 ad d) (H := H) (B := B) h _ X (show (match H a with
   | some (.inst c' ns' vs) => hasC (L12.ctab ad) ad pn = true ∧ c' = ad ∧ ns' = pn ∧ (match attrL n pn vs with
    | some v => Q v
    | none => False)
   | _ => False) from by rw [ha]; exact ⟨has_pc, rfl, rfl, by rw [hn]; exact q⟩)
theorem w_seta {e : E} (hv : Ev (C2 ad d) ⟨ρ, H, B⟩ e w) (hi : ρ[i]? = some (some (.iref ad pn a))) (hB : B a = none) (ha : H a = some (.inst ad pn vs)) (hs : setAttrL n w pn vs = some vs') (hb : WB (C2 ad d) b ⟨ρ, H.upd a (.inst ad pn vs'), B⟩ Q X) : WB (C2 ad d) (.cons (.setattr (.var i) n e) b) ⟨ρ, H, B⟩ Q X :=
 hv _ _ (ev_var (C := C2 ad d) (H := H) (B := B) hi _ (fun x => X x ⟨ρ, H, B⟩) (show B a = none ∧ (match H a with
   | some (.inst c ns vs) => hasC (L12.ctab ad) c ns = true ∧ c = ad ∧ ns = pn ∧ (match setAttrL n w ns vs with
    | some vs' => WB (C2 ad d) b ⟨ρ, H.upd a (.inst c ns vs'), B⟩ Q X
    | none => False)
   | _ => False) from ⟨hB, by
    rw [ha]
    refine ⟨has_pc, rfl, rfl, ?_⟩
    show (match setAttrL n w pn vs with
    | some vs' => _
    | none => False)
    rw [hs]; exact hb⟩))
theorem w_new {e1 e2 e3 : E} {sz : Int} {h t : List Nat} (h1 : Ev (C2 ad d) ⟨ρ, H, B⟩ e1 (.int sz)) (h2 : Ev (C2 ad d) ⟨ρ, H, B⟩ e2 (lst h)) (h3 : Ev (C2 ad d) ⟨ρ, H, B⟩ e3 (lst t)) (hi : Nat.blt i ρ.length = true) (hb : ∀ a, H a = none → B a = none → WB (C2 ad d) b ⟨ρ.set i (some (.iref ad pn a)), H.upd a (.inst ad pn (pcL sz h t 0 .none)), B⟩ Q X) :
  WB (C2 ad d) (.cons (.own i (.new "Piece" (.cons e1 (.cons e2 (.cons e3 .nil))))) b) ⟨ρ, H, B⟩ Q X := h1 _ _ (h2 _ _ (h3 _ _ ⟨rfl, fun a hf => by
 show (match (match putV i (.iref ad pn a) ρ with
  | some ρ' => _
  | none => False) with
  | p => p)
 unfold putV; rw [if_pos (Nat.blt_eq.mp hi)]; exact hb a hf.1 hf.2⟩))
end
theorem eqV_lst {H : AH} {a b : List Nat} {Q : Bool → Prop} : eqV H (lst a) (lst b) Q = Q (decide (a = b)) := by
 unfold lst
 rw [eqV_str]
 congr 1
 rw [decide_eq_decide]
 exact ⟨fun e => congrArg (fun s : Str => s.cps.toList) e, fun e => by rw [e]⟩
theorem clip_nat {n k : Nat} : clip n (k : Int) = min k n := by
 unfold clip; rw [if_neg (Int.not_lt.mpr (Int.natCast_nonneg k))]
 rcases Nat.le_total k n with h | h
 ·rw [Int.min_eq_left (Int.ofNat_le.mpr h), Int.max_eq_right (Int.natCast_nonneg k), Nat.min_eq_left h]; rfl
 ·rw [Int.min_eq_right (Int.ofNat_le.mpr h), Int.max_eq_right (Int.natCast_nonneg n), Nat.min_eq_right h]; rfl
theorem max_sub {n m : Nat} : max 0 ((n : Int) - m) = ((n - m : Nat) : Int) := by
 rcases Nat.le_total m n with h | h
 ·rw [← Int.ofNat_sub h, Int.max_eq_right (Int.natCast_nonneg _)]
 ·rw [Nat.sub_eq_zero_of_le h, Int.max_eq_left (Int.sub_nonpos_of_le (Int.ofNat_le.mpr h))]; rfl
section
variable {C : Cx} {st : St} {e e' e'' : E} {x y l : List Nat} {m k n : Nat}
theorem ev_addN (ha : Ev C st e (.int n)) (hb : Ev C st e' (.int k)) : Ev C st (.bin .add e e') (.int ((n + k : Nat) : Int)) := ev_add ha hb
theorem ev_eqT (ha : Ev C st e (lst x)) (hb : Ev C st e' (lst y)) : Ev C st (.cmp e (.one .eq e')) (.bool (decide (x = y))) := ev_cmp ha (ec_one hb fun Q q => (show eqV st.H (lst x) (lst y) Q from by rw [eqV_lst]; exact q))
theorem ev_lenT (h : Ev C st e (lst x)) : Ev C st (.len e) (.int x.length) := ev_len h rfl
theorem cat_lst : (⟨x.toArray⟩ ++ ⟨y.toArray⟩ : Str) = ⟨(x ++ y).toArray⟩ := by apply Str.ext'; simp [Str.cps_append]
theorem ev_catT (ha : Ev C st e (lst x)) (hb : Ev C st e' (lst y)) (h : x.length + y.length ≤ 5000) : Ev C st (.bin .add e e') (lst (x ++ y)) := by
 have := ev_cat ha hb (Nat.le_of_lt (sl h))
 rwa [cat_lst] at this
theorem ev_hdT (he : Ev C st e (lst l)) (hm : Ev C st e' (.int m)) : Ev C st (.slice e .none e') (lst (l.take m)) := by
 have h : cutL l 0 (clip l.length (m : Int)) = l.take m := by
  rw [clip_nat, cutL, List.drop_zero, Nat.sub_zero]
  rcases Nat.le_total m l.length with q | q
  ·rw [Nat.min_eq_left q]
  ·rw [Nat.min_eq_right q, List.take_of_length_le (Nat.le_refl _), List.take_of_length_le q]
 exact h ▸ (fun Q X q => he _ _ (hm _ _ q) : Ev C st (.slice e .none e') (lst (cutL l 0 (clip l.length (m : Int)))))
theorem ev_slT (he : Ev C st e (lst l)) (hi : Ev C st e' (.int k)) (hj : Ev C st e'' (.int (k + n : Nat))) (hk : k ≤ l.length) : Ev C st (.slice e e' e'') (lst ((l.drop k).take n)) := by
 have h : cutL l (clip l.length (k : Int)) (clip l.length ((k + n : Nat) : Int)) = (l.drop k).take n := by
  rw [clip_nat, clip_nat, cutL, Nat.min_eq_left hk]
  rcases Nat.le_total (k + n) l.length with q | q
  ·rw [Nat.min_eq_left q, Nat.add_sub_cancel_left]
  ·rw [Nat.min_eq_right q, List.take_of_length_le (Nat.le_of_eq (List.length_drop ..)), List.take_of_length_le (by rw [List.length_drop]; exact Nat.sub_le_of_le_add (Nat.add_comm k n ▸ q))]
 exact h ▸ (fun Q X q => he _ _ (hi _ _ (hj _ _ q)) : Ev C st (.slice e e' e'') (lst (cutL l (clip l.length (k : Int)) (clip l.length ((k + n : Nat) : Int)))))
theorem ev_tlT (he : Ev C st e (lst l)) (hi : Ev C st e' (.int (max 0 ((l.length : Int) - m)))) : Ev C st (.slice e e' .none) (lst (l.drop (l.length - m))) := by
 have h : cutL l (clip l.length (max 0 ((l.length : Int) - m))) l.length = l.drop (l.length - m) := by
  rw [max_sub, clip_nat, Nat.min_eq_left (Nat.sub_le ..), cutL, List.take_of_length_le (Nat.le_of_eq (List.length_drop ..))]
 exact h ▸ (fun Q X q => he _ _ (hi _ _ q) : Ev C st (.slice e e' .none) (lst (cutL l (clip l.length (max 0 ((l.length : Int) - m))) l.length)))
end
section
variable {ad d : Nat} {H : AH} {W : List Nat} {m : Nat}
noncomputable def crB : Bl := .cons (.ite (.cmp (.slice (.var 3) (.var 5) (.bin .add (.var 5) (.len (.var 2)))) (.one .eq (.var 2))) (.cons (.append (.var 4) (.pure (.bin .add (.bin .sub (.attr (.var 0) "size") (.len (.attr (.var 0) "tail"))) (.var 5)))) .nil) .nil) .nil
noncomputable def iv (l : List Nat) : List V := l.map fun (k : Nat) => V.int k
theorem iv_app {a b : List Nat} : iv (a ++ b) = iv a ++ iv b := List.map_append ..
noncomputable def crA (W nr : List Nat) (p k : Nat) : List Nat := ((List.range k).filter (at? W nr)).map (p + ·)
theorem crA_succ {nr : List Nat} {p k : Nat} : crA W nr p (k + 1) = crA W nr p k ++ if at? W nr k then [p + k] else [] := by
 unfold crA
 rw [List.range_succ, List.filter_append, List.map_append]
 congr 1
 cases e : at? W nr k with
 | true => rw [List.filter_cons_of_pos e, if_pos rfl]; rfl
 | false => rw [List.filter_cons_of_neg (by rw [e]; exact Bool.false_ne_true), if_neg Bool.false_ne_true]; rfl
theorem crA_len {nr : List Nat} {p k : Nat} : (iv (crA W nr p k)).length ≤ k := by
 unfold iv crA
 rw [List.length_map, List.length_map]
 exact Nat.le_trans (List.length_filter_le ..) (Nat.le_of_eq List.length_range)
theorem fz_iv {n : Nat} {l : List Nat} {H' : AH} : ∀ v ∈ iv l, frz H' H (n + 1) v = some v := fun v hv => by obtain ⟨s, _, rfl⟩ := List.mem_map.mp hv; rfl
theorem cr_loop {Q : V → Prop} {X : String → St → Prop} {a p : Nat} {h1 t1 : List Nat} {tm : Int} {fi v1 : V} {nr : List Nat} (hB : H a = none) (hn : t1.length ≤ nr.length) (hl : t1.length ≤ 200) (q : Q (.lst (iv (crA W nr p t1.length)))) : ∀ (m k : Nat) (x5 : Option V) (H' : AH), k + m = t1.length → H' a = some (.list (iv (crA W nr p k))) →
  Fo (C2 ad d) (.var 5) crB (.cons (.ret (.var 4)) .nil) (PK H Q) X (upL k t1.length) ⟨[some (.inst ad pn (pcL (p + t1.length : Nat) h1 t1 tm fi)), some v1, some (lst W), some (lst nr), some (.ref a), x5], H', H⟩
 | 0, k, x5, H', e, ha => by
  have e : k = t1.length := e
  subst e
  rw [up_nil]
  exact fo_nil (r1 (ev_var rfl) (frz_ref hB ha fz_iv) q)
 | m + 1, k, x5, H', e, ha => by
  have hk : k < t1.length := nx_lt e
  rw [up_cons hk]
  have ih := cr_loop (X := X) (h1 := h1) (tm := tm) (fi := fi) (v1 := v1) hB hn hl q m (k + 1) (some (.int k))
  rw [crA_succ] at ih
  refine fo_cons (ρ' := [some (.inst ad pn (pcL (p + t1.length : Nat) h1 t1 tm fi)), some v1, some (lst W), some (lst nr), some (.ref a), some (.int k)]) rfl (w_if (at? W nr k) (ev_eqT (ev_slT (n := W.length) (fun z' z' q => q) (fun z' z' q => q) (fun z' z' q => q) (Nat.le_trans (Nat.le_of_lt hk) hn)) (ev_var rfl)) (fun ee => ?_) fun ee => kn_nil (kf_nil (ih _ (nx_eq e) (by rw [ee, if_neg Bool.false_ne_true, List.append_nil]; exact ha))))
  exact w_app (w := .int ((p + k : Nat) : Int)) rfl ha hB ((show ((p + t1.length : Nat) : Int) - (t1.length : Int) + k = ((p + k : Nat) : Int) from congrArg (· + (k : Int)) (Int.add_sub_cancel (p : Int) t1.length)) ▸ ev_add (ev_sb (ev_at rfl rfl) (ev_lenT (ev_at rfl rfl))) (ev_var rfl)) (sl (Nat.le_trans crA_len (Nat.le_trans (Nat.le_of_lt hk) (Nat.le_trans hl (by decide))))) (kn_nil (kf_nil (ih _ (nx_eq e) (by rw [ee, if_pos rfl, iv_app]; exact upd_eq))))
theorem ca_cross {a b : List Nat} (hm : m ≤ 200) : Ca (C2 ad (d + 1)) "crossing" [pcV ad W m a, pcV ad W m b, lst W] H (.lst (iv (cross W m a b))) := ca_of (fn := L12.F_crossing) rfl rfl (by decide) fun Q X q => by
 have h1 : (tl m a).length ≤ m := by rw [tl_len]; exact Nat.min_le_left ..
 have h3 : (tl m a).length ≤ a.length := by rw [tl_len]; exact Nat.min_le_right ..
 have h4 := Nat.le_trans h1 hm
 have h2 : (b.take m).length ≤ m := List.length_take_le ..
 have hl := fun {v1 : V} r h2 => cr_loop (ad := ad) (d := d) (H := H) (X := fun x z' => X x) (a := r) (p := a.length - (tl m a).length) (h1 := a.take m) (tm := (occs W a).length) (fi := fV (occs W a).head?) (v1 := v1) (nr := near m a b) h2 (by rw [near, List.length_append]; exact Nat.le_add_right ..) (Nat.le_trans h1 hm) q (tl m a).length 0 none (H.upd r (.list [])) (Nat.zero_add _) upd_eq
 rw [Nat.sub_add_cancel h3] at hl
 exact w_asg (w := lst (near m a b)) (ev_catT (ev_at rfl rfl) (ev_at rfl rfl) (Nat.le_trans (Nat.add_le_add h4 (Nat.le_trans h2 hm)) (by decide))) rfl (w_own0 rfl fun r h1 h2 => w_for (xs := upL 0 (tl m a).length) (ds := []) (ei_range1 (ev_lenT (ev_at rfl rfl)) (small_nat (Nat.le_trans h4 (by decide)))) (.inr nofun) (hl r h2))
section
variable {Q : V → Prop} {X : String → St → Prop} {r n : Nat} {H' : AH} {A1 A2 B1 B2 hd tt : List Nat} {na nb sb sz tm : Int} {fa : V} {x2 x3 x4 x5 x7 x8 : Option V} {oa ob fo : Option Nat} {xs : List Nat}
noncomputable def tw3 : Bl := .cons (.ite (.and (.cmp (.attr (.var 6) "first") (.one .is .none)) (.cmp (.attr (.var 1) "first") (.one .isnot .none))) (.cons (.setattr (.var 6) "first" (.bin .add (.attr (.var 0) "size") (.attr (.var 1) "first"))) .nil) .nil) (.cons (.ret (.var 6)) .nil)
theorem tw_3 (hB : H r = none) (ha : H' r = some (.inst ad pn (pcL sz hd tt tm (fV fo)))) (q : Q (.inst ad pn (pcL sz hd tt tm (fV (fo.or (ob.map (n + ·))))))) : WB (C2 ad d) tw3 ⟨[some (.inst ad pn (pcL n A1 A2 na fa)), some (.inst ad pn (pcL sb B1 B2 nb (fV ob))), x2, x3, x4, x5, some (.iref ad pn r), x7, x8], H', H⟩ (PK H Q) X := by
 cases fo with
 | some k => exact w_iff (ev_and (p := false) (q := true) (ev_cmp (ev_ati rfl ha rfl) (ec_one ev_none cm_is)) nofun) (kn_nil (r1 (ev_var rfl) (fz_iref hB ha) q))
 | none =>
  cases ob with
  | none => exact w_iff (ev_and (p := true) (q := false) (ev_cmp (ev_ati rfl ha rfl) (ec_one ev_none cm_is)) fun z' => ev_cmp (ev_at rfl rfl) (ec_one ev_none cm_isnot)) (kn_nil (r1 (ev_var rfl) (fz_iref hB ha) q))
  | some j => exact w_ift (ev_and (p := true) (q := true) (ev_cmp (ev_ati rfl ha rfl) (ec_one ev_none cm_is)) fun z' => ev_cmp (ev_at rfl rfl) (ec_one ev_none cm_isnot)) (w_seta (w := .int ((n + j : Nat) : Int)) (ev_addN (n := n) (k := j) (ev_at rfl rfl) (ev_at rfl rfl)) rfl hB ha rfl (kn_nil (r1 (ev_var rfl) (fz_iref (o := some (n + j)) hB upd_eq) q)))
noncomputable def tw2 : Bl := .cons (.setattr (.var 6) "first" (.attr (.var 0) "first")) (.cons (.ite (.and (.cmp (.attr (.var 6) "first") (.one .is .none)) (.cmp (.len (.var 7)) (.one .gt (.int 0)))) (.cons (.setattr (.var 6) "first" (.sub (.var 7) (.int 0))) .nil) .nil) tw3)
theorem tw_2 (hB : H r = none) (ha : H' r = some (.inst ad pn (pcL sz hd tt tm fa))) (q : Q (.inst ad pn (pcL sz hd tt tm (fV ((oa.or xs.head?).or (ob.map (n + ·))))))) : WB (C2 ad d) tw2 ⟨[some (.inst ad pn (pcL n A1 A2 na (fV oa))), some (.inst ad pn (pcL sb B1 B2 nb (fV ob))), x2, x3, x4, x5, some (.iref ad pn r), some (.lst (iv xs)), x8], H', H⟩ (PK H Q) X := by
 refine w_seta (w := fV oa) (ev_at rfl rfl) rfl hB ha rfl ?_
 cases oa with
 | some k => exact w_iff (ev_and (p := false) (q := true) (ev_cmp (ev_ati rfl upd_eq rfl) (ec_one ev_none cm_is)) nofun) (kn_nil (tw_3 (fo := some k) hB upd_eq q))
 | none =>
  cases xs with
  | nil => exact w_iff (ev_and (p := true) (q := false) (ev_cmp (ev_ati rfl upd_eq rfl) (ec_one ev_none cm_is)) fun z' => ev_cmp (ev_len (n := 0) (ev_var rfl) rfl) (ec_one ev_int cm_gt)) (kn_nil (tw_3 (fo := none) hB upd_eq q))
  | cons k xs => exact w_ift (ev_and (p := true) (q := true) (ev_cmp (ev_ati rfl upd_eq rfl) (ec_one ev_none cm_is)) fun z' => (show decide ((((iv (k :: xs)).length : Nat) : Int) > 0) = true from decide_eq_true (Int.natCast_pos.mpr (Nat.succ_pos _))) ▸ ev_cmp (ev_len (ev_var rfl) rfl) (ec_one ev_int cm_gt)) (w_seta (w := .int k) (ev_sub (ev_var rfl) ev_int (sb_lst (n := 0) rfl)) rfl hB upd_eq rfl (kn_nil (tw_3 (fo := some k) hB upd_eq q)))
end
theorem first_two (hm : W.length = m + 1) (a b : List Nat) : (occs W (a ++ b)).head? = ((occs W a).head?.or (cross W m a b).head?).or ((occs W b).head?.map (a.length + ·)) := by
 rw [occs_append hm, List.head?_append, List.head?_append, List.head?_map]
theorem len_two (hm : W.length = m + 1) (a b : List Nat) : (((occs W a).length : Int) + (iv (cross W m a b)).length + (occs W b).length) = ((occs W (a ++ b)).length : Nat) := by
 rw [occs_append hm, List.length_append, List.length_append, List.length_map, iv, List.length_map]; rfl
noncomputable def tw1 : Bl := .cons (.own 6 (.new "Piece" (.cons (.bin .add (.attr (.var 0) "size") (.attr (.var 1) "size")) (.cons (.var 4) (.cons (.var 5) .nil))))) (.cons (.assign (.var 7) (.call "crossing" (.cons (.var 0) (.cons (.var 1) (.cons (.var 2) .nil))))) (.cons (.setattr (.var 6) "times" (.bin .add (.bin .add (.attr (.var 0) "times") (.len (.var 7))) (.attr (.var 1) "times"))) tw2))
section
variable {Q : V → Prop} {X : String → St → Prop} {a b : List Nat} {x8 : Option V}
theorem tw_1 (hm : W.length = m + 1) (h2 : m ≤ 199) (q : Q (pcV ad W m (a ++ b))) : WB (C2 ad (d + 1)) tw1 ⟨[some (pcV ad W m a), some (pcV ad W m b), some (lst W), some (.int m), some (lst ((a ++ b).take m)), some (lst (tl m (a ++ b))), none, none, x8], H, H⟩ (PK H Q) X := by
 refine w_new (sz := (a.length + b.length : Nat)) (ev_addN (n := a.length) (k := b.length) (ev_at rfl rfl) (ev_at rfl rfl)) (ev_var rfl) (ev_var rfl) rfl fun r r1 r2 => w_asg (w := .lst (iv (cross W m a b))) (fun z' z' q => ca_cross (Nat.le_trans h2 (by decide)) _ _ q) rfl (w_seta (w := .int ((occs W (a ++ b)).length : Nat)) (len_two hm a b ▸ ev_add (ev_add (ev_at rfl rfl) (ev_len (ev_var rfl) rfl)) (ev_at rfl rfl)) rfl r2 upd_eq rfl (tw_2 r2 upd_eq ?_))
 rw [← first_two hm, ← List.length_append]; exact q
noncomputable def tw0 : Bl := .cons (.assign (.var 5) (.attr (.var 1) "tail")) (.cons (.ite (.cmp (.attr (.var 1) "size") (.one .lt (.var 3))) (.cons (.assign (.var 8) (.bin .add (.attr (.var 0) "tail") (.attr (.var 1) "tail"))) (.cons (.assign (.var 5) (.slice (.var 8) (.max2 (.int 0) (.bin .sub (.len (.var 8)) (.var 3))) .none)) .nil)) .nil) tw1)
theorem tw_0 (hm : W.length = m + 1) (h2 : m ≤ 199) (q : Q (pcV ad W m (a ++ b))) : WB (C2 ad (d + 1)) tw0 ⟨[some (pcV ad W m a), some (pcV ad W m b), some (lst W), some (.int m), some (lst ((a ++ b).take m)), none, none, none, none], H, H⟩ (PK H Q) X := by
 have ha : (tl m a).length ≤ m := by rw [tl_len]; exact Nat.min_le_left ..
 have hb : (tl m b).length ≤ m := by rw [tl_len]; exact Nat.min_le_left ..
 refine w_asg (w := lst (tl m b)) (ev_at rfl rfl) rfl (w_if (decide ((b.length : Int) < m)) (ev_cmp (ev_at rfl rfl) (ec_one (ev_var rfl) cm_lt)) (fun e => ?_) fun e => ?_)
 ·have hlt := Int.ofNat_lt.mp (of_decide_eq_true e)
  refine w_asg (w := lst (tl m a ++ tl m b)) (ev_catT (ev_at rfl rfl) (ev_at rfl rfl) (Nat.le_trans (Nat.add_le_add (Nat.le_trans ha h2) (Nat.le_trans hb h2)) (by decide))) rfl (w_asg (ev_tlT (l := tl m a ++ tl m b) (m := m) (ev_var rfl) (ev_max2 ev_int (ev_sb (ev_lenT (ev_var rfl)) (ev_var rfl)))) rfl (kn_nil ?_))
  rw [tail_short hlt]
  exact tw_1 hm h2 q
 ·have hge := of_decide_eq_false e
  have t := tail_long (m := m) (a := a) (b := b) (Int.ofNat_le.mp (Int.not_lt.mp hge))
  have h := tw_1 (ad := ad) (d := d) (H := H) (Q := Q) (X := X) (x8 := none) hm h2 q
  rw [t] at h
  exact kn_nil h
theorem ca_two (hm : W.length = m + 1) (h2 : m ≤ 199) : Ca (C2 ad (d + 2)) "two" [pcV ad W m a, pcV ad W m b, lst W] H (pcV ad W m (a ++ b)) := ca_of (fn := L12.F_two) rfl rfl (by decide) fun Q X q => by
 have ha : (a.take m).length ≤ m := List.length_take_le ..
 have hb : (b.take m).length ≤ m := List.length_take_le ..
 have h := tw_0 (ad := ad) (d := d) (H := H) (X := fun x z' => X x) hm h2 q
 refine w_asg (w := .int m) ((show ((W.length : Int) - 1) = m by rw [hm]; exact Int.add_sub_cancel (m : Int) 1) ▸ ev_sb (ev_lenT (ev_var rfl)) ev_int) rfl (w_asg (w := lst ((a.take m ++ b.take m).take m)) (ev_hdT (ev_catT (ev_at rfl rfl) (ev_at rfl rfl) (Nat.le_trans (Nat.add_le_add (Nat.le_trans ha h2) (Nat.le_trans hb h2)) (by decide))) (ev_var rfl)) rfl (w_if (decide ((a.length : Int) ≥ m)) (ev_cmp (ev_at rfl rfl) (ec_one (ev_var rfl) cm_ge)) (fun e => ?_) fun e => ?_))
 ·have hge := of_decide_eq_true e
  rw [head_long (b := b) (Int.ofNat_le.mp hge)] at h
  exact w_asg (w := lst (a.take m)) (ev_at rfl rfl) rfl (kn_nil h)
 ·have hlt := of_decide_eq_false e
  rw [← head_short (b := b) (Int.ofNat_lt.mp (Int.not_le.mp hlt))] at h
  exact kn_nil h
end
theorem ca_pof (hm : W.length = m + 1) (c : Nat) : Ca (C2 ad (d + 1)) "piece_of" [lst [c], lst W] H (pcV ad W m [c]) := ca_of (fn := L12.F_piece_of) rfl rfl (by decide) fun Q X q => by
 unfold pcV at q
 rw [occs_one (hm ▸ Nat.succ_pos m), tl_one] at q
 have e1 := ev_hdT (C := C2 ad d) (st := ⟨[some (lst [c]), some (lst W), some (.int m), none], H, H⟩) (e := .var 0) (e' := .var 2) (l := [c]) (m := m) (fun z' z' q => q) (fun z' z' q => q)
 refine w_asg (w := .int m) ((show ((W.length : Int) - 1) = m by rw [hm]; exact Int.add_sub_cancel (m : Int) 1) ▸ ev_sb (ev_lenT (ev_var rfl)) ev_int) rfl (w_new (sz := 1) ev_int e1 e1 rfl fun r h1 h2 => w_if (decide ([c] = W)) (ev_eqT (ev_var rfl) (ev_var rfl)) (fun e => ?_) fun e => ?_)
 ·rw [if_pos (of_decide_eq_true e).symm] at q
  exact w_seta (w := .int 1) ev_int rfl h2 upd_eq rfl (w_seta (w := .int 0) ev_int rfl h2 upd_eq rfl (kn_nil (r1 (ev_var rfl) (fz_iref (o := some 0) (sz := 1) (h := [c].take m) (t := [c].take m) (tm := 1) h2 upd_eq) q)))
 ·rw [if_neg (Ne.symm (of_decide_eq_false e))] at q
  exact kn_nil (r1 (ev_var rfl) (fz_iref (o := none) h2 upd_eq) q)
end
end Lib
end
section
set_option autoImplicit false
set_option linter.unusedSimpArgs false
set_option linter.unusedVariables false
namespace Lib
open PySem Mine
section
variable {ad d : Nat} {H : AH} {W : List Nat} {m : Nat} {rs : List Rl} {row : List Sy}
theorem tx_at {ts : List (List Nat)} {k : Nat} (h : k < ts.length) : ts[k]? = some (tx ts (.ru k)) := by simp [tx, List.getD, List.getElem?_eq_getElem h]
theorem ca_pby {s : Sy} {u : V} {ts : List (List Nat)} (hm : W.length = m + 1) (hu : seqL H u = some (ts.map (pcV ad W m))) (hs : s.ok ts.length) : Ca (C2 ad (d + 2)) "piece_by" [s.v, u, lst W] H (pcV ad W m (tx ts s)) := ca_of (fn := L12.F_piece_by) rfl rfl (by decide) fun Q X q => by
 cases s with
 | ch c => exact ca_pof hm c _ _ (pk_of fz_pc q)
 | ru k => exact Sb.of (H := H) hu (k := k) (by rw [List.getElem?_map, tx_at hs]; rfl) _ (pk_of fz_pc q)
noncomputable def whB1 : Bl := .cons (.append (.var 2) (.pure (.call "two" (.cons (.call "piece_by" (.cons (.sub (.var 3) (.int 0)) (.cons (.var 2) (.cons (.var 1) .nil)))) (.cons (.call "piece_by" (.cons (.sub (.var 3) (.int 1)) (.cons (.var 2) (.cons (.var 1) .nil)))) (.cons (.var 1) .nil)))))) .nil
theorem wh_1 {Q : Fl → St → Prop} {X : String → St → Prop} {r : Bl} {a : Nat} {bk : V} (hm : W.length = m + 1) (h2 : m ≤ 199) (hr : RulesOk rs) (hn : rs.length ≤ 600) (hB : H a = none) (h : ∀ x H', H' a = some (.list ((Tx rs).map (pcV ad W m))) → WB (C2 ad (d + 2)) r ⟨[some bk, some (lst W), some (.ref a), x, none, none], H', H⟩ Q X) : ∀ (rr pre : List Rl) (x : Option V) (H' : AH), pre ++ rr = rs → H' a = some (.list ((Tx pre).map (pcV ad W m))) →
  Fo (C2 ad (d + 2)) (.var 3) whB1 r Q X (rr.map pv) ⟨[some bk, some (lst W), some (.ref a), x, none, none], H', H⟩
 | [], pre, x, H', e, ha => fo_nil (h x H' (cat0 e ▸ ha))
 | p :: rr, pre, x, H', e, ha => by
  have o := okT hr e
  have hl := pre_le e
  refine fo_cons (ρ' := [some bk, some (lst W), some (.ref a), some (pv p), none, none]) rfl (w_app (w := pcV ad W m (tx (Tx pre) p.1 ++ tx (Tx pre) p.2)) rfl ha hB (fun z' z' q => ca_pby hm (seq_ref ha) o.1 _ _ (ca_pby hm (seq_ref ha) o.2 _ _ (ca_two hm h2 _ _ q))) (sl (by rw [List.length_map, Tx_length]; omega)) (kf_nil (wh_1 hm h2 hr hn hB h rr (pre ++ [p]) _ _ (cat1 e) ?_)))
  rw [Tx_snoc, List.map_append]; exact upd_eq
noncomputable def whB2 : Bl := .cons (.assign (.var 4) (.call "two" (.cons (.var 4) (.cons (.call "piece_by" (.cons (.var 5) (.cons (.var 2) (.cons (.var 1) .nil)))) (.cons (.var 1) .nil))))) .nil
theorem bt_one {rs : List Rl} {s : Sy} : bt rs [s] = tx (Tx rs) s := List.append_nil _
theorem wh_2 {Q : V → Prop} {X : String → St → Prop} {a : Nat} {bk : V} {x3 : Option V} {H' : AH} (hm : W.length = m + 1) (h2 : m ≤ 199) (hw : RowOk rs.length row) (ha : H' a = some (.list ((Tx rs).map (pcV ad W m)))) (q : Q (pcV ad W m (bt rs row))) : ∀ (rr pre : List Sy) (x : Option V), pre ++ rr = row →
  Fo (C2 ad (d + 2)) (.var 5) whB2 (.cons (.ret (.var 4)) .nil) (PK H Q) X (rr.map Sy.v) ⟨[some bk, some (lst W), some (.ref a), x3, some (pcV ad W m (bt rs pre)), x], H', H⟩
 | [], pre, x, e => fo_nil (r1 (ev_var rfl) fz_pc (cat0 e ▸ q))
 | s :: rr, pre, x, e => by
  have os : s.ok (Tx rs).length := by rw [Tx_length]; exact hw s (List.mem_of_getElem? (at_pre e))
  have ih := wh_2 (X := X) (bk := bk) (x3 := x3) hm h2 hw ha q rr (pre ++ [s]) (some s.v) (cat1 e)
  rw [bt_append, bt_one] at ih
  exact fo_cons (ρ' := [some bk, some (lst W), some (.ref a), x3, some (pcV ad W m (bt rs pre)), some s.v]) rfl (w_asg (w := pcV ad W m (bt rs pre ++ tx (Tx rs) s)) (fun z' z' q => ca_pby hm (seq_ref ha) os _ _ (ca_two hm h2 _ _ q)) rfl (kf_nil ih))
noncomputable def whT : E := .or (.not (.call "is_text" (.cons (.var 1) .nil))) (.not (.cmp (.int 1) (.more .le (.len (.var 1)) (.one .le (.glob "MOST_WORD")))))
theorem ca_whole (h : Bk rs row) (hS : ∀ c ∈ W, c ∈ SG) (hm : W.length = m + 1) (h2 : m ≤ 199) : Ca (C2 ad (d + 5)) "whole" [bookV rs row, lst W] H (pcV ad W m (bt rs row)) := ca_of (fn := L12.F_whole) rfl rfl (by decide) fun Q X q => by
 have g1 : decide ((1 : Int) ≤ W.length) = true := decide_eq_true (by omega)
 have g2 : decide ((W.length : Int) ≤ 200) = true := decide_eq_true (by omega)
 have e0 : pcV ad W m (bt rs []) = .inst ad pn (pcL 0 [] [] 0 .none) := by
  show V.inst ad pn (pcL 0 (List.take m []) (tl m []) _ _) = _
  rw [List.take_nil, show tl m [] = [] from List.drop_nil]; rfl
 refine w_exp (w := bookV rs row) (fun z' z' q => ca_need h _ _ q) (w_iff (t := whT) (ev_or (p := false) (q := false) (fun z' z' q => tx_ok hS _ _ q) fun z' => ev_not (b := true) (ev_cmp ev_int (ec_more (p := true) (q := true) (ev_lenT (ev_var rfl)) (g1 ▸ cm_le) fun z' => ec_one (ev_glob (v := .int 200) rfl) (g2 ▸ cm_le)))) (kn_nil (w_own0 rfl fun a h1 h3 => w_for (xs := rs.map pv) (ds := []) (fun z' z' q => q) (.inr nofun) (wh_1 (d := d + 2) hm h2 h.r h.n h3 (fun x H' ha => ?_) rs [] none _ rfl upd_eq))))
 exact w_asg (w := .inst ad pn (pcL 0 [] [] 0 .none)) (fun z' z' q => ⟨rfl, q⟩) rfl (w_for (xs := row.map Sy.v) (ds := []) (fun z' z' q => q) (.inr nofun) (e0 ▸ wh_2 (d := d + 2) hm h2 h.w ha q row [] _ rfl))
theorem ca_how (h : Bk rs row) (hS : ∀ c ∈ W, c ∈ SG) (hm : W.length = m + 1) (h2 : m ≤ 199) : Ca (C2 ad (d + 6)) "how_often" [bookV rs row, lst W] H (.int (occs W (bt rs row)).length) := ca_of (fn := L12.F_how_often) rfl rfl (by decide) fun Q X q => ca_whole h hS hm h2 _ _ ⟨has_pc, q⟩
theorem ca_first (h : Bk rs row) (hS : ∀ c ∈ W, c ∈ SG) (hm : W.length = m + 1) (h2 : m ≤ 199) : Ca (C2 ad (d + 6)) "first_place" [bookV rs row, lst W] H (fV (occs W (bt rs row)).head?) := ca_of (fn := L12.F_first_place) rfl rfl (by decide) fun Q X q => ca_whole h hS hm h2 _ _ ⟨has_pc, pk_of (fz_fV _) q⟩
section
variable {Q : V → Prop} {X : String → St → Prop} {n nb : Nat} {v0 v1 v2 v3 : V} {i : Int} {h1 h2 t1 t2 : List Nat} {fa : V} {oa ob fo : Option Nat} {w : List Nat}
end
end
end Lib
end
section
set_option autoImplicit false
set_option linter.unusedSimpArgs false
set_option linter.unusedVariables false
namespace Lib
open PySem Mine
noncomputable def woT : E := .cmp (.len (.var 1)) (.one .gt (.int 0))
noncomputable def woB : Bl := .cons (.pop (.var 3) (.var 1)) (.cons (.ite (.isinst (.var 3) .str) (.cons (.append (.var 2) (.pure (.var 3))) .nil) (.cons (.append (.var 1) (.pure (.sub (.sub (.sub (.var 0) (.int 0)) (.var 3)) (.int 1)))) (.cons (.append (.var 1) (.pure (.sub (.sub (.sub (.var 0) (.int 0)) (.var 3)) (.int 0)))) .nil))) .nil)
noncomputable def woR : Bl := .cons (.ret (.join (.str (Str.ofString "")) (.var 2))) .nil
theorem stk_cons (s : Sy) (w : List Sy) : stk (s :: w) = stk w ++ [s.v] := by unfold stk; rw [List.map_cons, List.reverse_cons]
theorem stk_len (w : List Sy) : (stk w).length = w.length := by unfold stk; rw [List.length_reverse, List.length_map]
section
variable {ad d : Nat} {H : AH} {rs : List Rl} {row : List Sy} {a b : Nat} {Q : V → Prop} {X : String → St → Prop}
noncomputable abbrev wW (ad d : Nat) (H : AH) (Q : V → Prop) (X : String → St → Prop) (rs : List Rl) (row : List Sy) (a b m : Nat) (x : Option V) (H' : AH) : Prop := Wh (C2 ad d) woT woB woR (PK H Q) X m ⟨[some (bookV rs row), some (.ref a), some (.ref b), x], H', H⟩
theorem wo_one (hr : RulesOk rs) (hA : H a = none) (hB : H b = none) (hab : a ≠ b) : ∀ (h : Nat) (s : Sy), s.ok h → h ≤ rs.length → ∀ (W : List Sy) (sg : List Nat) (x : Option V) (H' : AH), W.length + h ≤ 3000 → sg.length + (tx (Tx rs) s).length ≤ 4000 → H' a = some (.list (stk (s :: W))) → H' b = some (.list (ones sg)) →
  (∀ x H', H' a = some (.list (stk W)) → H' b = some (.list (ones (sg ++ tx (Tx rs) s))) → ∃ m, wW ad d H Q X rs row a b m x H') → ∃ m, wW ad d H Q X rs row a b m x H' := by
 have gt : ∀ {x : Option V} {H' : AH} {s : Sy} {W : List Sy}, H' a = some (.list (stk (s :: W))) → Ev (C2 ad d) ⟨[some (bookV rs row), some (.ref a), some (.ref b), x], H', H⟩ woT (.bool true) := fun {x H' s W} ha => (show decide ((((stk (s :: W)).length : Nat) : Int) > 0) = true from decide_eq_true (by rw [stk_len]; exact Int.natCast_pos.mpr (Nat.succ_pos _))) ▸ ev_cmp (ev_len (ev_var rfl) (size_ref ha)) (ec_one ev_int cm_gt)
 intro h
 induction h with
 | zero =>
  intro s hs _ W sg x H' _ hl ha hb c
  cases s with
  | ru k => cases hs
  | ch e =>
   obtain ⟨m, hm⟩ := c (some (.str ⟨#[e]⟩)) ((H'.upd a (.list (stk W))).upd b (.list (ones sg ++ [.str ⟨#[e]⟩]))) (by rw [upd_ne hab]; exact upd_eq) ((ones_snoc' sg e).symm ▸ upd_eq)
   exact ⟨m + 1, wh_step (gt ha) (w_pop (w := .str ⟨#[e]⟩) rfl (stk_cons (.ch e) W ▸ ha) hA rfl (w_ift (fun z' z' q => q) (w_app (w := .str ⟨#[e]⟩) rfl (by rw [upd_ne (Ne.symm hab)]; exact hb) hB (fun z' z' q => q) (sl_ones hl) (kn_nil (kw_nil hm)))))⟩
 | succ h ih =>
  intro s hs hh W sg x H' hw hl ha hb c
  cases s with
  | ch e => exact ih (.ch e) hs (Nat.le_of_succ_le hh) W sg x H' (Nat.le_of_succ_le hw) hl ha hb c
  | ru k =>
   have hk : k < h + 1 := hs
   have hkr := Nat.lt_of_lt_of_le hk hh
   have hg := List.getElem?_eq_getElem hkr
   generalize rs[k] = p at hg
   have o := hr k _ hg
   have et : tx (Tx rs) (.ru k) = tx (Tx rs) p.1 ++ tx (Tx rs) p.2 := tx_rule hr hg
   rw [et, List.length_append] at hl
   have h' := Nat.le_of_succ_le hh
   obtain ⟨m, hm⟩ := ih p.1 (o.1.mono (Nat.lt_succ_iff.mp hk)) h' (p.2 :: W) sg (some (.int k)) (((H'.upd a (.list (stk W))).upd a (.list (stk (p.2 :: W)))).upd a (.list (stk (p.1 :: p.2 :: W)))) (up1 hw (Nat.lt_succ_self h)) (le_l hl) upd_eq (by rw [upd_ne (Ne.symm hab), upd_ne (Ne.symm hab), upd_ne (Ne.symm hab)]; exact hb) fun x H' ha hb => ih p.2 (o.2.mono (Nat.lt_succ_iff.mp hk)) h' W (sg ++ tx (Tx rs) p.1) x H' (dn1 hw (Nat.lt_succ_self h)) (by rw [List.length_append]; exact le_r hl) ha hb fun x H' ha hb => c x H' ha (by rw [et, ← List.append_assoc]; exact hb)
   rw [stk_cons p.1, stk_cons p.2] at hm
   have sb : ∀ {H : AH}, Sb H (.lst (rs.map pv)) (.int k) (pv p) := fun {H} => sb_lst (by rw [List.getElem?_map, hg]; rfl)
   exact ⟨m + 1, wh_step (gt ha) (w_pop (w := .int k) rfl (stk_cons (.ru k) W ▸ ha) hA rfl (w_iff (fun z' z' q => q) (w_app (w := p.2.v) rfl upd_eq hA (fun z' z' q => sb (H := H) _ q) (le4 (by rw [stk_len]; exact Nat.le_trans (Nat.le_add_right ..) (Nat.le_trans hw (by decide)))) (w_app (w := p.1.v) rfl upd_eq hA (fun z' z' q => sb (H := H) _ q) (le4 (by rw [List.length_append, stk_len]; exact Nat.le_trans (Nat.add_le_add_left (Nat.succ_le_succ (Nat.zero_le h)) _) (Nat.le_trans hw (by decide)))) (kn_nil (kw_nil hm))))))⟩
theorem wo_all (hr : RulesOk rs) (hn : rs.length ≤ 600) (hA : H a = none) (hB : H b = none) (hab : a ≠ b) : ∀ (w : List Sy), RowOk rs.length w → ∀ (sg : List Nat) (x : Option V) (H' : AH), w.length ≤ 2000 → sg.length + (bt rs w).length ≤ 4000 → H' a = some (.list (stk w)) → H' b = some (.list (ones sg)) → Q (jn (sg ++ bt rs w)) → ∃ m, wW ad d H Q X rs row a b m x H'
 | [], _, sg, x, H', _, hl, ha, hb, q => ⟨1, wh_end (ev_cmp (ev_len (n := 0) (ev_var rfl) (size_ref ha)) (ec_one ev_int cm_gt)) (r1 (w := jn sg) (ev_join ev_str (ev_var rfl) (seq_ref hb) (strs1 sg) (by rw [lenAll1, show (Str.ofString "").length = 0 from rfl, Nat.zero_mul]; exact Nat.le_of_lt (le4 (Nat.le_trans (Nat.le_add_right ..) hl)))) rfl (by rw [show bt rs [] = [] from rfl, List.append_nil] at q; exact q))⟩
 | s :: w, ok, sg, x, H', hw, hl, ha, hb, q => by
  rw [bt_cons, List.length_append] at hl
  rw [List.length_cons] at hw
  refine wo_one hr hA hB hab _ s (ok s (List.mem_cons_self ..)) (Nat.le_refl _) w sg x H' (Nat.le_trans (Nat.add_le_add (Nat.le_of_succ_le hw) hn) (by decide)) (le_l hl) ha hb fun x H' ha hb => wo_all hr hn hA hB hab w (fun s hs => ok s (List.mem_cons_of_mem _ hs)) _ x H' (Nat.le_of_succ_le hw) (by rw [List.length_append]; exact le_r hl) ha hb ?_
  rw [List.append_assoc, ← bt_cons]; exact q
theorem ca_wo (h : Bk rs row) (hl : (bt rs row).length ≤ 4000) : Ca (C2 ad (d + 5)) "written_out" [bookV rs row] H (jn (bt rs row)) := ca_of (fn := L12.F_written_out) rfl rfl (by decide) fun Q X q => w_exp (w := bookV rs row) (fun z' z' q => ca_need h _ _ q) (w_thaw (vs := stk row) (ev_listOf (ei_rev (fun z' z' q => q) rfl) (by rw [stk_len]; exact Nat.le_of_lt (sl (Nat.le_trans h.m (by decide))))) rfl fun a a1 a2 => w_own0 rfl fun b b1 b2 => by
 have hab : a ≠ b := Ne.symm (of_upd (o' := .list []) b1)
 obtain ⟨m, hm⟩ := wo_all (ad := ad) (d := d + 4) (row := row) (Q := Q) (X := fun x z' => X x) h.r h.n a2 b2 hab row h.w [] none ((H.upd a (.list (stk row))).upd b (.list [])) h.m ((Nat.zero_add _).symm ▸ hl) (by rw [upd_ne hab]; exact upd_eq) upd_eq q
 exact w_while m hm)
theorem jn_lst : ∀ l : List Nat, jn l = lst l := fun l => by
 have := join_S1 (l.map fun c => [c])
 rw [flat_ones, List.map_map] at this
 exact congrArg V.str this
end
end Lib
end
section
set_option autoImplicit false
set_option linter.unusedSimpArgs false
set_option linter.unusedVariables false
namespace Lib
open PySem Mine
noncomputable def dg (c : Nat) : Bool := hasSub (Str.ofString "0123456789") ⟨#[c]⟩
noncomputable def fg (k : Nat) : List Nat := (Str.ofString (toString (k : Int))).cps.toList
noncomputable def tk : Sy → List Nat
 | .ch c => [39, c]
 | .ru k => fg k
noncomputable def fgOk (k : Nat) : Bool := match fg k with
 | [] => false
 | c :: l => !decide (c = 39) && !decide (c = 10) && (c :: l).all dg && Nat.ble (c :: l).length 4 && !(Nat.blt 1 (c :: l).length && decide (c = 48)) && (c :: l).all (fun c => 48 ≤ c && c ≤ 57) && decide ((c :: l).foldl (fun n c => n * 10 + (c - 48)) 0 = k)
theorem fg_ok : ∀ k, k < 200 → fgOk k = true := by decide +kernel
structure Fg (k c : Nat) (l : List Nat) : Prop where
 e : fg k = c :: l
 q : c ≠ 39
 n : c ≠ 10
 d : ∀ x ∈ c :: l, dg x = true
 z : (c :: l).length ≤ 4
 o : ¬ (1 < (c :: l).length ∧ c = 48)
 a : allDigits (c :: l) = true
 v : digitsVal (c :: l) = k
theorem fg_of {k : Nat} (h : k < 200) : ∃ c l, Fg k c l := by
 have h := fg_ok k h
 unfold fgOk at h
 cases e : fg k with
 | nil => rw [e] at h; cases h
 | cons c l =>
  rw [e] at h
  simp only [Bool.and_eq_true, Bool.not_eq_true', decide_eq_false_iff_not, decide_eq_true_eq, List.all_eq_true] at h
  obtain ⟨⟨⟨⟨⟨⟨h1, h2⟩, h3⟩, h4⟩, h5⟩, h6⟩, h7⟩ := h
  exact ⟨c, l, e, h1, h2, h3, Nat.le_of_ble_eq_true h4, (fun ⟨q1, q2⟩ => by rw [Nat.blt_eq.mpr q1, decide_eq_true q2] at h5; cases h5), List.all_eq_true.mpr fun x hx => Bool.and_eq_true_iff.mpr ⟨decide_eq_true (h6 x hx).1, decide_eq_true (h6 x hx).2⟩, h7⟩
noncomputable def tkOk : Sy → Prop
 | .ch _ => True
 | .ru k => k < 200
noncomputable def Bhd (r : List Nat) : Prop := r = [] ∨ ∃ c r', r = c :: r' ∧ dg c = false
section
variable {ad d : Nat} {H : AH} {L pre r : List Nat} {s : Sy}
theorem sb_txt {l : List Nat} {k c : Nat} (h : l[k]? = some c) : Sb H (lst l) (.int k) (lst [c]) := fun Q q => by
 show (match idx l.length (k : Int) with
  | some n => (match l[n]? with
   | some c => Q (.str ⟨#[c]⟩)
   | none => False)
  | none => False)
 rw [idx_nat (List.getElem?_eq_some_iff.mp h).1]
 show (match l[k]? with
  | some c => Q (.str ⟨#[c]⟩)
  | none => False)
 rw [h]; exact q
theorem cm_dg {c : Nat} {b : Bool} (h : dg c = b) : Cm H .isin (lst [c]) (.str (Str.ofString "0123456789")) b := fun Q q => (show Q (dg c) from h ▸ q)
theorem ev_intT {C : Cx} {st : St} {a : E} {l : List Nat} (ha : Ev C st a (lst l)) (h1 : allDigits l = true) (h2 : 0 < l.length) (h3 : l.length ≤ 100) : Ev C st (.intOf a) (.int (digitsVal l)) := fun Q X q => ha _ _ ⟨h1, h2, h3, q⟩
theorem l_q : Str.ofString "'" = ⟨[39].toArray⟩ := by decide +kernel
theorem l_0 : Str.ofString "0" = ⟨[48].toArray⟩ := by decide +kernel
theorem l_e : Str.ofString "" = ⟨([] : List Nat).toArray⟩ := by decide +kernel
theorem l_n : Str.ofString "\n" = ⟨[10].toArray⟩ := by decide +kernel
theorem l_s : Str.ofString " " = ⟨[32].toArray⟩ := by decide +kernel
theorem ev_li {C : Cx} {st : St} {s : Str} {l : List Nat} (h : s = ⟨l.toArray⟩) : Ev C st (.str s) (lst l) := h ▸ ev_str
theorem drop_pre {α : Type} {pre r L : List α} (e : pre ++ r = L) : L.drop pre.length = r := by rw [← e, List.drop_left]
noncomputable def syT : E := .and (.cmp (.var 2) (.one .lt (.len (.var 0)))) (.cmp (.sub (.var 0) (.var 2)) (.one .isin (.glob "FIGURES")))
noncomputable def syB : Bl := .cons (.assign (.var 2) (.bin .add (.var 2) (.int 1))) .nil
theorem sy_loop {Q : Fl → St → Prop} {X : String → St → Prop} {R : Bl} {p : Nat} (hr : Bhd r) (hR : WB (C2 ad d) R ⟨[some (lst L), some (.int p), some (.int (L.length - r.length : Nat)), none], H, H⟩ Q X) : ∀ (l pre : List Nat), pre ++ (l ++ r) = L → (∀ c ∈ l, dg c = true) → Wh (C2 ad d) syT syB R Q X (l.length + 1) ⟨[some (lst L), some (.int p), some (.int pre.length), none], H, H⟩
 | [], pre, e, _ => by
  have hl : L.length - r.length = pre.length := by rw [← e, List.nil_append, List.length_append, Nat.add_sub_cancel]
  rw [hl] at hR
  rcases hr with rfl | ⟨c, r', rfl, hc⟩
  ·exact wh_end (ev_and (p := false) (q := true) ((show decide ((pre.length : Int) < (L.length : Int)) = false from decide_eq_false (by rw [← e, List.nil_append, List.append_nil]; exact Int.lt_irrefl _)) ▸ ev_cmp (ev_var rfl) (ec_one (ev_lenT (ev_var rfl)) cm_lt)) nofun) hR
  ·exact wh_end (ev_and (p := true) (q := false) (decide_eq_true (Int.ofNat_lt.mpr (pre_le e)) ▸ ev_cmp (ev_var rfl) (ec_one (ev_lenT (ev_var rfl)) cm_lt)) fun z' => ev_cmp (ev_sub (ev_var rfl) (ev_var rfl) (sb_txt (at_pre e))) (ec_one (ev_glob (v := .str (Str.ofString "0123456789")) rfl) (cm_dg hc))) hR
 | c :: l, pre, e, hd => by
  have ih := sy_loop (p := p) hr hR l (pre ++ [c]) (by rw [← e, List.append_assoc]; rfl) fun x hx => hd x (List.mem_cons_of_mem _ hx)
  rw [List.length_append] at ih
  exact wh_step (ev_and (p := true) (q := true) (decide_eq_true (Int.ofNat_lt.mpr (pre_le e)) ▸ ev_cmp (ev_var rfl) (ec_one (ev_lenT (ev_var rfl)) cm_lt)) fun z' => ev_cmp (ev_sub (ev_var rfl) (ev_var rfl) (sb_txt (at_pre e))) (ec_one (ev_glob (v := .str (Str.ofString "0123456789")) rfl) (cm_dg (hd c (List.mem_cons_self ..))))) (w_asg (w := .int ((pre.length + 1 : Nat) : Int)) (fun z' z' q => q) rfl (kw_nil ih))
theorem ca_syat (hs : tkOk s) (hr : Bhd r) (e : pre ++ (tk s ++ r) = L) : Ca (C2 ad (d + 1)) "symbol_at" [lst L, .int pre.length] H (.tup [s.v, .int (pre ++ tk s).length]) := ca_of (fn := L12.F_symbol_at) rfl rfl (by decide) fun Q X q => by
 have hd := drop_pre e
 have hp : pre.length ≤ L.length := by rw [← e, List.length_append]; exact Nat.le_add_right ..
 have e1 : ∀ {x y : Option V}, Ev (C2 ad d) ⟨[some (lst L), some (.int pre.length), x, y], H, H⟩ (.slice (.var 0) (.var 1) (.bin .add (.var 1) (.int 1))) (lst ((tk s ++ r).take 1)) := fun {x y} => hd ▸ ev_slT (n := 1) (ev_var rfl) (ev_var rfl) (fun z' z' q => q) hp
 rw [List.length_append] at q
 cases s with
 | ch c =>
  have h2 : pre.length + 1 < L.length := by rw [← e, List.length_append]; show _ < _ + (r.length + 1 + 1); omega
  have g : L[pre.length + 1]? = some c := by rw [← e, List.getElem?_append_right (Nat.le_add_right ..), Nat.add_sub_cancel_left]; rfl
  exact w_ift (ev_eqT (x := [39]) (y := [39]) e1 (ev_li l_q)) (w_iff (decide_eq_false (show ¬ (((pre.length + 1 : Nat) : Int) ≥ (L.length : Int)) by omega) ▸ ev_cmp (u := .int ((pre.length + 1 : Nat) : Int)) (fun z' z' q => q) (ec_one (ev_lenT (ev_var rfl)) cm_ge)) (kn_nil (r2 (w := .tup [lst [c], .int ((pre.length + 2 : Nat) : Int)]) (ev_tup (vs := [lst [c], .int ((pre.length + 2 : Nat) : Int)]) (evs_cons (ev_sub (k := .int ((pre.length + 1 : Nat) : Int)) (ev_var rfl) (fun z' z' q => q) (sb_txt g)) (evs_cons (fun z' z' q => q) evs_nil)) rfl) rfl q)))
 | ru k =>
  obtain ⟨c, l, F⟩ := fg_of hs
  have et : tk (.ru k) = c :: l := F.e
  rw [et] at e e1 hd q
  have hl : L.length - r.length = pre.length + (c :: l).length := by rw [← e, List.length_append, List.length_append]; omega
  have e3 : ∀ {y : Option V}, Ev (C2 ad d) ⟨[some (lst L), some (.int pre.length), some (.int (L.length - r.length : Nat)), y], H, H⟩ (.slice (.var 0) (.var 1) (.var 2)) (lst (c :: l)) := fun {y} => by
   have := ev_slT (C := C2 ad d) (st := ⟨[some (lst L), some (.int pre.length), some (.int (L.length - r.length : Nat)), y], H, H⟩) (e := .var 0) (e' := .var 1) (e'' := .var 2) (n := (c :: l).length) (ev_var rfl) (ev_var rfl) (hl ▸ ev_var rfl) hp
   rwa [hd, List.take_left] at this
  refine w_iff (decide_eq_false (show ¬ ([c] = [39]) from fun q => F.q (List.cons.inj q).1) ▸ ev_eqT (x := [c]) e1 (ev_li l_q)) (kn_nil (w_asg (w := .int pre.length) (ev_var rfl) rfl (w_while _ (sy_loop (p := pre.length) hr (w_asg (w := lst (c :: l)) e3 rfl (w_iff ?_ (kn_nil (r1 (w := .tup [.int k, .int (L.length - r.length : Nat)]) (ev_tup (vs := [.int k, .int (L.length - r.length : Nat)]) (evs_cons (F.v ▸ ev_intT (ev_var rfl) F.a (Nat.succ_pos _) (Nat.le_trans F.z (by decide))) (evs_cons (ev_var rfl) evs_nil)) rfl) rfl (by rw [hl]; exact q))))) (c :: l) pre e F.d))))
  have z := F.z
  refine ev_or (p := false) (q := false) (ev_eqT (x := c :: l) (y := []) (ev_var rfl) (ev_li l_e)) fun z' => ev_or (p := false) (q := false) (decide_eq_false (show ¬ (((c :: l).length : Int) > 4) by omega) ▸ ev_cmp (ev_lenT (ev_var rfl)) (ec_one (ev_glob (v := .int 4) rfl) cm_gt)) fun z' => ?_
  have o : (decide (((c :: l).length : Int) > 1) && decide ([c] = [48])) = false := by
   rw [Bool.and_eq_false_iff, decide_eq_false_iff_not, decide_eq_false_iff_not]
   rcases Nat.lt_or_ge 1 (c :: l).length with h | h
   ·exact .inr fun q => F.o ⟨h, (List.cons.inj q).1⟩
   ·exact .inl (by omega)
  exact o ▸ ev_and (ev_cmp (ev_lenT (ev_var rfl)) (ec_one ev_int cm_gt)) fun z' => ev_eqT (ev_sub (ev_var rfl) ev_int (sb_txt (k := 0) rfl)) (ev_li l_0)
end
end Lib
end
section
set_option autoImplicit false
set_option linter.unusedSimpArgs false
set_option linter.unusedVariables false
namespace Lib
open PySem Mine
noncomputable def rv (r : List Sy) : List V := r.map Sy.v
structure RS (H H' : AH) (a : Nat) (P : List (Nat × List Sy)) (x : Nat) (cur : List Sy) : Prop where
 la : H' a = some (.list ((P ++ [(x, cur)]).map fun p => .ref p.1))
 rb : ∀ p ∈ P, H' p.1 = some (.list (rv p.2)) ∧ H p.1 = none ∧ p.1 ≠ a ∧ p.1 ≠ x
 lx : H' x = some (.list (rv cur))
 ax : a ≠ x
 ba : H a = none
 bx : H x = none
theorem mapO_map {α : Type} {f : V → Option V} {g h : α → V} : ∀ {l : List α}, (∀ p ∈ l, f (g p) = some (h p)) → mapO f (l.map g) = some (l.map h)
 | [], _ => rfl
 | p :: l, e => by
  show (match f (g p), mapO f (l.map g) with
   | some x, some xs => some (x :: xs)
   | _, _ => none) = _
  rw [e p (List.mem_cons_self ..), mapO_map fun q hq => e q (List.mem_cons_of_mem _ hq)]; rfl
section
variable {H H' : AH} {a x : Nat} {P : List (Nat × List Sy)} {cur : List Sy}
theorem RS.frz (h : RS H H' a P x cur) : frz H' H 8 (.ref a) = some (.lst ((P.map (·.2) ++ [cur]).map fun r => .lst (rv r))) := by
 show (match H a with
  | some _ => some (V.ref a)
  | none => (match H' a with
   | some (.list vs) => (mapO (Mine.frz H' H 7) vs).map V.lst
   | _ => none)) = _
 rw [h.ba, h.la]
 show (mapO (Mine.frz H' H 7) ((P ++ [(x, cur)]).map fun p => .ref p.1)).map V.lst = _
 rw [mapO_map (h := fun p => V.lst (rv p.2)) fun p hp => ?_]
 ·rw [List.map_append, List.map_append, List.map_map]; rfl
 ·rcases List.mem_append.mp hp with hp | hp
  ·exact frz_ref (h.rb p hp).2.1 (h.rb p hp).1 fz_row
  ·rw [List.mem_singleton.mp hp]; exact frz_ref h.bx h.lx fz_row
theorem RS.app (h : RS H H' a P x cur) (s : Sy) : RS H (H'.upd x (.list (rv cur ++ [s.v]))) a P x (cur ++ [s]) :=
 ⟨by rw [upd_ne h.ax, h.la, List.map_append, List.map_append]; rfl, fun p hp => let q := h.rb p hp; ⟨by rw [upd_ne q.2.2.2]; exact q.1, q.2⟩, by rw [upd_eq, show rv (cur ++ [s]) = rv cur ++ [s.v] from List.map_append ..], h.ax, h.ba, h.bx⟩
theorem RS.new (h : RS H H' a P x cur) {c : Nat} (hc : c ≠ a) (h1 : H' c = none) (h2 : H c = none) : RS H ((H'.upd c (.list [])).upd a (.list ((P ++ [(x, cur)]).map (fun p => V.ref p.1) ++ [.ref c]))) a (P ++ [(x, cur)]) c [] := by
 refine ⟨by rw [upd_eq, List.map_append (l₂ := [(c, [])])]; rfl, fun p hp => ?_, by rw [upd_ne hc, upd_eq]; rfl, Ne.symm hc, h.ba, h2⟩
 have k : H' p.1 = some (.list (rv p.2)) ∧ H p.1 = none ∧ p.1 ≠ a := by
  rcases List.mem_append.mp hp with hp | hp
  ·exact ⟨(h.rb p hp).1, (h.rb p hp).2.1, (h.rb p hp).2.2.1⟩
  ·rw [List.mem_singleton.mp hp]; exact ⟨h.lx, h.bx, Ne.symm h.ax⟩
 have pc : p.1 ≠ c := fun q => by rw [q, h1] at k; cases k.1
 exact ⟨by rw [upd_ne k.2.2, upd_ne pc]; exact k.1, k.2.1, k.2.2, pc⟩
theorem neg1 {n : Nat} : (-1 : Int) + ((n + 1 : Nat) : Int) = n := by omega
theorem idx_last {n : Nat} : idx (n + 1) (-1) = some n := by
 unfold idx
 rw [if_neg (by decide), neg1, if_pos (Int.natCast_nonneg n)]; rfl
theorem sb_end {l : List V} {w : V} : Sb H (.lst (l ++ [w])) (.int (-1)) w := fun Q q => by
 show (match idx (l ++ [w]).length (-1) with
  | some n => (match (l ++ [w])[n]? with
   | some v => Q v
   | Option.none => False)
  | Option.none => False)
 rw [List.length_append, show l.length + [w].length = l.length + 1 from rfl, idx_last]
 show (match (l ++ [w])[l.length]? with
   | some v => Q v
   | Option.none => False)
 rw [List.getElem?_append_right (Nat.le_refl _), Nat.sub_self]; exact q
theorem RS.last (h : RS H H' a P x cur) : Sb H' (.ref a) (.int (-1)) (.ref x) := fun Q q => by
 show (match H' a with
  | some (.dict kvs) => _
  | some (.list vs) => _
  | _ => False)
 rw [h.la, List.map_append]
 exact sb_end (H := H') Q q
end
section
variable {C : Cx} {ρ : List (Option V)} {H B : AH} {Q : Fl → St → Prop} {X : String → St → Prop} {r : Bl} {e a : E} {b : Nat} {vs : List V} {w : V}
theorem w_appE (he : Ev C ⟨ρ, H, B⟩ e (.ref b)) (hb : H b = some (.list vs)) (hB : B b = none) (hv : Ev C ⟨ρ, H, B⟩ a w) (hl : vs.length < sizeLine) (h : WB C r ⟨ρ, H.upd b (.list (vs ++ [w])), B⟩ Q X) : WB C (.cons (.append e (.pure a)) r) ⟨ρ, H, B⟩ Q X := by
 refine he _ (fun x => X x ⟨ρ, H, B⟩) ?_
 show (match H b with
   | some (.list _) => _
   | _ => False)
 rw [hb]
 refine hv _ _ ?_
 show (match H b with
    | some (.list vs) => _
    | _ => False)
 rw [hb]
 exact ⟨hB, hl, h⟩
theorem w_appO (he : Ev C ⟨ρ, H, B⟩ e (.ref b)) (hb : H b = some (.list vs)) (hB : B b = none) (hl : vs.length < sizeLine) (h : ∀ c, c ≠ b → H c = none → B c = none → WB C r ⟨ρ, (H.upd c (.list [])).upd b (.list (vs ++ [.ref c])), B⟩ Q X) : WB C (.cons (.append e (.list .nil)) r) ⟨ρ, H, B⟩ Q X := by
 refine he _ (fun x => X x ⟨ρ, H, B⟩) ?_
 show (match H b with
   | some (.list _) => _
   | _ => False)
 rw [hb]
 refine ⟨by decide, fun c h1 h2 => ?_⟩
 have h1 : H c = none := h1
 have hc : c ≠ b := fun q => by rw [q, hb] at h1; cases h1
 show (match (H.upd c (.list [])) b with
    | some (.list vs) => _
    | _ => False)
 rw [upd_ne (Ne.symm hc), hb]
 exact ⟨hB, hl, h c hc h1 h2⟩
theorem w_own00 {i : Nat} (hi : Nat.blt i ρ.length = true) (h : ∀ b c, b ≠ c → H b = none → B b = none → H c = none → B c = none → WB C r ⟨ρ.set i (some (.ref c)), (H.upd b (.list [])).upd c (.list [.ref b]), B⟩ Q X) : WB C (.cons (.own i (.list (.cons (.list .nil) .nil))) r) ⟨ρ, H, B⟩ Q X := by
 refine ⟨by decide, fun b h1 h2 => ⟨by show (1 : Nat) ≤ _; decide, fun c h3 h4 => ?_⟩⟩
 have h3 : (H.upd b (.list [])) c = none := h3
 have hc : c ≠ b := of_upd (o' := .list []) h3
 show (match (match putV i (.ref c) ρ with
  | some ρ' => _
  | none => False) with
  | p => p)
 unfold putV; rw [if_pos (Nat.blt_eq.mp hi)]
 exact h b c (Ne.symm hc) h1 h2 (by rw [upd_ne hc] at h3; exact h3) h4
end
noncomputable def sep (b : Bool) : Nat := if b then 10 else 32
noncomputable def lin : List (Sy × Bool) → Option Sy → List Nat
 | [], none => []
 | [], some s => tk s
 | t :: T, o => tk t.1 ++ (sep t.2 :: lin T o)
noncomputable def eff : List (Sy × Bool) → Option Sy → List Sy → List (List Sy)
 | [], none, cur => [cur]
 | [], some s, cur => [cur ++ [s]]
 | (s, true) :: T, o, cur => (cur ++ [s]) :: eff T o []
 | (s, false) :: T, o, cur => eff T o (cur ++ [s])
noncomputable def linOk : List (Sy × Bool) → Option Sy → Prop
 | [], none => True
 | [], some s => tkOk s
 | t :: T, o => tkOk t.1 ∧ (t.2 = false → lin T o ≠ []) ∧ linOk T o
theorem tk_pos {s : Sy} (h : tkOk s) : ∃ c l, tk s = c :: l ∧ c ≠ 10 := by
 cases s with
 | ch c => exact ⟨39, [c], rfl, by decide⟩
 | ru k =>
  obtain ⟨c, l, F⟩ := fg_of h
  exact ⟨c, l, F.e, F.n⟩
theorem bhd_sep {b : Bool} {l : List Nat} : Bhd (sep b :: l) := .inr ⟨sep b, l, rfl, by cases b <;> decide +kernel⟩
theorem cm_neT {H : AH} {a b : List Nat} : Cm H .ne (lst a) (lst b) (!decide (a = b)) := fun Q q => (show eqV H (lst a) (lst b) (fun r => Q (!r)) from by rw [eqV_lst]; exact q)
noncomputable def rowT : E := .cmp (.var 2) (.one .lt (.len (.var 0)))
noncomputable def rowB2 : Bl := .cons (.ite rowT (.cons (.ite (.cmp (.sub (.var 0) (.var 2)) (.one .eq (.str (Str.ofString "\n")))) (.cons (.append (.var 1) (.list .nil)) .nil) (.cons (.ite (.or (.cmp (.sub (.var 0) (.var 2)) (.one .ne (.str (Str.ofString " ")))) (.cmp (.bin .add (.var 2) (.int 1)) (.one .eq (.len (.var 0))))) (.cons (.raise "NoBook" (.str (Str.ofString "no blank and symbol"))) .nil) .nil) .nil)) (.cons (.assign (.var 2) (.bin .add (.var 2) (.int 1))) .nil)) .nil) .nil
noncomputable def rowB : Bl := .cons (.ite (.and (.cmp (.sub (.var 0) (.var 2)) (.one .eq (.str (Str.ofString "\n")))) (.cmp (.sub (.var 1) (.neg (.int 1))) (.one .eq (.list .nil)))) (.cons (.raise "NoBook" (.str (Str.ofString "an empty rule"))) .nil) .nil) (.cons (.assign (.var 3) (.call "symbol_at" (.cons (.var 0) (.cons (.var 2) .nil)))) (.cons (.append (.sub (.var 1) (.neg (.int 1))) (.pure (.sub (.var 3) (.int 0)))) (.cons (.assign (.var 2) (.sub (.var 3) (.int 1))) rowB2)))
noncomputable def rowR : Bl := .cons (.ret (.var 1)) .nil
section
variable {ad d : Nat} {H : AH} {L : List Nat} {a : Nat} {Q : V → Prop} {X : String → St → Prop}
noncomputable abbrev rS (L : List Nat) (a : Nat) (n : Nat) (y : Option V) : List (Option V) := [some (lst L), some (.ref a), some (.int n), y]
theorem at_lt {n : Nat} {y : Option V} {H' : AH} (h : n < L.length) : Ev (C2 ad d) ⟨rS L a n y, H', H⟩ rowT (.bool true) := decide_eq_true (Int.ofNat_lt.mpr h) ▸ ev_cmp (ev_var rfl) (ec_one (ev_lenT (ev_var rfl)) cm_lt)
theorem at_end {n : Nat} {y : Option V} {H' : AH} (h : n = L.length) : Ev (C2 ad d) ⟨rS L a n y, H', H⟩ rowT (.bool false) := (show decide ((n : Int) < L.length) = false from decide_eq_false (by rw [h]; exact Int.lt_irrefl _)) ▸ ev_cmp (ev_var rfl) (ec_one (ev_lenT (ev_var rfl)) cm_lt)
theorem row_tok {m x : Nat} {P : List (Nat × List Sy)} {cur : List Sy} {s : Sy} {r pre : List Nat} {y : Option V} {H' : AH} (hs : tkOk s) (hr : Bhd r) (e : pre ++ (tk s ++ r) = L) (R : RS H H' a P x cur) (hc : cur.length < 5000)
  (hb : ∀ H' z, RS H H' a P x (cur ++ [s]) → WB (C2 ad (d + 1)) rowB2 ⟨rS L a (pre ++ tk s).length z, H', H⟩ (Kw (C2 ad (d + 1)) rowT rowB rowR (PK H Q) X m) X) : Wh (C2 ad (d + 1)) rowT rowB rowR (PK H Q) X (m + 1) ⟨rS L a pre.length y, H', H⟩ := by
 obtain ⟨c, l, et, hn⟩ := tk_pos hs
 have e' : pre ++ (c :: (l ++ r)) = L := by rw [← e, et]; rfl
 exact wh_step (at_lt (pre_le e')) (w_iff (ev_and (p := false) (q := true) (decide_eq_false (show ¬ ([c] = [10]) from fun q => hn (List.cons.inj q).1) ▸ ev_eqT (ev_sub (ev_var rfl) (ev_var rfl) (sb_txt (at_pre e'))) (ev_li l_n)) nofun) (kn_nil (w_asg (w := .tup [s.v, .int (pre ++ tk s).length]) (fun z' z' q => ca_syat hs hr e _ _ q) rfl (w_appE (ev_sub (ev_var rfl) (ev_neg ev_int) R.last) R.lx R.bx (w := s.v) (fun z' z' q => q) (sl (by rw [rv, List.length_map]; omega)) (w_asg (w := .int (pre ++ tk s).length) (fun z' z' q => q) rfl (hb _ _ (R.app s)))))))
theorem rows_loop : ∀ (T : List (Sy × Bool)) (o : Option Sy) (pre : List Nat) (P : List (Nat × List Sy)) (x : Nat) (cur : List Sy) (y : Option V) (H' : AH), linOk T o → pre ++ lin T o = L → RS H H' a P x cur → cur.length + T.length < 5000 → P.length + T.length < 5000 → Q (.lst ((P.map (·.2) ++ eff T o cur).map fun r => .lst (rv r))) →
  Wh (C2 ad (d + 1)) rowT rowB rowR (PK H Q) X (T.length + 2) ⟨rS L a pre.length y, H', H⟩
 | [], none, pre, P, x, cur, y, H', _, e, R, _, _, q => wh_end (at_end (by rw [← cat0 e])) (r1 (ev_var rfl) R.frz q)
 | [], some s, pre, P, x, cur, y, H', ok, e, R, hc, _, q => row_tok (r := []) ok (.inl rfl) (by rw [List.append_nil]; exact e) R (by omega) fun H' z R => by
  have hz := at_end (ad := ad) (d := d + 1) (H := H) (a := a) (y := z) (H' := H') (congrArg List.length (show pre ++ tk s = L from e))
  exact w_iff hz (kn_nil (kw_nil (wh_end hz (r1 (ev_var rfl) R.frz q))))
 | (s, true) :: T, o, pre, P, x, cur, y, H', ok, e, R, hc, hp, q => by
  rw [List.length_cons] at hc hp
  have e2 : (pre ++ tk s) ++ (10 :: lin T o) = L := by rw [← e, List.append_assoc]; rfl
  have ih := fun c z H' R => rows_loop T o (pre ++ tk s ++ [10]) (P ++ [(x, cur ++ [s])]) c [] z H' ok.2.2 (cat1 e2) R (by rw [List.length_nil]; omega) (by rw [List.length_append]; show P.length + 1 + _ < _; omega) (by rw [show (P ++ [(x, cur ++ [s])]).map (·.2) = P.map (·.2) ++ [cur ++ [s]] from List.map_append .., List.append_assoc]; exact q)
  rw [List.length_append (bs := [10])] at ih
  exact row_tok ok.1 (bhd_sep (b := true)) e R (by omega) fun H' z R => w_ift (at_lt (pre_le e2)) (w_ift (ev_eqT (x := [10]) (y := [10]) (ev_sub (ev_var rfl) (ev_var rfl) (sb_txt (at_pre e2))) (ev_li l_n)) (w_appO (ev_var rfl) R.la R.ba (sl (by rw [List.length_map, List.length_append]; show P.length + 1 ≤ _; omega)) fun c c1 c2 c3 => kn_nil (w_asg (w := .int (((pre ++ tk s).length + 1 : Nat) : Int)) (fun z' z' q => q) rfl (kn_nil (kw_nil (ih c _ _ (R.new c1 c2 c3)))))))
 | (s, false) :: T, o, pre, P, x, cur, y, H', ok, e, R, hc, hp, q => by
  rw [List.length_cons] at hc hp
  have e2 : (pre ++ tk s) ++ (32 :: lin T o) = L := by rw [← e, List.append_assoc]; rfl
  have ih := fun z H' R => rows_loop T o (pre ++ tk s ++ [32]) P x (cur ++ [s]) z H' ok.2.2 (cat1 e2) R (by rw [List.length_append]; show cur.length + 1 + _ < _; omega) (by omega) q
  rw [List.length_append (bs := [32])] at ih
  have hne : ¬ ((((pre ++ tk s).length + 1 : Nat) : Int) = L.length) := fun h => by
   have := congrArg List.length e2
   rw [List.length_append, List.length_cons] at this
   have : (lin T o).length = 0 := by omega
   exact ok.2.1 rfl (List.length_eq_zero_iff.mp this)
  exact row_tok ok.1 (bhd_sep (b := false)) e R (by omega) fun H' z R => w_ift (at_lt (pre_le e2)) (w_iff (ev_eqT (x := [32]) (y := [10]) (ev_sub (ev_var rfl) (ev_var rfl) (sb_txt (at_pre e2))) (ev_li l_n)) (w_iff (ev_or (p := false) (q := false) (ev_cmp (ev_sub (ev_var rfl) (ev_var rfl) (sb_txt (at_pre e2))) (ec_one (ev_li l_s) (cm_neT (a := [32]) (b := [32])))) fun z' => decide_eq_false hne ▸ ev_cmp (u := .int (((pre ++ tk s).length + 1 : Nat) : Int)) (fun z' z' q => q) (ec_one (ev_lenT (ev_var rfl)) cm_eq)) (kn_nil (kn_nil (w_asg (w := .int (((pre ++ tk s).length + 1 : Nat) : Int)) (fun z' z' q => q) rfl (kn_nil (kw_nil (ih _ _ R))))))))
theorem ca_rows {T : List (Sy × Bool)} {o : Option Sy} (ok : linOk T o) (hl : T.length < 5000) : Ca (C2 ad (d + 2)) "rows_of" [lst (lin T o)] H (.lst ((eff T o []).map fun r => .lst (rv r))) := ca_of (fn := L12.F_rows_of) rfl rfl (by decide) fun Q X q => w_own00 rfl fun b c hbc h1 h2 h3 h4 => w_asg (w := .int 0) (fun z' z' q => q) rfl (w_while _ (rows_loop T o [] [] b [] none _ ok rfl ⟨upd_eq, nofun, by rw [upd_ne hbc, upd_eq]; rfl, Ne.symm hbc, h3, h1⟩ (by rw [List.length_nil]; omega) (by rw [List.length_nil]; omega) q))
end
end Lib
end
section
set_option autoImplicit false
set_option linter.unusedSimpArgs false
set_option linter.unusedVariables false
namespace Lib
open PySem Mine
noncomputable def jw (c : Nat) : List (List Nat) → List Nat
 | [] => []
 | [x] => x
 | x :: y :: r => x ++ (c :: jw c (y :: r))
theorem join_jw {c : Nat} : ∀ L : List (List Nat), Str.join ⟨[c].toArray⟩ (L.map S1) = S1 (jw c L)
 | [] => rfl
 | [l] => rfl
 | l :: m :: L => by
  show S1 l ++ ⟨[c].toArray⟩ ++ Str.join ⟨[c].toArray⟩ ((m :: L).map S1) = _
  rw [join_jw (m :: L)]
  show (⟨l.toArray⟩ ++ ⟨[c].toArray⟩ : Str) ++ ⟨(jw c (m :: L)).toArray⟩ = _
  rw [cat_lst, cat_lst, List.append_assoc]; rfl
theorem flat_le {k : Nat} : ∀ {L : List (List Nat)}, (∀ l ∈ L, l.length ≤ k) → L.flatten.length ≤ k * L.length
 | [], _ => Nat.zero_le _
 | l :: L, h => by
  have h1 := h l (List.mem_cons_self ..)
  have h2 := flat_le fun x hx => h x (List.mem_cons_of_mem _ hx)
  rw [List.flatten_cons, List.length_append, List.length_cons, Nat.mul_succ, Nat.add_comm]; exact Nat.add_le_add h2 h1
theorem jw_le {c : Nat} : ∀ (L : List (List Nat)), (jw c L).length ≤ L.flatten.length + L.length
 | [] => Nat.le_refl _
 | [x] => by rw [List.flatten_cons, List.length_append]; exact Nat.le_trans (Nat.le_add_right ..) (Nat.le_add_right ..)
 | x :: y :: r => by
  have := jw_le (c := c) (y :: r)
  rw [List.flatten_cons, List.length_append]
  show (x ++ (c :: jw c (y :: r))).length ≤ _
  rw [List.length_append, List.length_cons, List.length_cons]; omega
theorem ev_joinT {C : Cx} {st : St} {s : Str} {e : E} {c : Nat} {L : List (List Nat)} (hs : s = ⟨[c].toArray⟩) (he : Ev C st e (.lst (L.map lst))) (h : L.flatten.length + L.length ≤ 5000) : Ev C st (.join (.str s) e) (lst (jw c L)) := by
 have e2 := ev_join (ev_li hs) he rfl (strs_lst L) (by rw [lenAll_S1, List.length_map]; exact Nat.le_of_lt (sl (by show _ + 1 * _ ≤ _; rw [Nat.one_mul]; exact h)))
 rw [join_jw] at e2
 exact e2
theorem tk_le {s : Sy} (h : tkOk s) : (tk s).length ≤ 4 := by
 cases s with
 | ch c => exact Nat.le_of_ble_eq_true rfl
 | ru k =>
  obtain ⟨c, l, F⟩ := fg_of h
  show (fg k).length ≤ 4
  rw [F.e]; exact F.z
section
variable {ad d : Nat} {H : AH} {rs : List Rl} {row : List Sy}
theorem ca_syshown {s : Sy} (h : tkOk s) : Ca (C2 ad (d + 1)) "symbol_shown" [s.v] H (lst (tk s)) := ca_of (fn := L12.F_symbol_shown) rfl rfl (by decide) fun Q X q => by
 cases s with
 | ch c => exact w_ift (fun z' z' q => q) (r2 (ev_catT (x := [39]) (y := [c]) (ev_li l_q) (ev_var rfl) (Nat.le_of_ble_eq_true rfl)) rfl q)
 | ru k => exact ⟨Nat.lt_trans h (by decide), q⟩
noncomputable def tks (r : List Sy) : List Nat := jw 32 (r.map tk)
theorem tks_fl {r : List Sy} (h : ∀ s ∈ r, tkOk s) : (r.map tk).flatten.length ≤ 4 * r.length := by
 have := flat_le (k := 4) (L := r.map tk) fun l hl => by obtain ⟨s, hs, rfl⟩ := List.mem_map.mp hl; exact tk_le (h s hs)
 rwa [List.length_map] at this
theorem ca_rowshown {u : V} {r : List Sy} (hu : itemsV H u = some (r.map Sy.v)) (h : ∀ s ∈ r, tkOk s) (hl : r.length ≤ 900) : Ca (C2 ad (d + 2)) "row_shown" [u] H (lst (tks r)) := ca_of (fn := L12.F_row_shown) rfl rfl (by decide) fun Q X q => by
 have e := ev_comp (C := C2 ad (d + 1)) (ρ := [some u, none]) (H := H) (B := H) (elt := .call "symbol_shown" (.cons (.var 1) .nil)) (i := 1) (it := .seq (.var 0)) (v := Sy.v) (g := fun s => lst (tk s)) (r := r) (ei_seq (ev_var rfl) hu) (Nat.le_of_lt (sl (Nat.le_trans hl (by decide)))) (Nat.lt_succ_self 1) fun s hs => fun z' z' q => ca_syshown (h s hs) _ _ q
 have f := tks_fl h
 rw [show r.map (fun s => lst (tk s)) = (r.map tk).map lst from by rw [List.map_map]; rfl] at e
 exact r1 (ev_joinT l_s e (by rw [List.length_map]; exact Nat.le_trans (Nat.add_le_add (Nat.le_trans f (Nat.mul_le_mul_left 4 hl)) hl) (by decide))) rfl q
noncomputable def rls (rs : List Rl) (row : List Sy) : List (List Sy) := rs.map (fun p => [p.1, p.2]) ++ [row]
structure Tk (rs : List Rl) (row : List Sy) : Prop where
 r : ∀ p ∈ rs, tkOk p.1 ∧ tkOk p.2
 w : ∀ s ∈ row, tkOk s
 n : rs.length ≤ 200
 m : row.length ≤ 500
theorem Tk.pair (h : Tk rs row) {p : Rl} (hp : p ∈ rs) : ∀ s ∈ [p.1, p.2], tkOk s := List.forall_mem_cons.mpr ⟨(h.r p hp).1, List.forall_mem_singleton.mpr (h.r p hp).2⟩
theorem ca_shown (h : Bk rs row) (t : Tk rs row) : Ca (C2 ad (d + 5)) "shown" [bookV rs row] H (lst (jw 10 ((rls rs row).map tks))) := ca_of (fn := L12.F_shown) rfl rfl (by decide) fun Q X q => by
 have hn := t.n
 have hm := t.m
 have e := ev_comp (C := C2 ad (d + 4)) (ρ := [some (bookV rs row), none, none]) (H := H) (B := H) (elt := .call "row_shown" (.cons (.var 2) .nil)) (i := 2) (it := .seq (.sub (.var 0) (.int 0))) (v := pv) (g := fun p => lst (tks [p.1, p.2])) (r := rs) (ds := []) (fun z' z' q => q) (Nat.le_of_lt (sl (Nat.le_trans hn (by decide)))) (Nat.lt_succ_self 2) fun p hp => fun z' z' q => ca_rowshown (u := pv p) (r := [p.1, p.2]) rfl (t.pair hp) (Nat.le_of_ble_eq_true rfl) _ _ q
 have e2 := ev_catl e (ev_list (vs := [lst (tks row)]) (evs_cons (e := .call "row_shown" (.cons (.sub (.var 0) (.int 1)) .nil)) (fun z' z' q => ca_rowshown (u := .lst (row.map Sy.v)) rfl t.w (Nat.le_trans hm (by decide)) _ _ q) evs_nil) rfl) (Nat.le_of_lt (sl (by rw [List.length_map]; exact Nat.le_trans (Nat.succ_le_succ hn) (by decide))))
 rw [show rs.map (fun p => lst (tks [p.1, p.2])) ++ [lst (tks row)] = ((rls rs row).map tks).map lst from by unfold rls; rw [List.map_append, List.map_append, List.map_map, List.map_map]; rfl] at e2
 refine w_exp (w := bookV rs row) (fun z' z' q => ca_need h _ _ q) (w_asg e2 rfl (r1 (ev_joinT l_n (ev_var rfl) ?_) rfl q))
 have l1 : ∀ {r : List Sy}, (∀ s ∈ r, tkOk s) → (tks r).length ≤ 5 * r.length := fun {r} hr => by
  unfold tks
  exact Nat.le_trans (jw_le _) (by rw [List.length_map, Nat.succ_mul 4]; exact Nat.add_le_add_right (tks_fl hr) _)
 have l2 := flat_le (k := 10) (L := rs.map fun p => tks [p.1, p.2]) fun l hl => by obtain ⟨p, hp, rfl⟩ := List.mem_map.mp hl; exact l1 (t.pair hp)
 have l3 := l1 t.w
 unfold rls
 rw [List.length_map] at l2
 rw [List.map_append, List.flatten_append, List.length_append, List.map_map, List.length_append, List.length_map]
 show (rs.map fun p => tks [p.1, p.2]).flatten.length + (tks row ++ []).length + (rs.length + 1) ≤ _
 rw [List.append_nil]
 exact Nat.le_trans (Nat.add_le_add (Nat.add_le_add (Nat.le_trans l2 (Nat.mul_le_mul_left 10 hn)) (Nat.le_trans l3 (Nat.mul_le_mul_left 5 hm))) (Nat.succ_le_succ hn)) (by decide)
noncomputable def rwT : List Sy → List (Sy × Bool)
 | [] => []
 | [_] => []
 | s :: t :: r => (s, false) :: rwT (t :: r)
noncomputable def bkT : List Rl → List Sy → List (Sy × Bool)
 | [], row => rwT row
 | p :: rs, row => (p.1, false) :: (p.2, true) :: bkT rs row
theorem lin_row : ∀ (row : List Sy), lin (rwT row) row.getLast? = tks row
 | [] => rfl
 | [s] => rfl
 | s :: t :: r => by
  show tk s ++ (32 :: lin (rwT (t :: r)) (t :: r).getLast?) = _
  rw [lin_row (t :: r)]; rfl
theorem lin_bk : ∀ (rs : List Rl) (row : List Sy), lin (bkT rs row) row.getLast? = jw 10 ((rls rs row).map tks)
 | [], row => lin_row row
 | [p], row => by
  show tk p.1 ++ (32 :: (tk p.2 ++ (10 :: lin (bkT [] row) row.getLast?))) = _
  rw [lin_bk [] row]
  show _ = (tk p.1 ++ (32 :: tk p.2)) ++ (10 :: tks row)
  rw [List.append_assoc]; rfl
 | p :: p' :: rs, row => by
  show tk p.1 ++ (32 :: (tk p.2 ++ (10 :: lin (bkT (p' :: rs) row) row.getLast?))) = _
  rw [lin_bk (p' :: rs) row]
  show _ = (tk p.1 ++ (32 :: tk p.2)) ++ (10 :: jw 10 ((rls (p' :: rs) row).map tks))
  rw [List.append_assoc]; rfl
theorem eff_row : ∀ (row cur : List Sy), eff (rwT row) row.getLast? cur = [cur ++ row]
 | [], cur => by rw [List.append_nil]; rfl
 | [s], cur => rfl
 | s :: t :: r, cur => by
  show eff (rwT (t :: r)) (t :: r).getLast? (cur ++ [s]) = _
  rw [eff_row (t :: r), List.append_assoc]; rfl
theorem eff_bk : ∀ (rs : List Rl) (row : List Sy), eff (bkT rs row) row.getLast? [] = rls rs row
 | [], row => eff_row row []
 | p :: rs, row => by
  show [p.1, p.2] :: eff (bkT rs row) row.getLast? [] = _
  rw [eff_bk rs row]; rfl
theorem tk_ne {s : Sy} {l : List Nat} (h : tkOk s) : tk s ++ l ≠ [] := by
 obtain ⟨c, r, e, _⟩ := tk_pos h
 rw [e]; exact nofun
theorem ok_row : ∀ {row : List Sy}, (∀ s ∈ row, tkOk s) → linOk (rwT row) row.getLast?
 | [], _ => trivial
 | [s], h => h s (List.mem_cons_self ..)
 | s :: t :: r, h => ⟨h s (List.mem_cons_self ..), fun z' => by
   show lin (rwT (t :: r)) (t :: r).getLast? ≠ []
   rw [lin_row]
   cases r with
   | nil => rw [← List.append_nil (tks [t])]; exact tk_ne (h t (List.mem_cons_of_mem _ (List.mem_cons_self ..)))
   | cons => exact tk_ne (h t (List.mem_cons_of_mem _ (List.mem_cons_self ..))), ok_row fun x hx => h x (List.mem_cons_of_mem _ hx)⟩
theorem ok_bk : ∀ {rs : List Rl}, (∀ p ∈ rs, tkOk p.1 ∧ tkOk p.2) → (∀ s ∈ row, tkOk s) → linOk (bkT rs row) row.getLast?
 | [], _, h => ok_row h
 | p :: rs, hr, h => ⟨(hr p (List.mem_cons_self ..)).1, fun z' => tk_ne (hr p (List.mem_cons_self ..)).2, (hr p (List.mem_cons_self ..)).2, nofun, ok_bk (fun q hq => hr q (List.mem_cons_of_mem _ hq)) h⟩
theorem rwT_len : ∀ (row : List Sy), (rwT row).length ≤ row.length
 | [] => Nat.le_refl _
 | [_] => Nat.zero_le _
 | _ :: t :: r => Nat.succ_le_succ (rwT_len (t :: r))
theorem bkT_len : ∀ (rs : List Rl) (row : List Sy), (bkT rs row).length ≤ 2 * rs.length + row.length
 | [], row => Nat.le_trans (rwT_len row) (Nat.le_add_left ..)
 | p :: rs, row => by
  show (bkT rs row).length + 2 ≤ 2 * rs.length + 2 + _
  rw [Nat.add_right_comm]; exact Nat.add_le_add_right (bkT_len rs row) 2
theorem ev_init {C : Cx} {st : St} {a : E} {l : List V} {w : V} (ha : Ev C st a (.lst (l ++ [w]))) : Ev C st (.slice a .none (.neg (.int 1))) (.lst l) := by
 have e : cutL (l ++ [w]) 0 (clip (l ++ [w]).length (-1)) = l := by
  rw [show clip (l ++ [w]).length (-1) = l.length from by unfold clip; rw [if_pos (by decide), List.length_append]; show (max 0 (min ((-1 : Int) + ((l.length + 1 : Nat) : Int)) ((l.length + 1 : Nat) : Int))).toNat = _; rw [neg1, Int.min_eq_left (Int.ofNat_le.mpr (Nat.le_succ _)), Int.max_eq_right (Int.natCast_nonneg _)]; rfl]
  unfold cutL; rw [List.drop_zero, Nat.sub_zero, List.take_left]
 exact e ▸ (fun Q X q => ha _ _ q : Ev C st (.slice a .none (.neg (.int 1))) (.lst (cutL (l ++ [w]) 0 (clip (l ++ [w]).length (-1)))))
theorem ca_read (h : Bk rs row) (t : Tk rs row) : Ca (C2 ad (d + 5)) "read" [lst (jw 10 ((rls rs row).map tks))] H (bookV rs row) := ca_of (fn := L12.F_read) rfl rfl (by decide) fun Q X q => by
 have hn := t.n
 have hm := t.m
 have hl := bkT_len rs row
 have c := ca_rows (ad := ad) (d := d + 2) (H := H) (ok_bk t.r t.w) (Nat.lt_of_le_of_lt (Nat.le_trans hl (Nat.add_le_add (Nat.mul_le_mul_left 2 hn) hm)) (by decide))
 rw [lin_bk, eff_bk, show (rls rs row).map (fun r => V.lst (rv r)) = rs.map (fun p => V.lst [p.1.v, p.2.v]) ++ [.lst (row.map Sy.v)] from by unfold rls; rw [List.map_append, List.map_map]; rfl] at c
 have e := fun w => ev_comp (C := C2 ad (d + 4)) (ρ := [some w, some (.lst (rs.map (fun p => V.lst [p.1.v, p.2.v]) ++ [.lst (row.map Sy.v)])), none]) (H := H) (B := H) (elt := .tupOf (.var 2)) (i := 2) (it := .seq (.slice (.var 1) .none (.neg (.int 1)))) (v := fun p : Rl => V.lst [p.1.v, p.2.v]) (g := pv) (r := rs) (ei_seq (ev_init (ev_var rfl)) rfl) (Nat.le_of_lt (sl (Nat.le_trans hn (by decide)))) (Nat.lt_succ_self 2) fun p hp => fun z' z' q => q
 exact w_iff (fun z' z' q => q) (kn_nil (w_asg (fun z' z' q => c _ _ q) rfl (r1 (w := bookV rs row) (ev_call (evs_cons (ev_tup (vs := [.lst (rs.map pv), .lst (row.map Sy.v)]) (evs_cons (e _) (evs_cons (ev_sub (ev_var rfl) (ev_neg ev_int) sb_end) evs_nil)) rfl) evs_nil) (ca_need h)) fz_bk q)))
end
end Lib
end
section
set_option autoImplicit false
set_option linter.unusedSimpArgs false
set_option linter.unusedVariables false
namespace Lib
open PySem Mine
noncomputable def syEq : Sy → Sy → Bool
 | .ch c, .ch e => Nat.beq c e
 | .ru c, .ru e => Nat.beq c e
 | _, _ => false
theorem syEq_t {a b : Sy} (h : syEq a b = true) : a = b := by
 cases a <;> cases b <;> first | exact congrArg _ (Nat.eq_of_beq_eq_true h) | cases h
theorem syEq_self (a : Sy) : syEq a a = true := by cases a <;> exact Nat.beq_refl _
noncomputable def isP (p : Rl) (a b : Sy) : Bool := syEq a p.1 && syEq b p.2
noncomputable def repl (p : Rl) (n : Nat) : List Sy → List Sy
 | [] => []
 | [a] => [a]
 | a :: b :: r => if isP p a b then .ru n :: repl p n r else a :: repl p n (b :: r)
theorem repl_yes {p : Rl} {n : Nat} {a b : Sy} {r : List Sy} (h : isP p a b = true) : repl p n (a :: b :: r) = .ru n :: repl p n r := by rw [repl, if_pos h]
theorem repl_no {p : Rl} {n : Nat} {a b : Sy} {r : List Sy} (h : isP p a b = false) : repl p n (a :: b :: r) = a :: repl p n (b :: r) := by rw [repl, if_neg (by rw [h]; exact Bool.false_ne_true)]
theorem isP_t {p : Rl} {a b : Sy} (h : isP p a b = true) : a = p.1 ∧ b = p.2 := ⟨syEq_t (Bool.and_eq_true_iff.mp h).1, syEq_t (Bool.and_eq_true_iff.mp h).2⟩
theorem repl_ind {p : Rl} {n : Nat} {P : List Sy → List Sy → Prop} (h0 : P [] []) (h1 : ∀ a, P [a] [a]) (hy : ∀ r, P r (repl p n r) → P (p.1 :: p.2 :: r) (.ru n :: repl p n r)) (hn : ∀ a b r, isP p a b = false → P (b :: r) (repl p n (b :: r)) → P (a :: b :: r) (a :: repl p n (b :: r))) : ∀ (m : Nat) (r : List Sy), r.length ≤ m → P r (repl p n r)
 | _, [], _ => h0
 | _, [a], _ => h1 a
 | 0, _ :: _ :: _, h => absurd h (Nat.not_succ_le_zero _)
 | m + 1, a :: b :: r, h => by
  have h : (b :: r).length ≤ m := Nat.le_of_succ_le_succ h
  cases e : isP p a b with
  | true =>
   rw [repl_yes e, (isP_t e).1, (isP_t e).2]
   exact hy r (repl_ind h0 h1 hy hn m r (Nat.le_of_succ_le h))
  | false =>
   rw [repl_no e]
   exact hn a b r e (repl_ind h0 h1 hy hn m (b :: r) h)
noncomputable def Two (row : List Sy) (p : Rl) : Prop := ∃ i j : Nat, i + 2 ≤ j ∧ row[i]? = some p.1 ∧ row[i + 1]? = some p.2 ∧ row[j]? = some p.1 ∧ row[j + 1]? = some p.2
theorem mt_nn (s : Sy) (j : Nat) : 0 ≤ mt s j 1 := by
 cases s with
 | ch c => exact Int.le_refl 0
 | ru k => show 0 ≤ (if k = j then (1 : Int) else 0); split <;> decide
theorem cn_cons {s : Sy} {r : List Sy} {j : Nat} : cn (s :: r) j = mt s j 1 + cn r j := rfl
theorem cn_nn : ∀ (r : List Sy) (j : Nat), 0 ≤ cn r j
 | [], _ => Int.le_refl 0
 | s :: r, j => Int.add_nonneg (mt_nn s j) (cn_nn r j)
section
variable {p : Rl} {n : Nat}
theorem mt_self : mt (.ru n) n 1 = 1 := if_pos rfl
theorem isP_no {a b : Sy} (h : isP p a b = false) (ha : a = p.1) (hb : b = p.2) : False := by
 unfold isP at h
 rw [ha, hb, syEq_self, syEq_self] at h; cases h
theorem occ1 {row : List Sy} : ∀ i, row[i]? = some p.1 → row[i + 1]? = some p.2 → 1 ≤ cn (repl p n row) n := by
 refine repl_ind (P := fun r r' => ∀ i, r[i]? = some p.1 → r[i + 1]? = some p.2 → 1 ≤ cn r' n) (fun i h z' => by cases h) (fun a i z' h => by cases i <;> cases h) (fun r z' i z' z' => ?_) (fun a b r e ih i h1 h2 => ?_) row.length row (Nat.le_refl _)
 ·rw [cn_cons, mt_self]; exact Int.le_add_of_nonneg_right (cn_nn _ _)
 ·cases i with
  | zero => exact (isP_no e (Option.some.inj h1) (Option.some.inj h2)).elim
  | succ i =>
   rw [cn_cons]; exact Int.le_trans (ih i h1 h2) (Int.le_add_of_nonneg_left (mt_nn a n))
theorem occ2 {row : List Sy} (h : Two row p) : 2 ≤ cn (repl p n row) n := by
 obtain ⟨i, j, h1, h2, h3, h4, h5⟩ := h
 refine repl_ind (P := fun r r' => ∀ i j, i + 2 ≤ j → r[i]? = some p.1 → r[i + 1]? = some p.2 → r[j]? = some p.1 → r[j + 1]? = some p.2 → 2 ≤ cn r' n) (fun i j z' h => by cases h) (fun a i j z' z' h => by cases i <;> cases h) (fun r z' i j hj z' z' g1 g2 => ?_) (fun a b r e ih i j hj g1 g2 g3 g4 => ?_) row.length row (Nat.le_refl _) i j h1 h2 h3 h4 h5
 ·obtain ⟨k, rfl⟩ := Nat.exists_eq_add_of_le' (Nat.le_trans (Nat.le_add_left 2 i) hj)
  rw [cn_cons, mt_self]; exact Int.add_le_add_left (occ1 (n := n) k g1 g2) 1
 ·cases i with
  | zero => exact (isP_no e (Option.some.inj g1) (Option.some.inj g2)).elim
  | succ i =>
   cases j with
   | zero => exact absurd hj (Nat.not_succ_le_zero _)
   | succ j =>
    rw [cn_cons]; exact Int.le_trans (ih i j (Nat.le_of_succ_le_succ hj) g1 g2 g3 g4) (Int.le_add_of_nonneg_left (mt_nn a n))
theorem l85 {X C R : Int} (h : X + C = R) : X + 1 + (1 + C) = R + 1 + 1 := by omega
theorem l87 {X C R : Int} (h : X + C = R) : X + 1 + (0 + C) = R + 1 := by omega
theorem l92 {A B c a1 a2 R : Int} (hc : a1 + a2 = c) (h : A + B = R) : 0 + A + (c + B) = a1 + (a2 + R) := by omega
theorem l174 {n r' r l : Nat} {C : Int} (h : n + r ≤ l) (e : (r' : Int) + C = r) (o : 2 ≤ C) : n + 1 + r' ≤ l := by omega
theorem mt_no {s : Sy} (h : s ≠ .ru n) : mt s n 1 = 0 := by
 cases s with
 | ch c => rfl
 | ru k => exact if_neg fun e => h (by rw [e])
theorem repl_len {row : List Sy} (hr : ∀ s ∈ row, s ≠ .ru n) : ((repl p n row).length : Int) + cn (repl p n row) n = row.length := by
 refine repl_ind (p := p) (n := n) (P := fun r r' => (∀ s ∈ r, s ≠ .ru n) → (r'.length : Int) + cn r' n = r.length) (fun z' => rfl) (fun a h => ?_) (fun r ih h => ?_) (fun a b r e ih h => ?_) row.length row (Nat.le_refl _) hr
 ·rw [cn_cons, mt_no (h a (List.mem_cons_self ..))]; rfl
 ·have := ih fun s hs => h s (List.mem_cons_of_mem _ (List.mem_cons_of_mem _ hs))
  rw [cn_cons, mt_self, List.length_cons, List.length_cons, List.length_cons]; exact l85 this
 ·have := ih fun s hs => h s (List.mem_cons_of_mem _ hs)
  rw [cn_cons, mt_no (h a (List.mem_cons_self ..)), List.length_cons, List.length_cons (a := a)]; exact l87 this
theorem repl_cn {row : List Sy} {j : Nat} {c : Int} (hj : j ≠ n) (hc : mt p.1 j 1 + mt p.2 j 1 = c) (hr : ∀ s ∈ row, s ≠ .ru n) : cn (repl p n row) j + cn (repl p n row) n * c = cn row j := by
 refine repl_ind (p := p) (n := n) (P := fun r r' => (∀ s ∈ r, s ≠ .ru n) → cn r' j + cn r' n * c = cn r j) (fun z' => by show 0 + 0 * c = 0; rw [Int.zero_mul]; rfl) (fun a h => ?_) (fun r ih h => ?_) (fun a b r e ih h => ?_) row.length row (Nat.le_refl _) hr
 ·rw [show cn [a] n = mt a n 1 from Int.add_zero _, mt_no (h a (List.mem_cons_self ..)), Int.zero_mul, Int.add_zero]
 ·have := ih fun s hs => h s (List.mem_cons_of_mem _ (List.mem_cons_of_mem _ hs))
  rw [cn_cons, cn_cons, cn_cons, cn_cons, mt_self, show mt (.ru n) j 1 = 0 from if_neg (Ne.symm hj), Int.add_mul, Int.one_mul]; exact l92 hc this
 ·have := ih fun s hs => h s (List.mem_cons_of_mem _ hs)
  rw [cn_cons, cn_cons, cn_cons (s := a) (r := b :: r), mt_no (h a (List.mem_cons_self ..)), Int.zero_add, Int.add_assoc, this]
theorem repl_sum {f : Sy → List Nat} {row : List Sy} (hf : f (.ru n) = f p.1 ++ f p.2) : ((repl p n row).map f).flatten = (row.map f).flatten := by
 refine repl_ind (p := p) (n := n) (P := fun r r' => (r'.map f).flatten = (r.map f).flatten) rfl (fun z' => rfl) (fun r ih => ?_) (fun a b r e ih => ?_) row.length row (Nat.le_refl _)
 ·rw [List.map_cons, List.flatten_cons, ih, hf, List.append_assoc]; rfl
 ·rw [List.map_cons, List.flatten_cons, ih]; rfl
theorem repl_mem {row : List Sy} {s : Sy} : s ∈ repl p n row → s = .ru n ∨ s ∈ row := by
 refine repl_ind (p := p) (n := n) (P := fun r r' => s ∈ r' → s = .ru n ∨ s ∈ r) .inr (fun z' => .inr) (fun r ih h => ?_) (fun a b r e ih h => ?_) row.length row (Nat.le_refl _)
 ·rcases List.mem_cons.mp h with h | h
  ·exact .inl h
  ·exact (ih h).imp id fun h => List.mem_cons_of_mem _ (List.mem_cons_of_mem _ h)
 ·rcases List.mem_cons.mp h with rfl | h
  ·exact .inr (List.mem_cons_self ..)
  ·exact (ih h).imp id fun h => List.mem_cons_of_mem _ h
end
section
variable {rs : List Rl} {p : Rl}
theorem s1_low {m j k : Nat} {f : Nat → Int} {s : Sy} (hs : s.ok k) (hj : k ≤ j) : s1 m f s j = f j := by
 cases s with
 | ch c => rfl
 | ru i => exact if_neg fun e => absurd (e ▸ hj) (Nat.not_le.mpr hs)
theorem s1_eq {m n : Nat} {f g : Nat → Int} {s : Sy} (hm : m < n) (h : ∀ j, j < n → f j = g j) : ∀ j, j < n → s1 m f s j = s1 m g s j := fun j hj => by
 cases s with
 | ch c => exact h j hj
 | ru i =>
  show (if j = i then f i + f m else f j) = if j = i then g i + g m else g j
  by_cases e : j = i
  ·rw [if_pos e, if_pos e, ← e, h j hj, h m hm]
  ·rw [if_neg e, if_neg e, h j hj]
theorem run_low (hr : RulesOk rs) : ∀ (m : Nat), m ≤ rs.length → ∀ (f : Nat → Int) (j : Nat), m ≤ j → run rs m f j = f j
 | 0, _, _, _, _ => rfl
 | m + 1, h, f, j, hj => by
  have o := rl_ok hr h
  show run rs m (s2 rs m f) j = _
  rw [run_low hr m (Nat.le_of_lt h) _ j (Nat.le_of_succ_le hj)]
  show s1 m (s1 m f (rl rs m).1) (rl rs m).2 j = f j
  rw [s1_low o.2 (Nat.le_of_succ_le hj), s1_low o.1 (Nat.le_of_succ_le hj)]
theorem run_eq {n : Nat} : ∀ (m : Nat), m ≤ n → ∀ (f g : Nat → Int), (∀ j, j < n → f j = g j) → ∀ j, j < n → run rs m f j = run rs m g j
 | 0, _, _, _, h => h
 | m + 1, hm, f, g, h => run_eq m (Nat.le_of_lt hm) _ _ (s1_eq hm (s1_eq hm h))
theorem rl_old {m : Nat} (h : m < rs.length) : rl (rs ++ [p]) m = rl rs m := by unfold rl; rw [List.getD, List.getD, List.getElem?_append_left h]
theorem run_old : ∀ (m : Nat), m ≤ rs.length → ∀ f, run (rs ++ [p]) m f = run rs m f
 | 0, _, _ => rfl
 | m + 1, h, f => by
  show run (rs ++ [p]) m (s2 (rs ++ [p]) m f) = run rs m (s2 rs m f)
  rw [run_old m (Nat.le_of_lt h), show s2 (rs ++ [p]) m f = s2 rs m f from by unfold s2; rw [rl_old h]]
theorem rl_new : rl (rs ++ [p]) rs.length = p := by unfold rl; rw [List.getD, List.getElem?_append_right (Nat.le_refl _), Nat.sub_self]; rfl
theorem s1_mt {m j k : Nat} {f : Nat → Int} {s : Sy} (hs : s.ok m) : s1 m f s j = f j + f m * mt s j 1 := by
 cases s with
 | ch c => rw [show mt (.ch c) j 1 = 0 from rfl, Int.mul_zero, Int.add_zero]; rfl
 | ru i =>
  show (if j = i then f i + f m else f j) = f j + f m * (if i = j then 1 else 0)
  by_cases e : j = i
  ·rw [if_pos e, if_pos e.symm, Int.mul_one, e]
  ·rw [if_neg e, if_neg (Ne.symm e), Int.mul_zero, Int.add_zero]
structure Md (rs : List Rl) (row : List Sy) (l : List Nat) : Prop where
 r : RulesOk rs
 w : RowOk rs.length row
 t : bt rs row = l
 u : ∀ j, j < rs.length → 2 ≤ run rs rs.length (cn row) j
 n : rs.length + row.length ≤ l.length
theorem rules_snoc (hr : RulesOk rs) (h : p.1.ok rs.length ∧ p.2.ok rs.length) : RulesOk (rs ++ [p]) := fun k q hq => by
 rcases Nat.lt_or_ge k rs.length with e | e
 ·rw [List.getElem?_append_left e] at hq; exact hr k q hq
 ·rw [List.getElem?_append_right e] at hq
  have hk : k - rs.length = 0 := Nat.lt_one_iff.mp (List.getElem?_eq_some_iff.mp hq).1
  rw [hk] at hq
  cases hq
  have : k = rs.length := Nat.le_antisymm (Nat.sub_eq_zero_iff_le.mp hk) e
  subst this; exact h
theorem md_step {row : List Sy} {l : List Nat} (h : Md rs row l) (h2 : Two row p) : Md (rs ++ [p]) (repl p rs.length row) l := by
 have hp : p.1.ok rs.length ∧ p.2.ok rs.length := by
  obtain ⟨i, j, _, h3, h4, _⟩ := h2
  exact ⟨h.w _ (List.mem_of_getElem? h3), h.w _ (List.mem_of_getElem? h4)⟩
 have hne : ∀ s ∈ row, s ≠ .ru rs.length := fun s hs e => by have := h.w s hs; rw [e] at this; exact Nat.lt_irrefl _ this
 have o := occ2 (n := rs.length) h2
 have len := repl_len (p := p) hne
 have hl : (rs ++ [p]).length = rs.length + 1 := List.length_append
 have hTl : (Tx rs).length = rs.length := Tx_length rs
 have told : ∀ s : Sy, s.ok rs.length → tx (Tx (rs ++ [p])) s = tx (Tx rs) s := fun s hs => by rw [Tx_snoc]; exact tx_more (by rw [hTl]; exact hs)
 refine ⟨rules_snoc h.r hp, fun s hs => ?_, ?_, fun j hj => ?_, by rw [hl]; exact l174 h.n len o⟩
 ·rw [hl]
  rcases repl_mem hs with rfl | hs
  ·exact Nat.lt_succ_self _
  ·exact (h.w s hs).mono (Nat.le_succ _)
 ·have e : bt (rs ++ [p]) (repl p rs.length row) = bt (rs ++ [p]) row := repl_sum (f := tx (Tx (rs ++ [p]))) (by
   rw [told _ hp.1, told _ hp.2]
   show (Tx (rs ++ [p])).getD rs.length [] = _
   rw [Tx_snoc, List.getD, List.getElem?_append_right (Nat.le_of_eq hTl), hTl, Nat.sub_self]; rfl)
  rw [e, ← h.t]
  exact congrArg List.flatten (List.map_congr_left fun s hs => told s (h.w s hs))
 ·rw [hl] at hj ⊢
  show 2 ≤ run (rs ++ [p]) rs.length (s2 (rs ++ [p]) rs.length (cn (repl p rs.length row))) j
  rw [run_old _ (Nat.le_refl _)]
  have es : ∀ i, s2 (rs ++ [p]) rs.length (cn (repl p rs.length row)) i = cn (repl p rs.length row) i + cn (repl p rs.length row) rs.length * mt p.1 i 1 + (cn (repl p rs.length row) rs.length) * mt p.2 i 1 := fun i => by
   unfold s2
   rw [rl_new]
   show s1 rs.length (s1 rs.length (cn (repl p rs.length row)) p.1) p.2 i = _
   rw [s1_mt (k := 0) hp.2, s1_mt (k := 0) hp.1, s1_low hp.1 (Nat.le_refl _)]
  by_cases e : j = rs.length
  ·rw [run_low h.r _ (Nat.le_refl _) _ _ (Nat.le_of_eq e.symm), es, e, show mt p.1 rs.length 1 = 0 from mt_low hp.1 (Nat.le_refl _), show mt p.2 rs.length 1 = 0 from mt_low hp.2 (Nat.le_refl _), Int.mul_zero, Int.add_zero, Int.add_zero]; exact o
  ·have hj' : j < rs.length := Nat.lt_of_le_of_ne (Nat.le_of_lt_succ hj) e
   rw [run_eq rs.length (Nat.le_refl _) _ (cn row) (fun i hi => ?_) j hj']
   ·exact h.u j hj'
   ·rw [es, ← repl_cn (p := p) (Nat.ne_of_lt hi) rfl hne, Int.mul_add, Int.add_assoc]
end
end Lib
end
section
set_option autoImplicit false
set_option linter.unusedSimpArgs false
set_option linter.unusedVariables false
namespace Lib
open PySem Mine
noncomputable def atS : Sy → At
 | .ch c => .s ⟨#[c]⟩
 | .ru k => .i k
noncomputable def ky (p : Rl) : List At := [atS p.1, atS p.2]
theorem atS_inj {a b : Sy} (h : atS a = atS b) : a = b := by
 cases a <;> cases b <;> cases h <;> rfl
theorem ky_inj {p q : Rl} (h : ky p = ky q) : p = q := Prod.ext (atS_inj (List.cons.inj h).1) (atS_inj (List.cons.inj (List.cons.inj h).2).1)
theorem ky_v {p : Rl} : keyV (ky p) = pv p := by
 obtain ⟨a, b⟩ := p
 cases a <;> cases b <;> rfl
theorem key_sy {p : Rl} {P : List At → Prop} (h : P (ky p)) : keyP (pv p) P := by
 obtain ⟨a, b⟩ := p
 cases a <;> cases b <;> exact h
theorem dict_p {H : AH} {a : Nat} {kvs : List (List At × V)} {P : Nat → List (List At × V) → Prop} (ha : H a = some (.dict kvs)) (h : P a kvs) : dictP H (.ref a) P := by
 show (match H a with
  | some (.dict kvs) => P a kvs
  | _ => False)
 rw [ha]; exact h
theorem put_len {k : List At} {v : V} : ∀ (kvs : List (List At × V)), (dput k v kvs).length ≤ kvs.length + 1
 | [] => Nat.le_refl 1
 | (a, w) :: r => by
  show (if a = k then (a, v) :: r else (a, w) :: dput k v r).length ≤ r.length + 1 + 1
  split
  ·exact Nat.le_succ _
  ·exact Nat.succ_le_succ (put_len r)
theorem look_put {k k' : List At} {v : V} : ∀ (kvs : List (List At × V)), dlook k' (dput k v kvs) = if k = k' then some v else dlook k' kvs
 | [] => rfl
 | (a, w) :: r => by
  show dlook k' (if a = k then (a, v) :: r else (a, w) :: dput k v r) = if k = k' then some v else if a = k' then some w else dlook k' r
  by_cases e : a = k
  ·rw [if_pos e, e]
   show (if k = k' then some v else dlook k' r) = _
   by_cases e2 : k = k'
   ·rw [if_pos e2, if_pos e2]
   ·rw [if_neg e2, if_neg e2, if_neg e2]
  ·rw [if_neg e]
   show (if a = k' then some w else dlook k' (dput k v r)) = _
   rw [look_put r]
   by_cases e2 : a = k'
   ·rw [if_pos e2, if_neg (fun q => e (e2.trans q.symm)), if_pos e2]
   ·rw [if_neg e2, if_neg e2]
theorem mem_put {k : List At} {v : V} {p : List At × V} : ∀ {kvs : List (List At × V)}, p ∈ dput k v kvs → p.1 = k ∨ ∃ q ∈ kvs, q.1 = p.1
 | [], h => .inl (by rw [List.mem_singleton.mp h])
 | (a, w) :: r, h => by
  have h : p ∈ (if a = k then (a, v) :: r else (a, w) :: dput k v r) := h
  split at h
  ·rcases List.mem_cons.mp h with rfl | h
   ·exact .inr ⟨(a, w), List.mem_cons_self .., rfl⟩
   ·exact .inr ⟨p, List.mem_cons_of_mem _ h, rfl⟩
  ·rcases List.mem_cons.mp h with rfl | h
   ·exact .inr ⟨_, List.mem_cons_self .., rfl⟩
   ·exact (mem_put h).imp id fun ⟨q, hq, e⟩ => ⟨q, List.mem_cons_of_mem _ hq, e⟩
structure BT (row : List Sy) (k : Nat) (kc kl : List (List At × V)) : Prop where
 l : ∀ p v, dlook (ky p) kl = some v → ∃ i : Nat, v = .int i ∧ i < k ∧ row[i]? = some p.1 ∧ row[i + 1]? = some p.2
 c : ∀ p v, dlook (ky p) kc = some v → (∃ n : Int, v = .int n ∧ (1 < n → Two row p)) ∧ dlook (ky p) kl ≠ none
 y : ∀ q ∈ kc, ∃ p, q.1 = ky p ∧ dlook (ky p) kc ≠ none
 z : kc.length ≤ k ∧ kl.length ≤ k
theorem BT.more {row : List Sy} {k : Nat} {kc kl : List (List At × V)} (h : BT row k kc kl) : BT row (k + 1) kc kl := ⟨fun p v e => let ⟨i, a, b, c⟩ := h.l p v e; ⟨i, a, Nat.lt_succ_of_lt b, c⟩, h.c, h.y, Nat.le_succ_of_le h.z.1, Nat.le_succ_of_le h.z.2⟩
theorem BT.put {row : List Sy} {k : Nat} {kc kl : List (List At × V)} {p : Rl} {n : Int} (h : BT row k kc kl) (h1 : row[k]? = some p.1) (h2 : row[k + 1]? = some p.2) (hn : 1 < n → Two row p) : BT row (k + 1) (dput (ky p) (.int n) kc) (dput (ky p) (.int k) kl) := by
 refine ⟨fun q v e => ?_, fun q v e => ?_, fun q hq => ?_, Nat.le_trans (put_len _) (Nat.succ_le_succ h.z.1), Nat.le_trans (put_len _) (Nat.succ_le_succ h.z.2)⟩
 ·rw [look_put] at e
  by_cases e2 : ky p = ky q
  ·rw [if_pos e2] at e
   cases e
   rw [← ky_inj e2]
   exact ⟨k, rfl, Nat.lt_succ_self k, h1, h2⟩
  ·rw [if_neg e2] at e
   exact h.more.l q v e
 ·rw [look_put] at e ⊢
  by_cases e2 : ky p = ky q
  ·rw [if_pos e2] at e ⊢
   cases e
   rw [← ky_inj e2]
   exact ⟨⟨n, rfl, hn⟩, nofun⟩
  ·rw [if_neg e2] at e ⊢
   exact h.c q v e
 ·rcases mem_put hq with e | ⟨q', hq', e⟩
  ·exact ⟨p, e, by rw [look_put, if_pos rfl]; exact nofun⟩
  ·obtain ⟨p', e1, e2⟩ := h.y q' hq'
   refine ⟨p', e.symm.trans e1, ?_⟩
   rw [look_put]
   by_cases e3 : ky p = ky p'
   ·rw [if_pos e3]; exact nofun
   ·rw [if_neg e3]; exact e2
section
variable {ad d : Nat} {H : AH} {row : List Sy}
theorem sb_key {a : Nat} {kvs : List (List At × V)} {p : Rl} {v : V} (ha : H a = some (.dict kvs)) (h : dlook (ky p) kvs = some v) : Sb H (.ref a) (pv p) v := fun Q q => by
 show (match H a with
  | some (.dict kvs) => keyP (pv p) fun ks => (match dlook ks kvs with
   | some v => Q v
   | none => False)
  | some (.list vs) => _
  | _ => False)
 rw [ha]
 refine key_sy ?_
 rw [h]; exact q
theorem cm_key {a : Nat} {kvs : List (List At × V)} {p : Rl} (ha : H a = some (.dict kvs)) : Cm H .notin (pv p) (.ref a) (!(dlook (ky p) kvs).isSome) := fun Q q => show dictP H (.ref a) (fun z' kvs => keyP (pv p) fun ks => Q (!(dlook ks kvs).isSome)) from dict_p ha (key_sy q)
theorem ev_getk {C : Cx} {ρ : List (Option V)} {B : AH} {i j a : Nat} {kvs : List (List At × V)} {p : Rl} {w : V} (hi : ρ[i]? = some (some (.ref a))) (hj : ρ[j]? = some (some (pv p))) (ha : H a = some (.dict kvs)) (hw : (dlook (ky p) kvs).getD (.int 0) = w) : Ev C ⟨ρ, H, B⟩ (.get (.var i) (.var j) (.int 0)) w := fun Q X q => ev_var (C := C) (H := H) (B := B) hi _ X (show dictP H (.ref a) (fun z' kvs => WE C (.var j) ⟨ρ, H, B⟩ (fun kk => keyP kk fun ks => Q ((dlook ks kvs).getD (.int 0))) X) from dict_p ha (ev_var (C := C) (H := H) (B := B) hj _ X (key_sy (hw ▸ q))))
theorem w_setk {C : Cx} {ρ : List (Option V)} {B : AH} {Q : Fl → St → Prop} {X : String → St → Prop} {b : Bl} {e : E} {i j a : Nat} {kvs : List (List At × V)} {p : Rl} {w : V} (hv : Ev C ⟨ρ, H, B⟩ e w) (hi : ρ[i]? = some (some (.ref a))) (hj : ρ[j]? = some (some (pv p))) (ha : H a = some (.dict kvs)) (hB : B a = none) (hl : kvs.length < sizeLine)
  (hb : WB C b ⟨ρ, H.upd a (.dict (dput (ky p) w kvs)), B⟩ Q X) : WB C (.cons (.setkey (.var i) (.var j) e) b) ⟨ρ, H, B⟩ Q X :=
 hv _ _ (ev_var (C := C) (H := H) (B := B) hi _ (fun x => X x ⟨ρ, H, B⟩) (ev_var (C := C) (H := H) (B := B) hj _ (fun x => X x ⟨ρ, H, B⟩) (show dictP H (.ref a) (fun ad kvs => keyP (pv p) fun ks => B ad = none ∧ kvs.length < sizeLine ∧ WB C b ⟨ρ, H.upd ad (.dict (dput ks w kvs)), B⟩ Q X) from dict_p ha (key_sy ⟨hB, hl, hb⟩))))
noncomputable def bpT : E := .or (.cmp (.var 5) (.one .notin (.var 2))) (.cmp (.sub (.var 2) (.var 5)) (.one .ne (.bin .sub (.var 3) (.int 1))))
noncomputable def bpB : Bl := .cons (.assign (.var 5) (.tup (.cons (.sub (.var 0) (.var 3)) (.cons (.sub (.var 0) (.bin .add (.var 3) (.int 1))) .nil)))) (.cons (.ite bpT (.cons (.setkey (.var 1) (.var 5) (.bin .add (.get (.var 1) (.var 5) (.int 0)) (.int 1))) (.cons (.setkey (.var 2) (.var 5) (.var 3)) .nil)) .nil) .nil)
noncomputable def bpS (row : List Sy) (a b : Nat) (x3 x4 x5 : Option V) : List (Option V) := [some (.lst (row.map Sy.v)), some (.ref a), some (.ref b), x3, x4, x5]
theorem l115 {k n : Nat} (e : k + 0 + 1 = n) : (n : Int) - 1 ≤ k := by omega
theorem m115 {k m n : Nat} (e : k + (m + 1) + 1 = n) : (k : Int) < (n : Int) - 1 := by omega
theorem n115 {k m n : Nat} (e : k + (m + 1) + 1 = n) : k + 1 < n := e ▸ Nat.succ_lt_succ (Nat.lt_add_of_pos_right (Nat.succ_pos m))
theorem o115 {k m n : Nat} (e : k + (m + 1) + 1 = n) : k + 1 + m + 1 = n := (congrArg Nat.succ (Nat.succ_add_eq_add_succ k m)).trans e
theorem p115 {i k : Nat} (h : i < k) (n : ¬ (i : Int) = (k : Int) - 1) : i + 2 ≤ k := by omega
theorem bp_test {a b k : Nat} {kc kl : List (List At × V)} {p : Rl} {H' : AH} (h : BT row k kc kl) (hb : H' b = some (.dict kl)) (h1 : row[k]? = some p.1) (h2 : row[k + 1]? = some p.2) : ∃ t : Bool, Ev (C2 ad d) ⟨bpS row a b (some (.int k)) none (some (pv p)), H', H⟩ bpT (.bool t) ∧ (t = true → dlook (ky p) kl = none ∨ Two row p) := by
 have e1 : Ev (C2 ad d) ⟨bpS row a b (some (.int k)) none (some (pv p)), H', H⟩ (.cmp (.var 5) (.one .notin (.var 2))) (.bool !(dlook (ky p) kl).isSome) := ev_cmp (ev_var rfl) (ec_one (ev_var rfl) (cm_key hb))
 cases hd : dlook (ky p) kl with
 | none =>
  rw [hd] at e1
  exact ⟨true, ev_or (q := true) e1 nofun, fun z' => .inl rfl⟩
 | some v =>
  rw [hd] at e1
  obtain ⟨i, rfl, hi, g1, g2⟩ := h.l p v hd
  refine ⟨!decide ((i : Int) = (k : Int) - 1), ev_or (p := false) e1 fun z' => ev_cmp (ev_sub (ev_var rfl) (ev_var rfl) (sb_key hb hd)) (ec_one (e := .bin .sub (.var 3) (.int 1)) (fun z' z' q => q) cm_ne), fun ht => .inr ⟨i, k, ?_, g1, g2, h1, h2⟩⟩
  exact p115 hi fun q => by rw [decide_eq_true q] at ht; cases ht
theorem bp_loop {Q : Fl → St → Prop} {X : String → St → Prop} {r : Bl} {a b : Nat} (hl : row.length ≤ 1000) (ha0 : H a = none) (hb0 : H b = none) (hab : a ≠ b)
  (hr : ∀ k kc kl x3 x5 H', BT row k kc kl → H' a = some (.dict kc) → WB (C2 ad d) r ⟨bpS row a b x3 none x5, H', H⟩ Q X) :
  ∀ (m k : Nat) (kc kl : List (List At × V)) (x3 x5 : Option V) (H' : AH), k + m + 1 = row.length → BT row k kc kl → H' a = some (.dict kc) → H' b = some (.dict kl) →
  Fo (C2 ad d) (.var 3) bpB r Q X (upL k ((row.length : Int) - 1)) ⟨bpS row a b x3 none x5, H', H⟩
 | 0, k, kc, kl, x3, x5, H', e, g, ha, hb => by
  rw [upL_nil (l115 e)]
  exact fo_nil (hr k kc kl x3 x5 H' g ha)
 | m + 1, k, kc, kl, x3, x5, H', e, g, ha, hb => by
  rw [upL_cons (m115 e)]
  have hy := List.getElem?_eq_getElem (n115 e)
  have hx := List.getElem?_eq_getElem (Nat.lt_of_succ_lt (n115 e))
  generalize row[k] = x at hx
  generalize row[k + 1] = y at hy
  have z := g.z
  obtain ⟨t, et, ht⟩ := bp_test (ad := ad) (d := d) (H := H) (a := a) (p := (x, y)) g hb hx hy
  refine fo_cons (ρ' := bpS row a b (some (.int k)) none x5) rfl (w_asg (w := pv (x, y)) (fun z' z' q => sb_row (H := H') hx _ (sb_row (H := H') hy _ ⟨le2, q⟩)) rfl (w_if t et (fun ht1 => ?_) fun z' => kn_nil (kf_nil (bp_loop hl ha0 hb0 hab hr m (k + 1) kc kl _ _ H' (o115 e) g.more ha hb))))
  obtain ⟨n, hn, hn2⟩ : ∃ n : Int, (dlook (ky (x, y)) kc).getD (.int 0) = .int n ∧ (1 < n + 1 → Two row (x, y)) := by
   cases hd : dlook (ky (x, y)) kc with
   | none => exact ⟨0, rfl, fun q => absurd q (by decide)⟩
   | some v =>
    obtain ⟨⟨n, rfl, _⟩, q⟩ := g.c (x, y) v hd
    exact ⟨n, rfl, fun z' => (ht ht1).resolve_left q⟩
  exact w_setk (p := (x, y)) (ev_add (ev_getk rfl rfl ha hn) ev_int) rfl rfl ha ha0 (sl (by omega)) (w_setk (p := (x, y)) (w := .int k) (ev_var rfl) rfl rfl (kvs := kl) (by rw [upd_ne (Ne.symm hab)]; exact hb) hb0 (sl (by omega)) (kn_nil (kf_nil (bp_loop hl ha0 hb0 hab hr m (k + 1) _ _ _ _ _ (o115 e) (g.put hx hy hn2) (by rw [upd_ne hab, upd_eq]) upd_eq))))
noncomputable def bqB : Bl := .cons (.ite (.and (.cmp (.sub (.var 1) (.var 5)) (.one .gt (.int 1))) (.or (.cmp (.var 4) (.one .is .none)) (.cmp (.sub (.var 1) (.var 5)) (.one .gt (.sub (.var 1) (.var 4)))))) (.cons (.assign (.var 4) (.var 5)) .nil) .nil) .nil
inductive IsPr (row : List Sy) (kc : List (List At × V)) : V → Prop
 | no : IsPr row kc .none
 | ye (p : Rl) (n : Int) (h : dlook (ky p) kc = some (.int n)) (t : Two row p) : IsPr row kc (pv p)
theorem bq_loop {Q : V → Prop} {X : String → St → Prop} {a b k : Nat} {kc kl : List (List At × V)} {H' : AH} (g : BT row k kc kl) (ha : H' a = some (.dict kc)) (q0 : Q .none) (q1 : ∀ p, Two row p → Q (pv p)) :
  ∀ (l : List (List At × V)) (w : V) (x3 x5 : Option V), (∀ p ∈ l, p ∈ kc) → IsPr row kc w →
  Fo (C2 ad d) (.var 5) bqB (.cons (.ret (.var 4)) .nil) (PK H Q) X (l.map fun p => keyV p.1) ⟨bpS row a b x3 (some w) x5, H', H⟩
 | [], w, x3, x5, _, hw => fo_nil (by
  cases hw with
  | no => exact r1 (ev_var rfl) rfl q0
  | ye p n h t => exact r1 (ev_var rfl) (fz_pv p) (q1 p t))
 | q :: l, w, x3, x5, hl, hw => by
  obtain ⟨p, ek, hd⟩ := g.y q (hl q (List.mem_cons_self ..))
  obtain ⟨v, hv⟩ := Option.ne_none_iff_exists'.mp hd
  obtain ⟨⟨n, rfl, hn⟩, _⟩ := g.c p v hv
  rw [List.map_cons, ek, ky_v]
  have s5 : Ev (C2 ad d) ⟨bpS row a b x3 (some w) (some (pv p)), H', H⟩ (.sub (.var 1) (.var 5)) (.int n) := ev_sub (ev_var rfl) (ev_var rfl) (sb_key ha hv)
  have test : ∃ t : Bool, Ev (C2 ad d) ⟨bpS row a b x3 (some w) (some (pv p)), H', H⟩ (.or (.cmp (.var 4) (.one .is .none)) (.cmp (.sub (.var 1) (.var 5)) (.one .gt (.sub (.var 1) (.var 4))))) (.bool t) := by
   cases hw with
   | no => exact ⟨true, fun z' z' q => q⟩
   | ye p' n' h' _ => exact ⟨_, ev_or (p := false) (a := .cmp (.var 4) (.one .is .none)) (fun z' z' q => q) fun z' => ev_cmp s5 (ec_one (ev_sub (ev_var rfl) (ev_var rfl) (sb_key ha h')) cm_gt)⟩
  obtain ⟨t, et⟩ := test
  have hl' : ∀ p ∈ l, p ∈ kc := fun u hu => hl u (List.mem_cons_of_mem _ hu)
  exact fo_cons (ρ' := bpS row a b x3 (some w) (some (pv p))) rfl (w_if _ (ev_and (ev_cmp s5 (ec_one ev_int cm_gt)) fun z' => et) (fun e => w_asg (w := pv p) (ev_var rfl) rfl (kn_nil (kf_nil (bq_loop g ha q0 q1 l _ _ _ hl' (.ye p n hv (hn (of_decide_eq_true (Bool.and_eq_true_iff.mp e).1))))))) fun z' => kn_nil (kf_nil (bq_loop g ha q0 q1 l w _ _ hl' hw)))
theorem w_dict {C : Cx} {ρ : List (Option V)} {B : AH} {Q : Fl → St → Prop} {X : String → St → Prop} {b : Bl} {i : Nat} (hi : Nat.blt i ρ.length = true) (hb : ∀ a, H a = none → B a = none → WB C b ⟨ρ.set i (some (.ref a)), H.upd a (.dict []), B⟩ Q X) : WB C (.cons (.own i .dict) b) ⟨ρ, H, B⟩ Q X := fun a h => by
 show (match (match putV i (.ref a) ρ with
  | some ρ' => _
  | none => False) with
  | p => p)
 unfold putV; rw [if_pos (Nat.blt_eq.mp hi)]; exact hb a h.1 h.2
theorem ei_keys {C : Cx} {ρ : List (Option V)} {B : AH} {i a : Nat} {kc : List (List At × V)} (hi : ρ[i]? = some (some (.ref a))) (ha : H a = some (.dict kc)) : Ei C ⟨ρ, H, B⟩ (.keys (.var i)) (kc.map fun p => keyV p.1) [a] := fun Q X q => ev_var (C := C) (H := H) (B := B) hi _ X (show dictP H (.ref a) (fun a kvs => Q (kvs.map fun p => keyV p.1) [a]) from dict_p ha q)
theorem best_of {Q : V → Prop} {X : String → Prop} (hl : row.length ≤ 1000) (q0 : Q .none) (q1 : ∀ p, Two row p → Q (pv p)) : (C2 ad (d + 1)).call "best_pair" [.lst (row.map Sy.v)] H Q X := by
 refine call_of (fn := L12.F_best_pair) rfl rfl (by decide) (w_dict rfl fun a h1 h2 => w_dict rfl fun b h3 h4 => w_for (xs := upL 0 ((row.length : Int) - 1)) (ds := []) (ei_range1 (ev_sb (ev_len (n := row.length) (ev_var rfl) (show some (row.map Sy.v).length = _ from congrArg some (List.length_map ..))) ev_int) ⟨by omega, by omega⟩) (.inr nofun) ?_)
 have hab : a ≠ b := Ne.symm (of_upd (o' := .list []) h3)
 have fin : ∀ k kc kl x3 x5 H', BT row k kc kl → H' a = some (.dict kc) → WB (C2 ad d) (.cons (.assign (.var 4) .none) (.cons (.for (.var 5) (.keys (.var 1)) bqB) (.cons (.ret (.var 4)) .nil))) ⟨bpS row a b x3 none x5, H', H⟩ (PK H Q) (fun x z' => X x) := fun k kc kl x3 x5 H' g ha => w_asg (w := .none) ev_none rfl (w_for (ei_keys rfl ha) (.inl rfl) (bq_loop g ha q0 q1 kc .none _ _ (fun z' h => h) .no))
 have g0 : BT row 0 [] [] := ⟨nofun, nofun, nofun, Nat.le_refl _, Nat.le_refl _⟩
 have ha0 : ((H.upd a (.dict [])).upd b (.dict [])) a = some (.dict []) := by rw [upd_ne hab, upd_eq]
 cases h0 : row.length with
 | zero =>
  rw [upL_nil (by decide)]
  exact fo_nil (fin 0 [] [] _ _ _ g0 ha0)
 | succ m =>
  rw [← h0]
  exact bp_loop hl h2 h4 hab fin m 0 [] [] _ _ _ (by omega) g0 ha0 upd_eq
end
end Lib
end
section
set_option autoImplicit false
set_option linter.unusedSimpArgs false
set_option linter.unusedVariables false
namespace Lib
open PySem Mine
theorem beq_dec {a b : Nat} : decide (a = b) = Nat.beq a b := by
 cases h : Nat.beq a b with
 | true => exact decide_eq_true (Nat.eq_of_beq_eq_true h)
 | false => exact decide_eq_false (Nat.ne_of_beq_eq_false h)
theorem cm_sy {H : AH} (a b : Sy) : Cm H .eq a.v b.v (syEq a b) := fun Q q => by
 show eqV H a.v b.v Q
 cases a with
 | ch c =>
  cases b with
  | ch e =>
   show eqV H (lst [c]) (lst [e]) Q
   rw [eqV_lst, show decide ([c] = [e]) = Nat.beq c e from by rw [← beq_dec, decide_eq_decide]; exact ⟨fun h => (List.cons.inj h).1, fun h => by rw [h]⟩]; exact q
  | ru k => exact ⟨Nat.le_of_ble_eq_true rfl, q⟩
 | ru k =>
  cases b with
  | ch e => exact ⟨Nat.le_of_ble_eq_true rfl, q⟩
  | ru e =>
   show eqV H (.int k) (.int e) Q
   rw [eqV_int, show decide ((k : Int) = e) = Nat.beq k e from by rw [← beq_dec, decide_eq_decide]; exact Int.ofNat_inj]; exact q
section
variable {ad d : Nat} {H : AH} {row : List Sy} {p : Rl}
noncomputable def rpT : E := .and (.cmp (.bin .add (.var 4) (.int 1)) (.one .lt (.len (.var 0)))) (.and (.cmp (.sub (.var 0) (.var 4)) (.one .eq (.sub (.var 1) (.int 0)))) (.cmp (.sub (.var 0) (.bin .add (.var 4) (.int 1))) (.one .eq (.sub (.var 1) (.int 1)))))
noncomputable def rpB : Bl := .cons (.ite rpT (.cons (.append (.var 3) (.pure (.var 2))) (.cons (.assign (.var 4) (.bin .add (.var 4) (.int 2))) .nil)) (.cons (.append (.var 3) (.pure (.sub (.var 0) (.var 4)))) (.cons (.assign (.var 4) (.bin .add (.var 4) (.int 1))) .nil))) .nil
noncomputable def rpW : E := .cmp (.var 4) (.one .lt (.len (.var 0)))
noncomputable def rpS (row : List Sy) (p : Rl) (n a k : Nat) : List (Option V) := [some (.lst (row.map Sy.v)), some (pv p), some (.int n), some (.ref a), some (.int k)]
theorem ev_lenS {C : Cx} {ρ : List (Option V)} {H B : AH} {i : Nat} (h : ρ[i]? = some (some (.lst (row.map Sy.v)))) : Ev C ⟨ρ, H, B⟩ (.len (.var i)) (.int row.length) := ev_len (ev_var h) (show some (row.map Sy.v).length = _ from congrArg some (List.length_map ..))
theorem snoc_v {H : AH} {a : Nat} {out : List Sy} {x : Sy} {v : V} (h : x.v = v) : (H.upd a (.list (out.map Sy.v ++ [v]))) a = some (.list ((out ++ [x]).map Sy.v)) := by rw [List.map_append, ← h]; exact upd_eq
section
variable {Q : V → Prop} {X : String → St → Prop} {n a : Nat} {H' : AH} {pre suf out : List Sy} {x : Sy} {m : Nat}
theorem rp_lt (e : pre ++ x :: suf = row) : Ev (C2 ad d) ⟨rpS row p n a pre.length, H', H⟩ rpW (.bool true) := decide_eq_true (Int.ofNat_lt.mpr (pre_le e)) ▸ ev_cmp (ev_var rfl) (ec_one (ev_lenS rfl) cm_lt)
theorem rp_no (hB : H a = none) (ha : H' a = some (.list (out.map Sy.v))) (hl : out.length ≤ 1000) (e : pre ++ x :: suf = row) (et : Ev (C2 ad d) ⟨rpS row p n a pre.length, H', H⟩ rpT (.bool false)) (ih : ∀ H', H' a = some (.list ((out ++ [x]).map Sy.v)) → Wh (C2 ad d) rpW rpB (.cons (.ret (.var 3)) .nil) (PK H Q) X m ⟨rpS row p n a (pre.length + 1), H', H⟩) : Wh (C2 ad d) rpW rpB (.cons (.ret (.var 3)) .nil) (PK H Q) X (m + 1) ⟨rpS row p n a pre.length, H', H⟩ := wh_step (rp_lt e) (w_iff et (w_app (w := x.v) rfl ha hB (ev_sub (ev_var rfl) (ev_var rfl) (sb_row (at_pre e))) (sl (Nat.le_trans (Nat.le_of_eq (List.length_map ..)) (Nat.le_trans hl (by decide)))) (w_asg (w := .int ((pre.length + 1 : Nat) : Int)) (fun z' z' q => q) rfl (kn_nil (kw_nil (ih _ (snoc_v rfl)))))))
theorem rp_test {y : Sy} {r : List Sy} (e : pre ++ x :: y :: r = row) : Ev (C2 ad d) ⟨rpS row p n a pre.length, H', H⟩ rpT (.bool (true && isP p x y)) := by
 have len1 : (pre ++ [x]).length = pre.length + 1 := List.length_append
 have hg2 : row[pre.length + 1]? = some y := len1 ▸ at_pre (cat1 e)
 have hlt2 : pre.length + 1 < row.length := len1 ▸ pre_le (cat1 e)
 exact ev_and (decide_eq_true (Int.ofNat_lt.mpr hlt2) ▸ ev_cmp (u := .int ((pre.length + 1 : Nat) : Int)) (fun z' z' q => q) (ec_one (ev_lenS rfl) cm_lt)) fun z' => ev_and (ev_cmp (ev_sub (ev_var rfl) (ev_var rfl) (sb_row (at_pre e))) (ec_one (v := p.1.v) (fun z' z' q => q) (cm_sy x p.1))) fun z' => ev_cmp (ev_sub (k := .int ((pre.length + 1 : Nat) : Int)) (ev_var rfl) (fun z' z' q => q) (sb_row hg2)) (ec_one (v := p.2.v) (fun z' z' q => q) (cm_sy y p.2))
end
theorem rp_loop {Q : V → Prop} {X : String → St → Prop} {n a : Nat} (hB : H a = none) : ∀ (m : Nat) (suf pre out : List Sy) (H' : AH), suf.length ≤ m → pre ++ suf = row → out.length + suf.length ≤ 1000 → H' a = some (.list (out.map Sy.v)) → Q (.lst ((out ++ repl p n suf).map Sy.v)) →
  Wh (C2 ad d) rpW rpB (.cons (.ret (.var 3)) .nil) (PK H Q) X (m + 1) ⟨rpS row p n a pre.length, H', H⟩ := by
 intro m
 have fin : ∀ (m : Nat) (pre out : List Sy) (H' : AH), pre ++ [] = row → H' a = some (.list (out.map Sy.v)) → Q (.lst ((out ++ repl p n []).map Sy.v)) → Wh (C2 ad d) rpW rpB (.cons (.ret (.var 3)) .nil) (PK H Q) X (m + 1) ⟨rpS row p n a pre.length, H', H⟩ := fun m pre out H' e ha q => wh_end ((show decide ((pre.length : Int) < row.length) = false from decide_eq_false (by rw [← cat0 e]; exact Int.lt_irrefl _)) ▸ ev_cmp (ev_var rfl) (ec_one (ev_lenS rfl) cm_lt)) (r1 (ev_var rfl) (frz_ref hB ha fz_row) (by rw [show repl p n [] = [] from rfl, List.append_nil] at q; exact q))
 induction m with
 | zero =>
  intro suf pre out H' hm e hl ha q
  cases suf with
  | nil => exact fin 0 pre out H' e ha q
  | cons => exact absurd hm (Nat.not_succ_le_zero _)
 | succ m ih =>
  intro suf pre out H' hm e hl ha q
  have l1 : ∀ (s : List Sy) (z : Sy), (s ++ [z]).length = s.length + 1 := fun z' z' => List.length_append
  cases suf with
  | nil => exact fin (m + 1) pre out H' e ha q
  | cons x suf =>
   rw [List.length_cons] at hm hl
   cases suf with
   | nil => exact rp_no hB ha (Nat.le_trans (Nat.le_add_right ..) hl) e (ev_and (p := false) (q := true) ((show decide (((pre.length + 1 : Nat) : Int) < row.length) = false from decide_eq_false (by rw [← e, List.length_append]; exact Int.lt_irrefl _)) ▸ ev_cmp (u := .int ((pre.length + 1 : Nat) : Int)) (fun z' z' q => q) (ec_one (ev_lenS rfl) cm_lt)) nofun) fun H' ha => l1 pre x ▸ ih [] (pre ++ [x]) (out ++ [x]) H' (Nat.zero_le _) (cat1 e) (by rw [l1]; exact hl) ha (by rw [List.append_assoc]; exact q)
   | cons y r =>
    have et := rp_test (ad := ad) (d := d) (H := H) (p := p) (n := n) (a := a) (H' := H') e
    cases er : isP p x y with
    | false =>
     rw [er] at et
     rw [repl_no er] at q
     exact rp_no hB ha (Nat.le_trans (Nat.le_add_right ..) hl) e et fun H' ha => l1 pre x ▸ ih (y :: r) (pre ++ [x]) (out ++ [x]) H' (Nat.le_of_succ_le_succ hm) (cat1 e) (by rw [l1, Nat.succ_add_eq_add_succ]; exact hl) ha (by rw [List.append_assoc]; exact q)
    | true =>
     rw [er] at et
     rw [repl_yes er] at q
     rw [List.length_cons] at hm hl
     have ih := ih r (pre ++ [x] ++ [y]) (out ++ [.ru n]) (H'.upd a (.list (out.map Sy.v ++ [.int n]))) (Nat.le_of_succ_le (Nat.le_of_succ_le_succ hm)) (cat1 (cat1 e)) (by rw [l1, Nat.succ_add_eq_add_succ]; exact Nat.le_of_succ_le hl) (snoc_v rfl) (by rw [List.append_assoc]; exact q)
     rw [l1, l1] at ih
     exact wh_step (rp_lt e) (w_ift et (w_app (w := .int n) rfl ha hB (ev_var rfl) (sl (Nat.le_trans (Nat.le_of_eq (List.length_map ..)) (Nat.le_trans (Nat.le_add_right ..) (Nat.le_trans hl (by decide))))) (w_asg (w := .int ((pre.length + 2 : Nat) : Int)) (fun z' z' q => q) rfl (kn_nil (kw_nil ih)))))
theorem ca_repl {n : Nat} (hl : row.length ≤ 1000) : Ca (C2 ad (d + 1)) "replaced" [.lst (row.map Sy.v), pv p, .int n] H (.lst ((repl p n row).map Sy.v)) := ca_of (fn := L12.F_replaced) rfl rfl (by decide) fun Q X q => w_own0 rfl fun a h1 h2 => w_asg (w := .int 0) ev_int rfl (w_while (row.length + 1) (rp_loop h2 row.length row [] [] _ (Nat.le_refl _) rfl (by rw [List.length_nil, Nat.zero_add]; exact hl) upd_eq q))
noncomputable def mdB : Bl := .cons (.assign (.var 2) (.call "replaced" (.cons (.var 2) (.cons (.var 3) (.cons (.len (.var 1)) .nil))))) (.cons (.append (.var 1) (.pure (.var 3))) (.cons (.assign (.var 3) (.call "best_pair" (.cons (.var 2) .nil))) .nil))
noncomputable def mdR : Bl := .cons (.ret (.tup (.cons (.var 1) (.cons (.var 2) .nil)))) .nil
noncomputable def mdW : E := .cmp (.var 3) (.one .isnot .none)
inductive PV (row : List Sy) : V → Prop
 | no : PV row .none
 | ye (p : Rl) (t : Two row p) : PV row (pv p)
noncomputable def EvQ (C : Cx) (st : St) (e : E) (P : V → Prop) : Prop := ∀ (Q : V → Prop) (X : String → Prop), (∀ w, P w → Q w) → WE C e st Q X
theorem w_asgq {C : Cx} {ρ : List (Option V)} {H B : AH} {Q : Fl → St → Prop} {X : String → St → Prop} {b : Bl} {e : E} {P : V → Prop} {i : Nat} (he : EvQ C ⟨ρ, H, B⟩ e P) (hi : Nat.blt i ρ.length = true) (hb : ∀ w, P w → WB C b ⟨ρ.set i (some w), H, B⟩ Q X) : WB C (.cons (.assign (.var i) e) b) ⟨ρ, H, B⟩ Q X := he _ _ fun w hw => by
 show (match (match putV i w ρ with
  | some ρ' => _
  | none => False) with
  | p => p)
 unfold putV; rw [if_pos (Nat.blt_eq.mp hi)]; exact hb w hw
theorem evq_best {C : Cx} {ρ : List (Option V)} {B : AH} (h : ρ[2]? = some (some (.lst (row.map Sy.v)))) (hl : row.length ≤ 1000) : EvQ (C2 ad (d + 1)) ⟨ρ, H, B⟩ (.call "best_pair" (.cons (.var 2) .nil)) (PV row) := fun Q X q => ev_var (C := C2 ad (d + 1)) (H := H) (B := B) h _ X (best_of hl (q _ .no) fun p t => q _ (.ye p t))
theorem l116 {a r m : Nat} {c : Int} (h : (a : Int) + c = r) (h2 : 2 ≤ c) (hm : r ≤ m + 1) : a ≤ m := by omega
theorem md_loop {Q : V → Prop} {X : String → St → Prop} {a : Nat} {v0 : V} {l : List Nat} (hB : H a = none) (hL : l.length ≤ 1000) (q : ∀ rs row, Md rs row l → Q (bookV rs row)) : ∀ (m : Nat) (rs : List Rl) (row : List Sy) (w : V) (x4 : Option V) (H' : AH), row.length ≤ m → Md rs row l → PV row w → H' a = some (.list (rs.map pv)) →
  Wh (C2 ad (d + 1)) mdW mdB mdR (PK H Q) X (m + 1) ⟨[some v0, some (.ref a), some (.lst (row.map Sy.v)), some w, x4], H', H⟩ := by
 intro m
 induction m with
 | zero =>
  intro rs row w x4 H' hm h hw ha
  cases hw with
  | no => exact wh_end (fun z' z' q => q) (r1 (w := .tup [.ref a, .lst (row.map Sy.v)]) (fun z' z' q => ⟨le2, q⟩) (frz_two (frz_ref hB ha fz_rules) (frz_lst fz_row)) (q rs row h))
  | ye p t =>
   obtain ⟨i, j, _, h3, _⟩ := t
   exact absurd (Nat.lt_of_lt_of_le (List.getElem?_eq_some_iff.mp h3).1 hm) (Nat.not_lt_zero _)
 | succ m ih =>
  intro rs row w x4 H' hm h hw ha
  cases hw with
  | no => exact wh_end (fun z' z' q => q) (r1 (w := .tup [.ref a, .lst (row.map Sy.v)]) (fun z' z' q => ⟨le2, q⟩) (frz_two (frz_ref hB ha fz_rules) (frz_lst fz_row)) (q rs row h))
  | ye p t =>
   have hn := h.n
   have h' := md_step h t
   have hn' := h'.n
   rw [List.length_append] at hn'
   have hlen := repl_len (p := p) (n := rs.length) (row := row) fun s hs e => by have := h.w s hs; rw [e] at this; exact Nat.lt_irrefl _ this
   have h2 := occ2 (n := rs.length) t
   have e1 : sizeV H' (.ref a) = some rs.length := (size_ref ha).trans (congrArg some (List.length_map ..))
   exact wh_step (fun z' z' q => q) (w_asg (w := .lst ((repl p rs.length row).map Sy.v)) (ev_call (evs_cons (ev_var rfl) (evs_cons (ev_var rfl) (evs_cons (ev_len (ev_var rfl) e1) evs_nil))) (ca_repl (Nat.le_trans (Nat.le_add_left ..) (Nat.le_trans hn hL)))) rfl (w_app (w := pv p) rfl ha hB (ev_var rfl) (sl (Nat.le_trans (Nat.le_of_eq (List.length_map ..)) (Nat.le_trans (Nat.le_add_right ..) (Nat.le_trans hn (Nat.le_trans hL (by decide)))))) (w_asgq (evq_best (C := C2 ad d) rfl (Nat.le_trans (Nat.le_add_left ..) (Nat.le_trans hn' hL))) rfl fun w hw => kw_nil (ih (rs ++ [p]) _ w _ _ (l116 hlen h2 hm) h' hw (by rw [List.map_append]; exact upd_eq)))))
theorem made_of {l : List Nat} {Q : V → Prop} {X : String → Prop} (hs : ∀ c ∈ l, c ∈ SG) (hL : l.length ≤ 1000) (q : ∀ rs row, Md rs row l → Q (bookV rs row)) : (C2 ad (d + 2)).call "made" [lst l] H Q X := by
 have er : l.map (fun c : Nat => V.str ⟨#[c]⟩) = (l.map Sy.ch).map Sy.v := by rw [List.map_map]; rfl
 have md0 : Md [] (l.map Sy.ch) l := ⟨nofun, fun s h => by obtain ⟨c, hc, rfl⟩ := List.mem_map.mp h; exact hs c hc, by
  show ((l.map Sy.ch).map (tx [])).flatten = l
  rw [List.map_map]; exact flat_ones l, fun j hj => absurd hj (Nat.not_lt_zero j), by rw [List.length_map]; exact Nat.le_of_eq (Nat.zero_add _)⟩
 refine call_of (fn := L12.F_made) rfl rfl (by decide) (w_iff (ev_or (p := false) (q := false) (fun z' z' q => tx_ok hs _ _ q) fun z' => decide_eq_false (show ¬ ((l.length : Int) > 1000) from Int.not_lt.mpr (Int.ofNat_le.mpr hL)) ▸ ev_cmp (ev_lenT (ev_var rfl)) (ec_one (ev_glob (v := .int 1000) rfl) cm_gt)) (kn_nil (w_own0 rfl fun a h1 h2 => w_asg (w := .lst ((l.map Sy.ch).map Sy.v)) ?_ rfl (w_asgq (evq_best (C := C2 ad d) (row := l.map Sy.ch) rfl (by rw [List.length_map]; exact hL)) rfl fun w hw => w_while (l.length + 1) (md_loop h2 hL q l.length [] (l.map Sy.ch) w _ _ (Nat.le_of_eq (List.length_map ..)) md0 hw upd_eq)))))
 exact er ▸ ev_comp (C := C2 ad (d + 1)) (elt := .var 4) (i := 4) (it := .seq (.var 0)) (v := fun c : Nat => V.str ⟨#[c]⟩) (g := fun c : Nat => V.str ⟨#[c]⟩) (r := l) (ds := []) (fun z' z' q => q) (Nat.le_of_lt (sl (Nat.le_trans hL (by decide)))) (Nat.lt_succ_self 4) fun c hc => fun z' z' q => q
end
end Lib
end
section
set_option autoImplicit false
set_option linter.unusedSimpArgs false
set_option linter.unusedVariables false
namespace Lib
open PySem Mine
noncomputable def sgn (c : Int) : Nat := SG.getD (c.fmod 95).toNat 0
theorem sg_len : SG.length = 95 := by decide +kernel
theorem sgn_lt (c : Int) : (c.fmod 95).toNat < SG.length := by
 have f := fm c (b := 95) (by decide)
 rw [sg_len]; exact (Int.toNat_lt f.1).mpr f.2
theorem sgn_get (c : Int) : SG[(c.fmod 95).toNat]? = some (sgn c) := by
 unfold sgn
 rw [List.getD, List.getElem?_eq_getElem (sgn_lt c)]; rfl
theorem sgn_mem (c : Int) : sgn c ∈ SG := List.mem_of_getElem? (sgn_get c)
theorem mod_nat (i : Int) {m : Nat} (h : 0 < m) : ∃ k : Nat, k < m ∧ i.fmod m = k := by
 have f := fm i (b := (m : Int)) (Int.natCast_pos.mpr h)
 exact ⟨(i.fmod m).toNat, (Int.toNat_lt f.1).mpr f.2, (Int.toNat_of_nonneg f.1).symm⟩
theorem sign_cat : Str.ofString " !\"#$&'()*+,-./0123456789:;<=>?@ABCDEFGHIJKLMNOPQRSTUVWXYZ[\\]^_`" ++ Str.ofString "abcdefghijklmnopqrstuvwxyz{|}~\n" = SIGNS := by decide +kernel
theorem ev_modN {C : Cx} {st : St} {e : E} {i : Int} {m k : Nat} (he : Ev C st e (.int i)) (hm : 0 < m) (hk : i.fmod m = k) : Ev C st (.bin .mod e (.int m)) (.int k) := hk ▸ ev_mod he ev_int (Int.ofNat_ne_zero.mpr (Nat.ne_of_gt hm))
theorem ev_mulT {C : Cx} {st : St} {e e' : E} {l : List Nat} {n : Nat} (ha : Ev C st e (lst l)) (hb : Ev C st e' (.int n)) (h : n ≤ 200) (h2 : l.length ≤ 10) : Ev C st (.bin .mul e e') (lst (repL n l)) := ev_bin ha hb fun z' q => ⟨Int.natCast_nonneg n, Int.lt_of_le_of_lt (Int.ofNat_le.mpr h) (by decide), Nat.le_trans (Nat.mul_le_mul h2 h) (by decide), q⟩
section
variable {ad d : Nat} {H : AH} {ns : List Int}
theorem cell_of {k : Nat} (Q : V → Prop) (X : String → Prop) (q : ∀ i : Int, Q (.int i)) : (C2 ad (d + 1)).call "_law_cell_at" [.lst (ns.map V.int), .int k] H Q X := call_of (fn := L12.F_law_cell_at) rfl rfl (by decide) (w_if (decide ((k : Int) < ns.length)) (ev_cmp (ev_var rfl) (ec_one (ev_len (n := ns.length) (ev_var rfl) (show some (ns.map V.int).length = _ from congrArg some (List.length_map ..))) cm_lt)) (fun e => by
 have hk : k < ns.length := Int.ofNat_lt.mp (of_decide_eq_true e)
 exact r2 (w := .int ns[k]) (ev_sub (ev_var rfl) (ev_var rfl) (sb_lst (by rw [List.getElem?_map, List.getElem?_eq_getElem hk]; rfl))) rfl (q _)) fun z' => kn_nil (r1 ev_int rfl (q 0)))
theorem ca_sgn {i : Int} : Ca (C2 ad (d + 1)) "_law_sign_by" [.int i] H (lst [sgn i]) := ca_of (fn := L12.F_law_sign_by) rfl rfl (by decide) fun Q X q => w_asg ev_str rfl (w_asg (w := .str SIGNS) (sign_cat ▸ ev_cat (ev_var rfl) ev_str (by decide +kernel)) rfl (r1 (w := lst [sgn i]) (ev_sub (k := .int ((i.fmod 95).toNat : Nat)) (ev_var rfl) (ev_modN (m := 95) (ev_var rfl) (by decide) (Int.toNat_of_nonneg (fm i (b := 95) (by decide)).1).symm) (sb_txt (l := SG) (sgn_get i))) rfl q))
structure Tn (n : Nat) (l : List Nat) : Prop where
 s : ∀ c ∈ l, c ∈ SG
 n : l.length ≤ n
theorem Tn.take {n m : Nat} {l : List Nat} (h : Tn n l) : Tn m (l.take m) := ⟨fun c hc => h.s c (List.mem_of_mem_take hc), List.length_take_le ..⟩
theorem Tn.of {n m : Nat} {l : List Nat} (h : Tn n l) (hm : n ≤ m) : Tn m l := ⟨h.s, Nat.le_trans h.n hm⟩
theorem Tn.app {n m : Nat} {a b : List Nat} (h : Tn n a) (h2 : Tn m b) : Tn (n + m) (a ++ b) := ⟨fun c hc => (List.mem_append.mp hc).elim (h.s c) (h2.s c), by rw [List.length_append]; exact Nat.add_le_add h.n h2.n⟩
theorem Tn.drop {n m : Nat} {l : List Nat} (h : Tn n l) : Tn n (l.drop m) := ⟨fun c hc => h.s c (List.mem_of_mem_drop hc), by rw [List.length_drop]; exact Nat.le_trans (Nat.sub_le ..) h.n⟩
theorem Tn.rep {n k : Nat} {l : List Nat} (h : Tn n l) : ∀ c ∈ repL k l, c ∈ SG := fun c hc => by
 unfold repL at hc
 obtain ⟨x, hx, hc⟩ := List.mem_flatten.mp hc
 rw [(List.mem_replicate.mp hx).2] at hc
 exact h.s c hc
theorem cut_mp {α β : Type} {f : α → β} {l : List α} {a b : Nat} : cutL (l.map f) a b = (cutL l a b).map f := by unfold cutL; rw [List.map_take, List.map_drop]
theorem ev_cells {C : Cx} {ρ : List (Option V)} {B : AH} (h : ρ[0]? = some (some (.lst (ns.map V.int)))) : ∃ cs : List Int, cs.length ≤ 60 ∧ Ev C ⟨ρ, H, B⟩ (.slice (.var 0) (.int 2) (.int 62)) (.lst (cs.map V.int)) := by
 refine ⟨cutL ns (clip (ns.map V.int).length 2) (clip (ns.map V.int).length 62), ?_, cut_mp ▸ (fun Q X q => ev_var (C := C) (H := H) (B := B) h _ X q)⟩
 have h2 : clip (ns.map V.int).length ((2 : Nat) : Int) = min 2 (ns.map V.int).length := clip_nat
 have h62 : clip (ns.map V.int).length ((62 : Nat) : Int) = min 62 (ns.map V.int).length := clip_nat
 have : (cutL ns (clip (ns.map V.int).length ((2 : Nat) : Int)) (clip (ns.map V.int).length ((62 : Nat) : Int))).length ≤ 60 := by
  unfold cutL; rw [List.length_take, h2, h62]
  refine Nat.le_trans (Nat.min_le_left ..) ?_
  rcases Nat.le_total 2 (ns.map V.int).length with q | q
  ·rw [Nat.min_eq_left q]; exact Nat.sub_le_sub_right (Nat.min_le_left ..) 2
  ·exact Nat.le_trans (Nat.sub_le ..) (Nat.le_trans (Nat.min_le_right ..) (Nat.le_trans q (by decide)))
 exact this
theorem ev_joinC {C : Cx} {ρ : List (Option V)} {B : AH} {e : E} {cs : List Int} {f : Int → Nat} (h5 : ρ[5]? = some (some (.lst (cs.map V.int)))) (hl : 11 < ρ.length) (hc : cs.length ≤ 60) (he : ∀ c, Ev C ⟨ρ.set 11 (some (.int c)), H, B⟩ e (lst [f c])) : Ev C ⟨ρ, H, B⟩ (.join (.str (Str.ofString "")) (.comp e (.var 11) (.seq (.var 5)))) (lst (cs.map f)) := by
 have e1 := ev_comp (C := C) (ρ := ρ) (H := H) (B := B) (elt := e) (i := 11) (it := .seq (.var 5)) (v := V.int) (g := fun c => lst [f c]) (r := cs) (ei_seq (ev_var h5) rfl) (Nat.le_of_lt (sl (Nat.le_trans hc (by decide)))) hl fun c z' => he c
 rw [show cs.map (fun c => lst [f c]) = ones (cs.map f) from by unfold ones; rw [List.map_map]; rfl] at e1
 exact jn_lst (cs.map f) ▸ ev_join ev_str e1 rfl (strs1 _) (by rw [lenAll1, List.length_map, show (Str.ofString "").length = 0 from rfl, Nat.zero_mul]; exact Nat.le_of_lt (sl (Nat.le_trans hc (by decide))))
theorem tn_map {cs : List Int} {f : Int → Nat} (hf : ∀ c, f c ∈ SG) (h : cs.length ≤ 60) : Tn 60 (cs.map f) := ⟨fun c hc => by obtain ⟨x, _, rfl⟩ := List.mem_map.mp hc; exact hf x, by rw [List.length_map]; exact h⟩
theorem ev_slA {C : Cx} {st : St} {e e' e'' : E} {l : List Nat} {k n : Nat} (he : Ev C st e (lst l)) (hi : Ev C st e' (.int k)) (hj : Ev C st e'' (.int (k + n : Nat))) : Ev C st (.slice e e' e'') (lst ((l.drop k).take n)) := by
 rcases Nat.le_total k l.length with h | h
 ·exact ev_slT he hi hj h
 ·have e1 : cutL l (clip l.length (k : Int)) (clip l.length ((k + n : Nat) : Int)) = (l.drop k).take n := by
   rw [clip_nat, clip_nat, cutL, Nat.min_eq_right h, Nat.min_eq_right (Nat.le_trans h (Nat.le_add_right ..)), Nat.sub_self, List.drop_of_length_le h, List.take_nil]; rfl
  exact e1 ▸ (fun Q X q => he _ _ (hi _ _ (hj _ _ q)) : Ev C st (.slice e e' e'') (lst (cutL l (clip l.length (k : Int)) (clip l.length ((k + n : Nat) : Int)))))
noncomputable def tbF : Bl := .cons (.assign (.tup [8, 9]) (.tup (.cons (.bin .add (.var 8) (.var 9)) (.cons (.var 8) .nil)))) .nil
noncomputable def tbR : Bl := .cons (.ret (.slice (.var 8) .none (.int 110))) .nil
theorem tb_loop {Q : V → Prop} {X : String → St → Prop} {R : Bl} {v0 v1 v2 v3 v4 v5 v6 : V} {x7 x11 : Option V} {N : Nat} (q : ∀ l, Tn 130 l → Q (lst l)) : ∀ (m k : Nat) (a b : List Nat) (x : Option V), k + m = N → (a.length + b.length) * 2 ^ m ≤ 2000 → (∀ c ∈ a, c ∈ SG) → (∀ c ∈ b, c ∈ SG) →
  Fo (C2 ad d) (.var 10) tbF tbR (Kn (C2 ad d) R (PK H Q) X) X (upL k (N : Int)) ⟨[some v0, some v1, some v2, some v3, some v4, some v5, some v6, x7, some (lst a), some (lst b), x, x11], H, H⟩
 | 0, k, a, b, x, e, _, ha, hb => by
  rw [← show k = N from e, up_nil]
  exact fo_nil (r2 (ev_hdT (m := 110) (ev_var rfl) ev_int) rfl (q _ ((⟨ha, Nat.le_refl _⟩ : Tn a.length a).take.of (by decide))))
 | m + 1, k, a, b, x, e, hl, ha, hb => by
  rw [up_cons (nx_lt e)]
  rw [Nat.pow_succ, Nat.mul_comm _ 2, ← Nat.mul_assoc] at hl
  have h1 : 1 ≤ 2 ^ m := Nat.one_le_two_pow
  have h2 : ((a ++ b).length + a.length) * 2 ^ m ≤ 2000 := Nat.le_trans (Nat.mul_le_mul_right _ (by rw [List.length_append, Nat.mul_two]; exact Nat.add_le_add_left (Nat.le_add_right ..) _)) hl
  have h3 : (a.length + b.length) * 2 ≤ 2000 := Nat.le_trans (by have := Nat.mul_le_mul_left ((a.length + b.length) * 2) h1; rwa [Nat.mul_one] at this) hl
  exact fo_cons (ρ' := [some v0, some v1, some v2, some v3, some v4, some v5, some v6, x7, some (lst a), some (lst b), some (.int k), x11]) rfl (w_asgt (vs := [lst (a ++ b), lst a]) (ev_tup (evs_cons (ev_catT (ev_var rfl) (ev_var rfl) (Nat.le_trans (Nat.le_mul_of_pos_right _ (by decide)) (Nat.le_trans h3 (by decide)))) (evs_cons (ev_var rfl) evs_nil)) rfl) rfl (kf_nil (tb_loop q m (k + 1) (a ++ b) a _ (nx_eq e) h2 (fun c hc => (List.mem_append.mp hc).elim (ha c) (hb c)) ha)))
theorem w_retq {C : Cx} {ρ : List (Option V)} {H' B : AH} {Q : V → Prop} {X X' : String → St → Prop} {b r : Bl} {e : E} (he : EvQ C ⟨ρ, H', B⟩ e fun v => ∃ l, Tn 130 l ∧ v = lst l) (q : ∀ l, Tn 130 l → Q (lst l)) : WB C (.cons (.ret e) b) ⟨ρ, H', B⟩ (Kn C r (PK H Q) X') X := he _ _ (by
 rintro _ ⟨l, hl, rfl⟩
 exact (show PK H Q (.ret (lst l)) ⟨ρ, H', B⟩ from pk_of rfl (q l hl)))
theorem w_retq0 {C : Cx} {ρ : List (Option V)} {H' B : AH} {Q : V → Prop} {X : String → St → Prop} {b : Bl} {e : E} (he : EvQ C ⟨ρ, H', B⟩ e fun v => ∃ l, Tn 130 l ∧ v = lst l) (q : ∀ l, Tn 130 l → Q (lst l)) : WB C (.cons (.ret e) b) ⟨ρ, H', B⟩ (PK H Q) X := he _ _ (by
 rintro _ ⟨l, hl, rfl⟩
 exact pk_of rfl (q l hl))
noncomputable def tS (v0 v1 v2 v3 v4 v5 v6 : V) : List (Option V) := [some v0, some v1, some v2, some v3, some v4, some v5, some v6, none, none, none, none, none]
theorem text_of {Q : V → Prop} {X : String → Prop} (q : ∀ l, Tn 130 l → Q (lst l)) : (C2 ad (d + 2)).call "_law_text_by" [.lst (ns.map V.int)] H Q X := by
 refine call_of (fn := L12.F_law_text_by) rfl rfl (by decide) (w_asgq (P := fun v => ∃ i : Int, v = .int i) (fun Q X q => cell_of (k := 0) _ _ fun i => q _ ⟨i, rfl⟩) rfl ?_)
 rintro _ ⟨i, rfl⟩
 obtain ⟨sm, hsm, esm⟩ := mod_nat (i.fdiv 5) (m := 3) (by decide)
 obtain ⟨sp, hsp, esp⟩ := mod_nat (i.fdiv 95) (m := 94) (by decide)
 obtain ⟨cs, hcs, ecs⟩ := ev_cells (ns := ns) (C := C2 ad (d + 1)) (H := H) (B := H) (ρ := [some (.lst (ns.map V.int)), some (.int i), some (.int (i.fmod 5)), some (.int ((2 + sm : Nat) : Int)), some (.int ((1 + sp : Nat) : Int)), none, none, none, none, none, none, none]) rfl
 refine w_asg (w := .int (i.fmod 5)) (ev_mod (ev_var rfl) ev_int (by decide)) rfl (w_asg (w := .int ((2 + sm : Nat) : Int)) (ev_addN (n := 2) ev_int (ev_modN (m := 3) (ev_fdiv (ev_var rfl) ev_int (by decide)) (by decide) esm)) rfl (w_asg (w := .int ((1 + sp : Nat) : Int)) (ev_addN (n := 1) ev_int (ev_modN (m := 94) (ev_fdiv (ev_var rfl) ev_int (by decide)) (by decide) esp)) rfl (w_asg ecs rfl ?_)))
 generalize i.fmod 5 = w
 refine w_if (decide (w = 4)) (ev_cmp (ev_var rfl) (ec_one ev_int cm_eq)) (fun z' => r2 (ev_joinC (f := sgn) rfl (Nat.lt_succ_self 11) hcs fun c => fun z' z' q => ca_sgn _ _ q) rfl (q _ ((tn_map sgn_mem hcs).of (by decide)))) fun z' => kn_nil ?_
 refine w_asg (ev_joinC (f := fun c => sgn (i.fdiv 7 + ((1 + sp : Nat) : Int) * c.fmod ((2 + sm : Nat) : Int))) rfl (Nat.lt_succ_self 11) hcs fun c => ev_call (evs_cons (ev_add (ev_fdiv (ev_var rfl) ev_int (by decide)) (ev_mul (ev_var rfl) (ev_mod (ev_var rfl) (ev_var rfl) (Int.ofNat_ne_zero.mpr (Nat.ne_of_gt (Nat.lt_of_lt_of_le Nat.two_pos (Nat.le_add_right 2 sm))))) (.inl (Nat.lt_of_le_of_lt (Nat.add_le_add_left (Nat.le_of_lt hsp) 1) (by decide))))) evs_nil) ca_sgn) rfl ?_
 have hF := tn_map (f := fun c => sgn (i.fdiv 7 + ((1 + sp : Nat) : Int) * c.fmod ((2 + sm : Nat) : Int))) (fun z' => sgn_mem _) hcs
 generalize cs.map (fun c => sgn (i.fdiv 7 + ((1 + sp : Nat) : Int) * c.fmod ((2 + sm : Nat) : Int))) = F at hF
 refine w_if (decide (w = 0)) (ev_cmp (ev_var rfl) (ec_one ev_int cm_eq)) (fun z' => r2 (ev_var rfl) rfl (q F (hF.of (by decide)))) fun z' => kn_nil ?_
 refine w_if (decide (w = 1)) (ev_cmp (ev_var rfl) (ec_one ev_int cm_eq)) (fun z' => ?_) fun z' => kn_nil ?_
 ·refine w_asgq (P := fun v => ∃ l, Tn 9 l ∧ v = lst l) (fun Q X q => cell_of (k := 1) _ _ fun j => ?_) rfl ?_
  ·obtain ⟨k, hk, ek⟩ := mod_nat j (m := 9) (by decide)
   have e := ev_hdT (C := C2 ad (d + 1)) (st := ⟨tS (.lst (ns.map V.int)) (.int i) (.int w) (.int ((2 + sm : Nat) : Int)) (.int ((1 + sp : Nat) : Int)) (.lst (cs.map V.int)) (lst F), H, H⟩) (e := .var 6) (ev_var rfl) (ev_addN (n := 1) ev_int (ev_modN (m := 9) (ev_int (i := j)) (by decide) ek))
   exact e Q X (q _ ⟨_, hF.take.of (Nat.add_comm k 1 ▸ hk), rfl⟩)
  ·rintro _ ⟨P, hP, rfl⟩
   refine w_retq (fun Q X q => ⟨by decide, by decide, Nat.le_trans (Nat.mul_le_mul_right 60 hP.n) (by decide), cell_of (k := 1) _ _ fun j => ?_⟩) q
   obtain ⟨k, hk, ek⟩ := mod_nat (j.fdiv 9) (m := 90) (by decide)
   have e := ev_hdT (C := C2 ad (d + 1)) (st := ⟨[some (.lst (ns.map V.int)), some (.int i), some (.int w), some (.int ((2 + sm : Nat) : Int)), some (.int ((1 + sp : Nat) : Int)), some (.lst (cs.map V.int)), some (lst F), some (lst P), none, none, none, none], H, H⟩) (ev_mulT (n := 60) (ev_var (i := 7) rfl) ev_int (by decide) (Nat.le_trans hP.n (by decide))) (ev_addN (n := 20) ev_int (ev_modN (m := 90) (ev_fdiv (ev_int (i := j)) (ev_int (i := 9)) (by decide)) (by decide) ek))
   exact (e Q X (q _ ⟨_, (⟨hP.rep, Nat.le_refl _⟩ : Tn _ (repL 60 P)).take.of (Nat.le_trans (Nat.add_le_add_left (Nat.le_of_lt hk) 20) (by decide)), rfl⟩)).2.2.2
 ·refine w_if (decide (w = 2)) (ev_cmp (ev_var rfl) (ec_one ev_int cm_eq)) (fun z' => ?_) fun z' => kn_nil ?_
  ·have h1 : Tn 2 (F.take 2) := hF.take
   have h2 : Tn 3 ((F.drop 2).take 3) := hF.drop.take
   have l1 := h1.n
   have l2 := h2.n
   have e9 : Ev (C2 ad (d + 1)) ⟨[some (.lst (ns.map V.int)), some (.int i), some (.int w), some (.int ((2 + sm : Nat) : Int)), some (.int ((1 + sp : Nat) : Int)), some (.lst (cs.map V.int)), some (lst F), none, some (lst (F.take 2)), none, none, none], H, H⟩ (.slice (.var 6) (.int 2) (.int 5)) (lst ((F.drop 2).take 3)) := by
    exact ev_slA (k := 2) (n := 3) (ev_var rfl) ev_int ev_int
   refine w_asg (w := lst (F.take 2)) (ev_hdT (m := 2) (ev_var rfl) ev_int) rfl (w_asg e9 rfl (cell_of (k := 1) _ _ fun j => ?_))
   obtain ⟨k, hk, ek⟩ := mod_nat j (m := 4) (by decide)
   have ek : (3 : Int) + j.fmod 4 = ((3 + k : Nat) : Int) := congrArg (3 + ·) ek
   have k6 : 3 + k ≤ 6 := Nat.add_le_add_left (Nat.le_of_lt_succ hk) 3
   refine ⟨by decide, ?_, .inr nofun, (show Fo _ _ _ _ _ _ (upL 0 (3 + j.fmod 4)) _ from ek ▸ tb_loop q (3 + k) 0 _ _ none (Nat.zero_add _) (Nat.le_trans (Nat.mul_le_mul (Nat.add_le_add l1 l2) (Nat.pow_le_pow_right (by decide) k6)) (by decide)) h1.s h2.s)⟩
   rw [ek]; exact small_nat (Nat.le_trans k6 (by decide))
  ·refine w_retq0 (fun Q X q => cell_of (k := 1) _ _ fun j => ?_) q
   obtain ⟨k, hk, ek⟩ := mod_nat j (m := 61) (by decide)
   have l0 := hF.n
   have e := ev_catT (C := C2 ad (d + 1)) (st := ⟨tS (.lst (ns.map V.int)) (.int i) (.int w) (.int ((2 + sm : Nat) : Int)) (.int ((1 + sp : Nat) : Int)) (.lst (cs.map V.int)) (lst F), H, H⟩) (e := .var 6) (ev_var rfl) (ev_hdT (e := .var 6) (ev_var rfl) (ev_modN (m := 61) (ev_int (i := j)) (by decide) ek)) (Nat.le_trans (Nat.add_le_add hF.n (Nat.le_trans (List.length_take_le ..) (Nat.le_of_lt hk))) (by decide))
   exact e Q X (q _ ⟨_, (hF.app (hF.take (m := k))).of (Nat.le_trans (Nat.add_le_add_left (Nat.le_of_lt hk) 60) (by decide)), rfl⟩)
end
end Lib
end
section
set_option autoImplicit false
set_option linter.unusedSimpArgs false
set_option linter.unusedVariables false
namespace Lib
open PySem Mine
theorem Hts_fold : ∀ (rs : List Rl) (hs : List Nat), ∃ us, rs.foldl (fun hs p => hs ++ [1 + max (ht hs p.1) (ht hs p.2)]) hs = hs ++ us
 | [], hs => ⟨[], (List.append_nil hs).symm⟩
 | p :: rs, hs => by
  obtain ⟨us, h⟩ := Hts_fold rs (hs ++ [1 + max (ht hs p.1) (ht hs p.2)])
  exact ⟨_, h.trans (List.append_assoc ..)⟩
theorem Hts_app (a b : List Rl) : ∃ us, Hts (a ++ b) = Hts a ++ us := by
 unfold Hts
 rw [List.foldl_append]
 exact Hts_fold b _
theorem ht_more {hs us : List Nat} {s : Sy} (h : s.ok hs.length) : ht (hs ++ us) s = ht hs s := by
 cases s with
 | ch c => rfl
 | ru k => show (hs ++ us).getD k 0 = hs.getD k 0; rw [List.getD, List.getD, List.getElem?_append_left h]
theorem ht_rule {rs : List Rl} (hr : RulesOk rs) {k : Nat} {p : Rl} (h : rs[k]? = some p) : ht (Hts rs) (.ru k) = 1 + max (ht (Hts rs) p.1) (ht (Hts rs) p.2) := by
 obtain ⟨hk, rfl⟩ := List.getElem?_eq_some_iff.mp h
 have o := hr k _ h
 have e : rs = (rs.take k ++ [rs[k]]) ++ rs.drop (k + 1) := by rw [← List.take_succ_eq_append_getElem hk, List.take_append_drop]
 generalize hp : rs[k] = p at o e
 have hl : (rs.take k).length = k := (List.length_take ..).trans (Nat.min_eq_left (Nat.le_of_lt hk))
 obtain ⟨us, h1⟩ := Hts_app (rs.take k ++ [p]) (rs.drop (k + 1))
 rw [← e, Hts_snoc] at h1
 have hH : (Hts (rs.take k)).length = k := by rw [Hts_length, hl]
 rw [List.append_assoc] at h1
 have e1 : ht (Hts rs) p.1 = ht (Hts (rs.take k)) p.1 := by rw [h1]; exact ht_more (by rw [hH]; exact o.1)
 have e2 : ht (Hts rs) p.2 = ht (Hts (rs.take k)) p.2 := by rw [h1]; exact ht_more (by rw [hH]; exact o.2)
 rw [e1, e2]
 show (Hts rs).getD k 0 = _
 rw [h1, List.getD, List.getElem?_append_right (Nat.le_of_eq hH), hH, Nat.sub_self]; rfl
theorem le_maxI : ∀ (l : List Int) (m : Int), m ≤ maxI m l ∧ ∀ x ∈ l, x ≤ maxI m l
 | [], m => ⟨Int.le_refl m, nofun⟩
 | y :: l, m => by
  obtain ⟨h1, h2⟩ := le_maxI l (if y > m then y else m)
  have h3 : m ≤ (if y > m then y else m) ∧ y ≤ (if y > m then y else m) := by split <;> omega
  exact ⟨Int.le_trans h3.1 h1, fun x hx => (List.mem_cons.mp hx).elim (fun e => by rw [e]; exact Int.le_trans h3.2 h1) (h2 x)⟩
set_option tactic.hygienic true in
theorem dp_ge {rs : List Rl} {row : List Sy} {s : Sy} (h : s ∈ row) : (ht (Hts rs) s : Int) ≤ dp rs row := by
 have hm := List.mem_map_of_mem (f := fun s => ((ht (Hts rs) s : Nat) : Int)) h
 unfold dp
 split
 ·rename_i e; rw [e] at hm; cases hm
 ·rename_i i r e
  rw [e] at hm
  exact (List.mem_cons.mp hm).elim (fun q => q ▸ (le_maxI r i).1) ((le_maxI r i).2 _)
theorem dp_nn {rs : List Rl} {row : List Sy} : 0 ≤ dp rs row := by
 cases row with
 | nil => exact Int.le_refl 0
 | cons s r => exact Int.le_trans (Int.natCast_nonneg _) (dp_ge (List.mem_cons_self ..))
noncomputable def win (S E p : Nat) (l : List Nat) : List Nat := (l.take (E - p)).drop (S - p)
theorem win_app (S E p : Nat) (a b : List Nat) : win S E p (a ++ b) = win S E p a ++ win S E (p + a.length) b := by
 unfold win
 rw [List.take_append, List.drop_append, ← Nat.sub_sub, ← Nat.sub_sub]
 congr 1
 rcases Nat.le_total (E - p) a.length with q | q
 ·rw [Nat.sub_eq_zero_of_le q, List.take_zero, List.drop_nil, List.drop_nil]
 ·rw [List.length_take, Nat.min_eq_right q]
section
variable {rs : List Rl} {S E : Nat}
theorem hit_no {p n : Nat} (h : hit S E p n = false) : E ≤ S ∨ E ≤ p ∨ p + n ≤ S := by
 have g : ∀ {a b : Nat}, decide (a < b) = false → b ≤ a := fun h => Nat.not_lt.mp (of_decide_eq_false h)
 rcases Bool.and_eq_false_iff.mp h with h | h
 ·exact .inl (g h)
 ·exact .inr ((Bool.and_eq_false_iff.mp h).imp g g)
theorem win_out {p : Nat} {l : List Nat} (h : hit S E p l.length = false) : win S E p l = [] := by
 refine List.drop_of_length_le ?_
 rcases hit_no h with h | h | h
 ·exact Nat.le_trans (List.length_take_le ..) (Nat.sub_le_sub_right h p)
 ·rw [Nat.sub_eq_zero_of_le h]; exact Nat.zero_le _
 ·exact Nat.le_trans (List.length_take_le' ..) (Nat.le_sub_of_add_le' h)
theorem win_in {p : Nat} {l : List Nat} (h1 : S ≤ p) (h2 : p + l.length ≤ E) : win S E p l = l := by
 unfold win
 rw [Nat.sub_eq_zero_of_le h1, List.drop_zero, List.take_of_length_le (Nat.le_sub_of_add_le' h2)]
theorem hit_2 {p n : Nat} (h : hit S E p n = true) : p < E ∧ S < p + n := ⟨of_decide_eq_true (Bool.and_eq_true_iff.mp (Bool.and_eq_true_iff.mp h).2).1, of_decide_eq_true (Bool.and_eq_true_iff.mp (Bool.and_eq_true_iff.mp h).2).2⟩
theorem ct_win (hr : RulesOk rs) {s : Sy} {p : Nat} {l : List Nat} {o : Nat} (c : Ct rs S E s p l o) : l = win S E p (tx (Tx rs) s) := by
 induction c with
 | out s p h => exact (win_out h).symm
 | ch c p h => exact (win_in (l := [c]) (Nat.le_of_lt_succ (hit_2 h).2) (hit_2 h).1).symm
 | ru k p a b l1 l2 o1 o2 h hg _ _ ih1 ih2 => rw [tx_rule hr hg, win_app, ← ih1, ← ih2]
noncomputable def bi (x p n : Nat) : Nat := if p < x ∧ x < p + n then 1 else 0
theorem bi_le {x p n : Nat} : bi x p n ≤ 1 := by unfold bi; split <;> decide
theorem bi_zero {x p n : Nat} (h : bi x p n = 0) : ¬ (p < x ∧ x < p + n) := fun q => by unfold bi at h; rw [if_pos q] at h; cases h
theorem bi_add {x p n m : Nat} : bi x p n + bi x (p + n) m ≤ bi x p (n + m) := by
 unfold bi
 rw [← Nat.add_assoc]
 by_cases h1 : p < x ∧ x < p + n
 ·rw [if_pos h1, if_neg (fun q => Nat.lt_asymm h1.2 q.1), if_pos ⟨h1.1, Nat.lt_of_lt_of_le h1.2 (Nat.le_add_right ..)⟩]; exact Nat.le_refl _
 ·rw [if_neg h1, Nat.zero_add]
  by_cases h2 : p + n < x ∧ x < p + n + m
  ·rw [if_pos h2, if_pos ⟨Nat.lt_of_le_of_lt (Nat.le_add_right ..) h2.1, h2.2⟩]; exact Nat.le_refl _
  ·rw [if_neg h2]; exact Nat.zero_le _
theorem four_le {a1 a2 b1 b2 n1 n2 : Nat} (h1 : a1 + b1 ≤ n1) (h2 : a2 + b2 ≤ n2) : (a1 + a2) + (b1 + b2) ≤ n1 + n2 := Nat.add_add_add_comm a1 a2 b1 b2 ▸ Nat.add_le_add h1 h2
theorem sum_le {o1 o2 l1 l2 x y u v w : Nat} (i1 : o1 ≤ l1 + x) (i2 : o2 ≤ l2 + y) (m1 : x ≤ u) (m2 : y ≤ v) (m3 : u + v ≤ w) : o1 + o2 ≤ l1 + l2 + w := Nat.le_trans (Nat.add_le_add i1 i2) (Nat.add_add_add_comm l1 x l2 y ▸ Nat.add_le_add_left (Nat.le_trans (Nat.add_le_add m1 m2) m3) _)
theorem len_rule (hr : RulesOk rs) {k : Nat} {a b : Sy} (hg : rs[k]? = some (a, b)) : (tx (Tx rs) (.ru k)).length = (tx (Tx rs) a).length + (tx (Tx rs) b).length := (congrArg List.length (tx_rule hr hg)).trans List.length_append
theorem ct_in (hr : RulesOk rs) {s : Sy} {p : Nat} {l : List Nat} {o : Nat} (c : Ct rs S E s p l o) : s.ok rs.length → S ≤ p → p + (tx (Tx rs) s).length ≤ E → o + 1 = (tx (Tx rs) s).length := by
 induction c with
 | out s p h =>
  intro hs h1 h2
  have h3 : p < p + (tx (Tx rs) s).length := Nat.lt_add_of_pos_right (tx_pos hr hs)
  rcases hit_no h with h | h | h
  ·exact absurd (Nat.le_trans h2 (Nat.le_trans h h1)) (Nat.not_le.mpr h3)
  ·exact absurd (Nat.le_trans h2 h) (Nat.not_le.mpr h3)
  ·exact absurd (Nat.le_trans h h1) (Nat.not_le.mpr h3)
 | ch c p h => exact fun z' z' z' => rfl
 | ru k p a b l1 l2 o1 o2 h hg _ _ ih1 ih2 =>
  intro hs h1 h2
  have ok := hr k _ hg
  have hk : k ≤ rs.length := Nat.le_of_lt hs
  rw [len_rule hr hg] at h2 ⊢
  rw [← Nat.add_assoc] at h2
  rw [← ih1 (ok.1.mono hk) h1 (Nat.le_trans (Nat.le_add_right ..) h2), ← ih2 (ok.2.mono hk) (Nat.le_trans h1 (Nat.le_add_right ..)) h2, Nat.add_add_add_comm]
theorem ct_le (hr : RulesOk rs) {s : Sy} {p : Nat} {l : List Nat} {o : Nat} (c : Ct rs S E s p l o) : s.ok rs.length → o ≤ l.length + ht (Hts rs) s * (bi S p (tx (Tx rs) s).length + bi E p (tx (Tx rs) s).length) := by
 induction c with
 | out => exact fun z' => Nat.zero_le _
 | ch => exact fun z' => Nat.zero_le _
 | ru k p a b l1 l2 o1 o2 h hg c1 c2 ih1 ih2 =>
  intro hs
  have ok := hr k _ hg
  have hk : k ≤ rs.length := Nat.le_of_lt hs
  have hh := hit_2 h
  have hh2 : ht (Hts rs) (.ru k) = 1 + max (ht (Hts rs) a) (ht (Hts rs) b) := ht_rule hr hg
  have c := Ct.ru k p a b l1 l2 o1 o2 h hg c1 c2
  have key := sum_le (ih1 (ok.1.mono hk)) (ih2 (ok.2.mono hk)) (Nat.mul_le_mul_right _ (Nat.le_max_left (ht (Hts rs) a) (ht (Hts rs) b))) (Nat.mul_le_mul_right _ (Nat.le_max_right (ht (Hts rs) a) (ht (Hts rs) b))) (Nat.mul_add .. ▸ Nat.mul_le_mul_left _ (four_le (bi_add (x := S)) (bi_add (x := E))))
  rw [← len_rule hr hg, ← List.length_append] at key
  rw [hh2, Nat.add_mul, Nat.one_mul]
  cases hb : bi S p (tx (Tx rs) (.ru k)).length + bi E p (tx (Tx rs) (.ru k)).length with
  | zero =>
   have n1 := bi_zero (Nat.eq_zero_of_add_eq_zero_right hb)
   have n2 := bi_zero (Nat.eq_zero_of_add_eq_zero_left hb)
   have g1 : S ≤ p := Nat.not_lt.mp fun q => n1 ⟨q, hh.2⟩
   have g2 := Nat.not_lt.mp fun q => n2 ⟨hh.1, q⟩
   rw [ct_win hr c, win_in g1 g2, ← ct_in hr c hs g1 g2]
   exact Nat.le_trans (Nat.le_succ _) (Nat.le_add_right ..)
  | succ N =>
   rw [hb] at key
   exact Nat.le_trans (Nat.succ_le_succ key) (by rw [Nat.add_comm (N + 1), ← Nat.add_assoc]; exact Nat.add_le_add_left (Nat.succ_le_succ (Nat.zero_le N)) _)
theorem ctL_win (hr : RulesOk rs) : ∀ {r : List Sy} {p : Nat} {l : List Nat} {o : Nat}, CtL rs S E (offs rs p r) l o → l = win S E p (bt rs r)
 | [], p, _, _, c => by
  cases c
  show [] = ([].take (E - p)).drop (S - p)
  rw [List.take_nil, List.drop_nil]
 | s :: r, p, _, _, c => by
  cases c with
  | cons c cs => rw [bt_cons, win_app, ← ct_win hr c, ← ctL_win hr cs]
theorem ctL_le (hr : RulesOk rs) {D : Nat} : ∀ {r : List Sy} {p : Nat} {l : List Nat} {o : Nat}, CtL rs S E (offs rs p r) l o → RowOk rs.length r → (∀ s ∈ r, ht (Hts rs) s ≤ D) → o ≤ l.length + D * (bi S p (bt rs r).length + bi E p (bt rs r).length)
 | [], p, _, _, c, _, _ => by cases c; exact Nat.zero_le _
 | s :: r, p, _, _, c, ok, hD => by
  cases c with
  | cons c cs =>
   rw [bt_cons, List.length_append, List.length_append]
   exact sum_le (ct_le hr c (ok s (List.mem_cons_self ..))) (ctL_le hr cs (fun x hx => ok x (List.mem_cons_of_mem _ hx)) fun x hx => hD x (List.mem_cons_of_mem _ hx)) (Nat.mul_le_mul_right _ (hD s (List.mem_cons_self ..))) (Nat.le_refl _) (Nat.mul_add .. ▸ Nat.mul_le_mul_left _ (four_le (bi_add (x := S)) (bi_add (x := E))))
end
end Lib
end
section
set_option autoImplicit false
set_option linter.unusedSimpArgs false
set_option linter.unusedVariables false
namespace Lib
open PySem Mine
theorem cm_nes {H : AH} {v : V} (h : Dn 64 v) : Cm H .ne v v false := fun Q q => (show eqV H v v (fun r => Q (!r)) from eqV_same h q)
theorem cm_eqs {H : AH} {v : V} (h : Dn 64 v) : Cm H .eq v v true := fun Q q => (show eqV H v v Q from eqV_same h q)
section
variable {ad d : Nat} {H : AH} {rs : List Rl} {row : List Sy} {t : List Nat}
theorem ca_lwhole {i : Int} : Ca (C2 ad (d + 1)) "_law_whole" [.int i] H (.bool true) := ca_of (fn := L12.F_law_whole) rfl rfl (by decide) fun z' z' q => q
theorem win_0 {S E : Nat} (h : S ≤ E) : win S E 0 t = (t.drop S).take (E - S) := by
 unfold win
 rw [Nat.sub_zero, Nat.sub_zero, List.drop_take]
theorem ca_stretch {c : Int} {D : Nat} (h : Bk rs row) (ht : bt rs row = t) (hD : dp rs row = D) (hl : t.length ≤ 1000) : Ca (C2 ad (d + 7)) "_law_stretch" [bookV rs row, lst t, .int D, .int c] H (.bool true) := ca_of (fn := L12.F_law_stretch) rfl rfl (by decide) fun Q X q => by
 obtain ⟨S, hS, eS⟩ := mod_nat c (m := t.length + 1) (Nat.succ_pos _)
 have hp := Nat.sub_pos_of_lt hS
 obtain ⟨j, hj, ej⟩ := mod_nat (c.fdiv 111) (m := t.length + 1 - S) hp
 have hSl := Nat.lt_succ_iff.mp hS
 have hE : S + j ≤ t.length := Nat.lt_succ_iff.mp (Nat.add_comm j S ▸ Nat.lt_sub_iff_add_lt.mp hj)
 obtain ⟨L, o, ct⟩ := ctL_of (S := S) (E := S + j) h.r row h.w 0
 have w := ctL_win h.r ct
 rw [ht, win_0 (Nat.le_add_right ..), Nat.add_sub_cancel_left] at w
 have lw : L.length ≤ j := by rw [w]; exact List.length_take_le ..
 have le2 : o ≤ j + 2 * D := Nat.le_trans (ctL_le h.r ct h.w (D := D) fun s hs => Int.ofNat_le.mp (hD ▸ dp_ge hs)) (Nat.add_le_add lw (Nat.mul_comm 2 D ▸ Nat.mul_le_mul_left D (Nat.add_le_add bi_le bi_le)))
 have g : (decide ((S : Int) < ((S + j : Nat) : Int)) || decide ((o : Int) = 0)) = true := by
  cases j with
  | zero => rw [(ctL_same (Nat.lt_irrefl S) ct).2]; exact Bool.or_true _
  | succ j => rw [decide_eq_true (Int.ofNat_lt.mpr (Nat.lt_add_of_pos_right (Nat.succ_pos j)))]; rfl
 have c1 := ca_cut (ad := ad) (d := d) (H := H) h (Nat.le_add_right S j) (ht.symm ▸ hE) ct (Nat.le_trans lw (Nat.le_trans (Nat.le_add_left j S) (Nat.le_trans hE (Nat.le_trans hl (by decide)))))
 rw [jn_lst, w] at c1
 have e5 : ((t.length : Int) + 1 - S) = ((t.length + 1 - S : Nat) : Int) := (Int.ofNat_sub (Nat.le_of_lt hS)).symm
 exact w_asg (w := .int S) (eS ▸ ev_mod (ev_var rfl) (ev_addN (k := 1) (ev_lenT (ev_var rfl)) ev_int) (Int.ofNat_ne_zero.mpr (Nat.succ_ne_zero _))) rfl (w_asg (w := .int (S + j : Nat)) (ev_addN (ev_var rfl) (ej ▸ ev_mod (ev_fdiv (ev_var rfl) ev_int (by decide)) (e5 ▸ ev_sb (ev_add (ev_lenT (ev_var rfl)) ev_int) (ev_var rfl)) (Int.ofNat_ne_zero.mpr (Nat.ne_of_gt hp)))) rfl (w_asgt (vs := [lst ((t.drop S).take j), .int o]) (fun z' z' q => c1 _ _ q) rfl (w_iff (ev_or (p := false) (q := false) (fun z' z' q => q) fun z' => ev_or (p := false) (q := false) (ev_cmp (ev_var rfl) (ec_one (ev_slT (ev_var rfl) (ev_var rfl) (ev_var rfl) hSl) (cm_nes (.str _)))) fun z' => fun z' z' q => ca_lwhole _ _ q) (kn_nil (r1 (w := .bool true) (ev_and (p := true) (q := true) (decide_eq_true (Int.ofNat_le.mpr le2) ▸ ev_cmp (ev_var rfl) (ec_one (ev_addN (n := j) (k := 2 * D) (ev_sbN (n := S) (m := j) (ev_var rfl) (ev_var rfl)) (ev_mul (i := 2) (j := (D : Int)) ev_int (ev_var rfl) (.inl (by decide)))) cm_le)) fun z' => g ▸ ev_or (ev_cmp (ev_var rfl) (ec_one (ev_var rfl) cm_lt)) fun z' => ev_cmp (ev_var rfl) (ec_one ev_int cm_eq)) rfl q)))))
theorem ev_compIf {C : Cx} {ρ : List (Option V)} {B : AH} {c : E} {i : Nat} {it : It} {α : Type} {v : α → V} {p : α → Bool} {r : List α} {ds : List Nat} (hi : Ei C ⟨ρ, H, B⟩ it (r.map v) ds) (hl : r.length ≤ sizeLine) (hlt : i < ρ.length) (he : ∀ x ∈ r, Ev C ⟨ρ.set i (some (v x)), H, B⟩ c (.bool (p x))) : Ev C ⟨ρ, H, B⟩ (.compIf (.var i) (.var i) it c) (.lst ((r.filter p).map v)) := fun Q X q => by
 refine hi _ _ ⟨by rw [List.length_map]; exact hl, ?_⟩
 have key : ∀ (r : List α) (K : List V → Prop), (∀ x ∈ r, Ev C ⟨ρ.set i (some (v x)), H, B⟩ c (.bool (p x))) → K ((r.filter p).map v) → compL (fun x k => match bindT (.var i) x ρ with
    | some ρ' => WE C c ⟨ρ', H, B⟩ (fun u => match truthV H u with
     | some true => WE C (.var i) ⟨ρ', H, B⟩ (fun y => k (some y)) (fun z' => False)
     | some false => k Option.none
     | Option.none => False) (fun z' => False)
    | Option.none => False) (r.map v) K := by
  intro r
  induction r with
  | nil => intro K _ h; exact h
  | cons x r ih =>
   intro K h1 h2
   show (match bindT (.var i) (v x) ρ with
    | some ρ' => WE C c ⟨ρ', H, B⟩ _ (fun z' => False)
    | Option.none => False)
   have : bindT (.var i) (v x) ρ = some (ρ.set i (some (v x))) := by show putV _ _ _ = _; unfold putV; rw [if_pos hlt]
   rw [this]
   refine h1 x (List.mem_cons_self ..) _ _ ?_
   have ih := fun K => ih K fun y hy => h1 y (List.mem_cons_of_mem _ hy)
   cases e : p x with
   | true =>
    rw [List.filter_cons_of_pos e] at h2
    exact ev_var (C := C) (H := H) (B := B) (List.getElem?_set_self hlt) _ _ (ih _ h2)
   | false =>
    rw [List.filter_cons_of_neg (by rw [e]; exact Bool.false_ne_true)] at h2
    exact ih _ h2
 exact key r _ he q
theorem upL_range (m : Nat) : upL 0 (m : Int) = (List.range m).map fun (k : Nat) => .int k := by
 unfold upL
 rw [Int.sub_zero, Int.toNat_natCast]
 exact List.map_congr_left fun k z' => by rw [Int.zero_add]
theorem take_len {α : Type} (l : List α) (n : Nat) : l.take (l.take n).length = l.take n := by
 rw [List.length_take]
 rcases Nat.le_total n l.length with e | e
 ·rw [Nat.min_eq_left e]
 ·rw [Nat.min_eq_right e, List.take_of_length_le (Nat.le_refl _), List.take_of_length_le e]
theorem l_a : Str.ofString "a" = ⟨[97].toArray⟩ := by decide +kernel
theorem g97 : ∀ c ∈ [97], c ∈ SG := by decide +kernel
theorem ca_word {c : Int} (h : Bk rs row) (ht : bt rs row = t) (hs : ∀ c ∈ t, c ∈ SG) (hl : t.length ≤ 1000) : Ca (C2 ad (d + 7)) "_law_word" [bookV rs row, lst t, .int c] H (.bool true) := ca_of (fn := L12.F_law_word) rfl rfl (by decide) fun Q X q => by
 cases t with
 | nil =>
  have c1 := ca_how (ad := ad) (d := d) (H := H) (W := [97]) (m := 0) h g97 rfl (Nat.zero_le _)
  have c2 := ca_first (ad := ad) (d := d) (H := H) (W := [97]) (m := 0) h g97 rfl (Nat.zero_le _)
  rw [ht, occs_nil] at c1 c2
  exact w_ift (ev_eqT (x := []) (y := []) (ev_var rfl) (ev_li l_e)) (r2 (w := .bool true) (ev_and (p := true) (q := true) (ev_cmp (ev_call (evs_cons (ev_var rfl) (evs_cons (ev_li l_a) evs_nil)) c1) (ec_one ev_int cm_eq)) fun z' => ev_cmp (ev_call (evs_cons (ev_var rfl) (evs_cons (ev_li l_a) evs_nil)) c2) (ec_one ev_none cm_is)) rfl q)
 | cons t0 ts =>
  generalize hT : t0 :: ts = t at *
  have hne : t ≠ [] := by rw [← hT]; exact nofun
  have hpos : 0 < t.length := by rw [← hT]; exact Nat.succ_pos _
  obtain ⟨S, hS, eS⟩ := mod_nat c (m := t.length) hpos
  obtain ⟨j, hj, ej⟩ := mod_nat (c.fdiv 113) (m := 12) (by decide)
  have w0 : 0 < ((t.drop S).take (1 + j)).length := by rw [List.length_take, List.length_drop]; exact Nat.lt_min.mpr ⟨Nat.lt_of_lt_of_le Nat.one_pos (Nat.le_add_right ..), Nat.sub_pos_of_lt hS⟩
  have w1 : ((t.drop S).take (1 + j)).length ≤ 1 + j := List.length_take_le ..
  obtain ⟨m, hm⟩ : ∃ m, ((t.drop S).take (1 + j)).length = m + 1 := ⟨_, (Nat.sub_add_cancel w0).symm⟩
  have hm2 : m ≤ 199 := Nat.le_trans (Nat.le_of_succ_le_succ (show m + 1 ≤ j + 1 by rw [← hm, Nat.add_comm j 1]; exact w1)) (Nat.le_trans (Nat.le_of_lt hj) (by decide))
  have hSG : ∀ x ∈ (t.drop S).take (1 + j), x ∈ SG := fun x hx => hs x (List.mem_of_mem_drop (List.mem_of_mem_take hx))
  have hat : at? ((t.drop S).take (1 + j)) t S = true := decide_eq_true (take_len _ _)
  have e4 : Ev (C2 ad (d + 6)) ⟨[some (bookV rs row), some (lst t), some (.int c), some (.int S), none, none, none], H, H⟩ (.slice (.var 1) (.var 3) (.bin .add (.bin .add (.var 3) (.int 1)) (.bin .mod (.bin .fdiv (.var 2) (.int 113)) (.int 12)))) (lst ((t.drop S).take (1 + j))) := ev_slT (ev_var rfl) (ev_var rfl) (Nat.add_assoc S 1 j ▸ ev_addN (n := S + 1) (k := j) (ev_addN (k := 1) (ev_var rfl) ev_int) (ev_modN (m := 12) (ev_fdiv (ev_var rfl) ev_int (by decide)) (by decide) ej)) (Nat.le_of_lt hS)
  generalize (t.drop S).take (1 + j) = W at *
  have hmem : S ∈ occs W t := List.mem_filter.mpr ⟨List.mem_range.mpr hS, hat⟩
  have e5 := ev_compIf (C := C2 ad (d + 6)) (H := H) (ρ := [some (bookV rs row), some (lst t), some (.int c), some (.int S), some (lst W), none, none]) (B := H) (c := .cmp (.slice (.var 1) (.var 6) (.bin .add (.var 6) (.len (.var 4)))) (.one .eq (.var 4))) (i := 6) (it := .range1 (.len (.var 1))) (v := fun k : Nat => V.int k) (p := at? W t) (r := List.range t.length) (upL_range t.length ▸ ei_range1 (ev_lenT (ev_var rfl)) (small_nat (Nat.le_trans hl (by decide)))) (by rw [List.length_range]; exact Nat.le_of_lt (sl (Nat.le_trans hl (by decide)))) (Nat.lt_succ_self 6) fun k hk => ev_eqT (ev_slT (n := W.length) (fun z' z' q => q) (fun z' z' q => q) (fun z' z' q => q) (Nat.le_of_lt (List.mem_range.mp hk))) (ev_var rfl)
  have c1 := ca_how (ad := ad) (d := d) (H := H) h hSG hm hm2
  have c2 := ca_first (ad := ad) (d := d) (H := H) h hSG hm hm2
  rw [ht] at c1 c2
  refine w_iff (decide_eq_false hne ▸ ev_eqT (ev_var rfl) (ev_li l_e)) (kn_nil (w_asg (w := .int S) (eS ▸ ev_mod (ev_var rfl) (ev_lenT (ev_var rfl)) (Int.ofNat_ne_zero.mpr (Nat.ne_of_gt hpos))) rfl (w_asg e4 rfl (w_asg e5 rfl ?_))))
  change WB _ _ ⟨[some (bookV rs row), some (lst t), some (.int c), some (.int S), some (lst W), some (.lst ((occs W t).map fun k : Nat => V.int k)), none], H, H⟩ _ _
  cases eo : occs W t with
  | nil => rw [eo] at hmem; cases hmem
  | cons k r =>
   rw [eo] at c1 c2
   exact r1 (w := .bool true) (ev_and (p := true) (q := true) (ev_cmp (ev_call (evs_cons (ev_var rfl) (evs_cons (ev_var rfl) evs_nil)) c1) (ec_one (ev_len (ev_var rfl) (show some ((k :: r).map fun k : Nat => V.int k).length = _ from congrArg some (List.length_map ..))) (cm_eqs (.int _)))) fun z' => ev_cmp (ev_call (evs_cons (ev_var rfl) (evs_cons (ev_var rfl) evs_nil)) c2) (ec_one (ev_sub (ev_var rfl) ev_int (sb_lst (n := 0) rfl)) (cm_eqs (.int _)))) rfl q
end
end Lib
end
section
set_option autoImplicit false
set_option linter.unusedSimpArgs false
set_option linter.unusedVariables false
namespace Lib
open PySem Mine
noncomputable def sd : Sy → PyData
 | .ch c => .str ⟨#[c]⟩
 | .ru k => .int k
theorem sd_D (s : Sy) : toD s.v = some (sd s) := by cases s <;> rfl
theorem sd_Ds : ∀ (r : List Sy), toDs (r.map Sy.v) = some (r.map sd)
 | [] => rfl
 | s :: r => by
  show (match toD s.v, toDs (r.map Sy.v) with
   | some x, some xs => some (x :: xs)
   | _, _ => none) = _
  rw [sd_D, sd_Ds r]; rfl
theorem sd_eqv (s : Sy) : PyData.eqv (sd s) (sd s) = true := by
 cases s with
 | ch c => exact decide_eq_true rfl
 | ru k => exact decide_eq_true rfl
theorem in_row {s : Sy} {r : List Sy} {Q : Bool → Prop} (h : s ∈ r) (q : Q true) : inL s.v (r.map Sy.v) Q := by
 unfold inL
 rw [sd_D, sd_Ds]
 exact ⟨by cases s <;> exact Nat.zero_le _, (show ((r.map sd).any fun y => PyData.eqv y (sd s)) = true from List.any_eq_true.mpr ⟨sd s, List.mem_map_of_mem h, sd_eqv s⟩) ▸ q⟩
section
variable {ad d : Nat} {H : AH} {rs : List Rl} {row : List Sy} {t : List Nat} {D : Nat}
theorem ni_row {s : Sy} {r : List Sy} (h : s ∈ r) : Cm H .notin s.v (.lst (r.map Sy.v)) false := fun Q q => (show inL s.v (r.map Sy.v) (fun b => Q (!b)) from in_row h q)
theorem ni_two {s a b : Sy} (h : s ∈ [a, b]) : Cm H .notin s.v (pv (a, b)) false := fun Q q => (show inL s.v ([a, b].map Sy.v) (fun b => Q (!b)) from in_row h q)
theorem way_ht (hr : RulesOk rs) {s : Sy} {p c : Nat} {l : List Nat} (w : Way rs s p c l) : l.length ≤ ht (Hts rs) s := by
 induction w with
 | ch => exact Nat.zero_le _
 | left k a b p c l hg hp w ih =>
  have h : ht (Hts rs) (.ru k) = 1 + max (ht (Hts rs) a) (ht (Hts rs) b) := ht_rule hr hg
  rw [h, Nat.add_comm]; exact Nat.succ_le_succ (Nat.le_trans ih (Nat.le_max_left ..))
 | right k a b p c l hg hp w ih =>
  have h : ht (Hts rs) (.ru k) = 1 + max (ht (Hts rs) a) (ht (Hts rs) b) := ht_rule hr hg
  rw [h, Nat.add_comm]; exact Nat.succ_le_succ (Nat.le_trans ih (Nat.le_max_right ..))
noncomputable def Zp (l : List Nat) (c : Nat) : List V := zipL (nv l) ((nv l).drop 1 ++ [lst [c]])
theorem zp_cons {k c p : Nat} {l : List Nat} {s : Sy} (w : Way rs s p c l) : Zp (k :: l) c = .tup [.int k, s.v] :: Zp l c := by
 cases w <;> rfl
noncomputable def sgZ : Bl := .cons (.ite (.cmp (.var 7) (.one .notin (.sub (.sub (.var 0) (.int 0)) (.var 6)))) (.cons (.ret (.bool false)) .nil) .nil) .nil
theorem sz_loop {Q : Fl → St → Prop} {X : String → St → Prop} {r : Bl} {v1 v2 v3 v4 v5 : V} {s : Sy} {p c : Nat} {l : List Nat} (w : Way rs s p c l) (hr : ∀ x y, WB (C2 ad d) r ⟨[some (bookV rs row), some v1, some v2, some v3, some v4, some v5, x, y], H, H⟩ Q X) : ∀ x y, Fo (C2 ad d) (.tup [6, 7]) sgZ r Q X (Zp l c) ⟨[some (bookV rs row), some v1, some v2, some v3, some v4, some v5, x, y], H, H⟩ := by
 induction w with
 | ch => exact fun x y => fo_nil (hr x y)
 | left k a b p c l hg hp w ih =>
  intro x y
  rw [zp_cons w]
  exact fo_cons (ρ' := [some (bookV rs row), some v1, some v2, some v3, some v4, some v5, some (.int k), some a.v]) rfl (w_iff (ev_cmp (ev_var rfl) (ec_one (fun z' z' q => sb_rule (H := H) hg _ q) (ni_two (List.mem_cons_self ..)))) (kn_nil (kf_nil (ih _ _))))
 | right k a b p c l hg hp w ih =>
  intro x y
  rw [zp_cons w]
  exact fo_cons (ρ' := [some (bookV rs row), some v1, some v2, some v3, some v4, some v5, some (.int k), some b.v]) rfl (w_iff (ev_cmp (ev_var rfl) (ec_one (fun z' z' q => sb_rule (H := H) hg _ q) (ni_two (List.mem_cons_of_mem _ (List.mem_cons_self ..))))) (kn_nil (kf_nil (ih _ _))))
theorem dn_nv {l : List Nat} : Dn 64 (.lst (nv l)) := .nv l
theorem eq_nil {k : Nat} {l : List Nat} {Q : Bool → Prop} (q : Q false) : eqV H (.lst (nv (k :: l))) (.lst []) Q := by
 obtain ⟨y, h1, h2, _⟩ := dn_nv (l := k :: l)
 unfold eqV
 rw [show toD (resV H (.lst (nv (k :: l)))) = some y from h1, show toD (resV H (.lst [])) = some (.list []) from rfl]
 refine ⟨h2, ?_⟩
 obtain ⟨ds, g1, g2⟩ := Option.map_eq_some_iff.mp (show (toDs (.int k :: nv l)).map .list = some y from h1)
 have : ∃ d ds', ds = d :: ds' := by
  have g1 : (match toD (.int k), toDs (nv l) with
   | some x, some xs => some (x :: xs)
   | _, _ => none) = some ds := g1
  cases e : toDs (nv l) with
  | none => rw [e] at g1; cases g1
  | some xs => rw [e] at g1; cases g1; exact ⟨_, _, rfl⟩
 obtain ⟨d, ds', rfl⟩ := this
 rw [← g2]; exact q
theorem cut_1 {α : Type} (l : List α) : cutL l (clip l.length 1) l.length = l.drop 1 := by
 have e : clip l.length 1 = min 1 l.length := clip_nat (k := 1)
 unfold cutL
 rw [e, List.take_of_length_le (Nat.le_of_eq (List.length_drop ..))]
 cases l with
 | nil => rfl
 | cons x l => rw [List.length_cons, Nat.min_eq_left (Nat.le_add_left 1 _)]
noncomputable def sgT2 : E := .or (.and (.cmp (.var 5) (.one .eq (.list .nil))) (.cmp (.var 4) (.one .notin (.sub (.var 0) (.int 1))))) (.and (.cmp (.var 5) (.one .ne (.list .nil))) (.cmp (.sub (.var 5) (.int 0)) (.one .notin (.sub (.var 0) (.int 1)))))
theorem ev_sgT2 {v1 v2 v3 : V} {x y : Option V} {s : Sy} {p c : Nat} {l : List Nat} (w : Way rs s p c l) (hs : s ∈ row) : Ev (C2 ad d) ⟨[some (bookV rs row), some v1, some v2, some v3, some (lst [c]), some (.lst (nv l)), x, y], H, H⟩ sgT2 (.bool false) := by
 have hn : ∀ k l', l = k :: l' → s = .ru k → Ev (C2 ad d) ⟨[some (bookV rs row), some v1, some v2, some v3, some (lst [c]), some (.lst (nv l)), x, y], H, H⟩ sgT2 (.bool false) := fun k l' e es => by
  subst e es
  exact ev_or (p := false) (q := false) (ev_and (p := false) (q := true) (ev_cmp (ev_var rfl) (ec_one (v := .lst []) (ev_list evs_nil rfl) fun Q q => eq_nil q)) nofun) fun z' => ev_and (p := true) (q := false) (ev_cmp (ev_var rfl) (ec_one (v := .lst []) (ev_list evs_nil rfl) fun Q q => (show eqV H (.lst (nv (k :: l'))) (.lst []) (fun r => Q (!r)) from eq_nil q))) fun z' => ev_cmp (u := .int k) (ev_sub (ev_var rfl) ev_int (sb_lst (n := 0) rfl)) (ec_one (v := .lst (row.map Sy.v)) (fun z' z' q => q) (ni_row (s := .ru k) hs))
 cases w with
 | ch => exact ev_or (p := false) (q := false) (ev_and (p := true) (q := false) (ev_cmp (ev_var rfl) (ec_one (v := .lst []) (ev_list evs_nil rfl) (cm_eqs (dn_nv (l := []))))) fun z' => ev_cmp (ev_var rfl) (ec_one (v := .lst (row.map Sy.v)) (fun z' z' q => q) (ni_row (s := .ch c) hs))) fun z' => ev_and (p := false) (q := true) (ev_cmp (ev_var rfl) (ec_one (v := .lst []) (ev_list evs_nil rfl) (cm_nes (dn_nv (l := []))))) nofun
 | left k a b _ _ l hg hp w => exact hn k l rfl rfl
 | right k a b _ _ l hg hp w => exact hn k l rfl rfl
noncomputable def sgL : Bl := .cons (.assign (.tup [4, 5]) (.call "sign_at" (.cons (.var 0) (.cons (.var 3) .nil)))) (.cons (.ite (.or (.cmp (.var 4) (.one .ne (.sub (.var 1) (.var 3)))) (.cmp (.len (.var 5)) (.one .gt (.var 2)))) (.cons (.ret (.bool false)) .nil) .nil) (.cons (.ite sgT2 (.cons (.ret (.bool false)) .nil) .nil) (.cons (.for (.tup [6, 7]) (.zip (.var 5) (.bin .add (.slice (.var 5) (.int 1) .none) (.list (.cons (.var 4) .nil)))) sgZ) .nil)))
theorem sg_all {Q : V → Prop} {X : String → St → Prop} (h : Bk rs row) (ht : bt rs row = t) (hD : dp rs row = D) (q : Q (.bool true)) : ∀ (m k : Nat) (x3 x4 x5 x6 x7 : Option V), k + m = t.length → Fo (C2 ad (d + 6)) (.var 3) sgL (.cons (.ret (.bool true)) .nil) (PK H Q) X (upL k t.length) ⟨[some (bookV rs row), some (lst t), some (.int D), x3, x4, x5, x6, x7], H, H⟩
 | 0, k, x3, x4, x5, x6, x7, e => by
  rw [← e]; rw [show upL (k : Int) ((k + 0 : Nat) : Int) = [] from up_nil]
  exact fo_nil (r1 ev_bool rfl q)
 | m + 1, k, x3, x4, x5, x6, x7, e => by
  rw [up_cons (nx_lt e)]
  obtain ⟨pre, s, post, p, e1, e2, hp⟩ := split_at row k (ht ▸ nx_lt e)
  have hs : s ∈ row := e1 ▸ List.mem_append_right _ (List.mem_cons_self ..)
  obtain ⟨c, l, w, hc, hl⟩ := way_of h.r s (h.w s hs) p hp
  have hl6 : l.length ≤ 600 := Nat.le_trans hl h.n
  have hg : t[k]? = some c := by
   rw [← ht, e1, bt_append, bt_cons, e2, List.getElem?_append_right (Nat.le_add_right ..), Nat.add_sub_cancel_left, List.getElem?_append_left hp]; exact hc
  have s1 := ca_sign (ad := ad) (d := d) (H := H) h e1.symm hp w hl6
  rw [← e2] at s1
  have hd : ¬ ((l.length : Int) > D) := Int.not_lt.mpr (Int.le_trans (Int.ofNat_le.mpr (way_ht h.r w)) (hD ▸ dp_ge (rs := rs) hs))
  refine fo_cons (ρ' := [some (bookV rs row), some (lst t), some (.int D), some (.int k), x4, x5, x6, x7]) rfl (w_asgt (vs := [.str ⟨#[c]⟩, .lst (nv l)]) (fun z' z' q => s1 _ _ q) rfl (w_iff (ev_or (p := false) (q := false) (ev_cmp (u := lst [c]) (ev_var rfl) (ec_one (ev_sub (ev_var rfl) (ev_var rfl) (sb_txt hg)) (cm_nes (.str _)))) fun z' => decide_eq_false hd ▸ ev_cmp (ev_len (ev_var rfl) (show some (nv l).length = _ from congrArg some (nv_length l))) (ec_one (ev_var rfl) cm_gt)) (kn_nil (w_iff (ev_sgT2 w hs) (kn_nil (w_for (xs := Zp l c) (ds := []) (fun Q' X' q' => ?_) (.inr nofun) (sz_loop w (fun x y => kf_nil (sg_all h ht hD q m (k + 1) _ _ _ _ _ (nx_eq e))) _ _)))))))
  show 1 ≤ sizeLine ∧ (cutL (nv l) (clip (nv l).length 1) (nv l).length).length + 1 ≤ sizeLine ∧ Q' (zipL (nv l) (cutL (nv l) (clip (nv l).length 1) (nv l).length ++ [lst [c]])) []
  rw [cut_1]
  exact ⟨Nat.le_of_ble_eq_true rfl, sl (by rw [List.length_drop, nv_length]; exact Nat.le_trans (Nat.le_trans (Nat.sub_le ..) hl6) (by decide)), q'⟩
theorem ca_signs (h : Bk rs row) (ht : bt rs row = t) (hD : dp rs row = D) (hl : t.length ≤ 1000) : Ca (C2 ad (d + 7)) "_law_signs" [bookV rs row, lst t, .int D] H (.bool true) := ca_of (fn := L12.F_law_signs) rfl rfl (by decide) fun Q X q => w_for (xs := upL 0 t.length) (ds := []) (ei_range1 (ev_lenT (ev_var rfl)) (small_nat (Nat.le_trans hl (by decide)))) (.inr nofun) (sg_all h ht hD q t.length 0 _ _ _ _ _ (Nat.zero_add _))
end
end Lib
end
section
set_option autoImplicit false
set_option linter.unusedSimpArgs false
set_option linter.unusedVariables false
namespace Lib
open PySem Mine
section
variable {ad : Nat} {H : AH} {ns : List Int} {rs : List Rl} {row : List Sy} {t : List Nat} {D : Nat} {Q : V → Prop} {X : String → St → Prop}
theorem ok_tk {s : Sy} {n : Nat} (h : s.ok n) (hn : n ≤ 200) : tkOk s := by
 cases s with
 | ch c => trivial
 | ru k => exact Nat.lt_of_lt_of_le h hn
theorem md_tk (h : Md rs row t) (hl : t.length ≤ 130) : Tk rs row := by
 have hn := Nat.le_trans h.n hl
 have hr : rs.length ≤ 200 := Nat.le_trans (Nat.le_add_right ..) (Nat.le_trans hn (by decide))
 refine ⟨fun p hp => ?_, fun s hs => ok_tk (h.w s hs) hr, hr, Nat.le_trans (Nat.le_add_left ..) (Nat.le_trans hn (by decide))⟩
 obtain ⟨i, hi, rfl⟩ := List.getElem_of_mem hp
 have o := h.r i _ (List.getElem?_eq_getElem hi)
 exact ⟨ok_tk o.1 (Nat.le_trans (Nat.le_of_lt hi) hr), ok_tk o.2 (Nat.le_trans (Nat.le_of_lt hi) hr)⟩
noncomputable def laB : Bl := .cons (.assign (.var 5) (.call "_law_cell_at" (.cons (.var 0) (.cons (.bin .add (.int 58) (.var 4)) .nil)))) (.cons (.ite (.or (.not (.call "_law_stretch" (.cons (.var 2) (.cons (.var 1) (.cons (.var 3) (.cons (.var 5) .nil)))))) (.not (.call "_law_word" (.cons (.var 2) (.cons (.var 1) (.cons (.bin .fdiv (.var 5) (.int 7)) .nil)))))) (.cons (.ret (.bool false)) .nil) .nil) .nil)
noncomputable def laR : Bl := .cons (.ret (.cmp (.call "read" (.cons (.call "shown" (.cons (.var 2) .nil)) .nil)) (.one .eq (.var 2)))) .nil
noncomputable def laS (ns : List Int) (t : List Nat) (rs : List Rl) (row : List Sy) (D : Nat) (x4 x5 : Option V) : List (Option V) := [some (.lst (ns.map V.int)), some (lst t), some (bookV rs row), some (.int D), x4, x5, none]
theorem la_loop (h : Bk rs row) (hk : Tk rs row) (ht : bt rs row = t) (hD : dp rs row = D) (hs : ∀ c ∈ t, c ∈ SG) (hl : t.length ≤ 1000) (q : Q (.bool true)) : ∀ (m k : Nat) (x4 x5 : Option V), k + m = 4 → Fo (C2 ad 29) (.var 4) laB laR (PK H Q) X (upL k (4 : Nat)) ⟨laS ns t rs row D x4 x5, H, H⟩
 | 0, k, x4, x5, e => by
  rw [show k = 4 from e, up_nil]
  exact fo_nil (r1 (w := .bool true) (ev_cmp (fun z' z' q => ca_shown (d := 24) h hk _ _ (ca_read (d := 24) h hk _ _ q)) (ec_one (ev_var rfl) (cm_eqs (.mono (.book (n := 0) rs row) (by decide))))) rfl q)
 | m + 1, k, x4, x5, e => by
  rw [up_cons (nx_lt e)]
  refine fo_cons (ρ' := laS ns t rs row D (some (.int k)) x5) rfl (w_asgq (P := fun v => ∃ i : Int, v = .int i) (fun Q X q => cell_of (k := 58 + k) _ _ fun i => q _ ⟨i, rfl⟩) rfl ?_)
  rintro _ ⟨i, rfl⟩
  exact w_iff (ev_or (p := false) (q := false) (fun z' z' q => ca_stretch (d := 22) h ht hD hl _ _ q) fun z' => ev_not (b := true) (ev_call (evs_cons (ev_var rfl) (evs_cons (ev_var rfl) (evs_cons (ev_fdiv (ev_var rfl) ev_int (by decide)) evs_nil))) (ca_word (d := 22) h ht hs hl))) (kn_nil (kf_nil (la_loop h hk ht hD hs hl q m (k + 1) _ _ (nx_eq e))))
theorem main12 : (C2 ad 30).call "law" [.lst (ns.map V.int)] (fun z' => none) (fun v => v = .bool true) (fun z' => False) := by
 refine call_of (fn := L12.F_law) rfl rfl (by decide) (w_asgq (P := fun v => ∃ l, Tn 130 l ∧ v = lst l) (fun Q X q => text_of (d := 27) fun l hl => q _ ⟨l, hl, rfl⟩) rfl ?_)
 rintro _ ⟨t, ht, rfl⟩
 have hl := ht.n
 have h1 : t.length ≤ 1000 := Nat.le_trans hl (by decide)
 refine w_asgq (P := fun v => ∃ rs row, Md rs row t ∧ v = bookV rs row) (fun Q X q => made_of (d := 27) ht.s h1 fun rs row h => q _ ⟨rs, row, h, rfl⟩) rfl ?_
 rintro _ ⟨rs, row, h, rfl⟩
 have hn := h.n
 have B : Bk rs row := ⟨h.r, h.w, Nat.le_trans (Nat.le_add_right ..) (Nat.le_trans hn (Nat.le_trans hl (by decide))), Nat.le_trans (Nat.le_add_left ..) (Nat.le_trans hn (Nat.le_trans hl (by decide)))⟩
 obtain ⟨D, hD⟩ : ∃ D : Nat, dp rs row = D := ⟨(dp rs row).toNat, (Int.toNat_of_nonneg dp_nn).symm⟩
 have c1 := ca_length (ad := ad) (d := 23) (H := fun z' => none) B
 have c2 := ca_wo (ad := ad) (d := 24) (H := fun z' => none) B (by rw [h.t]; exact Nat.le_trans hl (by decide))
 have c3 := ca_signs (ad := ad) (d := 22) (H := fun z' => none) B h.t hD h1
 rw [h.t] at c1 c2
 rw [jn_lst] at c2
 have c4 := ca_depth (ad := ad) (d := 24) (H := fun z' => none) B
 rw [hD] at c4
 have e6 := ev_compIf (C := C2 ad 29) (H := fun z' => none) (ρ := laS ns t rs row D none none) (B := fun z' => none) (c := .cmp (.var 6) (.one .lt (.int 2))) (i := 6) (it := .seq (.call "uses" (.cons (.var 2) .nil))) (v := fun j : Nat => V.int (run rs rs.length (cn row) j)) (p := fun j => decide (run rs rs.length (cn row) j < 2)) (r := List.range rs.length) (ds := []) (fun z' z' q => ca_uses (d := 24) B _ _ q) (by rw [List.length_range]; exact Nat.le_of_lt (sl (Nat.le_trans B.n (by decide)))) (Nat.lt_succ_self 6) fun j z' => ev_cmp (ev_var rfl) (ec_one ev_int cm_lt)
 rw [List.filter_eq_nil_iff.mpr (fun j hj => by
  rw [decide_eq_true_eq]; exact Int.not_lt.mpr (h.u j (List.mem_range.mp hj)))] at e6
 exact w_asg (w := .int D) (fun z' z' q => c4 _ _ q) rfl (w_iff (ev_or (p := false) (q := false) (fun z' z' q => ca_lwhole _ _ q) fun z' => ev_or (p := false) (q := false) (ev_cmp (fun z' z' q => c1 _ _ q) (ec_one (ev_lenT (ev_var rfl)) (cm_nes (.int _)))) fun z' => ev_cmp (fun z' z' q => c2 _ _ q) (ec_one (ev_var rfl) (cm_nes (.str _)))) (kn_nil (w_iff (ev_or (p := false) (q := false) (fun z' z' q => c3 _ _ q) fun z' => ev_cmp (ev_len (n := 0) e6 rfl) (ec_one ev_int cm_gt)) (kn_nil (w_for (xs := upL 0 4) (ds := []) (ei_range1 ev_int ⟨by decide, by decide⟩) (.inr nofun) (la_loop (Q := fun v => v = .bool true) (X := fun z' z' => False) B (md_tk h hl) h.t hD ht.s h1 rfl 4 0 _ _ rfl))))))
end
end Lib
namespace L12
open PySem Mine
theorem main (C : Nat) (ns : List Int) (h : ns.length ≤ 63) : (cxN tbl gtab (ctab C) 30).call "law" [.lst (ns.map V.int)] (fun z' => none) (fun v => v = .bool true) (fun z' => False) := Mine.Lib.main12
end L12
end
end Mine
section
set_option autoImplicit false
namespace Mine
open PySem
structure Sc where
 σ : List (Str × Nat)
 used : Nat
 names : List (Str × NameKind)
 fns : List String
 xs : List String
 hot : Bool
 hots : List String
 dead : Bool
noncomputable def opOf : Bop → Operator
 | .add => .Add | .sub => .Sub | .mul => .Mult | .fdiv => .FloorDiv | .mod => .Mod | .pow => .Pow
noncomputable def copOf : Cop → CmpOp
 | .eq => .Eq | .ne => .NotEq | .lt => .Lt | .le => .LtE | .gt => .Gt | .ge => .GtE | .is => .Is | .isnot => .IsNot | .isin => .In | .notin => .NotIn
noncomputable def tyName : Ty → String
 | .int => "int" | .bool => "bool" | .str => "str" | .tuple => "tuple" | .list => "list" | .own c => c | .ValueError => "ValueError"
noncomputable def coldB : List String := ["sum", "max", "min", "reversed", "enumerate", "zip"]
noncomputable def hotOk (c : Sc) (n : String) : Bool := !c.hot || (!coldB.contains n && (!c.fns.contains n || (c.hots.contains n && !c.dead)))
noncomputable def isGlob (c : Sc) (x : Str) (n : String) : Bool := decide (x = Str.ofString n) && decide (c.names.lookup x = some .globalImplicit) && !(x == ("__debug__" : Str)) && hotOk c n
noncomputable def isVar (c : Sc) (x : Str) (i : Nat) : Bool := decide (c.σ.lookup x = some i) && !(x == ("__debug__" : Str))
noncomputable def noStar (x : Expr) : Bool := by cases x with
 | Starred => exact false
 | _ => exact true
noncomputable def plainX (x : Expr) : Bool := by cases x with
 | Starred => exact false
 | Slice => exact false
 | _ => exact true
noncomputable def tgNames : Expr → Option (List Str)
 | .Name x _ => some [x]
 | .Tuple [.Name x _, .Name y _] _ _ => some [x, y]
 | _ => none
noncomputable def tgIs (n : Nat) (t : Tg) (xs : List Str) : Bool := by cases t with
 | var i => exact i == n && xs.length == 1
 | tup is => exact false
noncomputable def inner (c : Sc) (xs : List Str) (names : List (Str × NameKind)) : Sc :=
 ⟨(xs.zip (List.range' c.used xs.length)) ++ c.σ.filter (fun p => decide (names.lookup p.1 = some .free)), c.used + xs.length, names, c.fns, c.xs, c.hot, c.hots, c.dead⟩
noncomputable def nameOk (c : Sc) (sc : Scope) (x : Str) (k : NameKind) : Bool := by cases k with
 | «local» => exact true
 | free => exact decide (sc.names.lookup x = some .free) && (c.σ.lookup x).isSome && (decide (c.names.lookup x = some .cell) || decide (c.names.lookup x = some .free)) && !(x == ("__classdict__" : Str))
 | globalImplicit => exact true
 | _ => exact false
noncomputable def tableOk (c : Sc) (xs : List Str) (sc : Scope) : Bool :=
 decide (sc.kind = .function) && xs.all (fun x => decide (sc.names.lookup x = some .local) && !(x == (".0" : Str))) && decide xs.Nodup &&
 sc.names.all (fun p => nameOk c sc p.1 p.2) && decide (sc.names.map (·.1)).Nodup && !c.dead
noncomputable def canStore (c : Sc) (x : Str) : Bool := decide (c.names.lookup x = some .local) || decide (c.names.lookup x = some .cell)
noncomputable def isSetX (x : Expr) : Bool := by cases x with
 | Set => exact true
 | _ => exact false
noncomputable def listable (x : It) : Bool := by cases x with
 | rev => exact true
 | _ => exact false
noncomputable def walk (x : It) : Bool := by cases x with
 | _ => exact true
noncomputable def plainTy (x : Ty) : Bool := by cases x with
 | own => exact false
 | ValueError => exact false
 | _ => exact true
noncomputable def isTupX (x : Expr) : Bool := by cases x with
 | Tuple => exact true
 | _ => exact false
noncomputable def isEZ (x : It) : Bool := by cases x with
 | enum => exact true
 | zip => exact true
 | _ => exact false
noncomputable def ezOk (it : It) (x : Expr) : Bool := walk it && (!isEZ it || isTupX x)
theorem ezOk_inv {it : It} {x : Expr} (h : ezOk it x = true) (e : isEZ it = true) : isTupX x = true := by
 have h := ((Bool.and_eq_true _ _).mp h).2
 rw [e] at h
 exact h
theorem ezOk_walk {it : It} {x : Expr} (h : ezOk it x = true) : walk it = true := ((Bool.and_eq_true _ _).mp h).1
noncomputable def isNoneE (x : E) : Bool := by cases x with
 | none => exact true
 | _ => exact false
theorem ff {P : Prop} (h : false = true) : P := Bool.noConfusion h
theorem and2_elim {b0 b1 : Bool} {P : Prop} (h : (b0 && b1) = true) (k : b0 = true → b1 = true → P) : P := k ((Bool.and_eq_true _ _).mp h).1 ((Bool.and_eq_true _ _).mp h).2
theorem and3_elim {b0 b1 b2 : Bool} {P : Prop} (h : ((b0 && b1) && b2) = true) (k : b0 = true → b1 = true → b2 = true → P) : P := and2_elim ((Bool.and_eq_true _ _).mp h).1 fun h0 h1 => k h0 h1 ((Bool.and_eq_true _ _).mp h).2
theorem and4_elim {b0 b1 b2 b3 : Bool} {P : Prop} (h : (((b0 && b1) && b2) && b3) = true) (k : b0 = true → b1 = true → b2 = true → b3 = true → P) : P := and3_elim ((Bool.and_eq_true _ _).mp h).1 fun h0 h1 h2 => k h0 h1 h2 ((Bool.and_eq_true _ _).mp h).2
theorem and5_elim {b0 b1 b2 b3 b4 : Bool} {P : Prop} (h : ((((b0 && b1) && b2) && b3) && b4) = true) (k : b0 = true → b1 = true → b2 = true → b3 = true → b4 = true → P) : P := and4_elim ((Bool.and_eq_true _ _).mp h).1 fun h0 h1 h2 h3 => k h0 h1 h2 h3 ((Bool.and_eq_true _ _).mp h).2
theorem and6_elim {b0 b1 b2 b3 b4 b5 : Bool} {P : Prop} (h : (((((b0 && b1) && b2) && b3) && b4) && b5) = true) (k : b0 = true → b1 = true → b2 = true → b3 = true → b4 = true → b5 = true → P) : P := and5_elim ((Bool.and_eq_true _ _).mp h).1 fun h0 h1 h2 h3 h4 => k h0 h1 h2 h3 h4 ((Bool.and_eq_true _ _).mp h).2
theorem and7_elim {b0 b1 b2 b3 b4 b5 b6 : Bool} {P : Prop} (h : ((((((b0 && b1) && b2) && b3) && b4) && b5) && b6) = true) (k : b0 = true → b1 = true → b2 = true → b3 = true → b4 = true → b5 = true → b6 = true → P) : P := and6_elim ((Bool.and_eq_true _ _).mp h).1 fun h0 h1 h2 h3 h4 h5 => k h0 h1 h2 h3 h4 h5 ((Bool.and_eq_true _ _).mp h).2
theorem and8_elim {b0 b1 b2 b3 b4 b5 b6 b7 : Bool} {P : Prop} (h : (((((((b0 && b1) && b2) && b3) && b4) && b5) && b6) && b7) = true) (k : b0 = true → b1 = true → b2 = true → b3 = true → b4 = true → b5 = true → b6 = true → b7 = true → P) : P := and7_elim ((Bool.and_eq_true _ _).mp h).1 fun h0 h1 h2 h3 h4 h5 h6 => k h0 h1 h2 h3 h4 h5 h6 ((Bool.and_eq_true _ _).mp h).2
noncomputable def Is {α β : Type} (mk : α → β) (x : β) : Type := { q : α // x = mk q }
noncomputable def onO {α : Type} (o : Option α) (f : α → Bool) : Bool := by cases o with
 | none => exact false
 | some a => exact f a
theorem onO_inv {α : Type} {o : Option α} {f : α → Bool} (h : onO o f = true) : ∃ a, f a = true := by
 cases o with
 | none => exact ff h
 | some a => exact ⟨a, h⟩
noncomputable def on1 {α β1 : Type} (o : Option α) (g1 : α → β1) (f : β1 → Bool) : Bool := onO o fun q => f (g1 q)
theorem on1_inv {α β1 : Type} {o : Option α} {g1 : α → β1} {f : β1 → Bool} (h : on1 o g1 f = true) : ∃ q, f (g1 q) = true := onO_inv h
noncomputable def on2 {α β1 β2 : Type} (o : Option α) (g1 : α → β1) (g2 : α → β2) (f : β1 → β2 → Bool) : Bool := onO o fun q => f (g1 q) (g2 q)
theorem on2_inv {α β1 β2 : Type} {o : Option α} {g1 : α → β1} {g2 : α → β2} {f : β1 → β2 → Bool} (h : on2 o g1 g2 f = true) : ∃ q, f (g1 q) (g2 q) = true := onO_inv h
noncomputable def on3 {α β1 β2 β3 : Type} (o : Option α) (g1 : α → β1) (g2 : α → β2) (g3 : α → β3) (f : β1 → β2 → β3 → Bool) : Bool := onO o fun q => f (g1 q) (g2 q) (g3 q)
theorem on3_inv {α β1 β2 β3 : Type} {o : Option α} {g1 : α → β1} {g2 : α → β2} {g3 : α → β3} {f : β1 → β2 → β3 → Bool} (h : on3 o g1 g2 g3 f = true) : ∃ q, f (g1 q) (g2 q) (g3 q) = true := onO_inv h
noncomputable def on4 {α β1 β2 β3 β4 : Type} (o : Option α) (g1 : α → β1) (g2 : α → β2) (g3 : α → β3) (g4 : α → β4) (f : β1 → β2 → β3 → β4 → Bool) : Bool := onO o fun q => f (g1 q) (g2 q) (g3 q) (g4 q)
theorem on4_inv {α β1 β2 β3 β4 : Type} {o : Option α} {g1 : α → β1} {g2 : α → β2} {g3 : α → β3} {g4 : α → β4} {f : β1 → β2 → β3 → β4 → Bool} (h : on4 o g1 g2 g3 g4 f = true) : ∃ q, f (g1 q) (g2 q) (g3 q) (g4 q) = true := onO_inv h
noncomputable def aConst (x : Expr) : Option (Is (fun q : Const × Nat × Pos => Expr.Constant (q.1) (q.2.1) (q.2.2)) x) := by cases x with
 | Constant v k p => exact some ⟨(v, k, p), rfl⟩
 | _ => exact none
noncomputable def onConst (x : Expr) (f : Const → Bool) : Bool := on1 (aConst x) (fun q => q.1.1) f
noncomputable def aName (x : Expr) : Option (Is (fun q : Str × Pos => Expr.Name (q.1) (q.2)) x) := by cases x with
 | Name y p => exact some ⟨(y, p), rfl⟩
 | _ => exact none
noncomputable def onName (x : Expr) (f : Str → Bool) : Bool := on1 (aName x) (fun q => q.1.1) f
noncomputable def aBin (x : Expr) : Option (Is (fun q : Expr × Operator × Expr × Pos => Expr.BinOp (q.1) (q.2.1) (q.2.2.1) (q.2.2.2)) x) := by cases x with
 | BinOp l o r p => exact some ⟨(l, o, r, p), rfl⟩
 | _ => exact none
noncomputable def onBin (x : Expr) (f : Expr → Operator → Expr → Bool) : Bool := on3 (aBin x) (fun q => q.1.1) (fun q => q.1.2.1) (fun q => q.1.2.2.1) f
noncomputable def aUn (x : Expr) : Option (Is (fun q : UnaryOp × Expr × Pos => Expr.UnaryOp (q.1) (q.2.1) (q.2.2)) x) := by cases x with
 | UnaryOp o y p => exact some ⟨(o, y, p), rfl⟩
 | _ => exact none
noncomputable def onUn (x : Expr) (f : UnaryOp → Expr → Bool) : Bool := on2 (aUn x) (fun q => q.1.1) (fun q => q.1.2.1) f
noncomputable def aBool (x : Expr) : Option (Is (fun q : BoolOp × (List Expr) × Pos => Expr.BoolOp (q.1) (q.2.1) (q.2.2)) x) := by cases x with
 | BoolOp o ys p => exact some ⟨(o, ys, p), rfl⟩
 | _ => exact none
noncomputable def onBool (x : Expr) (f : BoolOp → (List Expr) → Pos → Bool) : Bool := on3 (aBool x) (fun q => q.1.1) (fun q => q.1.2.1) (fun q => q.1.2.2) f
noncomputable def aIf (x : Expr) : Option (Is (fun q : Expr × Expr × Expr × Pos => Expr.IfExp (q.1) (q.2.1) (q.2.2.1) (q.2.2.2)) x) := by cases x with
 | IfExp y z u p => exact some ⟨(y, z, u, p), rfl⟩
 | _ => exact none
noncomputable def onIf (x : Expr) (f : Expr → Expr → Expr → Bool) : Bool := on3 (aIf x) (fun q => q.1.1) (fun q => q.1.2.1) (fun q => q.1.2.2.1) f
noncomputable def aList (x : Expr) : Option (Is (fun q : (List Expr) × Pos => Expr.List (q.1) (q.2)) x) := by cases x with
 | List xs p => exact some ⟨(xs, p), rfl⟩
 | _ => exact none
noncomputable def onList (x : Expr) (f : (List Expr) → Bool) : Bool := on1 (aList x) (fun q => q.1.1) f
noncomputable def aTup (x : Expr) : Option (Is (fun q : (List Expr) × Nat × Pos => Expr.Tuple (q.1) (q.2.1) (q.2.2)) x) := by cases x with
 | Tuple xs k p => exact some ⟨(xs, k, p), rfl⟩
 | _ => exact none
noncomputable def onTup (x : Expr) (f : (List Expr) → Bool) : Bool := on1 (aTup x) (fun q => q.1.1) f
noncomputable def aCmp (x : Expr) : Option (Is (fun q : Expr × (List CmpOp) × (List Expr) × Pos => Expr.Compare (q.1) (q.2.1) (q.2.2.1) (q.2.2.2)) x) := by cases x with
 | Compare l o r p => exact some ⟨(l, o, r, p), rfl⟩
 | _ => exact none
noncomputable def onCmp (x : Expr) (f : Expr → (List CmpOp) → (List Expr) → Bool) : Bool := on3 (aCmp x) (fun q => q.1.1) (fun q => q.1.2.1) (fun q => q.1.2.2.1) f
noncomputable def aSub (x : Expr) : Option (Is (fun q : Expr × Expr × Pos => Expr.Subscript (q.1) (q.2.1) (q.2.2)) x) := by cases x with
 | Subscript y z p => exact some ⟨(y, z, p), rfl⟩
 | _ => exact none
noncomputable def onSub (x : Expr) (f : Expr → Expr → Bool) : Bool := on2 (aSub x) (fun q => q.1.1) (fun q => q.1.2.1) f
noncomputable def aSlice (x : Expr) : Option (Is (fun q : (Option Expr) × (Option Expr) × (Option Expr) × Pos => Expr.Slice (q.1) (q.2.1) (q.2.2.1) (q.2.2.2)) x) := by cases x with
 | Slice y z u p => exact some ⟨(y, z, u, p), rfl⟩
 | _ => exact none
noncomputable def onSlice (x : Expr) (f : (Option Expr) → (Option Expr) → (Option Expr) → Bool) : Bool := on3 (aSlice x) (fun q => q.1.1) (fun q => q.1.2.1) (fun q => q.1.2.2.1) f
noncomputable def aCall (x : Expr) : Option (Is (fun q : Expr × (List Expr) × (List Keyword) × Pos => Expr.Call (q.1) (q.2.1) (q.2.2.1) (q.2.2.2)) x) := by cases x with
 | Call g xs ks p => exact some ⟨(g, xs, ks, p), rfl⟩
 | _ => exact none
noncomputable def onCall (x : Expr) (f : Expr → (List Expr) → (List Keyword) → Pos → Bool) : Bool := on4 (aCall x) (fun q => q.1.1) (fun q => q.1.2.1) (fun q => q.1.2.2.1) (fun q => q.1.2.2.2) f
noncomputable def aAttr (x : Expr) : Option (Is (fun q : Expr × Str × Pos => Expr.Attribute (q.1) (q.2.1) (q.2.2)) x) := by cases x with
 | Attribute o n p => exact some ⟨(o, n, p), rfl⟩
 | _ => exact none
noncomputable def onAttr (x : Expr) (f : Expr → Str → Pos → Bool) : Bool := on3 (aAttr x) (fun q => q.1.1) (fun q => q.1.2.1) (fun q => q.1.2.2) f
noncomputable def aLC (x : Expr) : Option (Is (fun q : Expr × (List Comprehension) × Scope × Pos => Expr.ListComp (q.1) (q.2.1) (q.2.2.1) (q.2.2.2)) x) := by cases x with
 | ListComp y gs sc p => exact some ⟨(y, gs, sc, p), rfl⟩
 | _ => exact none
noncomputable def onLC (x : Expr) (f : Expr → (List Comprehension) → Scope → Bool) : Bool := on3 (aLC x) (fun q => q.1.1) (fun q => q.1.2.1) (fun q => q.1.2.2.1) f
theorem onConst_inv {x : Expr} {f : Const → Bool} (h : onConst x f = true) : ∃ v k p, x = .Constant v k p ∧ f v = true := let ⟨q, h⟩ := on1_inv h; ⟨_, _, _, q.2, h⟩
theorem onConst_elim {x : Expr} {f : Const → Bool} {P : Expr → Prop} (h : onConst x f = true) (kk_ : ∀ v k p, f v = true → P (.Constant v k p)) : P x := by
 obtain ⟨v, k, p, rfl, c_⟩ := onConst_inv h; exact kk_ _ _ _ c_
theorem onName_inv {x : Expr} {f : Str → Bool} (h : onName x f = true) : ∃ y p, x = .Name y p ∧ f y = true := let ⟨q, h⟩ := on1_inv h; ⟨_, _, q.2, h⟩
theorem onName_elim {x : Expr} {f : Str → Bool} {P : Expr → Prop} (h : onName x f = true) (kk_ : ∀ y p, f y = true → P (.Name y p)) : P x := by
 obtain ⟨y, p, rfl, c_⟩ := onName_inv h; exact kk_ _ _ c_
theorem onBin_inv {x : Expr} {f : Expr → Operator → Expr → Bool} (h : onBin x f = true) : ∃ l o r p, x = .BinOp l o r p ∧ f l o r = true := let ⟨q, h⟩ := on3_inv h; ⟨_, _, _, _, q.2, h⟩
theorem onBin_elim {x : Expr} {f : Expr → Operator → Expr → Bool} {P : Expr → Prop} (h : onBin x f = true) (kk_ : ∀ l o r p, f l o r = true → P (.BinOp l o r p)) : P x := by
 obtain ⟨l, o, r, p, rfl, c_⟩ := onBin_inv h; exact kk_ _ _ _ _ c_
theorem onUn_inv {x : Expr} {f : UnaryOp → Expr → Bool} (h : onUn x f = true) : ∃ o y p, x = .UnaryOp o y p ∧ f o y = true := let ⟨q, h⟩ := on2_inv h; ⟨_, _, _, q.2, h⟩
theorem onUn_elim {x : Expr} {f : UnaryOp → Expr → Bool} {P : Expr → Prop} (h : onUn x f = true) (kk_ : ∀ o y p, f o y = true → P (.UnaryOp o y p)) : P x := by
 obtain ⟨o, y, p, rfl, c_⟩ := onUn_inv h; exact kk_ _ _ _ c_
theorem onBool_inv {x : Expr} {f : BoolOp → (List Expr) → Pos → Bool} (h : onBool x f = true) : ∃ o ys p, x = .BoolOp o ys p ∧ f o ys p = true := let ⟨q, h⟩ := on3_inv h; ⟨_, _, _, q.2, h⟩
theorem onBool_elim {x : Expr} {f : BoolOp → (List Expr) → Pos → Bool} {P : Expr → Prop} (h : onBool x f = true) (kk_ : ∀ o ys p, f o ys p = true → P (.BoolOp o ys p)) : P x := by
 obtain ⟨o, ys, p, rfl, c_⟩ := onBool_inv h; exact kk_ _ _ _ c_
theorem onIf_inv {x : Expr} {f : Expr → Expr → Expr → Bool} (h : onIf x f = true) : ∃ y z u p, x = .IfExp y z u p ∧ f y z u = true := let ⟨q, h⟩ := on3_inv h; ⟨_, _, _, _, q.2, h⟩
theorem onIf_elim {x : Expr} {f : Expr → Expr → Expr → Bool} {P : Expr → Prop} (h : onIf x f = true) (kk_ : ∀ y z u p, f y z u = true → P (.IfExp y z u p)) : P x := by
 obtain ⟨y, z, u, p, rfl, c_⟩ := onIf_inv h; exact kk_ _ _ _ _ c_
theorem onList_inv {x : Expr} {f : (List Expr) → Bool} (h : onList x f = true) : ∃ xs p, x = .List xs p ∧ f xs = true := let ⟨q, h⟩ := on1_inv h; ⟨_, _, q.2, h⟩
theorem onList_elim {x : Expr} {f : (List Expr) → Bool} {P : Expr → Prop} (h : onList x f = true) (kk_ : ∀ xs p, f xs = true → P (.List xs p)) : P x := by
 obtain ⟨xs, p, rfl, c_⟩ := onList_inv h; exact kk_ _ _ c_
theorem onTup_inv {x : Expr} {f : (List Expr) → Bool} (h : onTup x f = true) : ∃ xs k p, x = .Tuple xs k p ∧ f xs = true := let ⟨q, h⟩ := on1_inv h; ⟨_, _, _, q.2, h⟩
theorem onTup_elim {x : Expr} {f : (List Expr) → Bool} {P : Expr → Prop} (h : onTup x f = true) (kk_ : ∀ xs k p, f xs = true → P (.Tuple xs k p)) : P x := by
 obtain ⟨xs, k, p, rfl, c_⟩ := onTup_inv h; exact kk_ _ _ _ c_
theorem onCmp_inv {x : Expr} {f : Expr → (List CmpOp) → (List Expr) → Bool} (h : onCmp x f = true) : ∃ l o r p, x = .Compare l o r p ∧ f l o r = true := let ⟨q, h⟩ := on3_inv h; ⟨_, _, _, _, q.2, h⟩
theorem onCmp_elim {x : Expr} {f : Expr → (List CmpOp) → (List Expr) → Bool} {P : Expr → Prop} (h : onCmp x f = true) (kk_ : ∀ l o r p, f l o r = true → P (.Compare l o r p)) : P x := by
 obtain ⟨l, o, r, p, rfl, c_⟩ := onCmp_inv h; exact kk_ _ _ _ _ c_
theorem onSub_inv {x : Expr} {f : Expr → Expr → Bool} (h : onSub x f = true) : ∃ y z p, x = .Subscript y z p ∧ f y z = true := let ⟨q, h⟩ := on2_inv h; ⟨_, _, _, q.2, h⟩
theorem onSub_elim {x : Expr} {f : Expr → Expr → Bool} {P : Expr → Prop} (h : onSub x f = true) (kk_ : ∀ y z p, f y z = true → P (.Subscript y z p)) : P x := by
 obtain ⟨y, z, p, rfl, c_⟩ := onSub_inv h; exact kk_ _ _ _ c_
theorem onSlice_inv {x : Expr} {f : (Option Expr) → (Option Expr) → (Option Expr) → Bool} (h : onSlice x f = true) : ∃ y z u p, x = .Slice y z u p ∧ f y z u = true := let ⟨q, h⟩ := on3_inv h; ⟨_, _, _, _, q.2, h⟩
theorem onSlice_elim {x : Expr} {f : (Option Expr) → (Option Expr) → (Option Expr) → Bool} {P : Expr → Prop} (h : onSlice x f = true) (kk_ : ∀ y z u p, f y z u = true → P (.Slice y z u p)) : P x := by
 obtain ⟨y, z, u, p, rfl, c_⟩ := onSlice_inv h; exact kk_ _ _ _ _ c_
theorem onCall_inv {x : Expr} {f : Expr → (List Expr) → (List Keyword) → Pos → Bool} (h : onCall x f = true) : ∃ g xs ks p, x = .Call g xs ks p ∧ f g xs ks p = true := let ⟨q, h⟩ := on4_inv h; ⟨_, _, _, _, q.2, h⟩
theorem onCall_elim {x : Expr} {f : Expr → (List Expr) → (List Keyword) → Pos → Bool} {P : Expr → Prop} (h : onCall x f = true) (kk_ : ∀ g xs ks p, f g xs ks p = true → P (.Call g xs ks p)) : P x := by
 obtain ⟨g, xs, ks, p, rfl, c_⟩ := onCall_inv h; exact kk_ _ _ _ _ c_
theorem onAttr_inv {x : Expr} {f : Expr → Str → Pos → Bool} (h : onAttr x f = true) : ∃ o n p, x = .Attribute o n p ∧ f o n p = true := let ⟨q, h⟩ := on3_inv h; ⟨_, _, _, q.2, h⟩
theorem onAttr_elim {x : Expr} {f : Expr → Str → Pos → Bool} {P : Expr → Prop} (h : onAttr x f = true) (kk_ : ∀ o n p, f o n p = true → P (.Attribute o n p)) : P x := by
 obtain ⟨o, n, p, rfl, c_⟩ := onAttr_inv h; exact kk_ _ _ _ c_
theorem onLC_inv {x : Expr} {f : Expr → (List Comprehension) → Scope → Bool} (h : onLC x f = true) : ∃ y gs sc p, x = .ListComp y gs sc p ∧ f y gs sc = true := let ⟨q, h⟩ := on3_inv h; ⟨_, _, _, _, q.2, h⟩
theorem onLC_elim {x : Expr} {f : Expr → (List Comprehension) → Scope → Bool} {P : Expr → Prop} (h : onLC x f = true) (kk_ : ∀ y gs sc p, f y gs sc = true → P (.ListComp y gs sc p)) : P x := by
 obtain ⟨y, gs, sc, p, rfl, c_⟩ := onLC_inv h; exact kk_ _ _ _ _ c_
noncomputable def one {α : Type} : List α → (α → Bool) → Bool
 | [x], f => f x
 | _, _ => false
noncomputable def two {α : Type} : List α → (α → α → Bool) → Bool
 | [x, y], f => f x y
 | _, _ => false
noncomputable def three {α : Type} : List α → (α → α → α → Bool) → Bool
 | [x, y, z], f => f x y z
 | _, _ => false
noncomputable def some1 {α : Type} : List α → Bool
 | _ :: _ => true
 | _ => false
noncomputable def onCallN (x : Expr) (f : Str → List Expr → Bool) : Bool := onCall x fun g xs ks z' => ks.isEmpty && onName g fun y => f y xs
section
variable {x : Expr}
noncomputable def onDict0 : Expr → Bool
 | .Dict [] [] _ => true
 | _ => false
theorem onDict0_inv (h : onDict0 x = true) : ∃ p, x = .Dict [] [] p := by
 cases x with
 | Dict ks vs p =>
  cases ks with
  | nil =>
   cases vs with
   | nil => exact ⟨_, rfl⟩
   | cons => exact ff h
  | cons => exact ff h
 | _ => exact ff h
theorem one_inv {α : Type} {xs : List α} {f : α → Bool} (h : one xs f = true) : ∃ x, xs = [x] ∧ f x = true := by
 rcases xs with _ | ⟨a, _ | ⟨b, r⟩⟩
 ·exact ff h
 ·exact ⟨_, rfl, h⟩
 ·exact ff h
theorem one_elim {α : Type} {xs : List α} {f : α → Bool} {P : List α → Prop} (h : one xs f = true) (kk_ : ∀ x, f x = true → P ([x])) : P xs := by
 obtain ⟨x, rfl, c_⟩ := one_inv h; exact kk_ _ c_
theorem two_inv {α : Type} {xs : List α} {f : α → α → Bool} (h : two xs f = true) : ∃ x y, xs = [x, y] ∧ f x y = true := by
 rcases xs with _ | ⟨a, _ | ⟨b, _ | ⟨e, r⟩⟩⟩
 ·exact ff h
 ·exact ff h
 ·exact ⟨_, _, rfl, h⟩
 ·exact ff h
theorem two_elim {α : Type} {xs : List α} {f : α → α → Bool} {P : List α → Prop} (h : two xs f = true) (kk_ : ∀ x y, f x y = true → P ([x, y])) : P xs := by
 obtain ⟨x, y, rfl, c_⟩ := two_inv h; exact kk_ _ _ c_
theorem three_inv {α : Type} {xs : List α} {f : α → α → α → Bool} (h : three xs f = true) : ∃ x y z, xs = [x, y, z] ∧ f x y z = true := by
 rcases xs with _ | ⟨a, _ | ⟨b, _ | ⟨e, _ | ⟨g, r⟩⟩⟩⟩
 ·exact ff h
 ·exact ff h
 ·exact ff h
 ·exact ⟨_, _, _, rfl, h⟩
 ·exact ff h
theorem three_elim {α : Type} {xs : List α} {f : α → α → α → Bool} {P : List α → Prop} (h : three xs f = true) (kk_ : ∀ x y z, f x y z = true → P ([x, y, z])) : P xs := by
 obtain ⟨x, y, z, rfl, c_⟩ := three_inv h; exact kk_ _ _ _ c_
theorem some1_inv {α : Type} {xs : List α} (h : some1 xs = true) : ∃ x r, xs = x :: r := by
 cases xs with
 | nil => exact ff h
 | cons a r => exact ⟨_, _, rfl⟩
theorem onCallN_inv {f : Str → List Expr → Bool} (h : onCallN x f = true) : ∃ y p xs q, x = .Call (.Name y p) xs [] q ∧ f y xs = true := by
 obtain ⟨g, xs, ks, q, rfl, k⟩ := onCall_inv h
 obtain ⟨h1, h2⟩ := (Bool.and_eq_true _ _).mp k
 obtain ⟨y, p, rfl, k3⟩ := onName_inv h2
 cases ks with
 | nil => exact ⟨_, _, _, _, rfl, k3⟩
 | cons => exact ff h1
theorem onCallN_elim {f : Str → List Expr → Bool} {P : Expr → Prop} (h : onCallN x f = true) (kk_ : ∀ y p xs q, f y xs = true → P (.Call (.Name y p) xs [] q)) : P x := by
 obtain ⟨y, p, xs, q, rfl, c_⟩ := onCallN_inv h; exact kk_ _ _ _ _ c_
end
noncomputable def chkN (c : Sc) (i : Nat) (e : Expr) : Bool := onName e fun x => isVar c x i && canStore c x
noncomputable def chkNs (c : Sc) (is : List Nat) (xs : List Expr) : Bool := two is fun i j => two xs fun x y => chkN c i x && chkN c j y && decide (i ≠ j)
noncomputable def chkTg (c : Sc) : Tg → Expr → Bool
 | .var i, x => chkN c i x
 | .tup is, x => onTup x fun xs => chkNs c is xs && !c.hot
noncomputable def isStrE (x : E) : Bool := by cases x with
 | str => exact true
 | _ => exact false
noncomputable def optE (f : Expr → Bool) (b : Bool) : Option Expr → Bool
 | some x => f x
 | none => b
noncomputable def andT (f g : Expr → Bool) (o : BoolOp) : List Expr → Pos → Bool
 | [y, z], _ => f y && g z
 | [y, z, u], p => f y && g (.BoolOp o [z, u] p)
 | [y, z, u, v], p => f y && g (.BoolOp o [z, u, v] p)
 | [y, z, u, v, t], p => f y && g (.BoolOp o [z, u, v, t] p)
 | _, _ => false
theorem andT_inv {f g : Expr → Bool} {o : BoolOp} {ys : List Expr} {p : Pos} (h : andT f g o ys p = true) : (∃ y z, ys = [y, z] ∧ f y = true ∧ g z = true) ∨ (∃ y z u r, ys = y :: z :: u :: r ∧ f y = true ∧ g (.BoolOp o (z :: u :: r) p) = true) := by
 rcases ys with _ | ⟨y, _ | ⟨z, _ | ⟨u, _ | ⟨v, _ | ⟨t, _ | ⟨w, r⟩⟩⟩⟩⟩⟩
 ·exact ff h
 ·exact ff h
 ·exact .inl ⟨_, _, rfl, (Bool.and_eq_true _ _).mp h⟩
 ·exact .inr ⟨_, _, _, _, rfl, (Bool.and_eq_true _ _).mp h⟩
 ·exact .inr ⟨_, _, _, _, rfl, (Bool.and_eq_true _ _).mp h⟩
 ·exact .inr ⟨_, _, _, _, rfl, (Bool.and_eq_true _ _).mp h⟩
 ·exact ff h
noncomputable def baseX (x : Expr) : Bool := by cases x with
 | Name => exact true
 | Subscript => exact true
 | _ => exact false
noncomputable def attrB (x : Expr) : Bool := by cases x with
 | Name => exact true
 | Call f xs ks p => exact some1 xs
 | _ => exact false
mutual
noncomputable def chkE (c : Sc) : E → Expr → Bool
 | .none, x => onConst x fun v => decide (v = .none)
 | .bool b, x => onConst x fun v => decide (v = .bool b)
 | .int i, x => onConst x fun v => decide (v = .int i)
 | .str s, x => onConst x fun v => decide (v = .str s) && decide (s.length ≤ sizeLine) && s.cps.all (· < 0x110000)
 | .var i, x => onName x fun y => isVar c y i
 | .glob g, x => onName x fun y => isGlob c y g
 | .bin op a b, x => onBin x fun l o r => decide (o = opOf op) && chkE c a l && chkE c b r
 | .neg a, x => onUn x fun o y => decide (o = .USub) && chkE c a y
 | .not a, x => onUn x fun o y => decide (o = .Not) && chkE c a y
 | .and a b, x => onBool x fun o ys p => decide (o = .And) && andT (chkE c a) (chkE c b) .And ys p
 | .or a b, x => onBool x fun o ys p => decide (o = .Or) && andT (chkE c a) (chkE c b) .Or ys p
 | .ite t a b, x => onIf x fun y z u => chkE c t y && chkE c a z && chkE c b u
 | .list es, x => onList x fun xs => chkEs c es xs
 | .tup es, x => onTup x fun xs => chkEs c es xs
 | .cmp a ch, x => onCmp x fun l ops rs => !lastMarks ops rs && chkE c a l && chkCh c ch ops rs
 | .sub a i, x => onSub x fun y z => chkE c a y && chkE c i z && plainX z
 | .slice a lo hi, x => onSub x fun y z => onSlice z fun l h s => s.isNone && chkE c a y && optE (chkE c lo) (isNoneE lo) l && optE (chkE c hi) (isNoneE hi) h
 | .call f es, x => onCallN x fun y xs => some1 xs && isGlob c y f && c.fns.contains f && chkEs c es xs
 | .isinst a t, x => onCallN x fun y xs => two xs fun z n => onName n fun u => isGlob c y "isinstance" && noStar z && chkE c a z && isGlob c u (tyName t) && plainTy t
 | .len a, x => onCallN x fun y xs => one xs fun z => isGlob c y "len" && noStar z && chkE c a z
 | .sum a, x => onCallN x fun y xs => one xs fun z => isGlob c y "sum" && noStar z && chkE c a z
 | .max2 a b, x => onCallN x fun y xs => two xs fun z u => isGlob c y "max" && noStar z && noStar u && chkE c a z && chkE c b u
 | .min2 a b, x => onCallN x fun y xs => two xs fun z u => isGlob c y "min" && noStar z && noStar u && chkE c a z && chkE c b u
 | .maxl a, x => false
 | .maxd a d, x => onCall x fun g xs ks z' => one xs fun z => one ks fun kw => onName g fun y => isGlob c y "max" && noStar z && decide (kw.arg = some (Str.ofString "default")) && chkE c a z && chkE c d kw.value
 | .strOf a, x => onCallN x fun y xs => one xs fun z => isGlob c y "str" && noStar z && chkE c a z
 | .intOf a, x => onCallN x fun y xs => one xs fun z => isGlob c y "int" && noStar z && chkE c a z
 | .tupOf a, x => onCallN x fun y xs => one xs fun z => isGlob c y "tuple" && noStar z && chkE c a z
 | .listOf it, x => onCallN x fun y xs => one xs fun z => isGlob c y "list" && noStar z && listable it && chkI c it z && !c.hot
 | .join s a, x => onCall x fun g xs ks pos => ks.isEmpty && one xs fun z => onAttr g fun o n ap => decide (n = Str.ofString "join") && noStar z && ap.endLine == pos.line && chkE c s o && isStrE s && chkE c a z
 | .get d k v, x => onCall x fun g xs ks cp => ks.isEmpty && two xs fun z u => onAttr g fun o n ap => decide (n = Str.ofString "get") && ap.endLine == cp.line && baseX o && noStar z && noStar u && chkE c d o && chkE c k z && chkE c v u
 | .dict0, x => false
 | .attr a n, x => onAttr x fun o m z' => decide (m = Str.ofString n) && attrB o && chkE c a o
 | .new f es, x => onCallN x fun y xs => some1 xs && isGlob c y f && chkEs c es xs
 | .comp elt t it, x => onLC x fun y gs sc => one gs fun g => g.ifs.isEmpty && decide (g.is_async = 0) && (match tgNames g.target with
   | some xs => tgIs c.used t xs && tableOk c xs sc && chkTg (inner c xs sc.names) t g.target && !isSetX g.iter && ezOk it g.target && chkI c it g.iter && chkE (inner c xs sc.names) elt y
   | none => false)
 | .compIf elt t it cond, x => onLC x fun y gs sc => one gs fun g => decide (g.is_async = 0) && one g.ifs fun z => (match tgNames g.target with
   | some xs => tgIs c.used t xs && tableOk c xs sc && chkTg (inner c xs sc.names) t g.target && !isSetX g.iter && ezOk it g.target && chkI c it g.iter && chkE (inner c xs sc.names) cond z && chkE (inner c xs sc.names) elt y
   | none => false)
 | .isexc a t, x => false
 | .only a, x => false
noncomputable def chkEs (c : Sc) : Es → List Expr → Bool
 | .nil, xs => xs.isEmpty
 | .cons e es, xs => (match xs with
  | x :: r => noStar x && chkE c e x && chkEs c es r
  | [] => false)
noncomputable def chkCh (c : Sc) : Ch → List CmpOp → List Expr → Bool
 | .one op e, ops, xs => one ops fun o => one xs fun x => decide (o = copOf op) && chkE c e x
 | .more op e ch, ops, xs => (match ops, xs with
  | o :: ops, x :: xs => some1 ops && some1 xs && decide (o = copOf op) && chkE c e x && chkCh c ch ops xs
  | _, _ => false)
noncomputable def chkI (c : Sc) : It → Expr → Bool
 | .seq e, x => chkE c e x
 | .rev e, x => onCallN x fun y xs => one xs fun z => isGlob c y "reversed" && noStar z && chkE c e z
 | .range1 a, x => onCallN x fun y xs => one xs fun z => isGlob c y "range" && noStar z && chkE c a z
 | .range2 a b, x => false
 | .range3 a b d, x => onCallN x fun y xs => three xs fun z u v => isGlob c y "range" && noStar z && noStar u && noStar v && chkE c a z && chkE c b u && chkE c d v
 | .enum a, x => false
 | .keys e, x => chkE c e x && !c.hot
 | .zip a b, x => onCallN x fun y xs => two xs fun z u => isGlob c y "zip" && noStar z && noStar u && chkE c a z && chkE c b u
end
noncomputable def isCompE (x : E) : Bool := by cases x with
 | comp => exact true
 | compIf => exact true
 | _ => exact false
noncomputable def isComp (x : Expr) : Bool := by cases x with
 | ListComp => exact true
 | SetComp => exact true
 | DictComp => exact true
 | _ => exact false
noncomputable def tupOk (x : Expr) : Bool := by cases x with
 | Tuple vs _ _ => exact !(vs.all (constantsAlone 8)) || vs.all (foldedForSure 8)
 | _ => exact true
noncomputable def isNameX (x : Expr) : Bool := by cases x with
 | Name => exact true
 | _ => exact false
theorem isNameX_inv {x : Expr} (h : isNameX x = true) : ∃ y p, x = .Name y p := by cases x <;> first | exact ff h | exact ⟨_, _, rfl⟩
noncomputable def saExpr (x : Stmt) : Option (Is (fun q : Expr × Pos => Stmt.Expr (q.1) (q.2)) x) := by cases x with
 | Expr y p => exact some ⟨(y, p), rfl⟩
 | _ => exact none
noncomputable def onExpr (x : Stmt) (f : Expr → Bool) : Bool := on1 (saExpr x) (fun q => q.1.1) f
noncomputable def saIfS (x : Stmt) : Option (Is (fun q : Expr × (List Stmt) × (List Stmt) × Pos => Stmt.If (q.1) (q.2.1) (q.2.2.1) (q.2.2.2)) x) := by cases x with
 | If y a b p => exact some ⟨(y, a, b, p), rfl⟩
 | _ => exact none
noncomputable def onIfS (x : Stmt) (f : Expr → (List Stmt) → (List Stmt) → Bool) : Bool := on3 (saIfS x) (fun q => q.1.1) (fun q => q.1.2.1) (fun q => q.1.2.2.1) f
noncomputable def saAssign (x : Stmt) : Option (Is (fun q : (List Expr) × Expr × Pos => Stmt.Assign (q.1) (q.2.1) (q.2.2)) x) := by cases x with
 | Assign ts y p => exact some ⟨(ts, y, p), rfl⟩
 | _ => exact none
noncomputable def kAssign (x : Stmt) (f : (List Expr) → Expr → Bool) : Bool := on2 (saAssign x) (fun q => q.1.1) (fun q => q.1.2.1) f
noncomputable def saWhile (x : Stmt) : Option (Is (fun q : Expr × (List Stmt) × (List Stmt) × Pos => Stmt.While (q.1) (q.2.1) (q.2.2.1) (q.2.2.2)) x) := by cases x with
 | While y a b p => exact some ⟨(y, a, b, p), rfl⟩
 | _ => exact none
noncomputable def kWhile (x : Stmt) (f : Expr → (List Stmt) → (List Stmt) → Bool) : Bool := on3 (saWhile x) (fun q => q.1.1) (fun q => q.1.2.1) (fun q => q.1.2.2.1) f
noncomputable def saFor (x : Stmt) : Option (Is (fun q : Expr × Expr × (List Stmt) × (List Stmt) × Pos => Stmt.For (q.1) (q.2.1) (q.2.2.1) (q.2.2.2.1) (q.2.2.2.2)) x) := by cases x with
 | For t y a b p => exact some ⟨(t, y, a, b, p), rfl⟩
 | _ => exact none
noncomputable def kFor (x : Stmt) (f : Expr → Expr → (List Stmt) → (List Stmt) → Bool) : Bool := on4 (saFor x) (fun q => q.1.1) (fun q => q.1.2.1) (fun q => q.1.2.2.1) (fun q => q.1.2.2.2.1) f
noncomputable def saRet (x : Stmt) : Option (Is (fun q : (Option Expr) × Pos => Stmt.Return (q.1) (q.2)) x) := by cases x with
 | Return y p => exact some ⟨(y, p), rfl⟩
 | _ => exact none
noncomputable def kRet (x : Stmt) (f : (Option Expr) → Bool) : Bool := on1 (saRet x) (fun q => q.1.1) f
noncomputable def onAssign (x : Stmt) (f : Expr → Expr → Bool) : Bool := kAssign x fun ts y => one ts fun t => f t y
noncomputable def onWhile (x : Stmt) (f : Expr → List Stmt → Bool) : Bool := kWhile x fun y a b => b.isEmpty && f y a
noncomputable def onFor (x : Stmt) (f : Expr → Expr → List Stmt → Bool) : Bool := kFor x fun t y a b => b.isEmpty && f t y a
noncomputable def onRet (x : Stmt) (f : Expr → Bool) : Bool := kRet x fun y => optE f false y
theorem onExpr_inv {x : Stmt} {f : Expr → Bool} (h : onExpr x f = true) : ∃ y p, x = .Expr y p ∧ f y = true := let ⟨q, h⟩ := on1_inv h; ⟨_, _, q.2, h⟩
theorem onExpr_elim {x : Stmt} {f : Expr → Bool} {P : Stmt → Prop} (h : onExpr x f = true) (kk_ : ∀ y p, f y = true → P (.Expr y p)) : P x := by
 obtain ⟨y, p, rfl, c_⟩ := onExpr_inv h; exact kk_ _ _ c_
theorem onIfS_inv {x : Stmt} {f : Expr → (List Stmt) → (List Stmt) → Bool} (h : onIfS x f = true) : ∃ y a b p, x = .If y a b p ∧ f y a b = true := let ⟨q, h⟩ := on3_inv h; ⟨_, _, _, _, q.2, h⟩
theorem onIfS_elim {x : Stmt} {f : Expr → (List Stmt) → (List Stmt) → Bool} {P : Stmt → Prop} (h : onIfS x f = true) (kk_ : ∀ y a b p, f y a b = true → P (.If y a b p)) : P x := by
 obtain ⟨y, a, b, p, rfl, c_⟩ := onIfS_inv h; exact kk_ _ _ _ _ c_
theorem kAssign_inv {x : Stmt} {f : (List Expr) → Expr → Bool} (h : kAssign x f = true) : ∃ ts y p, x = .Assign ts y p ∧ f ts y = true := let ⟨q, h⟩ := on2_inv h; ⟨_, _, _, q.2, h⟩
theorem kWhile_inv {x : Stmt} {f : Expr → (List Stmt) → (List Stmt) → Bool} (h : kWhile x f = true) : ∃ y a b p, x = .While y a b p ∧ f y a b = true := let ⟨q, h⟩ := on3_inv h; ⟨_, _, _, _, q.2, h⟩
theorem kFor_inv {x : Stmt} {f : Expr → Expr → (List Stmt) → (List Stmt) → Bool} (h : kFor x f = true) : ∃ t y a b p, x = .For t y a b p ∧ f t y a b = true := let ⟨q, h⟩ := on4_inv h; ⟨_, _, _, _, _, q.2, h⟩
theorem kRet_inv {x : Stmt} {f : (Option Expr) → Bool} (h : kRet x f = true) : ∃ y p, x = .Return y p ∧ f y = true := let ⟨q, h⟩ := on1_inv h; ⟨_, _, q.2, h⟩
noncomputable def saRaise (x : Stmt) : Option (Is (fun q : Expr × Pos => Stmt.Raise (some q.1) none q.2) x) := by cases x with
 | Raise e c p => exact (match e, c with
  | some y, none => some ⟨(y, p), rfl⟩
  | _, _ => none)
 | _ => exact none
noncomputable def onRaise (x : Stmt) (f : Expr → Bool) : Bool := on1 (saRaise x) (fun q => q.1.1) f
section
variable {x : Stmt}
theorem onAssign_inv {f : Expr → Expr → Bool} (h : onAssign x f = true) : ∃ t y p, x = .Assign [t] y p ∧ f t y = true := by
 obtain ⟨ts, y, p, rfl, k⟩ := kAssign_inv h
 obtain ⟨t, rfl, k3⟩ := one_inv k
 exact ⟨_, _, _, rfl, k3⟩
theorem onAssign_elim {f : Expr → Expr → Bool} {P : Stmt → Prop} (h : onAssign x f = true) (kk_ : ∀ t y p, f t y = true → P (.Assign [t] y p)) : P x := by
 obtain ⟨t, y, p, rfl, c_⟩ := onAssign_inv h; exact kk_ _ _ _ c_
theorem onWhile_inv {f : Expr → List Stmt → Bool} (h : onWhile x f = true) : ∃ y a p, x = .While y a [] p ∧ f y a = true := by
 obtain ⟨y, a, b, p, rfl, k⟩ := kWhile_inv h
 obtain ⟨h1, h2⟩ := (Bool.and_eq_true _ _).mp k
 cases b with
 | nil => exact ⟨_, _, _, rfl, h2⟩
 | cons => exact ff h1
theorem onWhile_elim {f : Expr → List Stmt → Bool} {P : Stmt → Prop} (h : onWhile x f = true) (kk_ : ∀ y a p, f y a = true → P (.While y a [] p)) : P x := by
 obtain ⟨y, a, p, rfl, c_⟩ := onWhile_inv h; exact kk_ _ _ _ c_
theorem onFor_inv {f : Expr → Expr → List Stmt → Bool} (h : onFor x f = true) : ∃ t y a p, x = .For t y a [] p ∧ f t y a = true := by
 obtain ⟨t, y, a, b, p, rfl, k⟩ := kFor_inv h
 obtain ⟨h1, h2⟩ := (Bool.and_eq_true _ _).mp k
 cases b with
 | nil => exact ⟨_, _, _, _, rfl, h2⟩
 | cons => exact ff h1
theorem onFor_elim {f : Expr → Expr → List Stmt → Bool} {P : Stmt → Prop} (h : onFor x f = true) (kk_ : ∀ t y a p, f t y a = true → P (.For t y a [] p)) : P x := by
 obtain ⟨t, y, a, p, rfl, c_⟩ := onFor_inv h; exact kk_ _ _ _ _ c_
theorem onRet_inv {f : Expr → Bool} (h : onRet x f = true) : ∃ y p, x = .Return (some y) p ∧ f y = true := by
 obtain ⟨y, p, rfl, k⟩ := kRet_inv h
 cases y with
 | none => exact ff k
 | some y => exact ⟨_, _, rfl, k⟩
theorem onRet_elim {f : Expr → Bool} {P : Stmt → Prop} (h : onRet x f = true) (kk_ : ∀ y p, f y = true → P (.Return (some y) p)) : P x := by
 obtain ⟨y, p, rfl, c_⟩ := onRet_inv h; exact kk_ _ _ c_
end
mutual
noncomputable def chkA (c : Sc) : A → Expr → Bool
 | .pure e, x => chkE c e x
 | .thaw e, x => isFresh e && chkE c e x
 | .list as, x => onList x fun xs => chkAs c as xs
 | .dict, x => onDict0 x
 | .new f es, x => onCallN x fun y xs => some1 xs && isGlob c y f && chkEs c es xs
 | .callO _ _, _ => false
noncomputable def chkAs (c : Sc) : As → List Expr → Bool
 | .nil, xs => xs.isEmpty
 | .cons a as, xs => (match xs with
  | x :: r => noStar x && chkA c a x && chkAs c as r
  | [] => false)
end
noncomputable def tgAsg (t : Tg) : Bool := by cases t with
 | var => exact true
 | tup => exact true
noncomputable def okOwn (a : A) : Bool := by cases a with
 | _ => exact true
mutual
noncomputable def chkS (c : Sc) : S → Stmt → Bool
 | .expr e, x => onExpr x fun y => chkE c e y && !isComp y
 | .assign t e, x => onAssign x fun tg y => chkTg c t tg && tupOk y && chkE c e y && okOwn (.pure e) && tgAsg t
 | .own i a, x => onAssign x fun tg y => chkN c i tg && chkA c a y && okOwn a
 | .append e a, x => onExpr x fun y => onCall y fun g xs ks cp => ks.isEmpty && one xs fun z => onAttr g fun o n ap => decide (n = Str.ofString "append") && ap.endLine == cp.line && baseX o && noStar z && chkE c e o && chkA c a z
 | .pop t e, x => onAssign x fun tg y => onCall y fun g xs ks cp => ks.isEmpty && xs.isEmpty && onAttr g fun o n ap => chkTg c t tg && decide (n = Str.ofString "pop") && ap.endLine == cp.line && isNameX o && chkE c e o
 | .setitem e k v, x => onAssign x fun tg y => onSub tg fun o i => chkE c e o && chkE c k i && chkE c v y && !isComp y
 | .setkey e k v, x => onAssign x fun tg y => onSub tg fun o i => chkE c e o && chkE c k i && chkE c v y && !isComp y
 | .setlast e v, x => false
 | .setattr e n v, x => onAssign x fun tg y => onAttr tg fun o m z' => decide (m = Str.ofString n) && isNameX o && chkE c e o && chkE c v y && !isComp y
 | .ite t a b, x => onIfS x fun y bs os => chkE c t y && chkB c a bs && chkB c b os
 | .while t b, x => onWhile x fun y bs => chkE c t y && chkB c b bs
 | .for t it b, x => onFor x fun tg y bs => chkTg c t tg && chkI c it y && !isSetX y && ezOk it tg && chkB c b bs && !c.dead
 | .ret e, x => onRet x fun y => chkE c e y
 | .retO e, x => false
 | .raise _ _, _ => true
 | .rz k m, x => false
 | .tryEx e k i h, x => false
noncomputable def chkB (c : Sc) : Bl → List Stmt → Bool
 | .nil, xs => xs.isEmpty
 | .cons s b, xs => (match xs with
  | x :: r => chkS c s x && chkB c b r
  | [] => false)
end
noncomputable def fnSc (fns xs : List String) (hot : Bool) (hots : List String) (fn : Fn) (d : DefRec) : Sc := ⟨(fn.vars.map Str.ofString).zip (List.range fn.vars.length), fn.vars.length, d.scope.names, fns, xs, hot, hots, false⟩
noncomputable def plainParams (a : Arguments) : Bool := a.posonlyargs.isEmpty && a.vararg.isNone && a.kwonlyargs.isEmpty && a.kwarg.isNone && a.defaults.isEmpty && a.kw_defaults.isEmpty
noncomputable def chkFn (fns xs : List String) (hot : Bool) (hots : List String) (fn : Fn) (d : DefRec) : Bool :=
 plainParams d.params && decide (d.params.args.map (·.arg) = (fn.vars.map Str.ofString).take fn.np) && decide (fn.np ≤ fn.vars.length) && decide (d.params.args.length = fn.np) &&
 decide (fn.vars.map Str.ofString).Nodup && (fn.vars.map Str.ofString).all (fun x => canStore (fnSc fns xs hot hots fn d) x && !(x == ("__classdict__" : Str))) && decide (d.scope.kind = .function) && !d.scope.isGenerator && !d.scope.isCoroutine &&
 d.scope.names.all (fun p => !decide (p.2 = .free)) && decide (d.scope.names.map (·.1)).Nodup && decide (fn.vars.length ≤ fn.nv) && chkB (fnSc fns xs hot hots fn d) fn.body d.body
noncomputable def iniC : V → Const → Bool
 | .none, k => decide (k = .none)
 | .int i, k => decide (k = .int i)
 | _, _ => false
noncomputable def chkIv (names : List Str) : Ini → Expr → Bool
 | .arg i, y => onName y fun z => decide (names[i + 1]? = some z)
 | .val v, y => onConst y fun k => iniC v k
noncomputable def chkFs (self : Str) (names : List Str) : List (String × Ini) → List Stmt → Bool
 | [], xs => xs.isEmpty
 | f :: fs, xs => (match xs with
  | x :: r => onAssign x (fun tg y => onAttr tg fun o a z' => onName o (fun z => decide (z = self)) && decide (a = Str.ofString f.1) && chkIv names f.2 y) && chkFs self names fs r
  | [] => false)
noncomputable def chkIni (n : Nat) (fs : List (String × Ini)) (params : Arguments) (body : List Stmt) (scope : Scope) : Bool :=
 plainParams params && decide (params.args.length = n + 1) && decide (params.args.map (·.arg)).Nodup && (params.args.map (·.arg)).all (fun y => decide (scope.names.lookup y = some .local) && !(y == ("__debug__" : Str))) && decide (scope.kind = .function) && !scope.isGenerator && !scope.isCoroutine &&
 scope.names.all (fun p => !decide (p.2 = .cell)) && decide (fs.map fun f => Str.ofString f.1).Nodup && decide (fs.length ≤ 50) && (match params.args with
  | a :: _ => chkFs a.arg (params.args.map (·.arg)) fs body
  | [] => false)
end Mine
end
section
set_option autoImplicit false
namespace Mine
open PySem
noncomputable abbrev HK (h h' : Heap) : Prop := ∀ b o, h.get? b = some o → h'.get? b = some o
theorem HK.refl (h : Heap) : HK h h := fun z' z' e => e
theorem HK.push (h : Heap) (o : Obj) : HK h (h.push o) := fun z' z' e => Heap.get?_push_of_some _ e
noncomputable def HW (Z : Addr → Prop) (h h' : Heap) : Prop := ∀ b o, h.get? b = some o → (¬ Z b → h'.get? b = some o) ∧ ∃ sl, h'.get? b = some { o with slots := sl }
theorem HW.of {Z : Addr → Prop} {h h' : Heap} (k : HK h h') : HW Z h h' := fun b o e => ⟨fun z' => k b o e, o.slots, k b o e⟩
theorem HW.trans {Z : Addr → Prop} {a b c : Heap} (x : HW Z a b) (y : HW Z b c) : HW Z a c := fun p o e => ⟨fun n => (y p o ((x p o e).1 n)).1 n, let ⟨_, e1⟩ := (x p o e).2; let ⟨sl, e2⟩ := (y p _ e1).2; ⟨sl, e2⟩⟩
theorem HW.ext {Z : Addr → Prop} {h h' : Heap} (k : HW Z h h') {b : Addr} (e : h'.get? b = none) : h.get? b = none := by
 cases q : h.get? b with
 | none => rfl
 | some o => obtain ⟨sl, e'⟩ := (k b o q).2; rw [e] at e'; cases e'
theorem HW.less {Z Z' : Addr → Prop} {h h' : Heap} (k : HW Z' h h') (s : ∀ b, Z' b → Z b ∨ h.get? b = none) : HW Z h h' := fun b o e => ⟨fun n => (k b o e).1 fun q => (s b q).elim n fun q => (by rw [q] at e; cases e), (k b o e).2⟩
theorem HW.ext1 {Z : Addr → Prop} {h h' h'' : Heap} {C : Addr} (k : HW Z h h') (hC : h.get? C = none) (e : ∀ b o, b ≠ C → h'.get? b = some o → h''.get? b = some o) : HW Z h h'' := fun b o q =>
 have nb : b ≠ C := fun i => by rw [i, hC] at q; cases q
 ⟨fun n => e b o nb ((k b o q).1 n), let ⟨sl, q'⟩ := (k b o q).2; ⟨sl, e b _ nb q'⟩⟩
inductive Kp (Z : Addr → Prop) (s s' : Shared) : Prop
 | mk (h' tk) : s' = { s with heap := h', toks := tk } → HW Z s.heap h' → Kp Z s s'
section
variable {Z : Addr → Prop}
theorem Kp.of {s : Shared} {h' : Heap} {t : Nat} (k : HK s.heap h') : Kp Z s { s with heap := h', toks := t } := ⟨h', t, rfl, .of k⟩
theorem Kp.ofW {s : Shared} {h' : Heap} {t : Nat} (k : HW Z s.heap h') : Kp Z s { s with heap := h', toks := t } := ⟨h', t, rfl, k⟩
theorem Kp.ofH {s : Shared} {h' : Heap} (k : HK s.heap h') : Kp Z s { s with heap := h' } := ⟨h', s.toks, rfl, .of k⟩
theorem Kp.refl (s : Shared) : Kp Z s s := ⟨s.heap, s.toks, rfl, .of (HK.refl _)⟩
theorem Kp.trans {a b c : Shared} (x : Kp Z a b) (y : Kp Z b c) : Kp Z a c := by
 obtain ⟨h1, t1, rfl, k1⟩ := x
 obtain ⟨h2, t2, rfl, k2⟩ := y
 exact ⟨h2, t2, rfl, k1.trans k2⟩
theorem Kp.hw {a b : Shared} (x : Kp Z a b) : HW Z a.heap b.heap := by
 obtain ⟨h1, t1, rfl, k1⟩ := x; exact k1
theorem Kp.tok (s : Shared) (t : Nat) : Kp Z s { s with toks := t } := ⟨s.heap, t, rfl, .of (HK.refl _)⟩
end
inductive Place where
 | loc (L : Addr) (x : Str)
 | cell (c : Addr)
noncomputable def Place.addr : Place → Addr
 | .loc L _ => L
 | .cell c => c
noncomputable def Place.ok (h : Heap) : Place → Prop
 | .loc L _ => ∃ m, h.Ns L m
 | .cell c => ∃ v, h.IsCell c v
noncomputable def Place.has (h : Heap) (v : Value) : Place → Prop
 | .loc L x => ∃ m, h.Ns L m ∧ m x = some v
 | .cell c => h.IsCell c (some v)
theorem Place.ok.kz {Z : Addr → Prop} {h h' : Heap} {p : Place} (x : p.ok h) (k : HW Z h h') : p.ok h' := by
 cases p with
 | loc L x => obtain ⟨m, o, es, ep, e, d, r⟩ := x; obtain ⟨sl, e'⟩ := (k _ _ e).2; exact ⟨m, _, es, ep, e', d, r⟩
 | cell c => obtain ⟨v, o, e, d⟩ := x; obtain ⟨sl, e'⟩ := (k _ _ e).2; exact ⟨v, _, e', d⟩
theorem Place.has.kz {Z : Addr → Prop} {h h' : Heap} {p : Place} {v : Value} (x : p.has h v) (k : HW Z h h') : p.has h' v := by
 cases p with
 | loc L x => obtain ⟨m, ⟨o, es, ep, e, d, r⟩, q⟩ := x; obtain ⟨sl, e'⟩ := (k _ _ e).2; exact ⟨m, ⟨_, es, ep, e', d, r⟩, q⟩
 | cell c => obtain ⟨o, e, d⟩ := x; obtain ⟨sl, e'⟩ := (k _ _ e).2; exact ⟨_, e', d⟩
noncomputable def SOk (s : Str) : Prop := s.length ≤ sizeLine ∧ ∀ c ∈ s.cps.toList, c < 0x110000
theorem SOk.append {s t : Str} (a : SOk s) (b : SOk t) (h : s.length + t.length ≤ sizeLine) : SOk (s ++ t) := by
 refine ⟨by show (s.cps ++ t.cps).size ≤ sizeLine; rw [Array.size_append]; exact h, fun c hc => ?_⟩
 have e : (s ++ t).cps = s.cps ++ t.cps := rfl
 rw [e, Array.toList_append, List.mem_append] at hc
 exact hc.elim (a.2 c) (b.2 c)
theorem SOk.sub {s : Str} {l : List Nat} (a : SOk s) (hl : l.length ≤ s.length) (hm : ∀ c ∈ l, c ∈ s.cps.toList) : SOk ⟨l.toArray⟩ :=
 ⟨by show l.toArray.size ≤ sizeLine; rw [List.size_toArray]; exact Nat.le_trans hl a.1, fun c hc => a.2 c (hm c (by simpa using hc))⟩
theorem SOk.one {s : Str} {c : Nat} (a : SOk s) (hc : c ∈ s.cps.toList) : SOk ⟨#[c]⟩ :=
 ⟨by show 1 ≤ sizeLine; decide, fun d hd => by simp at hd; subst hd; exact a.2 d hc⟩
theorem SOk.strOk {s : Str} (a : SOk s) : PyData.strOk s = true := by
 unfold PyData.strOk
 rw [← Array.all_toList, List.all_eq_true]
 exact fun c hc => decide_eq_true (a.2 c hc)
inductive InsX (h : Heap) (x a C : Addr) : Prop
 | mk (o) : h.get? x = some o → o.cls = .ref C → (∀ c, o.data ≠ .cls c) → o.dict = some a → a ≠ x → InsX h x a C
noncomputable def NsOf (h : Heap) (a : Addr) (ns : List String) (xs : List Value) : Prop := ns.length = xs.length ∧ (ns.map Str.ofString).Nodup ∧ ns.length ≤ 50 ∧ h.Ns1 a (fun y => ((ns.map Str.ofString).zip xs).lookup y)
theorem InsX.at {h h' : Heap} {x a C : Addr} (i : InsX h x a C) (k : ∀ o, h.get? x = some o → h'.get? x = some o) : InsX h' x a C := let ⟨o, h1, h2, h3, h4, h5⟩ := i; ⟨o, k o h1, h2, h3, h4, h5⟩
theorem NsOf.at {h h' : Heap} {a : Addr} {ns : List String} {xs : List Value} (i : NsOf h a ns xs) (k : ∀ o, h.get? a = some o → h'.get? a = some o) : NsOf h' a ns xs := ⟨i.1, i.2.1, i.2.2.1, i.2.2.2.at k⟩
theorem InsX.ne {h : Heap} {x a C : Addr} (i : InsX h x a C) (e : h.get? x = none) : False := by obtain ⟨o, h1, _, _, _, _⟩ := i; rw [e] at h1; cases h1
theorem NsOf.ne {h : Heap} {a : Addr} {ns : List String} {xs : List Value} (i : NsOf h a ns xs) (e : h.get? a = none) : False := by obtain ⟨_, _, _, o, es, ep, h1, _⟩ := i; rw [e] at h1; cases h1
mutual
inductive RV (N : Addr → Prop) (h : Heap) : V → Value → Prop
 | none : RV N h .none .none
 | bool (b) : RV N h (.bool b) (.bool b)
 | int (i t) : RV N h (.int i) (.int i t)
 | str (s t) : SOk s → RV N h (.str s) (.str s t)
 | tup {a xs n vs} : ¬ N a → IsT h a xs n → xs.size ≤ sizeLine → RVs N h vs xs.toList → RV N h (.tup vs) (.ref a)
 | lst {a xs n vs} : ¬ N a → IsL h a xs n → xs.size ≤ sizeLine → RVs N h vs xs.toList → RV N h (.lst vs) (.ref a)
 | ref (a) : RV N h (.ref a) (.ref a)
 | iref {x a C ns} : ¬ N x → InsX h x a C → RV N h (.iref C ns a) (.ref x)
 | inst {x a C ns xs vs} : ¬ N x → ¬ N a → InsX h x a C → NsOf h a ns xs → RVs N h vs xs → RV N h (.inst C ns vs) (.ref x)
inductive RVs (N : Addr → Prop) (h : Heap) : List V → List Value → Prop
 | nil : RVs N h [] []
 | cons {v vs x xs} : RV N h v x → RVs N h vs xs → RVs N h (v :: vs) (x :: xs)
end
theorem RV.gen {N N' : Addr → Prop} {h h' : Heap} (hN : ∀ b, N' b → N b ∨ h.get? b = Option.none) (hk : ∀ b o, ¬ N b → h.get? b = some o → h'.get? b = some o) {v : V} {x : Value} (r : RV N h v x) : RV N' h' v x :=
 RV.rec (motive_1 := fun v x z' => RV N' h' v x) (motive_2 := fun vs xs z' => RVs N' h' vs xs) .none .bool .int .str
  (fun a1 a2 a6 z' i => .tup (fun q => (hN _ q).elim a1 fun e => by rw [a2] at e; cases e) (hk _ _ a1 a2) a6 i)
  (fun a1 a2 a6 z' i => .lst (fun q => (hN _ q).elim a1 fun e => by rw [a2] at e; cases e) (hk _ _ a1 a2) a6 i) .ref
  (fun a1 a2 => .iref (fun q => (hN _ q).elim a1 fun e => a2.ne e) (a2.at fun o e => hk _ _ a1 e))
  (fun a1 a2 a3 a5 z' i => .inst (fun q => (hN _ q).elim a1 fun e => a3.ne e) (fun q => (hN _ q).elim a2 fun e => a5.ne e) (a3.at fun o e => hk _ _ a1 e) (a5.at fun o e => hk _ _ a2 e) i)
  .nil (fun z' z' i j => .cons i j) r
theorem RVs.gen {N N' : Addr → Prop} {h h' : Heap} (hN : ∀ b, N' b → N b ∨ h.get? b = Option.none) (hk : ∀ b o, ¬ N b → h.get? b = some o → h'.get? b = some o) {vs : List V} {xs : List Value} (r : RVs N h vs xs) : RVs N' h' vs xs :=
 RVs.rec (motive_1 := fun z' z' z' => True) (motive_2 := fun vs xs z' => RVs N' h' vs xs) trivial (fun z' => trivial) (fun z' z' => trivial) (fun z' z' z' => trivial) (fun z' z' z' z' z' => trivial) (fun z' z' z' z' z' => trivial) (fun z' => trivial)
  (fun z' z' => trivial) (fun z' z' z' z' z' z' => trivial)
  .nil (fun a z' z' j => .cons (a.gen hN hk) j) r
theorem RVs.ind {N : Addr → Prop} {h : Heap} {P : List V → List Value → Prop} (h0 : P [] []) (h1 : ∀ {v : V} {vs : List V} {x : Value} {xs : List Value}, RV N h v x → P vs xs → P (v :: vs) (x :: xs)) {vs : List V} {xs : List Value} (r : RVs N h vs xs) : P vs xs :=
 RVs.rec (motive_1 := fun z' z' z' => True) (motive_2 := fun vs xs z' => P vs xs) trivial (fun z' => trivial) (fun z' z' => trivial) (fun z' z' z' => trivial) (fun z' z' z' z' z' => trivial) (fun z' z' z' z' z' => trivial) (fun z' => trivial)
  (fun z' z' => trivial) (fun z' z' z' z' z' z' => trivial)
  h0 (fun a z' z' j => h1 a j) r
noncomputable def RVc (N : Addr → Prop) (h : Heap) (P : Value → Prop) : V → Prop
 | .none => P .none
 | .bool b => P (.bool b)
 | .int i => ∀ t, P (.int i t)
 | .str s => ∀ t, SOk s → P (.str s t)
 | .tup vs => ∀ a xs n, ¬ N a → IsT h a xs n → xs.size ≤ sizeLine → RVs N h vs xs.toList → P (.ref a)
 | .lst vs => ∀ a xs n, ¬ N a → IsL h a xs n → xs.size ≤ sizeLine → RVs N h vs xs.toList → P (.ref a)
 | .ref a => P (.ref a)
 | _ => False
theorem RV.elim {N : Addr → Prop} {h : Heap} {v : V} {x : Value} {P : Value → Prop} (r : RV N h v x) (k : RVc N h P v) : P x := by
 cases r with
 | none => exact k
 | bool b => exact k
 | int i t => exact k t
 | str s t o => exact k t o
 | tup h1 h2 h3 h4 => exact k _ _ _ h1 h2 h3 h4
 | lst h1 h2 h3 h4 => exact k _ _ _ h1 h2 h3 h4
 | ref a => exact k
 | _ => exact False.elim k
noncomputable def RVsc (N : Addr → Prop) (h : Heap) (P : List Value → Prop) : List V → Prop
 | [] => P []
 | v :: vs => ∀ x xs, RV N h v x → RVs N h vs xs → P (x :: xs)
theorem RVs.elim {N : Addr → Prop} {h : Heap} {vs : List V} {xs : List Value} {P : List Value → Prop} (r : RVs N h vs xs) (k : RVsc N h P vs) : P xs := by
 cases r with
 | nil => exact k
 | cons a b => exact k _ _ a b
theorem int_val {N : Addr → Prop} {h : Heap} {v : V} {x : Value} {W : Int → Prop} {P : Value → Prop} (hW : intP v W) (r : RV N h v x) (k : ∀ i t, W i → P (.int i t)) : P x := by
 cases r with
 | int i t => exact k i t hW
 | _ => exact False.elim hW
theorem str_val {N : Addr → Prop} {h : Heap} {v : V} {x : Value} {W : Str → Prop} {P : Value → Prop} (hW : strP v W) (r : RV N h v x) (k : ∀ i t, SOk i → W i → P (.str i t)) : P x := by
 cases r with
 | str i t o => exact k i t o hW
 | _ => exact False.elim hW
theorem RV.keeps {N : Addr → Prop} {h h' : Heap} {v : V} {x : Value} (r : RV N h v x) (k : HK h h') : RV N h' v x := r.gen (fun z' q => .inl q) fun b o z' e => k b o e
theorem RVs.keeps {N : Addr → Prop} {h h' : Heap} {v : List V} {x : List Value} (r : RVs N h v x) (k : HK h h') : RVs N h' v x := r.gen (fun z' q => .inl q) fun b o z' e => k b o e
theorem RV.less {N N' : Addr → Prop} {h : Heap} {v : V} {x : Value} (r : RV N h v x) (k : ∀ b, N' b → N b) : RV N' h v x := r.gen (fun b q => .inl (k b q)) fun z' z' z' e => e
theorem RVs.less {N N' : Addr → Prop} {h : Heap} {v : List V} {x : List Value} (r : RVs N h v x) (k : ∀ b, N' b → N b) : RVs N' h v x := r.gen (fun b q => .inl (k b q)) fun z' z' z' e => e
theorem RVs.length {N : Addr → Prop} {h : Heap} {vs : List V} {xs : List Value} (r : RVs N h vs xs) : vs.length = xs.length := r.ind (P := fun vs xs => vs.length = xs.length) rfl fun z' e => congrArg (· + 1) e
theorem RVs.size {N : Addr → Prop} {h : Heap} {vs : List V} {xs : Array Value} (r : RVs N h vs xs.toList) : vs.length = xs.size := by
 rw [r.length]; exact Array.length_toList
theorem RVs.get {N : Addr → Prop} {h : Heap} {vs : List V} {xs : List Value} (r : RVs N h vs xs) : ∀ (n : Nat) {v : V}, vs[n]? = some v → ∃ x, xs[n]? = some x ∧ RV N h v x :=
 r.ind (P := fun vs xs => ∀ (n : Nat) {v : V}, vs[n]? = some v → ∃ x, xs[n]? = some x ∧ RV N h v x) (fun z' z' e => by cases e) fun a i n v e => by
  cases n with
  | zero => cases e; exact ⟨_, rfl, a⟩
  | succ n => exact i n e
theorem RVs.append {N : Addr → Prop} {h : Heap} {vs ws : List V} {xs ys : List Value} (r : RVs N h vs xs) (b : RVs N h ws ys) : RVs N h (vs ++ ws) (xs ++ ys) :=
 r.ind (P := fun vs xs => RVs N h (vs ++ ws) (xs ++ ys)) b fun a i => .cons a i
noncomputable def dent (hsh : HFn) (x : List At × Addr × Value) : DictEntry := ⟨hsh x.1, .ref x.2.1, x.2.2⟩
inductive RO (hsh : HFn) (N : Addr → Prop) (h : Heap) (a : Addr) : AO → Prop
 | list {xs n vs} : IsL h a xs n → xs.size ≤ sizeLine → RVs N h vs xs.toList → RO hsh N h a (.list vs)
 | inst {c ns xs vs} : NsOf h a ns xs → RVs N h vs xs → RO hsh N h a (.inst c ns vs)
 | dict {es : Array DictEntry} {ep : Nat} {kvs : List (List At × V)} {xs : List (List At × Addr × Value)} : h.get? a = some { cls := .type "dict", dict := none, data := .dict es ep, slots := #[] } → es.toList = xs.map (dent hsh) → (xs.map (·.1)).Nodup → xs.length ≤ sizeLine → kvs.map (·.1) = xs.map (·.1) →
   (∀ x ∈ xs, RV N h (keyV x.1) (.ref x.2.1)) → RVs N h (kvs.map (·.2)) (xs.map (·.2.2)) → (a == sysModules) = false → RO hsh N h a (.dict kvs)
theorem RO.gen {hsh : HFn} {N N' : Addr → Prop} {h h' : Heap} {a : Addr} {o : AO} (hN : ∀ b, N' b → N b ∨ h.get? b = none) (hk : ∀ b o, ¬ N b → h.get? b = some o → h'.get? b = some o)
  (ha : ∀ o, h.get? a = some o → h'.get? a = some o) : RO hsh N h a o → RO hsh N' h' a o
 | .list a1 a5 a4 => .list (ha _ a1) a5 (a4.gen hN hk)
 | .inst a1 a2 => .inst (a1.at ha) (a2.gen hN hk)
 | .dict a1 a2 a3 a4 a5 a6 a7 a8 => .dict (ha _ a1) a2 a3 a4 a5 (fun x hx => (a6 x hx).gen hN hk) (a7.gen hN hk) a8
noncomputable def NN (H : AH) (Sys : Addr → Prop) : Addr → Prop := fun a => H a ≠ none ∨ Sys a
noncomputable def ZA (A : Around) (b : Addr) : Prop := ∃ l e, A.frames = some l ∧ e ∈ l ∧ e.frame = some b
noncomputable def FZ (A : Around) (Sys : Addr → Prop) : Addr → Prop := fun b => ZA A b ∧ Sys b
theorem RV.kz {H : AH} {A : Around} {Sys : Addr → Prop} {h h' : Heap} {v : V} {x : Value} (r : RV (NN H Sys) h v x) (k : HW (FZ A Sys) h h') : RV (NN H Sys) h' v x := r.gen (fun z' q => .inl q) fun b o n e => (k b o e).1 fun q => n (.inr q.2)
theorem RVs.kz {H : AH} {A : Around} {Sys : Addr → Prop} {h h' : Heap} {v : List V} {x : List Value} (r : RVs (NN H Sys) h v x) (k : HW (FZ A Sys) h h') : RVs (NN H Sys) h' v x := r.gen (fun z' q => .inl q) fun b o n e => (k b o e).1 fun q => n (.inr q.2)
structure Sim (hsh : HFn) (T : Heap → Prop) (lay : Nat → Option Place) (Sys Z : Addr → Prop) (base : Heap) (st : St) (h : Heap) : Prop where
 keep : HW Z base h
 zs : ∀ b, Z b → Sys b
 top : ∃ b0, T b0 ∧ HK b0 base ∧ ∀ a, (Sys a ∨ st.B a ≠ none) → b0.get? a = none
 vals : ∀ i v p, st.ρ[i]? = some (some v) → lay i = some p → ∃ val, p.has h val ∧ RV (NN st.H Sys) h v val
 ok : ∀ i p, lay i = some p → p.ok h
 inj : ∀ i j p, lay i = some p → lay j = some p → i = j
 sys : ∀ i p, lay i = some p → Sys p.addr ∧ base.get? p.addr = none ∧ st.H p.addr = none
 objs : ∀ a o, st.H a = some o → RO hsh (NN st.H Sys) h a o
 own : ∀ a, st.H a ≠ none → st.B a = none → base.get? a = none
 live : ∀ a, Sys a → h.get? a ≠ none
 ent : ∀ a, st.B a ≠ none → ∃ o, base.get? a = some o
 dis : ∀ a, Sys a → st.H a = none
theorem HW.but {Z : Addr → Prop} {b h h' : Heap} {a : Addr} (x : HW Z b h) (ha : b.get? a = none) (k : ∀ c, c ≠ a → h'.get? c = h.get? c) : HW Z b h' := fun c o e => by
 rw [k c (fun q => by rw [q, ha] at e; cases e)]; exact x c o e
theorem RO.kz {hsh : HFn} {H : AH} {Sys Z : Addr → Prop} {h h' : Heap} {a : Addr} {o : AO} (zs : ∀ b, Z b → Sys b) (r : RO hsh (NN H Sys) h a o) (n : ¬ Sys a) (k : HW Z h h') : RO hsh (NN H Sys) h' a o := r.gen (fun z' q => .inl q) (fun b o n e => (k b o e).1 fun q => n (.inr (zs b q))) (fun o e => (k a o e).1 fun q => n (zs a q))
theorem Sim.kz {hsh : HFn} {T : Heap → Prop} {lay : Nat → Option Place} {Sys Z : Addr → Prop} {base : Heap} {st : St} {h h' : Heap} (x : Sim hsh T lay Sys Z base st h) (k : HW Z h h') : Sim hsh T lay Sys Z base st h' where
 keep := x.keep.trans k
 zs := x.zs
 top := x.top
 vals := fun i v p a b => let ⟨val, c, d⟩ := x.vals i v p a b; ⟨val, c.kz k, d.gen (fun z' q => .inl q) fun b o n e => (k b o e).1 fun q => n (.inr (x.zs b q))⟩
 ok := fun i p a => (x.ok i p a).kz k
 inj := x.inj
 sys := x.sys
 objs := fun a o e => (x.objs a o e).kz x.zs (fun q => by rw [x.dis a q] at e; cases e) k
 own := x.own
 live := fun a q e => x.live a q (k.ext e)
 ent := x.ent
 dis := x.dis
theorem Sim.topH {hsh : HFn} {T : Heap → Prop} {lay : Nat → Option Place} {Sys Z : Addr → Prop} {base : Heap} {st : St} {h : Heap} (S : Sim hsh T lay Sys Z base st h) : ∃ b0, T b0 ∧ HK b0 h ∧ ∀ a, NN st.H Sys a → b0.get? a = none :=
 let ⟨b0, t, k0, n⟩ := S.top; ⟨b0, t, fun b o e => (S.keep b o (k0 b o e)).1 (fun q => by rw [n b (.inl (S.zs b q))] at e; cases e), fun a q => q.elim (fun q => by
  by_cases e : st.B a = none
  ·exact (HW.of (Z := Sys) k0).ext (S.own a q e)
  ·exact n a (.inr e)) fun q => n a (.inl q)⟩
theorem Sim.keeps {hsh : HFn} {T : Heap → Prop} {lay : Nat → Option Place} {Sys Z : Addr → Prop} {base : Heap} {st : St} {h h' : Heap} (x : Sim hsh T lay Sys Z base st h) (k : HK h h') : Sim hsh T lay Sys Z base st h' := x.kz (.of k)
theorem RO.exists {hsh : HFn} {N : Addr → Prop} {h : Heap} {a : Addr} {o : AO} (r : RO hsh N h a o) : ∃ ob, h.get? a = some ob := by
 cases r with
 | list a1 _ _ => exact ⟨_, a1⟩
 | inst a1 _ => obtain ⟨_, _, _, o, es, ep, h1, _⟩ := a1; exact ⟨_, h1⟩
 | dict a1 => exact ⟨_, a1⟩
theorem Sim.fresh {hsh : HFn} {T : Heap → Prop} {lay : Nat → Option Place} {Sys Z : Addr → Prop} {base : Heap} {st : St} {h : Heap} (x : Sim hsh T lay Sys Z base st h) {a : Addr} (e : h.get? a = none) : st.H a = none := by
 cases q : st.H a with
 | none => rfl
 | some o =>
  obtain ⟨ob, e'⟩ := (x.objs a o q).exists
  rw [e] at e'; cases e'
theorem IsT.isTuple {h : Heap} {a : Addr} {xs : Array Value} {n : Nat} (x : IsT h a xs n) : h.IsTuple a xs := ⟨_, x, rfl, n, rfl⟩
theorem IsT.isTup {h : Heap} {a : Addr} {xs : Array Value} {n : Nat} (x : IsT h a xs n) : PyProof.Rows.IsTup h a xs := ⟨_, x, rfl, n, rfl⟩
theorem one_arg {N : Addr → Prop} {h : Heap} {u : V} {vals : List Value} {P : List Value → Prop} (r : RVs N h [u] vals) (k : ∀ x, RV N h u x → P [x]) : P vals := by
 apply RVs.elim r; intro x xs r1 r2
 apply RVs.elim r2
 exact k x r1
set_option tactic.hygienic true in
theorem seq_dep {hsh : HFn} {H : AH} {Sys : Addr → Prop} {h : Heap} (HO : ∀ a o, H a = some o → RO hsh (NN H Sys) h a o) {v : V} {x : Value} {vs : List V} {P : Value → Prop} (r : RV (NN H Sys) h v x) (e : seqL H v = some vs)
  (k : ∀ a xs n, IsL h a xs n → xs.size ≤ sizeLine → RVs (NN H Sys) h vs xs.toList → ¬ NN H Sys a ∨ (a ∈ depsV v ∧ H a ≠ none) → P (.ref a)) : P x := by
 cases v with
 | lst ws =>
  cases (show some ws = some vs from e)
  apply RV.elim r; intro a xs n a1 a2 a3 a4
  exact k _ _ _ a2 a3 a4 (.inl a1)
 | ref a =>
  apply RV.elim r
  have e : (match H a with
   | some (.list vs) => some vs
   | _ => none) = some vs := e
  split at e
  ·rename_i ws hw
   cases e
   cases HO a _ hw with
   | list b1 b2 b3 => exact k _ _ _ b1 b2 b3 (.inr ⟨List.mem_singleton.mpr rfl, by rw [hw]; exact nofun⟩)
  ·cases e
 | _ => cases e
theorem seq_val {hsh : HFn} {H : AH} {Sys : Addr → Prop} {h : Heap} (HO : ∀ a o, H a = some o → RO hsh (NN H Sys) h a o) {v : V} {x : Value} {vs : List V} {P : Value → Prop} (r : RV (NN H Sys) h v x) (e : seqL H v = some vs)
  (k : ∀ a xs n, IsL h a xs n → xs.size ≤ sizeLine → RVs (NN H Sys) h vs xs.toList → P (.ref a)) : P x := seq_dep HO r e fun a xs n h1 h2 h3 z' => k a xs n h1 h2 h3
end Mine
end
section
set_option autoImplicit false
namespace Mine
open PySem
noncomputable def FrOk (A : Around) (Sys : Addr → Prop) (h : Heap) : Prop := (∀ a, Sys a → h.get? a ≠ none) ∧ ∃ l, A.frames = some l ∧ ∀ e ∈ l, e.scope.kind ≠ .module ∧ ∃ L o, e.frame = some L ∧ Sys L ∧ h.get? L = some o ∧ ∀ vs, o.data ≠ .fields vs
theorem FrOk.kz {A : Around} {Sys Z : Addr → Prop} {h h' : Heap} (x : FrOk A Sys h) (k : HW Z h h') : FrOk A Sys h' :=
 let ⟨lv, l, e, f⟩ := x; ⟨fun a q e => lv a q (k.ext e), l, e, fun v hv => let ⟨h1, L, o, h2, h3, h4, h5⟩ := f v hv; let ⟨sl, h6⟩ := (k L o h4).2; ⟨h1, L, _, h2, h3, h6, h5⟩⟩
noncomputable def HdOk (A : Around) (Sys : Addr → Prop) (h : Heap) : Prop := A.handled = none
theorem HdOk.kz {A : Around} {Sys : Addr → Prop} {h h' : Heap} (x : HdOk A Sys h) (k : HW (FZ A Sys) h h') : HdOk A Sys h' := x
end Mine
end
section
set_option autoImplicit false
set_option maxRecDepth 100000
namespace Mine
open PySem
noncomputable def Hq (A : Around) (h : Heap) : Prop := A.handled = none
section
variable {prog : Program} {w : World} {A : Around} {E : Value → Shared → Prop} {s : Shared}
theorem list_end {it l : Addr} {i : Nat} {items : Array Value} {Q : Option Value → Shared → Prop} (hq : Hq A s.heap) (hy : ∀ y, A.handled = some (.ref y) → y ≠ it) (hit : s.heap.IsListIter it l i) (hl : s.heap.IsList l items) (hx : items[i]? = none)
  (hQ : ∀ h', Heap.ExtBut it s.heap h' → Q none { s with heap := h' }) : wpAny (model prog w) A (pyNext (.ref it)) Q E s := wpAny_pyNext_list_end hq hit hl hx hQ
theorem tuple_end {it l : Addr} {i : Nat} {items : Array Value} {Q : Option Value → Shared → Prop} (hq : Hq A s.heap) (hy : ∀ y, A.handled = some (.ref y) → y ≠ it) (hit : s.heap.IsTupleIter it l i) (hl : s.heap.IsTuple l items) (hx : items[i]? = none)
  (hQ : ∀ h', Heap.ExtBut it s.heap h' → Q none { s with heap := h' }) : wpAny (model prog w) A (pyNext (.ref it)) Q E s := wpAny_pyNext_tuple_end hq hit hl hx hQ
theorem ascii_end {it : Addr} {x : Str} {t : Tok} {i : Nat} {Q : Option Value → Shared → Prop} (hq : Hq A s.heap) (hy : ∀ y, A.handled = some (.ref y) → y ≠ it) (hit : s.heap.IsStrIter it "str_ascii_iterator" x t i) (hx : x.cps[i]? = none)
  (hQ : ∀ h', Heap.ExtBut it s.heap h' → Q none { s with heap := h' }) : wpAny (model prog w) A (pyNext (.ref it)) Q E s := wpAny_pyNext_ascii_end hq hit hx hQ
theorem wide_end {it : Addr} {x : Str} {t : Tok} {i : Nat} {Q : Option Value → Shared → Prop} (hq : Hq A s.heap) (hy : ∀ y, A.handled = some (.ref y) → y ≠ it) (hit : s.heap.IsStrIter it "str_iterator" x t i) (hx : x.cps[i]? = none)
  (hQ : ∀ h', Heap.ExtBut it s.heap h' → Q none { s with heap := h' }) : wpAny (model prog w) A (pyNext (.ref it)) Q E s := wpAny_pyNext_wide_end hq hit hx hQ
theorem range_end {it : Addr} {x left step : Int} {Q : Option Value → Shared → Prop} (hq : Hq A s.heap) (hit : IsRangeIter s.heap it x left step) (hleft : left ≤ 0)
  (hQ : ∀ h', Heap.ExtBut it s.heap h' → Q none { s with heap := h' }) : wpAny (model prog w) A (pyNext (.ref it)) Q E s := wpAny_pyNext_range_end hq hit hleft hQ
end
end Mine
end
section
set_option autoImplicit false
namespace Mine
open PySem
inductive Rz (mg : Str → Option Value) (A : Around) (Sys : Addr → Prop) (s : Shared) (X : String → Prop) (e : Value) (s' : Shared) : Prop
theorem Rz.trans {mg : Str → Option Value} {A : Around} {Sys : Addr → Prop} {s s₁ s' : Shared} {X : String → Prop} {e : Value} (k : Kp (FZ A Sys) s s₁) (r : Rz mg A Sys s₁ X e s') : Rz mg A Sys s X e s' := by cases r
theorem Rz.no {mg : Str → Option Value} {A : Around} {Sys : Addr → Prop} {s s' : Shared} {e : Value} (r : Rz mg A Sys s (fun z' => False) e s') : False := by cases r
structure Rm (d : Nat) (A : Around) : Prop where
 depth : A.depth + d + 150 < recursionLimit
 units : A.units + 20 * d + 200 < cLine
theorem Rm.u {d m : Nat} {A : Around} (x : Rm d A) (h : m ≤ 200) : A.units + m < cLine := Nat.lt_of_le_of_lt (Nat.add_le_add (Nat.le_add_right A.units (20 * d)) h) x.units
theorem Rm.p {d m : Nat} {A : Around} (x : Rm d A) (h : m ≤ 150) : A.depth + m < recursionLimit := Nat.lt_of_le_of_lt (Nat.add_le_add (Nat.le_add_right A.depth d) h) x.depth
noncomputable abbrev Frsh (N : Addr → Prop) (s s' : Shared) (v : V) (val : Value) : Prop :=
 ∀ a, val = .ref a → s.heap.get? a = none ∧ ∀ vs, v = .lst vs → ∃ xs n, IsL s'.heap a xs n ∧ xs.size ≤ sizeLine ∧ RVs (fun b => N b ∨ b = a) s'.heap vs xs.toList
theorem Frsh.before {N Z : Addr → Prop} {s₀ s s' : Shared} {v : V} {val : Value} (x : Frsh N s s' v val) (k : Kp Z s₀ s) : Frsh N s₀ s' v val := fun a e => by
 obtain ⟨h1, h2⟩ := x a e
 exact ⟨k.hw.ext h1, h2⟩
theorem Frsh.mk {N : Addr → Prop} {s s' : Shared} {vs : List V} {xs : Array Value} {n : Nat} {a : Addr} (hf : s.heap.get? a = none) (r : RVs N s.heap vs xs.toList) (k : HK s.heap s'.heap) (hl : IsL s'.heap a xs n) (hz : xs.size ≤ sizeLine) : Frsh N s s' (.lst vs) (.ref a) := by
 rintro a' ⟨⟩
 refine ⟨hf, ?_⟩
 rintro vs' ⟨⟩
 refine ⟨xs, n, hl, hz, r.gen (fun b q => ?_) fun b o z' e => k b o e⟩
 rcases q with q | rfl
 ·exact .inl q
 ·exact .inr hf
noncomputable def Snd (prog : Program) (w : World) (mg : Str → Option Value) (A : Around) (N Sys : Addr → Prop) (s : Shared) (f : Bool) (t : Sem Value) (W : (V → Prop) → (String → Prop) → Prop) : Prop :=
 ∀ (Q : V → Prop) (X : String → Prop) (K : Value → Shared → Prop) (E : Value → Shared → Prop), W Q X →
  (∀ v val s', Q v → RV N s'.heap v val → Kp (FZ A Sys) s s' → (f = true → Frsh N s s' v val) → K val s') →
  (∀ e s', Rz mg A Sys s X e s' → E e s') → wpAny (model prog w) A t K E s
structure EnvOk (env : Env) (names : List (Str × NameKind)) (σ : List (Str × Nat)) (lay : Nat → Option Place) : Prop where
 kind : env.scope.kind = .function
 glob : env.globals = mainGlobals
 blt : env.builtins = builtinsNs
 gl : ∀ x, names.lookup x = some .globalImplicit → env.kindOf x = some .globalImplicit
 lc : ∀ x, names.lookup x = some .local → env.kindOf x = some .local
 ce : ∀ x, names.lookup x = some .cell → env.kindOf x = some .cell
 fr : ∀ x, names.lookup x = some .free → env.kindOf x = some .cell ∨ env.kindOf x = some .free
 vars : ∀ x i, σ.lookup x = some i → ∃ p, lay i = some p ∧ ((env.kindOf x = some .local ∧ p = .loc env.locals x) ∨
  ((env.kindOf x = some .cell ∨ env.kindOf x = some .free) ∧ (x == ("__classdict__" : Str)) = false ∧ ∃ c, env.cells.lookup x = some c ∧ p = .cell c))
section
variable {prog : Program} {w : World} {mg : Str → Option Value} {A : Around} {N Z : Addr → Prop} {s : Shared} {env : Env}
theorem snd_none {k : Nat} {pos : Pos} : Snd prog w mg A N Z s false (eval (.Constant .none k pos) env) (fun Q z' => Q .none) :=
 fun z' z' z' z' hW hK z' => wpAny_Constant_none (hK _ _ _ hW .none (Kp.refl s) nofun)
theorem snd_bool {b : Bool} {k : Nat} {pos : Pos} : Snd prog w mg A N Z s false (eval (.Constant (.bool b) k pos) env) (fun Q z' => Q (.bool b)) :=
 fun z' z' z' z' hW hK z' => wpAny_Constant_bool (hK _ _ _ hW (.bool b) (Kp.refl s) nofun)
theorem snd_int {i : Int} {k : Nat} {pos : Pos} : Snd prog w mg A N Z s false (eval (.Constant (.int i) k pos) env) (fun Q z' => Q (.int i)) :=
 fun z' z' z' z' hW hK z' => wpAny_Constant_int (hK _ _ _ hW (.int i _) (Kp.tok s _) nofun)
theorem snd_str {x : Str} {k : Nat} {pos : Pos} (hx : SOk x) : Snd prog w mg A N Z s false (eval (.Constant (.str x) k pos) env) (fun Q z' => Q (.str x)) :=
 fun z' z' z' z' hW hK z' => wpAny_Constant_str (hK _ _ _ hW (.str x _ hx) (Kp.tok s _) nofun)
end
theorem ld_var {M : Model} {A : Around} {E : Value → Shared → Prop} {hsh : HFn} {T : Heap → Prop} {lay : Nat → Option Place} {Sys Z : Addr → Prop} {base : Heap} {st : St} {s : Shared} {env : Env} {names : List (Str × NameKind)} {σ : List (Str × Nat)}
  (O : EnvOk env names σ lay) (S : Sim hsh T lay Sys Z base st s.heap) {x : Str} {i : Nat} {v : V} {Q : Value → Shared → Prop} (hx : σ.lookup x = some i) (hv : st.ρ[i]? = some (some v))
  (h : ∀ val, RV (NN st.H Sys) s.heap v val → Q val s) : wpAny M A (loadName env x) Q E s := by
 obtain ⟨p, hp, hc⟩ := O.vars x i hx
 obtain ⟨val, hh, hr⟩ := S.vals i v p hv hp
 rcases hc with ⟨hk, rfl⟩ | ⟨hk, hd, c, hc, rfl⟩
 ·obtain ⟨m, hm, e⟩ := hh
  exact wpAny_loadName_local O.kind hk hm e (h val hr)
 ·rcases hk with hk | hk
  ·exact wpAny_loadName_cell O.kind hk hc hh (h val hr)
  ·exact wpAny_loadName_free O.kind hk hc hh (h val hr) hd
theorem st_var {M : Model} {A : Around} {E : Value → Shared → Prop} {hsh : HFn} {T : Heap → Prop} {lay : Nat → Option Place} {Sys Z : Addr → Prop} {base : Heap} {st : St} {s : Shared} {env : Env} {names : List (Str × NameKind)} {σ : List (Str × Nat)}
  (O : EnvOk env names σ lay) (S : Sim hsh T lay Sys Z base st s.heap) {x : Str} {i : Nat} {v : V} {val : Value} {Q : Unit → Shared → Prop} (hx : σ.lookup x = some i) (hi : i < st.ρ.length)
  (hfree : env.kindOf x ≠ some .free) (hr : RV (NN st.H Sys) s.heap v val)
  (h : ∀ h' t p, lay i = some p → Heap.SameBut p.addr s.heap h' → Sim hsh T lay Sys Z base { st with ρ := st.ρ.set i (some v) } h' → Q () { s with heap := h', toks := t }) :
  wpAny M A (storeName env x val) Q E s := by
 obtain ⟨p, hp, hc⟩ := O.vars x i hx
 have hN : NN st.H Sys p.addr := .inr (S.sys i p hp).1
 have fin : ∀ h', Heap.SameBut p.addr s.heap h' → p.has h' val → p.ok h' → (∀ j q, lay j = some q → j ≠ i → (∀ u, q.has s.heap u → q.has h' u) ∧ (q.ok s.heap → q.ok h')) →
   Sim hsh T lay Sys Z base { st with ρ := st.ρ.set i (some v) } h' := by
  intro h' hs hh hok hoth
  have hk : ∀ b o, ¬ NN st.H Sys b → s.heap.get? b = some o → h'.get? b = some o := fun b o nb e => (hs.2 b (fun q => nb (q ▸ hN))).trans e
  refine ⟨S.keep.but (S.sys i p hp).2.1 hs.2, S.zs, S.top, fun j u q hj hq => ?_, fun j q hq => ?_, S.inj, S.sys, fun a o e => ?_, S.own, fun a q e => ?_, S.ent, S.dis⟩
  ·by_cases hji : j = i
   ·subst hji
    rw [List.getElem?_set_self hi] at hj
    cases hj
    rw [hp] at hq; cases hq
    exact ⟨val, hh, hr.gen (fun z' q => .inl q) hk⟩
   ·rw [List.getElem?_set_ne (Ne.symm hji)] at hj
    obtain ⟨u', a1, a2⟩ := S.vals j u q hj hq
    exact ⟨u', (hoth j q hq hji).1 u' a1, a2.gen (fun z' q => .inl q) hk⟩
  ·by_cases hji : j = i
   ·subst hji; rw [hp] at hq; cases hq; exact hok
   ·exact (hoth j q hq hji).2 (S.ok j q hq)
  ·have e0 : st.H a = some o := e
   refine (S.objs a o e0).gen (fun z' q => .inl q) hk fun ob e' => (hs.2 a fun q => ?_).trans e'
   rw [q, (S.sys i p hp).2.2] at e0; cases e0
  ·by_cases ha : a = p.addr
   ·subst ha
    cases p with
    | loc L x => obtain ⟨m, o, es, ep, e', _⟩ := hok; rw [show (Place.loc L x).addr = L from rfl, e'] at e; cases e
    | cell c => obtain ⟨v, o, e', _⟩ := hok; rw [show (Place.cell c).addr = c from rfl, e'] at e; cases e
   ·rw [hs.2 a ha] at e; exact S.live a q e
 rcases hc with ⟨hk, rfl⟩ | ⟨hk, hd, c, hc, rfl⟩
 ·obtain ⟨m, hm⟩ := S.ok i _ hp
  refine wpAny_storeName_local hk hm (fun h' hn hs => h h' _ _ hp hs (fin h' hs ⟨_, hn, by simp⟩ ⟨_, hn⟩ fun j q hq hji => ?_)) (by rw [O.kind]; rfl)
  cases q with
  | loc L y =>
   by_cases hL : L = env.locals
   ·subst hL
    have hne : y ≠ x := fun e => hji (S.inj j i _ hq (e ▸ hp))
    refine ⟨fun u hu => ?_, fun z' => ⟨_, hn⟩⟩
    obtain ⟨m', hm', e'⟩ := hu
    have : m' = m := by
     obtain ⟨o1, es1, ep1, g1, d1, _, f1⟩ := hm'
     obtain ⟨o2, es2, ep2, g2, d2, _, f2⟩ := hm
     rw [g1] at g2; cases g2
     rw [d1] at d2; cases d2
     funext z; rw [← f1, ← f2]
    subst this
    exact ⟨_, hn, by simp [hne, e']⟩
   ·exact ⟨fun u hu => let ⟨m', a, b⟩ := hu; ⟨m', a.sameBut hs hL, b⟩, fun hu => let ⟨m', a⟩ := hu; ⟨m', a.sameBut hs hL⟩⟩
  | cell c =>
   have hne : ∀ v, s.heap.IsCell c v → c ≠ env.locals := by
    rintro v ⟨o, e, d⟩ rfl
    obtain ⟨o2, es2, ep2, g2, d2, _⟩ := hm
    rw [e] at g2; cases g2
    rw [d] at d2; cases d2
   exact ⟨fun u hu => Heap.IsCell.sameBut hu hs (hne _ hu), fun hu => let ⟨v', a⟩ := hu; ⟨v', a.sameBut hs (hne _ a)⟩⟩
 ·have hk : env.kindOf x = some .cell := hk.resolve_right hfree
  obtain ⟨v0, hv0⟩ := S.ok i _ hp
  refine wpAny_storeName_cell O.kind hk hc hv0 fun h' hn hs => h h' _ _ hp hs (fin h' hs hn ⟨_, hn⟩ fun j q hq hji => ?_)
  cases q with
  | loc L y =>
   have hne : ∀ m, s.heap.Ns L m → L ≠ c := by
    rintro m ⟨o2, es2, ep2, g2, d2, _⟩ rfl
    obtain ⟨o, e, d⟩ := hv0
    rw [e] at g2; cases g2
    rw [d] at d2; cases d2
   exact ⟨fun u hu => let ⟨m', a, b⟩ := hu; ⟨m', a.sameBut hs (hne _ a), b⟩, fun hu => let ⟨m', a⟩ := hu; ⟨m', a.sameBut hs (hne _ a)⟩⟩
  | cell c' =>
   have hne : c' ≠ c := fun e => hji (S.inj j i _ hq (e ▸ hp))
   exact ⟨fun u hu => Heap.IsCell.sameBut hu hs hne, fun hu => let ⟨v', a⟩ := hu; ⟨v', a.sameBut hs hne⟩⟩
end Mine
end
section
set_option autoImplicit false
namespace Mine
open PySem
structure RmF (d : Nat) (A : Around) : Prop extends Rm d A where
 head : ∃ env l, A.frames = some (env :: l) ∧ env.scope.isGenerator = false ∧ env.scope.isCoroutine = false ∧ env.builtins = builtinsNs ∧ env.globals = mainGlobals
structure RmC (d : Nat) (A : Around) : Prop extends Rm d A where
 fr : ∃ l, A.frames = some l
theorem RmF.toC {d : Nat} {A : Around} (x : RmF d A) : RmC d A := ⟨x.toRm, let ⟨e, l, h, _⟩ := x.head; ⟨e :: l, h⟩⟩
structure TG (prog : Program) (mg mb : Str → Option Value) (h : Heap) : Prop where
 g : h.Ns mainGlobals mg
 b : h.Ns builtinsNs mb
 nolimit : h.NoLimit
 noseer : h.NoSeer
 tree : prog.given.tree = none
theorem TG.keeps {prog : Program} {mg mb : Str → Option Value} {h h' : Heap} (x : TG prog mg mb h) (k : HK h h') : TG prog mg mb h' :=
 ⟨x.g.keeps k, x.b.keeps k, x.nolimit.keeps k, x.noseer.keeps k, x.tree⟩
theorem pylong {prog : Program} {w : World} {mg mb : Str → Option Value} {A : Around} {s : Shared} {d : Nat} (R : RmF d A) (T : TG prog mg mb s.heap) : PylongRoom (model prog w) A s := by
 obtain ⟨env, l, h1, h2, h3, h4, h5⟩ := R.head
 exact PylongRoom.of T.nolimit (R.toRm.p (m := 100) (by decide)) (SeerAt.of T.noseer T.tree h1 h2 h3 h4 h5)
noncomputable abbrev HO (hsh : HFn) (H : AH) (Sys : Addr → Prop) (h : Heap) : Prop := ∀ a o, H a = some o → RO hsh (NN H Sys) h a o
theorem fresh_size (h : Heap) : h.get? h.objs.size = none := Heap.get?_none_of_le (Nat.le_refl _)
theorem new_lst {hsh : HFn} {H : AH} {Sys : Addr → Prop} {h : Heap} {vs : List V} {xs : Array Value} (ho : HO hsh H Sys h) (hsys : ∀ a, Sys a → h.get? a ≠ none) (r : RVs (NN H Sys) h vs xs.toList) (hz : xs.size ≤ sizeLine) :
  RV (NN H Sys) (h.push { cls := .type "list", data := .seq xs }) (.lst vs) (.ref h.objs.size) := by
 refine .lst (fun q => ?_) (IsL.new h xs) hz (r.keeps (HK.push h _))
 rcases q with q | q
 ·cases e : H h.objs.size with
  | none => exact q e
  | some o =>
   obtain ⟨ob, e'⟩ := (ho _ _ e).exists
   rw [fresh_size] at e'; cases e'
 ·exact hsys _ q (fresh_size h)
theorem new_tup {hsh : HFn} {H : AH} {Sys : Addr → Prop} {h : Heap} {vs : List V} {xs : Array Value} (ho : HO hsh H Sys h) (hsys : ∀ a, Sys a → h.get? a ≠ none) (r : RVs (NN H Sys) h vs xs.toList) (hz : xs.size ≤ sizeLine) :
  RV (NN H Sys) (h.push { cls := .type "tuple", data := .seq xs }) (.tup vs) (.ref h.objs.size) := by
 refine .tup (fun q => ?_) (IsT.new h xs) hz (r.keeps (HK.push h _))
 rcases q with q | q
 ·cases e : H h.objs.size with
  | none => exact q e
  | some o =>
   obtain ⟨ob, e'⟩ := (ho _ _ e).exists
   rw [fresh_size] at e'; cases e'
 ·exact hsys _ q (fresh_size h)
section
variable {hsh : HFn} {prog : Program} {w : World} {A : Around} {E : Value → Shared → Prop} {s : Shared} {H : AH} {Sys : Addr → Prop} {mg mb : Str → Option Value} {d : Nat}
theorem RVs.repL {N : Addr → Prop} {h : Heap} {vs : List V} {xs : List Value} (r : RVs N h vs xs) : ∀ n : Nat, RVs N h (repL n vs) (repL n xs)
 | 0 => .nil
 | n + 1 => by
  have := r.append (r.repL n)
  simpa [Mine.repL, List.replicate_succ] using this
theorem repL_length {α : Type} (n : Nat) (xs : List α) : (repL n xs).length = n * xs.length := by simp [repL]
theorem repL_nil {α : Type} (n : Nat) : repL n ([] : List α) = [] := by simp [repL]
theorem foldl_rep {α : Type} (xs : Array α) : ∀ (n : Nat) (acc : Array α), ((List.replicate n xs).foldl (fun x1 x2 => x1 ++ x2) acc).toList = acc.toList ++ repL n xs.toList
 | 0, acc => by simp [repL]
 | n + 1, acc => by
  rw [List.replicate_succ, List.foldl_cons, foldl_rep xs n]
  simp [repL, List.replicate_succ]
theorem mul_row {l : Addr} {items : Array Value} {k : Nat} {x : Int} {u : Tok} {Q : Value → Shared → Prop} (hl : IsL s.heap l items k) (hlo : -(2 ^ 62 : Int) ≤ x) (hhi : x < 2 ^ 62) (hsz : items.size * x.toNat ≤ sizeLine)
  (h : ∀ r : Array Value, r.toList = repL x.toNat items.toList → Q (.ref s.heap.objs.size) { s with heap := s.heap.push { cls := .type "list", data := .seq r } }) :
  wpAny (model prog w) A (binaryOp .Mult (.ref l) (.int x u)) Q E s := by
 have hz : items.size * x.toNat ≤ 16777216 := hsz
 refine wpAny_binaryOp_repeat_ref (T := "list") (U := "int") (by decide) ⟨_, hl, rfl⟩ (fun s' => typeIs_int s' x u) noFill_list_mul F.fills_int_mul F.slot_int_rmul repeat_list F.slot_int_index.lookup ?_
 refine call_meets F.slot_int_rmul (typeIs_int s x u) F.entry_int_rmul (F.args_int_rmul_2 _ _) (int___rmul___int_list x u l items k) ⟨hl, rfl, ⟨_, hl, rfl⟩, ?_⟩
 refine call_meets F.slot_list_mul ⟨_, hl, rfl⟩ F.entry_list_mul (F.args_list_mul_2 _ _) (AutoListH.list___mul___list_int_3 l items k x u (by simp [Builtin.List.listFitsIndex]; omega) (by omega) (by simp [Builtin.List.listTooLong, sizeLine]; omega)) ⟨hl, ?_⟩
 refine h _ ?_
 rw [foldl_rep]
 by_cases hi : items.isEmpty = true
 ·have e : items = #[] := by simpa using hi
  subst e; simp [repL]
 ·rw [if_neg hi]; simp
set_option tactic.hygienic true in
theorem txt_mul {x : Str} {n : Int} (h : 0 ≤ n) : Txt.mul x n = ⟨(repL n.toNat x.cps.toList).toArray⟩ := by
 unfold Txt.mul
 by_cases h1 : n < 1
 ·rw [if_pos h1]
  have e : n = 0 := by omega
  subst e; rfl
 ·rw [if_neg h1]
  split
  ·rename_i h2
   simp only [Bool.or_eq_true, beq_iff_eq] at h2
   rcases h2 with h2 | h2
   ·subst h2
    apply Str.ext'
    simp [repL]
   ·have e : x.cps = #[] := Array.eq_empty_of_size_eq_zero h2
    apply Str.ext'
    simp [e, repL_nil]
  ·congr 1
   apply Array.toList_inj.mp
   rw [foldl_rep]; simp
theorem rep_mem {α : Type} {n : Nat} {xs : List α} {c : α} (h : c ∈ repL n xs) : c ∈ xs := by
 unfold repL at h
 obtain ⟨l, hl, hc⟩ := List.mem_flatten.mp h
 rw [List.eq_of_mem_replicate hl] at hc; exact hc
theorem intP_inv {v : V} {P : Int → Prop} (h : intP v P) : ∃ i, v = .int i ∧ P i := by
 cases v <;> first | exact ⟨_, rfl, h⟩ | exact False.elim h
theorem seqP_inv {H : AH} {v : V} {P : List V → Prop} (h : seqP H v P) : ∃ x, seqL H v = some x ∧ P x := by
 unfold seqP at h
 cases e : seqL H v with
 | none => rw [e] at h; exact False.elim h
 | some x => rw [e] at h; exact ⟨_, rfl, h⟩
theorem bits_le {i : Int} (h : i.natAbs < 2 ^ 62) : Builtin.Int.intBits i ≤ 64 := intBits_le_64 (by omega) (by omega)
theorem prim_add {u v : V} {a b : Value} {Q : V → Prop} {K : Value → Shared → Prop} (ho : HO hsh H Sys s.heap) (hsys : ∀ a, Sys a → s.heap.get? a ≠ none)
  (hW : seqP H u fun x => seqP H v fun y => x.length + y.length ≤ sizeLine ∧ Q (.lst (x ++ y))) (ra : RV (NN H Sys) s.heap u a) (rb : RV (NN H Sys) s.heap v b)
  (hK : ∀ r val s', Q r → RV (NN H Sys) s'.heap r val → Kp (FZ A Sys) s s' → Frsh (NN H Sys) s s' r val → K val s') :
  wpAny (model prog w) A (binaryOp .Add a b) K E s := by
 obtain ⟨x, e1, hW⟩ := seqP_inv hW
 obtain ⟨y, e2, hW⟩ := seqP_inv hW
 apply seq_val ho ra e1; intro a1 xs n hl hz rx
 apply seq_val ho rb e2; intro b1 ys m hl' hz' ry
 have hlen : xs.size + ys.size ≤ sizeLine := by rw [← rx.size, ← ry.size]; exact hW.1
 have rr : RVs (NN H Sys) s.heap (x ++ y) (xs ++ ys).toList := by rw [Array.toList_append]; exact rx.append ry
 have hzz : (xs ++ ys).size ≤ sizeLine := by rw [Array.size_append]; exact hlen
 exact P.add_list hl hl' (hK _ _ _ hW.2 (new_lst ho hsys rr hzz) (Kp.ofH (HK.push _ _)) (Frsh.mk (s := s) (s' := { s with heap := s.heap.push { cls := .type "list", data := .seq (xs ++ ys) } }) (fresh_size _) rr (HK.push _ _) (IsL.new _ _) hzz)) hlen
theorem prim_mulL {vs : List V} {v : V} {a b : Value} {Q : V → Prop} {K : Value → Shared → Prop} (ho : HO hsh H Sys s.heap) (hsys : ∀ a, Sys a → s.heap.get? a ≠ none)
  (hW : intP v fun n => -(2 ^ 62) ≤ n ∧ n < 2 ^ 62 ∧ vs.length * n.toNat ≤ sizeLine ∧ Q (.lst (repL n.toNat vs))) (ra : RV (NN H Sys) s.heap (.lst vs) a) (rb : RV (NN H Sys) s.heap v b)
  (hK : ∀ r val s', Q r → RV (NN H Sys) s'.heap r val → Kp (FZ A Sys) s s' → Frsh (NN H Sys) s s' r val → K val s') :
  wpAny (model prog w) A (binaryOp .Mult a b) K E s := by
 apply int_val hW rb; intro n t hW
 apply RV.elim ra; intro a1 xs k na hl hz rx
 have hlen : xs.size * n.toNat ≤ sizeLine := by rw [← rx.size]; exact hW.2.2.1
 refine mul_row hl hW.1 hW.2.1 hlen fun r hr => ?_
 have rr : RVs (NN H Sys) s.heap (repL n.toNat vs) r.toList := by rw [hr]; exact rx.repL _
 have hrs : r.size ≤ sizeLine := by
  rw [← Array.length_toList, hr, repL_length, Array.length_toList, Nat.mul_comm]; exact hlen
 exact hK _ _ _ hW.2.2.2 (new_lst ho hsys rr hrs) (Kp.ofH (HK.push _ _)) (Frsh.mk (s := s) (s' := { s with heap := s.heap.push { cls := .type "list", data := .seq r } }) (fresh_size _) rr (HK.push _ _) (IsL.new _ _) hrs)
theorem prim_mulT {x : Str} {v : V} {a b : Value} {Q : V → Prop} {K : Value → Shared → Prop}
  (hW : intP v fun n => 0 ≤ n ∧ n < 2 ^ 30 ∧ x.length * n.toNat ≤ sizeLine ∧ Q (.str ⟨(repL n.toNat x.cps.toList).toArray⟩)) (ra : RV (NN H Sys) s.heap (.str x) a) (rb : RV (NN H Sys) s.heap v b)
  (hK : ∀ r val s', Q r → RV (NN H Sys) s'.heap r val → Kp (FZ A Sys) s s' → Frsh (NN H Sys) s s' r val → K val s') :
  wpAny (model prog w) A (binaryOp .Mult a b) K E s := by
 apply int_val hW rb; intro n t hW
 apply RV.elim ra; intro t' ox
 obtain ⟨h0, h1, h2, hq⟩ := hW
 have hs' : sizeLine = 16777216 := rfl
 have hx := ox.1
 have hsz : x.length * n.toNat ≤ 16777216 := h2
 refine SB.mul ⟨by simp only [Bool.or_eq_false_iff, decide_eq_false_iff_not]; omega, fun h3 z' => ?_, fun h3 z' => ?_⟩ fun t' k => ?_
 ·intro h4
  have h5 : (x.length : Int) * n ≤ 16777216 := by
   have : ((x.length * n.toNat : Nat) : Int) ≤ ((16777216 : Nat) : Int) := Int.ofNat_le.mpr hsz
   rwa [Int.natCast_mul, Int.toNat_of_nonneg h0] at this
  have h6 : (2 ^ 63 - 1) / n * n ≤ (2 ^ 63 - 1 : Int) := Int.ediv_mul_le _ (by omega)
  have h7 : (2 ^ 63 - 1 : Int) < ((2 ^ 63 - 1) / n + 1) * n := Int.lt_ediv_add_one_mul_self _ (by omega)
  have h8 : ((2 ^ 63 - 1) / n + 1) * n ≤ (x.length : Int) * n := Int.mul_le_mul_of_nonneg_right (by omega) h0
  omega
 ·unfold Builtin.Str.tooLong
  exact decide_eq_false (by omega)
 ·rw [txt_mul h0]
  refine hK _ _ _ hq (.str _ _ ⟨?_, fun c hc => ?_⟩) (Kp.tok s _) nofun
  ·show (repL n.toNat x.cps.toList).toArray.size ≤ sizeLine
   rw [List.size_toArray, repL_length, Array.length_toList, Nat.mul_comm]; exact h2
  ·exact ox.2 c (rep_mem (by simpa using hc))
theorem prim_bin {op : Bop} {u v : V} {a b : Value} {Q : V → Prop} {K : Value → Shared → Prop} (R : RmF d A) (T : TG prog mg mb s.heap) (ho : HO hsh H Sys s.heap) (hsys : ∀ a, Sys a → s.heap.get? a ≠ none)
  (hW : binV H op u v Q) (ra : RV (NN H Sys) s.heap u a) (rb : RV (NN H Sys) s.heap v b)
  (hK : ∀ r val s', Q r → RV (NN H Sys) s'.heap r val → Kp (FZ A Sys) s s' → Frsh (NN H Sys) s s' r val → K val s') :
  wpAny (model prog w) A (binaryOp (opOf op) a b) K E s := by
 have hI : ∀ {i : Int} {t : Tok} {tk : Nat}, Q (.int i) → K (.int i t) { s with toks := tk } := fun q => hK _ _ _ q (.int _ _) (Kp.tok s _) nofun
 cases op with
 | add =>
  cases u with
  | int i =>
   apply int_val hW rb; intro j t' hW
   apply RV.elim ra; intro t
   exact PyProof.Rows.add_int (hI hW)
  | str x =>
   apply str_val hW rb; intro y t' o2 hW
   apply RV.elim ra; intro t o1
   exact PyProof.Rows.add_str (fun t' tk => hK _ _ _ hW.2 (.str _ _ (o1.append o2 hW.1)) (Kp.tok s _) nofun) hW.1
  | lst => refine prim_add (Q := Q) (v := v) ho hsys ?_ ra rb hK; exact hW
  | ref => refine prim_add (Q := Q) (v := v) ho hsys ?_ ra rb hK; exact hW
  | _ => exact False.elim hW
 | sub =>
  apply int_val hW ra; intro i t hW
  apply int_val hW rb; intro j t' hW
  exact PyProof.Rows.sub_int (hI hW)
 | mul =>
  cases u with
  | int i =>
   apply int_val hW rb; intro j t' hW
   apply RV.elim ra; intro t
   refine PyProof.Rows.mul_int (hI hW.2) ?_
   rcases hW.1 with h | h
   ·exact IntMulOk.of_left (bits_le h)
   ·exact IntMulOk.of_right (bits_le h)
  | lst vs => exact prim_mulL ho hsys hW ra rb hK
  | str x => exact prim_mulT hW ra rb hK
  | _ => exact False.elim hW
 | fdiv =>
  apply int_val hW ra; intro i t hW
  apply int_val hW rb; intro j t' hW
  exact PyProof.Rows.floordiv_int hW.1 (hI hW.2) (.inr (pylong R T))
 | mod =>
  apply int_val hW ra; intro i t hW
  apply int_val hW rb; intro j t' hW
  exact PyProof.Rows.mod_int hW.1 (hI hW.2)
 | pow =>
  apply int_val hW ra; intro i t hW
  apply int_val hW rb; intro j t' hW
  obtain ⟨rfl, hj, hq⟩ := hW
  rcases hj with rfl | rfl
  ·exact PyProof.Rows.pow_int (by decide) (by decide) (hI hq)
  ·exact PyProof.Rows.pow_int (by decide) (by decide) (hI hq)
end
end Mine
end
section
set_option autoImplicit false
namespace Mine
open PySem
structure PG where
 prog : Program
 w : World
 mg : Str → Option Value
 mb : Str → Option Value
 tbl : Tbl
 gtab : List (String × V)
 ctab : Clss
 xs : List String
 hots : List String
noncomputable def atHash (w : World) : At → Int
 | .i n => hashInt n
 | .s x => hashStr w x
noncomputable def wHash (w : World) : HFn := fun ks => reduceHash (Builtin.Tuple.tupleHashOf (ks.map (atHash w)))
noncomputable def PG.hf (G : PG) : HFn := wHash G.w
noncomputable def bnames : List String := ["len", "isinstance", "int", "bool", "str", "tuple", "list", "sum", "max", "min", "reversed", "range", "enumerate", "zip", "ValueError"]
noncomputable def btypes : List String := ["int", "bool", "str", "tuple", "list", "reversed", "range", "enumerate", "zip", "ValueError"]
noncomputable def bval (n : String) : Value := if n ∈ btypes then .type n else .builtin n
structure CRow (h : Heap) (C N0 : Addr) (mN : Str → Option Value) (n : Nat) (fs : List (String × Ini)) : Prop where
 cls : PyProof.Rows.ClsAt h C N0 mN
 ga : mN "__getattribute__" = none
 sa : mN "__setattr__" = none
 qt : ∀ f ∈ fs, mN (Str.ofString f.1) = none ∧ typeLookup (.type "object") (Str.ofString f.1) = pure none
 ini : ∃ fI oI pm cdv doc qual params body scope, mN "__init__" = some (.ref fI) ∧ h.get? fI = some oI ∧ oI.cls = .type "function" ∧ oI.data = .func (PyProof.Rows.methDef "__init__" qual params body scope pm cdv doc) ∧ h.CodeRec cdv qual ∧ chkIni n fs params body scope = true
theorem CRow.keeps {h h' : Heap} {C N0 : Addr} {mN : Str → Option Value} {n : Nat} {fs : List (String × Ini)} (x : CRow h C N0 mN n fs) (k : HK h h') : CRow h' C N0 mN n fs := by
 obtain ⟨fI, oI, pm, cdv, doc, qual, params, body, scope, h1, h2, h3, h4, h5, h6⟩ := x.ini
 exact ⟨x.cls.keeps k, x.ga, x.sa, x.qt, fI, oI, pm, cdv, doc, qual, params, body, scope, h1, k _ _ h2, h3, h4, h5.keeps k, h6⟩
structure TT (G : PG) (h : Heap) : Prop extends TG G.prog G.mg G.mb h where
 bl : ∀ n ∈ bnames, G.mg (Str.ofString n) = none ∧ G.mb (Str.ofString n) = some (bval n)
 fn : ∀ f fn, G.tbl.lookup f = some fn → ∃ (dr : DefRec) (a : Addr) (o : Obj) (pm code doc : Value), G.mg (Str.ofString f) = some (.ref a) ∧ h.get? a = some o ∧
  o.data = .func (Calls.docDef dr.name dr.params dr.body dr.scope pm code doc) ∧ h.CodeRec code dr.name ∧ chkFn (G.tbl.map (·.1)) G.xs (G.hots.contains f) G.hots fn dr = true
 gl : ∀ x v, G.gtab.lookup x = some v → (∃ i t, v = .int i ∧ G.mg (Str.ofString x) = some (.int i t)) ∨ (∃ u t, v = .str u ∧ SOk u ∧ G.mg (Str.ofString x) = some (.str u t))
 cl : ∀ r ∈ G.ctab, G.mg (Str.ofString r.1) = some (.ref r.2.1) ∧ ∃ N0 mN, CRow h r.2.1 N0 mN r.2.2.1 r.2.2.2
theorem TT.keeps {G : PG} {h h' : Heap} (x : TT G h) (k : HK h h') : TT G h' :=
 ⟨x.toTG.keeps k, x.bl, fun f fn e => let ⟨dr, a, o, pm, code, doc, h1, h2, h3, h4, h5⟩ := x.fn f fn e; ⟨dr, a, o, pm, code, doc, h1, k _ _ h2, h3, h4.keeps k, h5⟩, x.gl
 , fun r hr => let ⟨h1, N0, mN, c⟩ := x.cl r hr; ⟨h1, N0, mN, c.keeps k⟩
 ⟩
noncomputable def PG.cx (G : PG) (d : Nat) : Cx := cxN G.tbl G.gtab G.ctab d
structure Fx0 (G : PG) (d : Nat) (c : Sc) (A : Around) (env : Env) (lay : Nat → Option Place) (Sys : Addr → Prop) (base : Heap) (st : St) (s : Shared) : Prop where
 rm : RmF d A
 eo : EnvOk env c.names c.σ lay
 us : ∀ i p, lay i = some p → i < c.used
 sim : Sim G.hf (TT G) lay Sys (FZ A Sys) base st s.heap
 own : ∃ L, env.frame = some L ∧ ∃ e l, A.frames = some (e :: l) ∧ e.frame = some L
 cold : c.hot = false → A.handled = none
structure Fx (G : PG) (d : Nat) (c : Sc) (A : Around) (env : Env) (lay : Nat → Option Place) (Sys : Addr → Prop) (base : Heap) (st : St) (s : Shared) : Prop extends Fx0 G d c A env lay Sys base st s where
 fr : FrOk A Sys s.heap
 hd : (c.hot = true ∧ c.dead = true) ∨ HdOk A Sys s.heap
theorem Fx.keeps {G : PG} {d : Nat} {c : Sc} {A : Around} {env : Env} {lay : Nat → Option Place} {Sys : Addr → Prop} {base : Heap} {st : St} {s s' : Shared} (x : Fx G d c A env lay Sys base st s) (k : Kp (FZ A Sys) s s') :
  Fx G d c A env lay Sys base st s' := ⟨⟨x.rm, x.eo, x.us, x.sim.kz k.hw, x.own, x.cold⟩, x.fr.kz k.hw, x.hd.imp id fun q => q.kz k.hw⟩
theorem Fx.za {G : PG} {d : Nat} {c : Sc} {A : Around} {env : Env} {lay : Nat → Option Place} {Sys : Addr → Prop} {base : Heap} {st : St} {s : Shared} (x : Fx G d c A env lay Sys base st s) {b : Addr} (q : ZA A b) : Sys b :=
 let ⟨_, e, h1, h2, h3⟩ := q; let ⟨_, _, h4, f⟩ := x.fr; by
  rw [h1] at h4; cases h4
  obtain ⟨_, L, _, g1, g2, _⟩ := f e h2
  rw [h3] at g1; cases g1; exact g2
theorem Fx.nz {G : PG} {d : Nat} {c : Sc} {A : Around} {env : Env} {lay : Nat → Option Place} {Sys : Addr → Prop} {base : Heap} {st : St} {s : Shared} (x : Fx G d c A env lay Sys base st s) {b : Addr} (q : s.heap.get? b = none) : ¬ ZA A b := fun z => x.sim.live b (x.za z) q
theorem Fx.hdo {G : PG} {d : Nat} {c : Sc} {A : Around} {env : Env} {lay : Nat → Option Place} {Sys : Addr → Prop} {base : Heap} {st : St} {s : Shared} (x : Fx G d c A env lay Sys base st s) (q : c.dead = false) : HdOk A Sys s.heap := x.hd.resolve_left fun h => by rw [q] at h; exact ff h.2
theorem Fx.top {G : PG} {d : Nat} {c : Sc} {A : Around} {env : Env} {lay : Nat → Option Place} {Sys : Addr → Prop} {base : Heap} {st : St} {s : Shared} (x : Fx G d c A env lay Sys base st s) : TT G s.heap := let ⟨_, t, k, _⟩ := x.sim.topH; t.keeps k
noncomputable abbrev SE (G : PG) (d : Nat) (c : Sc) (e : E) (x : Expr) : Prop :=
 ∀ {A : Around} {env : Env} {lay : Nat → Option Place} {Sys : Addr → Prop} {base : Heap} {st : St} {s : Shared}, Fx G d c A env lay Sys base st s →
  Snd G.prog G.w G.mg A (NN st.H Sys) Sys s (isFresh e) (eval x env) (WE (G.cx d) e st)
theorem Snd.weak {prog : Program} {w : World} {mg : Str → Option Value} {A : Around} {N Z : Addr → Prop} {s : Shared} {f : Bool} {t : Sem Value} {W : (V → Prop) → (String → Prop) → Prop} (h : Snd prog w mg A N Z s f t W) : Snd prog w mg A N Z s false t W :=
 fun Q X K E hW hK hX => h Q X K E hW (fun v val s' q r k z' => hK v val s' q r k nofun) hX
theorem fresh_keeps {Z : Addr → Prop} {s s' : Shared} (k : Kp Z s s') {a : Addr} (e : s'.heap.get? a = none) : s.heap.get? a = none := k.hw.ext e
section
variable {G : PG} {d : Nat} {c : Sc} {A : Around} {env : Env} {lay : Nat → Option Place} {Sys : Addr → Prop} {base : Heap} {st : St} {s : Shared}
theorem isVar_eq {x : Str} {i : Nat} (h : isVar c x i = true) : c.σ.lookup x = some i ∧ (x == ("__debug__" : Str)) = false := by
 simp only [isVar, Bool.and_eq_true, decide_eq_true_eq, Bool.not_eq_true'] at h; exact h
theorem isGlob_eq {x : Str} {n : String} (h : isGlob c x n = true) : x = Str.ofString n ∧ c.names.lookup x = some .globalImplicit ∧ (x == ("__debug__" : Str)) = false := by
 simp only [isGlob, Bool.and_eq_true, decide_eq_true_eq, Bool.not_eq_true'] at h; exact ⟨h.1.1.1, h.1.1.2, h.1.2⟩
theorem isGlob_hot {x : Str} {n : String} (h : isGlob c x n = true) : hotOk c n = true := ((Bool.and_eq_true _ _).mp h).2
theorem isGlob_cold {x : Str} {n : String} (h : isGlob c x n = true) (hn : coldB.contains n = true) : c.hot = false := by
 have := isGlob_hot h
 unfold hotOk at this
 rw [hn] at this
 cases e : c.hot with
 | false => rfl
 | true => rw [e] at this; exact ff this
theorem ld_glob {M : Model} {E : Value → Shared → Prop} {x : Str} {n : String} {v : Value} {pos : Pos} {Q : Value → Shared → Prop} (F : Fx G d c A env lay Sys base st s) (hg : isGlob c x n = true) (hv : G.mg (Str.ofString n) = some v) (h : Q v s) :
  wpAny M A (eval (.Name x pos) env) Q E s := by
 obtain ⟨rfl, h2, h3⟩ := isGlob_eq hg
 exact Calls.Name_function_global F.eo.kind (F.eo.gl _ h2) (Calls.loadGlobal_global (by rw [F.eo.glob]; exact F.top.g) hv h) h3
theorem ld_bltn {M : Model} {E : Value → Shared → Prop} {x : Str} {n : String} {pos : Pos} {Q : Value → Shared → Prop} (F : Fx G d c A env lay Sys base st s) (hg : isGlob c x n = true) (hn : n ∈ bnames) (h : Q (bval n) s) :
  wpAny M A (eval (.Name x pos) env) Q E s := by
 obtain ⟨rfl, h2, h3⟩ := isGlob_eq hg
 exact Calls.Name_function_global F.eo.kind (F.eo.gl _ h2) (Calls.loadGlobal_builtin (by rw [F.eo.glob]; exact F.top.g) (F.top.bl n hn).1 (by rw [F.eo.blt]; exact F.top.b) (F.top.bl n hn).2 h) h3
set_option tactic.hygienic true in
theorem se_var {i : Nat} {x : Str} {pos : Pos} (F : Fx G d c A env lay Sys base st s) (hx : isVar c x i = true) : Snd G.prog G.w G.mg A (NN st.H Sys) Sys s false (eval (.Name x pos) env) (WE (G.cx d) (.var i) st) := by
 intro Q X K E hW hK hX
 obtain ⟨h1, h2⟩ := isVar_eq hx
 simp only [we_4] at hW
 split at hW
 ·rename_i v hv
  exact wpAny_Name (ld_var F.eo F.sim h1 hv fun val r => hK v val s hW r (Kp.refl s) nofun) h2
 ·exact hW.elim
set_option tactic.hygienic true in
theorem se_glob {g : String} {x : Str} {pos : Pos} (F : Fx G d c A env lay Sys base st s) (hx : isGlob c x g = true) : Snd G.prog G.w G.mg A (NN st.H Sys) Sys s false (eval (.Name x pos) env) (WE (G.cx d) (.glob g) st) := by
 intro Q X K E hW hK hX
 simp only [we_2, we_3, we_5] at hW
 split at hW
 ·rename_i v hv
  rcases F.top.gl g v hv with ⟨i, t, rfl, e⟩ | ⟨u, t, rfl, hu, e⟩
  ·exact ld_glob F hx e (hK _ _ s hW (.int i t) (Kp.refl s) nofun)
  ·exact ld_glob F hx e (hK _ _ s hW (.str u t hu) (Kp.refl s) nofun)
 ·exact hW.elim
theorem se_bin {op : Bop} {a b : E} {l r : Expr} {pos : Pos} (F : Fx G d c A env lay Sys base st s) (ha : SE G d c a l) (hb : SE G d c b r) :
  Snd G.prog G.w G.mg A (NN st.H Sys) Sys s true (eval (.BinOp l (opOf op) r pos) env) (WE (G.cx d) (.bin op a b) st) := by
 intro Q X K E hW hK hX
 simp only [we_6] at hW
 refine wpAny_BinOp ((ha F).weak _ X _ E hW (fun u va s₁ h₁ r₁ k₁ z' => ?_) hX)
 have F₁ := F.keeps k₁
 refine (hb F₁).weak _ X _ E h₁ (fun v vb s₂ h₂ r₂ k₂ z' => ?_) (fun e s' q => hX e s' (Rz.trans k₁ q))
 have F₂ := F₁.keeps k₂
 exact prim_bin F₂.rm F₂.top.toTG F₂.sim.objs F₂.sim.live h₂ (r₁.kz k₂.hw) r₂ fun r val s' q rv k f => hK r val s' q rv ((k₁.trans k₂).trans k) fun z' => f.before (k₁.trans k₂)
theorem truth_bool {H : AH} {N : Addr → Prop} {h : Heap} {u : V} {x : Value} {b : Bool} (r : RV N h u x) (e : truthV H u = some b) : x = .bool b := by
 cases r <;> simp [tv_none, tv_bool, tv_int, tv_str, tv_tup, tv_lst, tv_ref, tv_inst, tv_iref, tv_exc, tv_dct] at e
 subst e; rfl
set_option tactic.hygienic true in
theorem se_not {a : E} {y : Expr} {pos : Pos} (F : Fx G d c A env lay Sys base st s) (ha : SE G d c a y) :
  Snd G.prog G.w G.mg A (NN st.H Sys) Sys s false (eval (.UnaryOp .Not y pos) env) (WE (G.cx d) (.not a) st) := by
 intro Q X K E hW hK hX
 simp only [we_1, we_8] at hW
 refine wpAny_UnaryOp ((ha F).weak _ X _ E hW (fun u va s₁ h₁ r₁ k₁ z' => ?_) hX)
 split at h₁
 ·rename_i b hb
  obtain rfl := truth_bool r₁ hb
  exact not_value (wpAny_truthy_bool (hK _ _ _ h₁ (.bool _) k₁ nofun))
 ·exact h₁.elim
theorem se_neg {a : E} {y : Expr} {pos : Pos} (F : Fx G d c A env lay Sys base st s) (ha : SE G d c a y) :
  Snd G.prog G.w G.mg A (NN st.H Sys) Sys s false (eval (.UnaryOp .USub y pos) env) (WE (G.cx d) (.neg a) st) := by
 intro Q X K E hW hK hX
 simp only [we_2, we_7] at hW
 refine wpAny_UnaryOp ((ha F).weak _ X _ E hW (fun u va s₁ h₁ r₁ k₁ z' => ?_) hX)
 split at h₁
 ·cases r₁
  exact PyProof.Rows.neg_int (hK _ _ _ h₁ (.int _ _) (k₁.trans (Kp.tok s₁ _)) nofun)
 ·exact h₁.elim
set_option tactic.hygienic true in
theorem se_and {a b : E} {x y : Expr} {pos : Pos} (F : Fx G d c A env lay Sys base st s) (ha : SE G d c a x) (hb : SE G d c b y) :
  Snd G.prog G.w G.mg A (NN st.H Sys) Sys s false (eval (.BoolOp .And [x, y] pos) env) (WE (G.cx d) (.and a b) st) := by
 intro Q X K E hW hK hX
 simp only [we_9] at hW
 refine wpAny_And2 ((ha F).weak _ X _ E hW (fun u va s₁ h₁ r₁ k₁ z' => ?_) hX)
 split at h₁
 ·rename_i hb'
  obtain rfl := truth_bool r₁ hb'
  refine wpAny_truthy_bool ?_
  rw [if_pos rfl]
  exact (hb (F.keeps k₁)).weak _ X _ E h₁ (fun v val s' q r k z' => hK v val s' q r (k₁.trans k) nofun) fun e s' q => hX e s' (Rz.trans k₁ q)
 ·rename_i hb'
  obtain rfl := truth_bool r₁ hb'
  refine wpAny_truthy_bool ?_
  rw [if_neg (by simp)]
  exact hK _ _ _ h₁ r₁ k₁ nofun
 ·exact h₁.elim
set_option tactic.hygienic true in
theorem se_or {a b : E} {x y : Expr} {pos : Pos} (F : Fx G d c A env lay Sys base st s) (ha : SE G d c a x) (hb : SE G d c b y) :
  Snd G.prog G.w G.mg A (NN st.H Sys) Sys s false (eval (.BoolOp .Or [x, y] pos) env) (WE (G.cx d) (.or a b) st) := by
 intro Q X K E hW hK hX
 simp only [we_10] at hW
 refine wpAny_Or2 ((ha F).weak _ X _ E hW (fun u va s₁ h₁ r₁ k₁ z' => ?_) hX)
 split at h₁
 ·rename_i hb'
  obtain rfl := truth_bool r₁ hb'
  refine wpAny_truthy_bool ?_
  rw [if_pos rfl]
  exact hK _ _ _ h₁ r₁ k₁ nofun
 ·rename_i hb'
  obtain rfl := truth_bool r₁ hb'
  refine wpAny_truthy_bool ?_
  rw [if_neg (by simp)]
  exact (hb (F.keeps k₁)).weak _ X _ E h₁ (fun v val s' q r k z' => hK v val s' q r (k₁.trans k) nofun) fun e s' q => hX e s' (Rz.trans k₁ q)
 ·exact h₁.elim
end
end Mine
end
section
set_option autoImplicit false
namespace Mine
open PySem
set_option tactic.hygienic true in
theorem frz_ok {hsh : HFn} {H B : AH} {Sys Sys' : Addr → Prop} {h : Heap} (ho : HO hsh H Sys' h) (hsub : ∀ a, Sys a → Sys' a) (hB : ∀ a, B a ≠ none → H a ≠ none) (hown : ∀ a, H a ≠ none → B a = none → ¬ Sys a) :
  ∀ (n : Nat), (∀ (v v' : V) (x : Value), frz H B n v = some v' → RV (NN H Sys') h v x → RV (NN B Sys) h v' x) ∧ (∀ (vs vs' : List V) (xs : List Value), frzs H B n vs = some vs' → RVs (NN H Sys') h vs xs → RVs (NN B Sys) h vs' xs) := by
 have hN : ∀ a, ¬ NN H Sys' a → ¬ NN B Sys a := fun a q q' => q (q'.elim (fun e => .inl (hB a e)) fun e => .inr (hsub a e))
 have all : ∀ n, (∀ (v v' : V) (x : Value), frz H B n v = some v' → RV (NN H Sys') h v x → RV (NN B Sys) h v' x) → (∀ (vs vs' : List V) (xs : List Value), frzs H B n vs = some vs' → RVs (NN H Sys') h vs xs → RVs (NN B Sys) h vs' xs) := by
  intro n hv vs
  induction vs with
  | nil => intro vs' xs e r; simp [fzs_nil, fzs_cons] at e; subst e; cases r; exact .nil
  | cons v vs ih =>
   intro vs' xs e r
   cases r with
   | cons r1 r2 =>
    simp only [fzs_nil, fzs_cons] at e
    split at e
    ·rename_i x' xs' e1 e2
     cases e
     exact .cons (hv _ _ _ e1 r1) (ih _ _ e2 r2)
    ·cases e
 intro n
 induction n with
 | zero =>
  have h0 : ∀ (v v' : V) (x : Value), frz H B 0 v = some v' → RV (NN H Sys') h v x → RV (NN B Sys) h v' x := fun v v' x e z' => by simp [fz_zero, fz_none, fz_bool, fz_int, fz_str, fz_tup, fz_lst, fz_inst, fz_ref, fz_iref] at e
  exact ⟨h0, all 0 h0⟩
 | succ n ih =>
  have hs : ∀ (v v' : V) (x : Value), frz H B (n + 1) v = some v' → RV (NN H Sys') h v x → RV (NN B Sys) h v' x := by
   intro v v' x e r
   cases r with
   | none => simp [fz_zero, fz_none, fz_bool, fz_int, fz_str, fz_tup, fz_lst, fz_inst, fz_ref, fz_iref] at e; subst e; exact .none
   | bool b => simp [fz_zero, fz_none, fz_bool, fz_int, fz_str, fz_tup, fz_lst, fz_inst, fz_ref, fz_iref] at e; subst e; exact .bool b
   | int i t => simp [fz_zero, fz_none, fz_bool, fz_int, fz_str, fz_tup, fz_lst, fz_inst, fz_ref, fz_iref] at e; subst e; exact .int i t
   | str u t o => simp [fz_zero, fz_none, fz_bool, fz_int, fz_str, fz_tup, fz_lst, fz_inst, fz_ref, fz_iref] at e; subst e; exact .str u t o
   | tup h1 h2 h3 h4 =>
    simp only [fz_zero, fz_none, fz_bool, fz_int, fz_str, fz_tup, fz_lst, fz_inst, fz_ref, fz_iref, Option.map_eq_some_iff] at e
    obtain ⟨vs', e1, rfl⟩ := e
    exact .tup (hN _ h1) h2 h3 (ih.2 _ _ _ e1 h4)
   | lst h1 h2 h3 h4 =>
    simp only [fz_zero, fz_none, fz_bool, fz_int, fz_str, fz_tup, fz_lst, fz_inst, fz_ref, fz_iref, Option.map_eq_some_iff] at e
    obtain ⟨vs', e1, rfl⟩ := e
    exact .lst (hN _ h1) h2 h3 (ih.2 _ _ _ e1 h4)
   | iref h1 h2 =>
    rename_i xa a C ns
    simp only [fz_zero, fz_none, fz_bool, fz_int, fz_str, fz_tup, fz_lst, fz_inst, fz_ref, fz_iref] at e
    split at e
    ·cases e; exact .iref (hN _ h1) h2
    ·rename_i hBa
     split at e
     ·rename_i c ns' vs hH
      by_cases hns : ns' = ns
      ·rw [if_pos hns] at e
       simp only [Option.map_eq_some_iff] at e
       obtain ⟨vs', e1, rfl⟩ := e
       cases ho _ _ hH with
       | inst g1 g2 =>
        rw [hns] at g1
        refine .inst (hN _ h1) (fun q => ?_) h2 g1 (ih.2 _ _ _ e1 g2)
        rcases q with q | q
        ·exact q hBa
        ·exact hown a (by rw [hH]; exact nofun) hBa q
      ·rw [if_neg hns] at e; cases e
     ·cases e
   | inst h1 h2 h3 h5 h6 =>
    simp only [fz_zero, fz_none, fz_bool, fz_int, fz_str, fz_tup, fz_lst, fz_inst, fz_ref, fz_iref, Option.map_eq_some_iff] at e
    obtain ⟨vs', e1, rfl⟩ := e
    exact .inst (hN _ h1) (hN _ h2) h3 h5 (ih.2 _ _ _ e1 h6)
   | ref a =>
    simp only [fz_zero, fz_none, fz_bool, fz_int, fz_str, fz_tup, fz_lst, fz_inst, fz_ref, fz_iref] at e
    split at e
    ·cases e; exact .ref a
    ·rename_i hBa
     split at e
     ·rename_i vs hH
      simp only [Option.map_eq_some_iff] at e
      obtain ⟨vs', e1, rfl⟩ := e
      cases ho _ _ hH with
      | list h1 h2 h3 =>
       refine .lst (fun q => ?_) h1 h2 (ih.2 _ _ _ e1 h3)
       rcases q with q | q
       ·exact q hBa
       ·exact hown a (by rw [hH]; simp) hBa q
     ·cases e
  exact ⟨hs, all (n + 1) hs⟩
structure Given (hsh : HFn) (H H' : AH) (Sys Sys' : Addr → Prop) (s s' : Shared) : Prop where
 ho : HO hsh H' Sys' s'.heap
 sub : ∀ a, Sys a → Sys' a
 stay : ∀ a, H a ≠ none → H' a ≠ none
 own : ∀ a, H' a ≠ none → H a = none → s.heap.get? a = none
 dis : ∀ a, Sys' a → H' a = none
theorem Given.before {hsh : HFn} {H H' : AH} {Sys Sys' Z : Addr → Prop} {s₀ s s' : Shared} (g : Given hsh H H' Sys Sys' s s') (k : Kp Z s₀ s) : Given hsh H H' Sys Sys' s₀ s' := ⟨g.ho, g.sub, g.stay, fun a q q' => k.hw.ext (g.own a q q'), g.dis⟩
end Mine
end
section
set_option autoImplicit false
namespace Mine
open PySem
theorem dictP_inv {H : AH} {u : V} {P : Nat → List (List At × V) → Prop} (h : dictP H u P) : ∃ a kvs, u = .ref a ∧ H a = some (.dict kvs) ∧ P a kvs := by
 cases u with
 | ref a =>
  have h : (match H a with
   | some (.dict kvs) => P a kvs
   | _ => False) := h
  cases e : H a with
  | none => rw [e] at h; exact h.elim
  | some o =>
   rw [e] at h
   cases o with
   | dict kvs => exact ⟨a, kvs, rfl, e, h⟩
   | _ => exact h.elim
 | _ => exact False.elim h
theorem keyP_inv {v : V} {P : List At → Prop} (h : keyP v P) : ∃ ks, v = keyV ks ∧ P ks := by
 cases v with
 | tup vs =>
  have key : ∀ {vs : List V} {ks : List At}, atsOf vs = some ks → vs = ks.map atV := by
   intro vs
   induction vs with
   | nil => intro ks e; cases e; rfl
   | cons v vs ih =>
    intro ks e
    have e : (match atOf v, atsOf vs with
     | some a, some as => some (a :: as)
     | _, _ => none) = some ks := e
    cases e1 : atOf v with
    | none => rw [e1] at e; cases e
    | some a =>
     cases e2 : atsOf vs with
     | none => rw [e1, e2] at e; cases e
     | some as =>
      rw [e1, e2] at e
      cases e
      rw [ih e2]
      cases v <;> first | cases e1 | skip
      ·rfl
      ·rfl
  have h : (match atsOf vs with
   | some ks => P ks
   | none => False) := h
  cases e : atsOf vs with
  | none => rw [e] at h; exact h.elim
  | some ks => rw [e] at h; exact ⟨ks, by rw [key e]; rfl, h⟩
 | _ => exact False.elim h
noncomputable def atIs : At → Value → Bool
 | .i n, v => Value.isInt n v
 | .s x, v => Value.isStrOf x v
theorem atIs_elim {k : At} {v : Value} {P : At → Value → Prop} (h : atIs k v = true) (hi : ∀ n t, P (.i n) (.int n t)) (hs : ∀ x t, P (.s x) (.str x t)) : P k v := by
 cases k with
 | i n => obtain ⟨t, rfl⟩ := Value.isInt_shape h; exact hi n t
 | s x => obtain ⟨t, rfl⟩ := Value.isStrOf_shape h; exact hs x t
theorem at_inj {v : Value} {a b : At} (ha : atIs a v = true) (hb : atIs b v = true) : a = b := by
 revert hb
 apply atIs_elim ha
 ·intro n t hb
  exact atIs_elim (P := fun b v => v = .int n t → At.i n = b) hb (fun z' z' e => by cases e; rfl) (fun z' z' e => by cases e) rfl
 ·intro x t hb
  exact atIs_elim (P := fun b v => v = .str x t → At.s x = b) hb (fun z' z' e => by cases e) (fun z' z' e => by cases e; rfl) rfl
theorem dec_i (n m : Int) : (n == m) = decide (At.i n = At.i m) := by by_cases e : n = m <;> simp [e]
theorem dec_s (x y : Str) : decide (x = y) = decide (At.s x = At.s y) := by by_cases e : x = y <;> simp [e]
noncomputable def mixKind (prog : Program) (w : World) : KeyKind prog w At where
 is := atIs
 hash := atHash w
 inj := fun v a b ha hb => at_inj ha hb
 byValue := fun k v h => by apply atIs_elim h <;> exact fun z' z' => rfl
 pyHash := fun hv h => by
  revert h; apply atIs_elim hv
  ·exact fun z' z' h => wpAny_pyHash_int h
  ·exact fun z' z' h => wpAny_pyHash_str h
 eqBool := fun hu hv h => by
  revert h; revert hv; apply atIs_elim hu
  ·intro n t hv; apply atIs_elim hv
   ·exact fun m u h => wpAny_eqBool_int (dec_i n m ▸ h)
   ·exact fun z' z' h => SeqAt.EqAt.int_str _ _ _ _ _ _ _ _ h
  ·intro x t hv; apply atIs_elim hv
   ·exact fun z' z' h => SeqAt.EqAt.str_int _ _ _ _ _ _ _ _ h
   ·exact fun y u h => wpAny_eqBool_str (dec_s x y ▸ h)
 «strs» := fun k x t v h => by
  refine atIs_elim (P := fun k u => u = .str x t → atIs k v = v.isStr x) h (fun n u e => ?_) (fun y u e => ?_) rfl
  ·cases e
  ·cases e; cases v <;> rfl
theorem items_at {prog : Program} {w : World} {N : Addr → Prop} {h : Heap} : ∀ {ks : List At} {xs : List Value}, RVs N h (ks.map atV) xs → ItemsAre (mixKind prog w) ks xs
 | [], _, r => by cases r; exact .nil
 | k :: ks, _, r => by
  cases r with
  | cons r1 r2 =>
   refine .cons ?_ (items_at r2)
   cases k with
   | i n => cases r1; exact (beq_iff_eq (a := n) (b := n)).mpr rfl
   | s x => cases r1; exact (beq_iff_eq (a := x) (b := x)).mpr rfl
theorem key_at {prog : Program} {w : World} {N : Addr → Prop} {h : Heap} {ks : List At} {a : Value} (r : RV N h (keyV ks) a) : ∃ ka, a = .ref ka ∧ IsTupleKey (mixKind prog w) h ks ka := by
 cases r with
 | tup h1 h2 h3 h4 => exact ⟨_, rfl, _, _, _, h2, rfl, rfl, items_at h4⟩
structure DAt (prog : Program) (w : World) (N : Addr → Prop) (h : Heap) (b : Addr) (kvs : List (List At × V)) (xs : List (List At × Addr × Value)) : Prop where
 of : h.DictOfH (tupleKind (mixKind prog w)) b xs
 vals : RVs N h (kvs.map (·.2)) (xs.map (·.2.2))
 keys : kvs.map (·.1) = xs.map (·.1)
 sm : (b == sysModules) = false
 len : xs.length ≤ sizeLine
set_option tactic.hygienic true in
theorem dict_at {prog : Program} {w : World} {hsh : HFn} {H : AH} {Sys : Addr → Prop} {h : Heap} {b : Nat} {kvs : List (List At × V)} (hH : hsh = wHash w) (ho : HO hsh H Sys h) (hd : H b = some (.dict kvs)) : ∃ xs, DAt prog w (NN H Sys) h b kvs xs := by
 cases ho b _ hd with
 | dict a1 a2 a3 a4 a5 a6 a7 a8 =>
  rename_i es ep xs
  refine ⟨xs, ⟨_, es, ep, a1, ⟨rfl, rfl, rfl⟩, rfl, ?_, fun x hx => ?_, a3⟩, a7, a5, a8, a4⟩
  ·rw [a2, hH]; rfl
  ·obtain ⟨ka, e, hk⟩ := key_at (prog := prog) (w := w) (a6 x hx)
   cases e; exact hk
theorem look_at {N : Addr → Prop} {h : Heap} (ks : List At) : ∀ {kvs : List (List At × V)} {xs : List (List At × Addr × Value)}, RVs N h (kvs.map (·.2)) (xs.map (·.2.2)) → kvs.map (·.1) = xs.map (·.1) →
  (dlook ks kvs = none ∧ atKey xs ks = none) ∨ (∃ v p, dlook ks kvs = some v ∧ atKey xs ks = some p ∧ RV N h v p.2)
 | [], [], _, _ => .inl ⟨rfl, rfl⟩
 | [], _ :: _, _, e => by cases e
 | _ :: _, [], _, e => by cases e
 | (k, v) :: kvs, (k', b, x) :: xs, r, e => by
  simp only [List.map_cons, List.cons.injEq] at e
  obtain ⟨rfl, e⟩ := e
  cases r with
  | cons r1 r2 =>
   by_cases hk : k = ks
   ·exact .inr ⟨v, (b, x), by simp [dlook, hk], by simp [atKey, hk], r1⟩
   ·have e1 : dlook ks ((k, v) :: kvs) = dlook ks kvs := by simp [dlook, hk]
    have e2 : atKey ((k, b, x) :: xs) ks = atKey xs ks := by simp [atKey, hk]
    rw [e1, e2]
    exact look_at ks r2 e
section
variable {prog : Program} {w : World} {A : Around} {E : Value → Shared → Prop} {s : Shared} {d : Nat}
theorem dRoom (R : RmF d A) : (tupleKind (mixKind prog w)).room A.in1 := tupleKind_room_in1 (Nat.lt_of_le_of_lt (Nat.le_refl _) (R.toRm.u (by decide)))
theorem contains_dict {b a : Addr} {ks : List At} {xs : List (List At × Addr × Value)} {Q : Bool → Shared → Prop} (hu : (tupleKind (mixKind prog w)).room A.in1) (hk : IsTupleKey (mixKind prog w) s.heap ks a) (hd : (b == sysModules) = false) (hm : s.heap.DictOfH (tupleKind (mixKind prog w)) b xs)
  (h : Q (atKey xs ks).isSome { s with toks := s.toks + (ks.length + 1) }) : wpAny (model prog w) A (contains (.ref b) (.ref a)) Q E s := by
 unfold contains
 refine wpAny_holding (wpAny_bind (wpAny_specialOf hm.typeIs slot_dict_contains.lookup ?_))
 refine wpAny_ite_false rfl ?_
 refine wpAny_bind (wpAny_callSpecialUnlessNone?_slot (name := Str.ofString "__contains__") hm.typeIs slot_dict_contains (wpAny_call_entry slot_dict_contains hm.typeIs entry_dict_contains ?_ (args_dict_contains _ _)))
 show wpAny _ _ (dictGet b (.ref a) >>= _) _ _ s
 refine wpAny_bind (wpAny_dictGet_heap hu hk hm ?_)
 cases hf : atKey xs ks with
 | some p =>
  rw [hf] at h
  show wpAny _ _ (ret (.bool true)) _ _ _
  exact wpAny_pure ⟨_, rfl, wpAny_truthy_bool h⟩
 | none =>
  rw [hf] at h
  show wpAny _ _ (Builtin.Dict.pendingKey? b (.ref a) >>= _) _ _ _
  exact wpAny_bind (wpAny_pendingKey_other hd (wpAny_pure ⟨_, rfl, wpAny_truthy_bool h⟩))
theorem in_dict {b a : Addr} {ks : List At} {xs : List (List At × Addr × Value)} {K : Value → Shared → Prop} (hu : (tupleKind (mixKind prog w)).room A.in1) (hk : IsTupleKey (mixKind prog w) s.heap ks a) (hd : (b == sysModules) = false) (hm : s.heap.DictOfH (tupleKind (mixKind prog w)) b xs)
  (h : K (.bool (atKey xs ks).isSome) { s with toks := s.toks + (ks.length + 1) }) : wpAny (model prog w) A (compareOp .In (.ref a) (.ref b)) K E s :=
 wpAny_bind (contains_dict hu hk hd hm (wpAny_pure h))
theorem notIn_dict {b a : Addr} {ks : List At} {xs : List (List At × Addr × Value)} {K : Value → Shared → Prop} (hu : (tupleKind (mixKind prog w)).room A.in1) (hk : IsTupleKey (mixKind prog w) s.heap ks a) (hd : (b == sysModules) = false) (hm : s.heap.DictOfH (tupleKind (mixKind prog w)) b xs)
  (h : K (.bool !(atKey xs ks).isSome) { s with toks := s.toks + (ks.length + 1) }) : wpAny (model prog w) A (compareOp .NotIn (.ref a) (.ref b)) K E s :=
 wpAny_bind (contains_dict hu hk hd hm (wpAny_pure h))
end
end Mine
end
section
set_option autoImplicit false
namespace Mine
open PySem PySem.F
open Classical in
noncomputable def eOf (h : Heap) (d : PyData) (y : Value) : Bool := decide (∃ dy as, Reads h y dy as ∧ dy.canLay0 = true ∧ PyData.eqv dy d = true)
open Classical in
theorem eOf_eq {h : Heap} {d dy : PyData} {y : Value} {as : List Addr} (r : Reads h y dy as) (c : dy.canLay0 = true) : eOf h d y = PyData.eqv dy d := by
 unfold eOf
 cases e : PyData.eqv dy d with
 | true => exact decide_eq_true ⟨dy, as, r, c, e⟩
 | false =>
  refine decide_eq_false ?_
  rintro ⟨dz, bs, r', c', e'⟩
  have := SeqAt.Reads.unique dy dz y as bs c r r'
  subst this
  rw [e] at e'; cases e'
theorem any_reads {h : Heap} {d : PyData} : ∀ {xs : List Value} {ds : List PyData} {as : List Addr}, ReadsAll h xs ds as → PyData.canLayAll0 ds = true → xs.any (eOf h d) = ds.any (fun y => PyData.eqv y d) ∧ ∀ y ∈ xs, ∃ dy bs, Reads h y dy bs ∧ dy.canLay0 = true
 | _, _, _, .nil, _ => ⟨rfl, nofun⟩
 | _, _, _, .cons r1 r2, c => by
  simp only [PyData.canLayAll0, Bool.and_eq_true] at c
  obtain ⟨h1, h2⟩ := any_reads (d := d) r2 c.2
  refine ⟨by rw [List.any_cons, List.any_cons, eOf_eq r1 c.1, h1], fun y hy => ?_⟩
  rcases List.mem_cons.mp hy with rfl | q
  ·exact ⟨_, _, r1, c.1⟩
  ·exact h2 y q
section
variable {prog : Program} {w : World} {A : Around} {E : Value → Shared → Prop} {s : Shared}
theorem in_any {x : Value} {items : Array Value} {d : PyData} {as bs : List Addr} {ds : List PyData} (rx : Reads s.heap x d as) (cx : d.canLay0 = true) (rs : ReadsAll s.heap items.toList ds bs) (cs : PyData.canLayAll0 ds = true) (hu : A.in1.units + d.depth < cLine) :
  (∀ y, y ∈ items → SeqAt.EqAt A.in1 s y x (eOf s.heap d y)) ∧ items.any (eOf s.heap d) = ds.any fun y => PyData.eqv y d := by
 obtain ⟨h1, h2⟩ := any_reads (d := d) rs cs
 refine ⟨fun y hy => ?_, by rw [← h1]; simp⟩
 obtain ⟨dy, cs', r, c⟩ := h2 y (by simpa using hy)
 rw [eOf_eq r c]
 exact SeqAt.eqAt_reads dy d _ s y x _ _ r rx c cx (Nat.lt_of_le_of_lt (Nat.add_le_add_left (Nat.min_le_right ..) _) hu)
end
end Mine
end
section
set_option autoImplicit false
namespace Mine
open PySem
noncomputable def RdP (h : Heap) (v : V) (x : Value) : Prop := ∀ d, toD v = some d → (∃ as, Reads h x d as) ∧ d.canLay0 = true
noncomputable def RdPs (h : Heap) (vs : List V) (xs : List Value) : Prop := ∀ ds, toDs vs = some ds → (∃ as, ReadsAll h xs ds as) ∧ PyData.canLayAll0 ds = true
section
variable {N : Addr → Prop} {h : Heap}
theorem rd_none : RdP h .none .none := fun z' e => by cases (show some PyData.none = some _ from e); exact ⟨⟨_, .none⟩, by simp [PyData.canLay0]⟩
theorem rd_bool (b : Bool) : RdP h (.bool b) (.bool b) := fun z' e => by cases (show some (PyData.bool b) = some _ from e); exact ⟨⟨_, .bool b⟩, by simp [PyData.canLay0]⟩
theorem rd_int (i : Int) (t : Tok) : RdP h (.int i) (.int i t) := fun z' e => by cases (show some (PyData.int i) = some _ from e); exact ⟨⟨_, .int i _⟩, by simp [PyData.canLay0]⟩
theorem rd_str (u : Str) (t : Tok) (ho : SOk u) : RdP h (.str u) (.str u t) := fun z' e => by cases (show some (PyData.str u) = some _ from e); exact ⟨⟨_, .str u _⟩, by simp [PyData.canLay0, ho.strOk]⟩
theorem rd_tup {a : Addr} {xs : Array Value} {n : Nat} {vs : List V} (h2 : IsT h a xs n) (i : RdPs h vs xs.toList) : RdP h (.tup vs) (.ref a) := fun d e => by
 obtain ⟨ds, e1, rfl⟩ := Option.map_eq_some_iff.mp (show (toDs vs).map PyData.tuple = some d from e)
 obtain ⟨⟨as, ra⟩, hc⟩ := i ds e1
 exact ⟨⟨_, .tuple h2 rfl rfl ra⟩, by simpa [PyData.canLay0] using hc⟩
theorem rd_lst {a : Addr} {xs : Array Value} {n : Nat} {vs : List V} (h2 : IsL h a xs n) (i : RdPs h vs xs.toList) : RdP h (.lst vs) (.ref a) := fun d e => by
 obtain ⟨ds, e1, rfl⟩ := Option.map_eq_some_iff.mp (show (toDs vs).map PyData.list = some d from e)
 obtain ⟨⟨as, ra⟩, hc⟩ := i ds e1
 exact ⟨⟨_, .list h2 rfl rfl ra⟩, by simpa [PyData.canLay0] using hc⟩
theorem rd_nil : RdPs h [] [] := fun z' e => by cases (show some ([] : List PyData) = some _ from e); exact ⟨⟨_, .nil⟩, by simp [PyData.canLayAll0]⟩
theorem rd_cons {v : V} {x : Value} {vs : List V} {xs : List Value} (i : RdP h v x) (j : RdPs h vs xs) : RdPs h (v :: vs) (x :: xs) := fun ds e => by
 have e : (match toD v, toDs vs with
  | some d, some ds => some (d :: ds)
  | _, _ => none) = some ds := e
 cases e1 : toD v with
 | none => rw [e1] at e; cases e
 | some d =>
  cases e2 : toDs vs with
  | none => rw [e1, e2] at e; cases e
  | some ds' =>
   rw [e1, e2] at e
   cases e
   obtain ⟨⟨as, ra⟩, ha⟩ := i d e1
   obtain ⟨⟨bs, rb⟩, hb⟩ := j ds' e2
   exact ⟨⟨_, .cons ra rb⟩, by simp [PyData.canLayAll0, ha, hb]⟩
theorem reads_of (v : V) (x : Value) (d : PyData) (r : RV N h v x) : toD v = some d → (∃ as, Reads h x d as) ∧ d.canLay0 = true :=
 RV.rec (motive_1 := fun v x z' => RdP h v x) (motive_2 := fun vs xs z' => RdPs h vs xs) rd_none rd_bool rd_int rd_str (fun z' h2 z' z' i => rd_tup h2 i) (fun z' h2 z' z' i => rd_lst h2 i) (fun z' z' e => nomatch e)
  (fun z' z' z' e => nomatch e) (fun z' z' z' z' z' z' z' e => nomatch e)
  rd_nil (fun z' z' i j => rd_cons i j) r d
theorem readsAll_of (vs : List V) (xs : List Value) (ds : List PyData) (r : RVs N h vs xs) : toDs vs = some ds → (∃ as, ReadsAll h xs ds as) ∧ PyData.canLayAll0 ds = true :=
 r.ind (P := fun vs xs => RdPs h vs xs) rd_nil (fun a j => rd_cons (fun d => reads_of _ _ d a) j) ds
end
set_option tactic.hygienic true in
theorem reads_res {hsh : HFn} {H : AH} {Sys : Addr → Prop} {h : Heap} (ho : HO hsh H Sys h) {v : V} {x : Value} {d : PyData} (r : RV (NN H Sys) h v x) (e : toD (resV H v) = some d) : (∃ as, Reads h x d as) ∧ d.canLay0 = true := by
 cases v with
 | ref a =>
  have e : toD (match H a with
   | some (.list vs) => .lst vs
   | _ => .ref a) = some d := e
  split at e
  ·rename_i vs hv
   cases r
   cases ho a _ hv with
   | list h1 h2 h3 => exact rd_lst h1 (fun ds => readsAll_of vs _ ds h3) d e
  ·cases e
 | _ => exact reads_of _ _ _ r e
section
variable {hsh : HFn} {prog : Program} {w : World} {A : Around} {E : Value → Shared → Prop} {s : Shared} {H : AH} {Sys : Addr → Prop} {mg mb : Str → Option Value} {d : Nat}
set_option tactic.hygienic true in
theorem prim_eq {u v : V} {a b : Value} {Q : Bool → Prop} {K : Value → Shared → Prop} (R : RmF d A) (ho : HO hsh H Sys s.heap) (hW : eqV H u v Q) (ra : RV (NN H Sys) s.heap u a) (rb : RV (NN H Sys) s.heap v b)
  (hK : ∀ r, Q r → K (.bool r) s) : wpAny (model prog w) A (compareOp .Eq a b) K E s := by
 unfold eqV at hW
 split at hW
 ·rename_i x y e1 e2
  obtain ⟨⟨as, r1⟩, c1⟩ := reads_res ho ra e1
  obtain ⟨⟨bs, r2⟩, c2⟩ := reads_res ho rb e2
  exact SeqAt.compareEq_reads r1 r2 c1 c2 (R.toRm.u (Nat.le_trans (Nat.min_le_left ..) (Nat.le_trans hW.1 (by decide)))) (hK _ hW.2)
 ·exact hW.elim
set_option tactic.hygienic true in
theorem prim_ne {u v : V} {a b : Value} {Q : Bool → Prop} {K : Value → Shared → Prop} (R : RmF d A) (ho : HO hsh H Sys s.heap) (hW : eqV H u v (fun r => Q (!r))) (ra : RV (NN H Sys) s.heap u a) (rb : RV (NN H Sys) s.heap v b)
  (hK : ∀ r, Q r → K (.bool r) s) : wpAny (model prog w) A (compareOp .NotEq a b) K E s := by
 unfold eqV at hW
 split at hW
 ·rename_i x y e1 e2
  obtain ⟨⟨as, r1⟩, c1⟩ := reads_res ho ra e1
  obtain ⟨⟨bs, r2⟩, c2⟩ := reads_res ho rb e2
  exact SeqAt.compareNe_reads r1 r2 c1 c2 (R.toRm.u (Nat.le_trans (Nat.min_le_left ..) (Nat.le_trans hW.1 (by decide)))) (hK _ hW.2)
 ·exact hW.elim
theorem none_val {N : Addr → Prop} {h : Heap} {v : V} {x : Value} {W : Prop} {P : Value → Prop} (hW : noneP v W) (r : RV N h v x) (k : W → P .none) : P x := by
 cases r with
 | none => exact k hW
 | _ => exact False.elim hW
theorem isNone_val {N : Addr → Prop} {h : Heap} {v : V} {x : Value} (r : RV N h v x) : (x == Value.none) = isNone v := by
 cases r <;> rfl
set_option tactic.hygienic true in
theorem prim_in {u v : V} {a b : Value} {Q : Bool → Prop} {K : Value → Shared → Prop} (R : RmF d A) (hH : hsh = wHash w) (ho : HO hsh H Sys s.heap) (hW : inV H u v Q) (ra : RV (NN H Sys) s.heap u a) (rb : RV (NN H Sys) s.heap v b)
  (hK : ∀ r s', Q r → Kp (FZ A Sys) s s' → K (.bool r) s') : wpAny (model prog w) A (compareOp .In a b) K E s ∧ (∀ K' : Value → Shared → Prop, (∀ r s', Q r → Kp (FZ A Sys) s s' → K' (.bool (!r)) s') → wpAny (model prog w) A (compareOp .NotIn a b) K' E s) := by
 cases v with
 | str y =>
  apply RV.elim rb; intro t o
  apply str_val hW ra; intro x t' o' hW
  exact ⟨PyProof.Rows.in_str (hK _ s hW (Kp.refl s)), fun K' h' => PyProof.Rows.notIn_str (h' _ s hW (Kp.refl s))⟩
 | lst vs =>
  apply RV.elim rb; intro b1 xs n h1 h2 h3 h4
  have hW : inL u vs Q := hW
  unfold inL at hW
  split at hW
  ·rename_i x ds e1 e2
   obtain ⟨⟨as, r1⟩, c1⟩ := reads_of _ _ _ ra e1
   obtain ⟨⟨bs, r2⟩, c2⟩ := readsAll_of _ _ _ h4 e2
   obtain ⟨he, e⟩ := in_any (A := A) r1 c1 r2 c2 (Nat.lt_of_le_of_lt (Nat.le_of_eq (Nat.add_assoc A.units 1 _)) (R.toRm.u (Nat.le_trans (Nat.add_le_add_left hW.1 1) (by decide))))
   rw [← e] at hW
   exact ⟨SeqAt.in_listAt _ (IsL.isList h2) he (hK _ s hW.2 (Kp.refl s)), fun K' h' => SeqAt.notIn_listAt _ (IsL.isList h2) he (h' _ s hW.2 (Kp.refl s))⟩
  ·exact hW.elim
 | tup vs =>
  apply RV.elim rb; intro b1 xs n h1 h2 h3 h4
  have hW : inL u vs Q := hW
  unfold inL at hW
  split at hW
  ·rename_i x ds e1 e2
   obtain ⟨⟨as, r1⟩, c1⟩ := reads_of _ _ _ ra e1
   obtain ⟨⟨bs, r2⟩, c2⟩ := readsAll_of _ _ _ h4 e2
   obtain ⟨he, e⟩ := in_any (A := A) r1 c1 r2 c2 (Nat.lt_of_le_of_lt (Nat.le_of_eq (Nat.add_assoc A.units 1 _)) (R.toRm.u (Nat.le_trans (Nat.add_le_add_left hW.1 1) (by decide))))
   rw [← e] at hW
   exact ⟨SeqAt.in_tupleAt _ (IsT.isTuple h2) he (hK _ s hW.2 (Kp.refl s)), fun K' h' => SeqAt.notIn_tupleAt _ (IsT.isTuple h2) he (h' _ s hW.2 (Kp.refl s))⟩
  ·exact hW.elim
 | ref b =>
  apply RV.elim rb
  have hW : dictP H (.ref b) fun z' kvs => keyP u fun ks => Q (dlook ks kvs).isSome := hW
  obtain ⟨b', kvs, e', hd, hW⟩ := dictP_inv hW
  cases e'
  obtain ⟨ks, hks, hV⟩ := keyP_inv hW
  subst hks
  obtain ⟨xs, D⟩ := dict_at (prog := prog) hH ho hd
  obtain ⟨ka, rfl, hka⟩ := key_at (prog := prog) (w := w) ra
  have e : (dlook ks kvs).isSome = (atKey xs ks).isSome := by
   rcases look_at ks D.vals D.keys with ⟨e1, e2⟩ | ⟨v, p, e1, e2, _⟩ <;> rw [e1, e2] <;> rfl
  rw [e] at hV
  exact ⟨in_dict (dRoom R) hka D.sm D.of (hK _ _ hV (Kp.tok _ _)), fun K' h' => notIn_dict (dRoom R) hka D.sm D.of (h' _ _ hV (Kp.tok _ _))⟩
 | _ => exact False.elim hW
theorem prim_cmp {op : Cop} {u v : V} {a b : Value} {Q : Bool → Prop} {K : Value → Shared → Prop} (R : RmF d A) (hH : hsh = wHash w) (ho : HO hsh H Sys s.heap) (hW : cmpV H op u v Q) (ra : RV (NN H Sys) s.heap u a) (rb : RV (NN H Sys) s.heap v b)
  (hK : ∀ r s', Q r → Kp (FZ A Sys) s s' → K (.bool r) s') : wpAny (model prog w) A (compareOp (copOf op) a b) K E s := by
 have hk0 : ∀ r, Q r → K (.bool r) s := fun r q => hK r s q (Kp.refl s)
 cases op with
 | eq => exact prim_eq R ho hW ra rb hk0
 | ne => exact prim_ne R ho hW ra rb hk0
 | lt =>
  apply int_val hW ra; intro i t hW
  apply int_val hW rb; intro j t' hW
  exact PyProof.Rows.lt_int (hk0 _ hW)
 | le =>
  apply int_val hW ra; intro i t hW
  apply int_val hW rb; intro j t' hW
  exact PyProof.Rows.le_int (hk0 _ hW)
 | gt =>
  apply int_val hW ra; intro i t hW
  apply int_val hW rb; intro j t' hW
  exact PyProof.Rows.gt_int (hk0 _ hW)
 | ge =>
  apply int_val hW ra; intro i t hW
  apply int_val hW rb; intro j t' hW
  exact PyProof.Rows.ge_int (hk0 _ hW)
 | is =>
  apply none_val hW rb; intro hW
  refine is_none ?_
  rw [isNone_val ra]; exact hk0 _ hW
 | isnot =>
  apply none_val hW rb; intro hW
  refine isNot_none ?_
  rw [isNone_val ra]; exact hk0 _ hW
 | isin => exact (prim_in R hH ho hW ra rb hK).1
 | notin => exact (prim_in (Q := fun r => Q (!r)) (K := fun z' z' => True) R hH ho hW ra rb fun z' z' z' z' => trivial).2 K fun r s' q k => by exact hK _ s' q k
end
section
variable {G : PG} {d : Nat} {c : Sc} {A : Around} {env : Env} {lay : Nat → Option Place} {Sys : Addr → Prop} {base : Heap} {st : St} {s : Shared}
noncomputable abbrev SCh (G : PG) (d : Nat) (c : Sc) (ch : Ch) (ops : List CmpOp) (rs : List Expr) : Prop :=
 ∀ {A : Around} {env : Env} {lay : Nat → Option Place} {Sys : Addr → Prop} {base : Heap} {st : St} {s : Shared}, Fx G d c A env lay Sys base st s →
  ∀ (u : V) (a : Value) (pos : Pos), RV (NN st.H Sys) s.heap u a → ∀ (Q : Bool → Prop) (X : String → Prop), WCh (G.cx d) ch st u Q X →
   (∀ (K E : Value → Shared → Prop), (∀ r s', Q r → Kp (FZ A Sys) s s' → K (.bool r) s') → (∀ e s', Rz G.mg A Sys s X e s' → E e s') → wpAny (model G.prog G.w) A (compareChain pos a ops (evalEach rs env)) K E s) ∧
   (∀ (K : Bool → Shared → Prop) (E : Value → Shared → Prop), (∀ r s', Q r → Kp (FZ A Sys) s s' → K r s') → (∀ e s', Rz G.mg A Sys s X e s' → E e s') → wpAny (model G.prog G.w) A (testChain pos a ops (evalEach rs env)) K E s)
theorem sch_one {op : Cop} {e : E} {x : Expr} (he : SE G d c e x) : SCh G d c (.one op e) [copOf op] [x] := by
 intro A env lay Sys base st s F u a pos ru Q X hW
 simp only [wch_0] at hW
 have key : ∀ (K E : Value → Shared → Prop), (∀ r s', Q r → Kp (FZ A Sys) s s' → K (.bool r) s') → (∀ e s', Rz G.mg A Sys s X e s' → E e s') →
   wpAny (model G.prog G.w) A (eval x env) (fun b s₁ => wpAny (model G.prog G.w) A (compareOp (copOf op) a b) K E s₁) E s := by
  intro K E hK hX
  refine (he F).weak _ X _ E hW (fun v b s₁ h₁ r₁ k₁ z' => ?_) hX
  exact prim_cmp (F.keeps k₁).rm rfl (F.keeps k₁).sim.objs h₁ (ru.kz k₁.hw) r₁ fun r s' q k => hK r s' q (k₁.trans k)
 refine ⟨fun K E hK hX => PyProof.Rows.chain_last (key K E hK hX), fun K E hK hX => ?_⟩
 exact PyProof.Rows.test_last (key (fun v s' => wpAny (model G.prog G.w) A (truthy v) K E s') E (fun r s' q k => wpAny_truthy_bool (hK r s' q k)) hX)
theorem sch_more {op : Cop} {e : E} {x x2 : Expr} {ch : Ch} {o2 : CmpOp} {ops : List CmpOp} {xs : List Expr} (he : SE G d c e x) (hc : SCh G d c ch (o2 :: ops) (x2 :: xs)) : SCh G d c (.more op e ch) (copOf op :: o2 :: ops) (x :: x2 :: xs) := by
 intro A env lay Sys base st s F u a pos ru Q X hW
 simp only [wch_1] at hW
 constructor
 ·intro K E hK hX
  refine PyProof.Rows.chain_link ((he F).weak _ X _ E hW (fun v b s₁ h₁ r₁ k₁ z' => ?_) hX)
  refine prim_cmp (F.keeps k₁).rm rfl (F.keeps k₁).sim.objs h₁ (ru.kz k₁.hw) r₁ fun r s₂ q k₂ => wpAny_truthy_bool ?_
  have k₁ := k₁.trans k₂
  cases r
  ·simp only [Bool.false_eq_true, if_false] at q ⊢; exact hK false s₂ q k₁
  ·simp only [if_true] at q ⊢
   exact (hc (F.keeps k₁) v b pos (r₁.kz k₂.hw) Q X q).1 K E (fun r s' q k => hK r s' q (k₁.trans k)) fun e s' q => hX e s' (Rz.trans k₁ q)
 ·intro K E hK hX
  refine PyProof.Rows.test_link ((he F).weak _ X _ E hW (fun v b s₁ h₁ r₁ k₁ z' => ?_) hX)
  refine prim_cmp (F.keeps k₁).rm rfl (F.keeps k₁).sim.objs h₁ (ru.kz k₁.hw) r₁ fun r s₂ q k₂ => wpAny_truthy_bool ?_
  have k₁ := k₁.trans k₂
  cases r
  ·simp only [Bool.false_eq_true, if_false] at q ⊢; exact hK false s₂ q k₁
  ·simp only [if_true] at q ⊢
   exact (hc (F.keeps k₁) v b pos (r₁.kz k₂.hw) Q X q).2 K E (fun r s' q k => hK r s' q (k₁.trans k)) fun e s' q => hX e s' (Rz.trans k₁ q)
end
end Mine
end
section
set_option autoImplicit false
namespace Mine
open PySem
section
variable {hsh : HFn} {prog : Program} {w : World} {A : Around} {E : Value → Shared → Prop} {s : Shared} {H : AH} {Sys : Addr → Prop} {mg mb : Str → Option Value} {d : Nat}
theorem idx_eq (n : Nat) (i : Int) : idx n i = seqIndex? i n := by
 unfold idx seqIndex?
 by_cases h : 0 ≤ i
 ·rw [if_pos h]
  have h' : ¬ i < 0 := by omega
  simp only [h', if_false]
  by_cases h2 : i < n
  ·simp [h, h2]
  ·simp [h2]
 ·rw [if_neg h]
  have h' : i < 0 := by omega
  simp only [h', if_true]
  by_cases h2 : 0 ≤ i + n
  ·have h3 : i + n < n := by omega
   simp [h2, h3]
  ·simp [h2]
theorem neg_le1 {n : Nat} {i : Int} (h : 0 ≤ i + n) : -(n : Int) ≤ i := by omega
theorem add_lt1 {n : Nat} {i : Int} (h : ¬ 0 ≤ i) : i + n < n := by omega
theorem idx_some {n k : Nat} {i : Int} (h : idx n i = some k) : k < n ∧ -(n : Int) ≤ i ∧ i < n ∧ (0 ≤ i → k = i.toNat) ∧ (i < 0 → k = (i + n).toNat) := by
 unfold idx at h
 have hn : (0 : Int) ≤ n := Int.natCast_nonneg n
 by_cases h0 : 0 ≤ i
 ·rw [if_pos h0] at h
  by_cases h1 : i < n
  ·rw [if_pos h1] at h; cases h
   exact ⟨(Int.toNat_lt h0).mpr h1, Int.le_trans (Int.neg_nonpos_of_nonneg hn) h0, h1, fun z' => rfl, fun q => absurd h0 (Int.not_le.mpr q)⟩
  ·rw [if_neg h1] at h; cases h
 ·rw [if_neg h0] at h
  by_cases h1 : 0 ≤ i + n
  ·rw [if_pos h1] at h; cases h
   exact ⟨(Int.toNat_lt h1).mpr (add_lt1 h0), neg_le1 h1, Int.lt_of_lt_of_le (Int.not_le.mp h0) hn, fun q => absurd q h0, fun z' => rfl⟩
  ·rw [if_neg h1] at h; cases h
theorem get_list {l : Addr} {xs : Array Value} {n k : Nat} {i : Int} {u : Tok} {x : Value} {K : Value → Shared → Prop} (hl : IsL s.heap l xs n) (hz : xs.size ≤ sizeLine) (hi : idx xs.size i = some k) (hx : xs[k]? = some x)
  (h : K x s) : wpAny (model prog w) A (getItem (.ref l) (.int i u)) K E s := by
 obtain ⟨h1, h2, h3, h4, h5⟩ := idx_some hi
 have hs : sizeLine = 16777216 := rfl
 by_cases h0 : 0 ≤ i
 ·exact wpAny_getItem_list hl.isList h0 (by omega) (by rw [← h4 h0]; exact hx) h
 ·exact wpAny_getItem_list_neg hl.isList (by omega) (by omega) (by omega) (by rw [← h5 (by omega)]; exact hx) h
inductive ItemAt (vs : List V) (i : Int) (Q : V → Prop) : Prop
 | mk (n r) : idx vs.length i = some n → vs[n]? = some r → Q r → ItemAt vs i Q
theorem item_of {vs : List V} {i : Int} {Q : V → Prop} (h : match idx vs.length i with
  | some n => (match vs[n]? with
   | some v => Q v
   | none => False)
  | none => False) : ItemAt vs i Q := by
 cases e : idx vs.length i with
 | none => rw [e] at h; exact False.elim h
 | some n =>
  rw [e] at h
  have h : (match vs[n]? with
   | some v => Q v
   | none => False) := h
  cases e' : vs[n]? with
  | none => rw [e'] at h; exact False.elim h
  | some v => rw [e'] at h; exact ⟨n, v, e, e', h⟩
theorem sub_lst {vs : List V} {v : V} {Q : V → Prop} (h : subV H (.lst vs) v Q) : intP v (ItemAt vs · Q) := by
 cases v with
 | int i => exact item_of h
 | _ => exact h
theorem sub_tup {vs : List V} {v : V} {Q : V → Prop} (h : subV H (.tup vs) v Q) : intP v (ItemAt vs · Q) := by
 cases v with
 | int i => exact item_of h
 | _ => exact h
theorem sub_str {x : Str} {v : V} {Q : V → Prop} (h : subV H (.str x) v Q) : intP v (fun i => ∃ n c, idx x.length i = some n ∧ x.cps.toList[n]? = some c ∧ Q (.str ⟨#[c]⟩)) := by
 cases v with
 | int i =>
  have h : (match idx x.length i with
   | some n => (match x.cps.toList[n]? with
    | some c => Q (.str ⟨#[c]⟩)
    | none => False)
   | none => False) := h
  cases e : idx x.length i with
  | none => rw [e] at h; exact False.elim h
  | some n =>
   rw [e] at h
   have h : (match x.cps.toList[n]? with
    | some c => Q (.str ⟨#[c]⟩)
    | none => False) := h
   cases e' : x.cps.toList[n]? with
   | none => rw [e'] at h; exact False.elim h
   | some v => rw [e'] at h; exact ⟨n, v, e, e', h⟩
 | _ => exact h
theorem sub_refE {a : Nat} {v : V} {Q : V → Prop} : subV H (.ref a) v Q = (match H a with
  | some (.dict kvs) => keyP v fun ks => (match dlook ks kvs with
   | some v => Q v
   | none => False)
  | some (.list vs) => (match v with
   | .int i => (match idx vs.length i with
    | some n => (match vs[n]? with
     | some v => Q v
     | none => False)
    | none => False)
   | _ => False)
  | _ => False) := rfl
theorem sub_ref {a : Nat} {v : V} {Q : V → Prop} (h : subV H (.ref a) v Q) : (∃ vs, H a = some (.list vs) ∧ intP v (ItemAt vs · Q)) ∨ ∃ kvs, H a = some (.dict kvs) ∧ keyP v fun ks => (match dlook ks kvs with
   | some v => Q v
   | none => False) := by
 rw [sub_refE] at h
 cases e : H a with
 | none => rw [e] at h; exact False.elim h
 | some o =>
  rw [e] at h
  cases o with
  | dict kvs => exact .inr ⟨_, rfl, h⟩
  | list vs => exact .inl ⟨_, rfl, by cases v with
   | int i => exact item_of h
   | _ => exact h⟩
  | inst => exact False.elim h
section
variable {value slice : Expr} {vs : List V} {v : V} {b : Value} {Q : V → Prop} {K : Value → Shared → Prop}
theorem sub_row {l : Addr} {xs : Array Value} {n : Nat} (hs : ∀ o i, subscripted slice false o i = operate [o, i] (getItem o i)) (h1 : IsL s.heap l xs n) (h2 : xs.size ≤ sizeLine) (h3 : RVs (NN H Sys) s.heap vs xs.toList) (hW : intP v (ItemAt vs · Q)) (rb : RV (NN H Sys) s.heap v b)
  (hK : ∀ r val s', Q r → RV (NN H Sys) s'.heap r val → Kp (FZ A Sys) s s' → K val s') : wpAny (model prog w) A (PyProof.Rows.subscriptTail value slice (.ref l) b) K E s := by
 apply int_val hW rb; intro i t hW
 obtain ⟨n, r, hn, hr, q⟩ := hW
 obtain ⟨x, e, rx⟩ := h3.get n hr
 exact PyProof.Rows.tail_any h1.isList.typeIs slot_list_getitem.lookup (get_list h1 h2 (h3.size ▸ hn) (by rw [← Array.getElem?_toList]; exact e) (hK _ _ _ q rx (Kp.refl s))) (hs _ _)
theorem prim_sub {u : V} {a : Value} (R : RmF d A) (hH : hsh = wHash w) (ho : HO hsh H Sys s.heap) (hp : plainX slice = true) (hW : subV H u v Q) (ra : RV (NN H Sys) s.heap u a) (rb : RV (NN H Sys) s.heap v b)
  (hK : ∀ r val s', Q r → RV (NN H Sys) s'.heap r val → Kp (FZ A Sys) s s' → K val s') : wpAny (model prog w) A (PyProof.Rows.subscriptTail value slice a b) K E s := by
 have hs : ∀ o i, subscripted slice false o i = operate [o, i] (getItem o i) := fun o i => by
  cases slice <;> first | rfl | exact ff hp
 cases u with
 | ref ad =>
  apply RV.elim ra
  rcases sub_ref hW with ⟨vs, hl, hW⟩ | ⟨kvs, hd, hW⟩
  ·cases ho _ _ hl with
   | list h1 h2 h3 => exact sub_row hs h1 h2 h3 hW rb hK
  ·skip
   obtain ⟨ks, hks, hV⟩ := keyP_inv hW
   subst hks
   obtain ⟨xs, D⟩ := dict_at (prog := prog) hH ho hd
   obtain ⟨ka, rfl, hka⟩ := key_at (prog := prog) (w := w) rb
   rcases look_at ks D.vals D.keys with ⟨e1, e2⟩ | ⟨v, p, e1, e2, rv⟩
   ·rw [e1] at hV; exact hV.elim
   ·rw [e1] at hV
    exact PyProof.Rows.tail_any D.of.typeIs slot_dict_getitem.lookup (wpAny_getItem_heap (dRoom R) hka D.of e2 (hK _ _ _ hV rv (Kp.tok _ _))) (hs _ _)
 | str x =>
  apply RV.elim ra; intro t hx
  apply int_val (sub_str hW) rb; intro i t' hW
  obtain ⟨n, cc, hn, hc, q⟩ := hW
  obtain ⟨h1, h2, h3, _⟩ := idx_some hn
  have hs' : x.length ≤ 16777216 := hx.1
  refine PyProof.Rows.tail_any (typeIs_str s x t) F.slot_str_getitem.lookup (PyProof.Rows.getItem_str (c := cc) ?_ ?_ (hK _ _ _ q (.str _ _ (hx.one (List.mem_of_getElem? hc))) (Kp.tok s _))) (hs _ _)
  ·simp only [Bool.or_eq_false_iff, decide_eq_false_iff_not]; omega
  ·rw [← idx_eq, hn]; simpa using hc
 | lst vs =>
  apply RV.elim ra; intro l xs n h0 h1 h2 h3
  exact sub_row hs h1 h2 h3 (sub_lst hW) rb hK
 | tup vs =>
  apply RV.elim ra; intro l xs m h0 h1 h2 h3
  apply int_val (sub_tup hW) rb; intro i t' hW
  obtain ⟨n, r, hn, hr, q⟩ := hW
  obtain ⟨x, e, rx⟩ := h3.get n hr
  rw [h3.size] at hn
  obtain ⟨a1, a2, a3, _⟩ := idx_some hn
  have hs' : xs.size ≤ 16777216 := h2
  exact PyProof.Rows.tail_any (IsT.isTup h1).typeIs F.slot_tuple_getitem.lookup (PyProof.Rows.getItem_tuple (IsT.isTup h1) (by omega) (by omega) (by rw [← idx_eq]; exact hn) (by simpa using e) (hK _ _ _ q rx (Kp.refl s))) (hs _ _)
 | _ => exact False.elim hW
end
theorem isi_list {t : Ty} {l : Addr} {xs : Array Value} {n : Nat} {b : Bool} {K : Value → Shared → Prop} (h1 : IsL s.heap l xs n) (hW : isV t (.lst []) = some b) (j0 : ∀ b', some b' = some b → K (.bool b') s) (j1 : ∀ b', some b' = some b → K (.bool b') { s with toks := s.toks + 1 }) :
  wpAny (model prog w) A (call (.builtin "isinstance") [.ref l, .type (tyName t)]) K E s := by
 have hl := IsL.isList h1
 have jx : ∀ {P : Prop}, (none : Option Bool) = some b → P := fun e => by cases e
 cases t with
 | int => exact IsiPair.isList_int hl (fun z' z' e => e) (j1 _ hW)
 | bool => exact IsiPair.isList_bool hl (fun z' z' e => e) (j1 _ hW)
 | str => exact IsiPair.isList_str hl (fun z' z' e => e) (j1 _ hW)
 | tuple => exact IsiPair.isList_tuple hl (fun z' z' e => e) (j1 _ hW)
 | list => exact IsiPair.isList_list hl (fun z' z' e => e) (j0 _ hW)
 | _ => exact jx hW
set_option tactic.hygienic true in
theorem prim_isi {t : Ty} {u : V} {a : Value} {b : Bool} {K : Value → Shared → Prop} (ho : HO hsh H Sys s.heap) (hW : isT H t u = some b) (ra : RV (NN H Sys) s.heap u a) (hK : ∀ s', Kp (FZ A Sys) s s' → K (.bool b) s') :
  wpAny (model prog w) A (call (.builtin "isinstance") [a, .type (tyName t)]) K E s := by
 have j0 : ∀ b', some b' = some b → K (.bool b') s := fun b' e => by cases e; exact hK s (Kp.refl s)
 have jx : ∀ {P : Prop}, (none : Option Bool) = some b → P := fun e => by cases e
 have j1 : ∀ b', some b' = some b → K (.bool b') { s with toks := s.toks + 1 } := fun b' e => by cases e; exact hK _ (Kp.tok s _)
 cases u with
 | none =>
  apply RV.elim ra
  cases t with
  | int => exact IsiPair.NoneType_int (j1 _ hW)
  | bool => exact IsiPair.NoneType_bool (j1 _ hW)
  | str => exact IsiPair.NoneType_str (j1 _ hW)
  | tuple => exact IsiPair.NoneType_tuple (j1 _ hW)
  | list => exact IsiPair.NoneType_list (j1 _ hW)
  | _ => exact jx hW
 | bool x =>
  apply RV.elim ra
  cases t with
  | int => exact IsiPair.bool_int (j0 _ hW)
  | bool => exact IsiPair.bool_bool (j0 _ hW)
  | str => exact IsiPair.bool_str (j1 _ hW)
  | tuple => exact IsiPair.bool_tuple (j1 _ hW)
  | list => exact IsiPair.bool_list (j1 _ hW)
  | _ => exact jx hW
 | int i =>
  apply RV.elim ra; intro tt
  cases t with
  | int => exact IsiPair.int_int (j0 _ hW)
  | bool => exact IsiPair.int_bool (j1 _ hW)
  | str => exact IsiPair.int_str (j1 _ hW)
  | tuple => exact IsiPair.int_tuple (j1 _ hW)
  | list => exact IsiPair.int_list (j1 _ hW)
  | _ => exact jx hW
 | str x =>
  apply RV.elim ra; intro tt hx
  cases t with
  | int => exact IsiPair.str_int (j1 _ hW)
  | bool => exact IsiPair.str_bool (j1 _ hW)
  | str => exact IsiPair.str_str (j0 _ hW)
  | tuple => exact IsiPair.str_tuple (j1 _ hW)
  | list => exact IsiPair.str_list (j1 _ hW)
  | _ => exact jx hW
 | tup vs =>
  apply RV.elim ra; intro l xs n h0 h1 h2 h3
  have hl := IsT.isTuple h1
  cases t with
  | int => exact IsiPair.isTuple_int hl (fun z' z' e => e) (j1 _ hW)
  | bool => exact IsiPair.isTuple_bool hl (fun z' z' e => e) (j1 _ hW)
  | str => exact IsiPair.isTuple_str hl (fun z' z' e => e) (j1 _ hW)
  | tuple => exact IsiPair.isTuple_tuple hl (fun z' z' e => e) (j0 _ hW)
  | list => exact IsiPair.isTuple_list hl (fun z' z' e => e) (j1 _ hW)
  | _ => exact jx hW
 | lst vs =>
  apply RV.elim ra; intro l xs n h0 h1 h2 h3
  refine isi_list h1 ?_ j0 j1
  cases t <;> exact hW
 | ref ad =>
  apply RV.elim ra
  have hW : (match H ad with
   | some (.list _) => isV t (.lst [])
   | _ => none) = some b := hW
  split at hW
  ·rename_i vs hv
   cases ho _ _ hv with
   | list h1 h2 h3 => exact isi_list h1 hW j0 j1
  ·cases hW
 | dct => cases ra
 | inst => exact jx (by cases t <;> exact hW)
 | iref => exact jx (by cases t <;> exact hW)
 | exc => exact jx (by cases t <;> exact hW)
theorem le_lim {n : Nat} (h : n ≤ sizeLine) : (n : Int) < 2 ^ 63 := Int.lt_of_le_of_lt (Int.ofNat_le.mpr h) (by decide)
set_option tactic.hygienic true in
theorem prim_len {u : V} {a : Value} {n : Nat} {K : Value → Shared → Prop} (ho : HO hsh H Sys s.heap) (hW : sizeV H u = some n) (ra : RV (NN H Sys) s.heap u a) (hK : ∀ t s', Kp (FZ A Sys) s s' → K (.int n t) s') :
  wpAny (model prog w) A (call (.builtin "len") [a]) K E s := by
 have j : ∀ {m : Nat}, some m = some n → ∀ t tk, K (.int m t) { s with toks := tk } := fun e t tk => by cases e; exact hK _ _ (Kp.tok s _)
 cases u with
 | str x =>
  apply RV.elim ra; intro t hx
  exact PyProof.Rows.len_str (Int.not_le.mpr (le_lim hx.1)) (j hW _ _)
 | tup vs =>
  apply RV.elim ra; intro l xs m h0 h1 h2 h3
  exact PyProof.Rows.len_tuple (IsT.isTup h1) (le_lim h2) (j (h3.size ▸ hW) _ _)
 | lst vs =>
  apply RV.elim ra; intro l xs m h0 h1 h2 h3
  exact Calls.call_len_list (IsL.isList h1) (le_lim h2) (j (h3.size ▸ hW) _ _)
 | ref ad =>
  apply RV.elim ra
  have hW : (match H ad with
   | some (.list vs) => some vs.length
   | _ => none) = some n := hW
  split at hW
  ·rename_i vs hv
   cases ho _ _ hv with
   | list h1 h2 h3 => exact Calls.call_len_list (IsL.isList h1) (le_lim h2) (j (h3.size ▸ hW) _ _)
  ·cases hW
 | _ => cases hW
end
end Mine
end
section
set_option autoImplicit false
namespace Mine
open PySem
theorem starEach_cons {x : Expr} {r : List Expr} {env : Env} (h : noStar x = true) : starEach (x :: r) env = (false, eval x env) :: starEach r env := by
 cases x <;> first | rfl | exact ff h
theorem star_plain (pos : Pos) (env : Env) : ∀ (xs : List Expr), xs.all noStar = true → (backTo pos (starEach xs env)).any (·.1) = false
 | [], _ => rfl
 | x :: r, h => by
  simp only [List.all_cons, Bool.and_eq_true] at h
  rw [starEach_cons h.1]
  have := star_plain pos env r h.2
  simpa [backTo] using this
noncomputable abbrev SEs (G : PG) (d : Nat) (c : Sc) (es : Es) (xs : List Expr) : Prop :=
 xs.all noStar = true ∧ ∀ {A : Around} {env : Env} {lay : Nat → Option Place} {Sys : Addr → Prop} {base : Heap} {st : St} {s : Shared}, Fx G d c A env lay Sys base st s →
  ∀ (pos : Pos) (Q : List V → Prop) (X : String → Prop) (K : List Value → Shared → Prop) (E : Value → Shared → Prop), WEs (G.cx d) es st Q X →
   (∀ vs vals s', Q vs → RVs (NN st.H Sys) s'.heap vs vals → Kp (FZ A Sys) s s' → K vals s') → (∀ e s', Rz G.mg A Sys s X e s' → E e s') →
   wpAny (model G.prog G.w) A (spliced (backTo pos (starEach xs env))) K E s
theorem ses_nil {G : PG} {d : Nat} {c : Sc} : SEs G d c .nil [] :=
 ⟨rfl, fun {A env lay Sys base st s} _ pos Q X K E hW hK _ => wpAny_items_nil (hK [] [] s (by simpa [wes_0, wes_1] using hW) .nil (Kp.refl s))⟩
theorem ses_cons {G : PG} {d : Nat} {c : Sc} {e : E} {es : Es} {x : Expr} {xs : List Expr} (hn : noStar x = true) (he : SE G d c e x) (hes : SEs G d c es xs) : SEs G d c (.cons e es) (x :: xs) := by
 refine ⟨by simp [hn, hes.1], fun {A env lay Sys base st s} F pos Q X K E hW hK hX => ?_⟩
 simp only [wes_1] at hW
 refine wpAny_items_cons ((he F).weak _ X _ E hW (fun v a s₁ h₁ r₁ k₁ z' => ?_) hX) (starEach_cons hn)
 exact hes.2 (F.keeps k₁) pos _ X _ E h₁ (fun vs vals s' q r k => hK (v :: vs) (a :: vals) s' q (.cons (r₁.kz k.hw) r) (k₁.trans k)) fun e s' q => hX e s' (Rz.trans k₁ q)
section
variable {G : PG} {d : Nat} {c : Sc} {A : Around} {env : Env} {lay : Nat → Option Place} {Sys : Addr → Prop} {base : Heap} {st : St} {s : Shared}
theorem se_list {es : Es} {xs : List Expr} {pos : Pos} (F : Fx G d c A env lay Sys base st s) (h : SEs G d c es xs) : Snd G.prog G.w G.mg A (NN st.H Sys) Sys s true (eval (.List xs pos) env) (WE (G.cx d) (.list es) st) := by
 intro Q X K E hW hK hX
 simp only [we_12, we_33] at hW
 refine wpAny_List (h.2 F pos _ X _ E hW (fun vs vals s₁ h₁ r₁ k₁ => ?_) hX)
 have F₁ := F.keeps k₁
 have hl := r₁.length
 refine ⟨by rw [← hl]; exact h₁.1, hK _ _ _ h₁.2 (new_lst F₁.sim.objs F₁.sim.live (by simpa using r₁) (by simpa [← hl] using h₁.1)) (k₁.trans (Kp.ofH (HK.push _ _))) fun z' => ?_⟩
 exact (Frsh.mk (s := s₁) (s' := { s₁ with heap := s₁.heap.push { cls := .type "list", data := .seq vals.toArray } }) (fresh_size _) (by simpa using r₁) (HK.push _ _) (IsL.new _ _) (by simpa [← hl] using h₁.1)).before k₁
theorem se_tup {es : Es} {xs : List Expr} {k : Nat} {pos : Pos} (F : Fx G d c A env lay Sys base st s) (h : SEs G d c es xs) : Snd G.prog G.w G.mg A (NN st.H Sys) Sys s false (eval (.Tuple xs k pos) env) (WE (G.cx d) (.tup es) st) := by
 intro Q X K E hW hK hX
 simp only [we_13] at hW
 refine wpAny_Tuple (h.2 F pos _ X _ E hW (fun vs vals s₁ h₁ r₁ k₁ => ?_) hX)
 have F₁ := F.keeps k₁
 have hl := r₁.length
 exact ⟨by rw [← hl]; exact h₁.1, hK _ _ _ h₁.2 (new_tup F₁.sim.objs F₁.sim.live (by simpa using r₁) (by simpa [← hl] using h₁.1)) (k₁.trans (Kp.ofH (HK.push _ _))) nofun⟩
theorem se_sub {a i : E} {y z : Expr} {pos : Pos} (F : Fx G d c A env lay Sys base st s) (ha : SE G d c a y) (hi : SE G d c i z) (hp : plainX z = true) :
  Snd G.prog G.w G.mg A (NN st.H Sys) Sys s false (eval (.Subscript y z pos) env) (WE (G.cx d) (.sub a i) st) := by
 intro Q X K E hW hK hX
 simp only [we_15] at hW
 refine PyProof.Rows.Subscript_ ((ha F).weak _ X _ E hW (fun u va s₁ h₁ r₁ k₁ z' => ?_) hX)
 refine (hi (F.keeps k₁)).weak _ X _ E h₁ (fun v vb s₂ h₂ r₂ k₂ z' => ?_) fun e s' q => hX e s' (Rz.trans k₁ q)
 exact prim_sub ((F.keeps k₁).keeps k₂).rm rfl ((F.keeps k₁).keeps k₂).sim.objs hp h₂ (r₁.kz k₂.hw) r₂ fun r val s' q rv k => hK r val s' q rv ((k₁.trans k₂).trans k) nofun
theorem ev_call_b {n : String} {y : Str} {p pos : Pos} {z : Expr} {xs : List Expr} {es : Es} {Q : List V → Prop} {X : String → Prop} {K E : Value → Shared → Prop} (F : Fx G d c A env lay Sys base st s) (hg : isGlob c y n = true) (hn : n ∈ bnames)
  (hv : bval n = .builtin n) (h : SEs G d c es (z :: xs)) (hW : WEs (G.cx d) es st Q X)
  (hK : ∀ vs vals s', Q vs → RVs (NN st.H Sys) s'.heap vs vals → Kp (FZ A Sys) s s' → wpAny (model G.prog G.w) A (call (.builtin n) vals) K E s') (hX : ∀ e s', Rz G.mg A Sys s X e s' → E e s') :
  wpAny (model G.prog G.w) A (eval (.Call (.Name y p) (z :: xs) [] pos) env) K E s := by
 rw [arm_eval_Call_Name']
 refine wpAny_bind (ld_bltn F hg hn ?_)
 rw [hv]
 refine Calls.callWith_builtin (star_plain pos env _ h.1) ?_
 have e : backTo pos (starEach (z :: xs) env) = (false, eval z env) :: backTo pos (starEach xs env) := by
  have := h.1
  simp only [List.all_cons, Bool.and_eq_true] at this
  rw [starEach_cons this.1]; rfl
 have hs := h.2 F pos Q X (fun vals s' => wpAny (model G.prog G.w) A (call (.builtin n) vals) K E s') E hW (fun vs vals s' q r k => hK vs vals s' q r k) hX
 rw [e] at hs ⊢
 exact Calls.evalArgs_plain hs
theorem ev_call_t {n : String} {y : Str} {p pos : Pos} {z : Expr} {xs : List Expr} {es : Es} {Q : List V → Prop} {X : String → Prop} {K E : Value → Shared → Prop} (F : Fx G d c A env lay Sys base st s) (hg : isGlob c y n = true) (hn : n ∈ bnames)
  (hv : bval n = .type n) (h : SEs G d c es (z :: xs)) (hW : WEs (G.cx d) es st Q X)
  (hK : ∀ vs vals s', Q vs → RVs (NN st.H Sys) s'.heap vs vals → Kp (FZ A Sys) s s' → wpAny (model G.prog G.w) A (call (.type n) vals) K E s') (hX : ∀ e s', Rz G.mg A Sys s X e s' → E e s') :
  wpAny (model G.prog G.w) A (eval (.Call (.Name y p) (z :: xs) [] pos) env) K E s := by
 rw [arm_eval_Call_Name']
 refine wpAny_bind (ld_bltn F hg hn ?_)
 rw [hv]
 refine callWith_type (star_plain pos env _ h.1) ?_
 have e : backTo pos (starEach (z :: xs) env) = (false, eval z env) :: backTo pos (starEach xs env) := by
  have := h.1
  simp only [List.all_cons, Bool.and_eq_true] at this
  rw [starEach_cons this.1]; rfl
 have hs := h.2 F pos Q X (fun vals s' => wpAny (model G.prog G.w) A (call (.type n) vals) K E s') E hW (fun vs vals s' q r k => hK vs vals s' q r k) hX
 rw [e] at hs ⊢
 exact Calls.evalArgs_plain hs
set_option tactic.hygienic true in
theorem se_len {a : E} {y : Str} {z : Expr} {p pos : Pos} (F : Fx G d c A env lay Sys base st s) (hg : isGlob c y "len" = true) (hz : noStar z = true) (ha : SE G d c a z) :
  Snd G.prog G.w G.mg A (NN st.H Sys) Sys s false (eval (.Call (.Name y p) [z] [] pos) env) (WE (G.cx d) (.len a) st) := by
 intro Q X K E hW hK hX
 simp only [we_2, we_19] at hW
 refine ev_call_b (es := .cons a .nil) (X := X) (Q := fun vs => ∃ u, vs = [u] ∧ match sizeV st.H u with | some n => Q (.int n) | none => False) F hg (by decide) rfl (ses_cons hz ha ses_nil) ?_ ?_ hX
 ·simp only [wes_0, wes_1, List.cons.injEq, and_true, exists_eq_left']; exact hW
 ·rintro vs vals s₁ ⟨u, rfl, h₁⟩ r k
  cases r with
  | cons r1 r2 =>
   cases r2
   split at h₁
   ·rename_i n hn
    exact prim_len (F.keeps k).sim.objs hn r1 fun t s' k' => hK _ _ _ h₁ (.int _ _) (k.trans k') nofun
   ·exact h₁.elim
set_option tactic.hygienic true in
theorem se_isi {a : E} {t : Ty} {y u : Str} {z : Expr} {p p' pos : Pos} (F : Fx G d c A env lay Sys base st s) (hg : isGlob c y "isinstance" = true) (hz : noStar z = true) (ha : SE G d c a z) (ht : isGlob c u (tyName t) = true) (htn : tyName t ∈ bnames) (htv : bval (tyName t) = .type (tyName t)) :
  Snd G.prog G.w G.mg A (NN st.H Sys) Sys s false (eval (.Call (.Name y p) [z, .Name u p'] [] pos) env) (WE (G.cx d) (.isinst a t) st) := by
 intro Q X K E hW hK hX
 simp only [we_1, we_18] at hW
 rw [arm_eval_Call_Name']
 refine wpAny_bind (ld_bltn F hg (by decide) ?_)
 show wpAny _ _ (callWith pos (.builtin "isinstance") [] _ _) _ _ _
 refine Calls.callWith_builtin (star_plain pos env [z, .Name u p'] (by rw [List.all_cons, hz]; rfl)) ?_
 have e : backTo pos (starEach [z, .Name u p'] env) = (false, eval z env) :: [(false, eval (.Name u p') env)] := by
  rw [starEach_cons hz]; rfl
 rw [e]
 refine Calls.evalArgs_plain (Calls.spliced_cons ((ha F).weak _ X _ E hW (fun v va s₁ h₁ r₁ k₁ z' => ?_) hX))
 refine Calls.spliced_cons (ld_bltn (F.keeps k₁) ht htn (Calls.spliced_nil ?_))
 rw [htv]
 split at h₁
 ·rename_i b hb
  exact prim_isi (F.keeps k₁).sim.objs hb r₁ fun s' k' => hK _ _ _ h₁ (.bool _) (k₁.trans k') nofun
 ·exact h₁.elim
noncomputable abbrev ST (G : PG) (d : Nat) (c : Sc) (e : E) (x : Expr) : Prop :=
 ∀ {A : Around} {env : Env} {lay : Nat → Option Place} {Sys : Addr → Prop} {base : Heap} {st : St} {s : Shared}, Fx G d c A env lay Sys base st s →
  ∀ (Q : Bool → Prop) (X : String → Prop) (K : Bool → Shared → Prop) (E : Value → Shared → Prop), WE (G.cx d) e st (fun u => match truthV st.H u with
   | some b => Q b
   | none => False) X → (∀ b s', Q b → Kp (FZ A Sys) s s' → K b s') → (∀ e s', Rz G.mg A Sys s X e s' → E e s') → wpAny (model G.prog G.w) A (isTrue x env (eval x env)) K E s
set_option tactic.hygienic true in
theorem st_of {e : E} {x : Expr} (he : SE G d c e x) (hx : ∀ (env : Env) (w : Sem Value), isTrue x env w = (do let v ← w; standAt x.pos; holding [v] (truthy v))) : ST G d c e x := by
 intro A env lay Sys base st s F Q X K E hW hK hX
 refine wpAny_isTrue_value ((he F).weak _ X _ E hW (fun u va s₁ h₁ r₁ k₁ z' => ?_) hX) (hx _ _)
 split at h₁
 ·rename_i b hb
  obtain rfl := truth_bool r₁ hb
  exact wpAny_truthy_bool (hK b s₁ h₁ k₁)
 ·exact h₁.elim
theorem WE_cg {C : Cx} {e : E} {st : St} {Q Q' : V → Prop} {X : String → Prop} (hW : WE C e st Q X) (h : ∀ v, Q v = Q' v) : WE C e st Q' X := by
 have : Q = Q' := funext h
 subst this; exact hW
theorem st_not {a : E} {y : Expr} {pos : Pos} (ha : ST G d c a y) : ST G d c (.not a) (.UnaryOp .Not y pos) := by
 intro A env lay Sys base st s F Q X K E hW hK hX
 simp only [we_8] at hW
 refine wpAny_isTrue_Not (ha F (fun b => Q (!b)) X _ E ?_ (fun b s' q k => hK _ s' q k) hX)
 refine WE_cg hW fun u => ?_
 cases truthV st.H u <;> rfl
theorem se_ite {t a b : E} {y z u : Expr} {pos : Pos} (F : Fx G d c A env lay Sys base st s) (ht : ST G d c t y) (ha : SE G d c a z) (hb : SE G d c b u) :
  Snd G.prog G.w G.mg A (NN st.H Sys) Sys s false (eval (.IfExp y z u pos) env) (WE (G.cx d) (.ite t a b) st) := by
 intro Q X K E hW hK hX
 simp only [we_11] at hW
 refine wpAny_IfExp (ht F (fun r => if r then WE (G.cx d) a st Q X else WE (G.cx d) b st Q X) X _ E ?_ (fun r s₁ q k => ?_) hX)
 ·refine WE_cg hW fun u => ?_
  cases truthV st.H u with
  | none => rfl
  | some r => cases r <;> rfl
 ·cases r
  ·simp only [Bool.false_eq_true, if_false] at q ⊢
   exact (hb (F.keeps k)).weak _ X _ E q (fun v val s' q' r' k' z' => hK v val s' q' r' (k.trans k') nofun) fun e s' q' => hX e s' (Rz.trans k q')
  ·simp only [if_true] at q ⊢
   exact (ha (F.keeps k)).weak _ X _ E q (fun v val s' q' r' k' z' => hK v val s' q' r' (k.trans k') nofun) fun e s' q' => hX e s' (Rz.trans k q')
theorem wpAny_AndN {M : Model} {E : Value → Shared → Prop} {x y : Expr} {r : List Expr} {pos : Pos} {Q : Value → Shared → Prop}
  (h : wpAny M A (eval x env) (fun v s₁ => wpAny M A (truthy v) (fun t s₂ => if t then wpAny M A (eval (.BoolOp .And (y :: r) pos) env) Q E s₂ else Q v s₂) E s₁) E s) :
  wpAny M A (eval (.BoolOp .And (x :: y :: r) pos) env) Q E s := by
 show wpAny M A (do
  let v ← eval x env
  standAt pos
  let t ← holding [v] (truthy v)
  match BoolOp.And, t with
  | .And, false | .Or, true => pure v
  | _, _ => boolOp pos .And (evalEach (y :: r) env)) Q E s
 refine wpAny_bind (wpAny_mono h (fun v s₁ h₁ => wpAny_bind (wpAny_standAt (wpAny_bind (wpAny_holding (wpAny_mono h₁ (fun t s₂ h₂ => ?_) fun z' z' x => x))))) fun z' z' x => x)
 cases t with
 | false => exact wpAny_pure h₂
 | true => exact h₂
theorem wpAny_OrN {M : Model} {E : Value → Shared → Prop} {x y : Expr} {r : List Expr} {pos : Pos} {Q : Value → Shared → Prop}
  (h : wpAny M A (eval x env) (fun v s₁ => wpAny M A (truthy v) (fun t s₂ => if t then Q v s₂ else wpAny M A (eval (.BoolOp .Or (y :: r) pos) env) Q E s₂) E s₁) E s) :
  wpAny M A (eval (.BoolOp .Or (x :: y :: r) pos) env) Q E s := by
 show wpAny M A (do
  let v ← eval x env
  standAt pos
  let t ← holding [v] (truthy v)
  match BoolOp.Or, t with
  | .And, false | .Or, true => pure v
  | _, _ => boolOp pos .Or (evalEach (y :: r) env)) Q E s
 refine wpAny_bind (wpAny_mono h (fun v s₁ h₁ => wpAny_bind (wpAny_standAt (wpAny_bind (wpAny_holding (wpAny_mono h₁ (fun t s₂ h₂ => ?_) fun z' z' x => x))))) fun z' z' x => x)
 cases t with
 | false => exact h₂
 | true => exact wpAny_pure h₂
set_option tactic.hygienic true in
theorem se_andN {a b : E} {x y : Expr} {r : List Expr} {pos : Pos} (F : Fx G d c A env lay Sys base st s) (ha : SE G d c a x) (hb : SE G d c b (.BoolOp .And (y :: r) pos)) :
  Snd G.prog G.w G.mg A (NN st.H Sys) Sys s false (eval (.BoolOp .And (x :: y :: r) pos) env) (WE (G.cx d) (.and a b) st) := by
 intro Q X K E hW hK hX
 simp only [we_9] at hW
 refine wpAny_AndN ((ha F).weak _ X _ E hW (fun u va s₁ h₁ r₁ k₁ z' => ?_) hX)
 split at h₁
 ·rename_i hb'
  obtain rfl := truth_bool r₁ hb'
  refine wpAny_truthy_bool ?_
  rw [if_pos rfl]
  exact (hb (F.keeps k₁)).weak _ X _ E h₁ (fun v val s' q r k z' => hK v val s' q r (k₁.trans k) nofun) fun e s' q => hX e s' (Rz.trans k₁ q)
 ·rename_i hb'
  obtain rfl := truth_bool r₁ hb'
  refine wpAny_truthy_bool ?_
  rw [if_neg (by simp)]
  exact hK _ _ _ h₁ r₁ k₁ nofun
 ·exact h₁.elim
set_option tactic.hygienic true in
theorem se_orN {a b : E} {x y : Expr} {r : List Expr} {pos : Pos} (F : Fx G d c A env lay Sys base st s) (ha : SE G d c a x) (hb : SE G d c b (.BoolOp .Or (y :: r) pos)) :
  Snd G.prog G.w G.mg A (NN st.H Sys) Sys s false (eval (.BoolOp .Or (x :: y :: r) pos) env) (WE (G.cx d) (.or a b) st) := by
 intro Q X K E hW hK hX
 simp only [we_10] at hW
 refine wpAny_OrN ((ha F).weak _ X _ E hW (fun u va s₁ h₁ r₁ k₁ z' => ?_) hX)
 split at h₁
 ·rename_i hb'
  obtain rfl := truth_bool r₁ hb'
  refine wpAny_truthy_bool ?_
  rw [if_pos rfl]
  exact hK _ _ _ h₁ r₁ k₁ nofun
 ·rename_i hb'
  obtain rfl := truth_bool r₁ hb'
  refine wpAny_truthy_bool ?_
  rw [if_neg (by simp)]
  exact (hb (F.keeps k₁)).weak _ X _ E h₁ (fun v val s' q r k z' => hK v val s' q r (k₁.trans k) nofun) fun e s' q => hX e s' (Rz.trans k₁ q)
 ·exact h₁.elim
theorem st_and {a b : E} {x y : Expr} {r : List Expr} {pos p' : Pos} (ha : ST G d c a x) (hb : ST G d c b (.BoolOp .And (y :: r) p')) : ST G d c (.and a b) (.BoolOp .And (x :: y :: r) pos) := by
 intro A env lay Sys base st s F Q X K E hW hK hX
 simp only [we_9] at hW
 have hW := WE_cg (Q' := fun u => match truthV st.H u with
   | some r => if r then WE (G.cx d) b st (fun u => match truthV st.H u with
    | some b => Q b
    | none => False) X else Q false
   | none => False) hW fun u => by
  cases e : truthV st.H u with
  | none => rfl
  | some r => cases r <;> simp only [e] <;> rfl
 refine wpAny_isTrue_BoolOp (wpAny_allTrue_And_cons (ha F _ X _ E hW (fun t s₁ q k => ?_) hX))
 cases t
 ·simp only [Bool.false_eq_true, if_false] at q ⊢; exact hK false s₁ q k
 ·simp only [if_true] at q ⊢
  have := hb (F.keeps k) Q X K E q (fun b s' q' k' => hK b s' q' (k.trans k')) fun e s' q' => hX e s' (Rz.trans k q')
  rw [arm_isTrue_BoolOp] at this
  exact this
theorem st_and2 {a b : E} {x y : Expr} {pos : Pos} (ha : ST G d c a x) (hb : ST G d c b y) : ST G d c (.and a b) (.BoolOp .And [x, y] pos) := by
 intro A env lay Sys base st s F Q X K E hW hK hX
 simp only [we_9] at hW
 have hW := WE_cg (Q' := fun u => match truthV st.H u with
   | some r => if r then WE (G.cx d) b st (fun u => match truthV st.H u with
    | some b => Q b
    | none => False) X else Q false
   | none => False) hW fun u => by
  cases e : truthV st.H u with
  | none => rfl
  | some r => cases r <;> simp only [e] <;> rfl
 refine wpAny_isTrue_BoolOp (wpAny_allTrue_And_cons (ha F _ X _ E hW (fun t s₁ q k => ?_) hX))
 cases t
 ·simp only [Bool.false_eq_true, if_false] at q ⊢; exact hK false s₁ q k
 ·simp only [if_true] at q ⊢
  refine wpAny_allTrue_And_cons (hb (F.keeps k) Q X _ E q (fun b s' q' k' => ?_) fun e s' q' => hX e s' (Rz.trans k q'))
  cases b
  ·exact hK false s' q' (k.trans k')
  ·exact wpAny_allTrue_And_nil (hK true s' q' (k.trans k'))
theorem st_or {a b : E} {x y : Expr} {r : List Expr} {pos p' : Pos} (ha : ST G d c a x) (hb : ST G d c b (.BoolOp .Or (y :: r) p')) : ST G d c (.or a b) (.BoolOp .Or (x :: y :: r) pos) := by
 intro A env lay Sys base st s F Q X K E hW hK hX
 simp only [we_10] at hW
 have hW := WE_cg (Q' := fun u => match truthV st.H u with
   | some r => if r then Q true else WE (G.cx d) b st (fun u => match truthV st.H u with
    | some b => Q b
    | none => False) X
   | none => False) hW fun u => by
  cases e : truthV st.H u with
  | none => rfl
  | some r => cases r <;> simp only [e] <;> rfl
 refine wpAny_isTrue_BoolOp (wpAny_allTrue_Or_cons (ha F _ X _ E hW (fun t s₁ q k => ?_) hX))
 cases t
 ·simp only [Bool.false_eq_true, if_false] at q ⊢
  have := hb (F.keeps k) Q X K E q (fun b s' q' k' => hK b s' q' (k.trans k')) fun e s' q' => hX e s' (Rz.trans k q')
  rw [arm_isTrue_BoolOp] at this
  exact this
 ·simp only [if_true] at q ⊢; exact hK true s₁ q k
theorem st_or2 {a b : E} {x y : Expr} {pos : Pos} (ha : ST G d c a x) (hb : ST G d c b y) : ST G d c (.or a b) (.BoolOp .Or [x, y] pos) := by
 intro A env lay Sys base st s F Q X K E hW hK hX
 simp only [we_10] at hW
 have hW := WE_cg (Q' := fun u => match truthV st.H u with
   | some r => if r then Q true else WE (G.cx d) b st (fun u => match truthV st.H u with
    | some b => Q b
    | none => False) X
   | none => False) hW fun u => by
  cases e : truthV st.H u with
  | none => rfl
  | some r => cases r <;> simp only [e] <;> rfl
 refine wpAny_isTrue_BoolOp (wpAny_allTrue_Or_cons (ha F _ X _ E hW (fun t s₁ q k => ?_) hX))
 cases t
 ·simp only [Bool.false_eq_true, if_false] at q ⊢
  refine wpAny_allTrue_Or_cons (hb (F.keeps k) Q X _ E q (fun b s' q' k' => ?_) fun e s' q' => hX e s' (Rz.trans k q'))
  cases b
  ·exact wpAny_allTrue_Or_nil (hK false s' q' (k.trans k'))
  ·exact hK true s' q' (k.trans k')
 ·simp only [if_true] at q ⊢; exact hK true s₁ q k
theorem cmp_eval {l : Expr} {ops : List CmpOp} {rs : List Expr} {pos : Pos} (hm : lastMarks ops rs = false) : eval (.Compare l ops rs pos) env = (do compareChain pos (← eval l env) ops (evalEach rs env)) := by
 show (do compareChain pos (← eval l env) ops (markedEach ops rs (evalEach rs env))) = _
 rw [PyProof.Rows.markedEach_of_false _ _ _ hm]
theorem cmp_test {l : Expr} {ops : List CmpOp} {rs : List Expr} {pos : Pos} {w : Sem Value} (hm : lastMarks ops rs = false) : isTrue (.Compare l ops rs pos) env w = (do testChain pos (← eval l env) ops (evalEach rs env)) := by
 show (do testChain pos (← eval l env) ops (markedEach ops rs (evalEach rs env))) = _
 rw [PyProof.Rows.markedEach_of_false _ _ _ hm]
theorem se_cmp {a : E} {ch : Ch} {l : Expr} {ops : List CmpOp} {rs : List Expr} {pos : Pos} (F : Fx G d c A env lay Sys base st s) (ha : SE G d c a l) (hc : SCh G d c ch ops rs) (hm : lastMarks ops rs = false) :
  Snd G.prog G.w G.mg A (NN st.H Sys) Sys s false (eval (.Compare l ops rs pos) env) (WE (G.cx d) (.cmp a ch) st) := by
 intro Q X K E hW hK hX
 simp only [we_1, we_14] at hW
 rw [cmp_eval hm]
 refine wpAny_bind ((ha F).weak _ X _ E hW (fun u va s₁ h₁ r₁ k₁ z' => ?_) hX)
 exact (hc (F.keeps k₁) u va pos r₁ _ X h₁).1 K E (fun r s' q k => hK _ _ _ q (.bool _) (k₁.trans k) nofun) fun e s' q => hX e s' (Rz.trans k₁ q)
theorem st_cmp {a : E} {ch : Ch} {l : Expr} {ops : List CmpOp} {rs : List Expr} {pos : Pos} (ha : SE G d c a l) (hc : SCh G d c ch ops rs) (hm : lastMarks ops rs = false) : ST G d c (.cmp a ch) (.Compare l ops rs pos) := by
 intro A env lay Sys base st s F Q X K E hW hK hX
 simp only [we_14] at hW
 rw [cmp_test hm]
 refine wpAny_bind ((ha F).weak _ X _ E hW (fun u va s₁ h₁ r₁ k₁ z' => ?_) hX)
 exact (hc (F.keeps k₁) u va pos r₁ _ X h₁).2 K E (fun r s' q k => hK _ _ q (k₁.trans k)) fun e s' q => hX e s' (Rz.trans k₁ q)
end
end Mine
end
section
set_option autoImplicit false
namespace Mine
open PySem
structure WK (prog : Program) (w : World) (A : Around) (I : Addr) (fp wr : List Addr) (nw : Bool) (n : Nat) (P Mi : Nat → Value → Heap → Prop) (Si : Nat → Heap → Prop) : Prop where
 sub : ∀ b ∈ wr, b ∈ fp
 ex : ∀ i h, Si i h → ∀ b ∈ wr, h.get? b ≠ none
 frame : ∀ i h h', Si i h → (∀ b ∈ fp, ∀ o, h.get? b = some o → h'.get? b = some o) → Si i h'
 item : ∀ i (s : Shared) (Q : Option Value → Shared → Prop) (E : Value → Shared → Prop), i < n → Si i s.heap →
  (∀ v h' tk, Mi i v h' → (nw = true → ∀ t, v = .ref t → s.heap.get? t = none) → (∀ b o, b ∉ wr → s.heap.get? b = some o → h'.get? b = some o) → Q (some v) { s with heap := h', toks := tk }) → wpAny (model prog w) A (pyNext (.ref I)) Q E s
 done : ∀ (s : Shared) (Q : Option Value → Shared → Prop) (E : Value → Shared → Prop), Hq A s.heap → (∀ y, A.handled = some (.ref y) → y ∉ wr) → Si n s.heap →
  (∀ h' tk, (∀ b o, b ∉ wr → s.heap.get? b = some o → h'.get? b = some o) → Q none { s with heap := h', toks := tk }) → wpAny (model prog w) A (pyNext (.ref I)) Q E s
 own : ∀ i (s : Shared) (v : Value) (t : Expr) (Q : Unit → Shared → Prop) (E : Value → Shared → Prop), Mi i v s.heap → (nw = true → isTupX t = true) →
  (∀ h', Si (i + 1) h' → P i v h' → (∀ b o, b ∉ wr → s.heap.get? b = some o → h'.get? b = some o) → Q () { s with heap := h' }) → wpAny (model prog w) A (letOwnedTupleGo t (.ref I) v) Q E s
 self : ∀ i (s : Shared) (Q : Value → Shared → Prop) (E : Value → Shared → Prop), Si i s.heap → Q (.ref I) s → wpAny (model prog w) A (pyIter (.ref I)) Q E s
theorem own_plain {prog : Program} {w : World} {A : Around} {I : Addr} {s : Shared} {v : Value} {t : Expr} {T : String} {Q : Unit → Shared → Prop} {E : Value → Shared → Prop} (hI : ∃ o, s.heap.get? I = some o ∧ o.cls = .type T)
  (hT : ["enumerate", "zip", "dict_itemiterator", "dict_reverseitemiterator", "odict_iterator", "itertools.zip_longest", "itertools.pairwise"].contains T = false) (h : Q () s) : wpAny (model prog w) A (letOwnedTupleGo t (.ref I) v) Q E s := by
 obtain ⟨o, ho, hc⟩ := hI
 have key : wpAny (model prog w) A (match (Value.ref I, v) with
  | (.ref r, .ref a) => (do
   let o ← load r
   match o.cls, o.data with
   | .type n, .fields vs =>
    if ["enumerate", "zip", "dict_itemiterator", "dict_reverseitemiterator", "odict_iterator", "itertools.zip_longest", "itertools.pairwise"].contains n && vs[0]? == some (rawInt a) then
     rule "for.unpacks-the-owned-tuple"
     updateField r 0 .none
   | _, _ => pure () : Sem Unit)
  | _ => pure ()) Q E s := by
  cases v with
  | ref a =>
   refine wpAny_bind (wpAny_load ho ?_)
   rw [hc]
   cases o.data <;> first
    | exact wpAny_pure h
    | (dsimp only; rw [if_neg (by rw [hT]; simp)]; exact wpAny_pure h)
  | _ => exact wpAny_pure h
 unfold letOwnedTupleGo
 cases t <;> first
  | exact wpAny_pure h
  | exact key
theorem WK.of {prog : Program} {w : World} {A : Around} {I : Addr} {fp : List Addr} {n : Nat} {P : Nat → Value → Prop} {Si : Nat → Heap → Prop} {T : String} (hI0 : I ∈ fp)
  (frame : ∀ i h h', Si i h → (∀ b ∈ fp, ∀ o, h.get? b = some o → h'.get? b = some o) → Si i h')
  (item : ∀ i (s : Shared) (Q : Option Value → Shared → Prop) (E : Value → Shared → Prop), i < n → Si i s.heap → (∀ v h' tk, P i v → Si (i + 1) h' → Heap.SameBut I s.heap h' → Q (some v) { s with heap := h', toks := tk }) → wpAny (model prog w) A (pyNext (.ref I)) Q E s)
  (done : ∀ (s : Shared) (Q : Option Value → Shared → Prop) (E : Value → Shared → Prop), Hq A s.heap → (∀ y, A.handled = some (.ref y) → y ≠ I) → Si n s.heap → (∀ h', Heap.ExtBut I s.heap h' → Q none { s with heap := h' }) → wpAny (model prog w) A (pyNext (.ref I)) Q E s)
  (self : ∀ i (s : Shared) (Q : Value → Shared → Prop) (E : Value → Shared → Prop), Si i s.heap → Q (.ref I) s → wpAny (model prog w) A (pyIter (.ref I)) Q E s)
  (hT : ["enumerate", "zip", "dict_itemiterator", "dict_reverseitemiterator", "odict_iterator", "itertools.zip_longest", "itertools.pairwise"].contains T = false) (hI : ∀ i h, Si i h → ∃ o, h.get? I = some o ∧ o.cls = .type T) :
  WK prog w A I fp [I] false n (fun i v z' => P i v) (fun i v h => P i v ∧ Si (i + 1) h) Si where
 sub := fun b hb => List.mem_singleton.mp hb ▸ hI0
 ex := fun i h hs b hb e => by
  obtain rfl := List.mem_singleton.mp hb
  obtain ⟨o, ho, _⟩ := hI i h hs
  rw [ho] at e; cases e
 frame := frame
 item := fun i s Q E hi hs hQ => item i s Q E hi hs fun v h' tk hp hs' hk => hQ v h' tk ⟨hp, hs'⟩ nofun fun b o hb e => hk.extBut b o (fun q => hb (q ▸ List.mem_singleton.mpr rfl)) e
 done := fun s Q E h1 h2 hs hQ => done s Q E h1 (fun y hy q => h2 y hy (q ▸ List.mem_singleton.mpr rfl)) hs fun h' hk => hQ h' s.toks fun b o hb e => hk b o (fun q => hb (q ▸ List.mem_singleton.mpr rfl)) e
 own := fun i s v t Q E hs z' hQ => own_plain (hI _ _ hs.2) hT (hQ s.heap hs.2 hs.1 fun z' z' z' e => e)
 self := self
section
variable {prog : Program} {w : World} {A : Around}
theorem wk_list (I ax : Addr) (hne : ax ≠ I) (items : Array Value) : WK prog w A I [I, ax] [I] false items.size (fun i v z' => items[i]? = some v) (fun i v h => items[i]? = some v ∧ (h.IsListIter I ax (i + 1) ∧ h.IsList ax items)) (fun i h => h.IsListIter I ax i ∧ h.IsList ax items) :=
 WK.of (P := fun i v => items[i]? = some v) (Si := fun i h => h.IsListIter I ax i ∧ h.IsList ax items) (T := "list_iterator") (List.mem_cons_self ..) (fun z' z' z' st hk => ⟨st.1.at fun o e => hk I (List.mem_cons_self ..) o e, st.2.at fun o e => hk ax (List.mem_cons_of_mem _ (List.mem_cons_self ..)) o e⟩)
  (fun i s Q E hi st hQ => wpAny_pyNext_list_item st.1 st.2 (x := items[i]) (Array.getElem?_eq_getElem hi) fun h' hit' hs' => hQ _ h' s.toks (Array.getElem?_eq_getElem hi) ⟨hit', st.2.extBut hs'.extBut hne⟩ hs')
  (fun s Q E h1 h2 st hQ => list_end h1 h2 st.1 st.2 (Array.getElem?_eq_none (Nat.le_refl _)) hQ) (fun z' z' z' z' st hQ => wpAny_pyIter_listiter st.1 hQ) (by decide) (fun i h q => ⟨_, q.1.choose_spec.1, q.1.choose_spec.2.1⟩)
theorem wk_tuple (I ax : Addr) (hne : ax ≠ I) (items : Array Value) : WK prog w A I [I, ax] [I] false items.size (fun i v z' => items[i]? = some v) (fun i v h => items[i]? = some v ∧ (h.IsTupleIter I ax (i + 1) ∧ h.IsTuple ax items)) (fun i h => h.IsTupleIter I ax i ∧ h.IsTuple ax items) :=
 WK.of (P := fun i v => items[i]? = some v) (Si := fun i h => h.IsTupleIter I ax i ∧ h.IsTuple ax items) (T := "tuple_iterator") (List.mem_cons_self ..) (fun z' z' z' st hk => ⟨st.1.at fun o e => hk I (List.mem_cons_self ..) o e, st.2.at fun o e => hk ax (List.mem_cons_of_mem _ (List.mem_cons_self ..)) o e⟩)
  (fun i s Q E hi st hQ => wpAny_pyNext_tuple_item st.1 st.2 (x := items[i]) (Array.getElem?_eq_getElem hi) fun h' hit' hs' => hQ _ h' s.toks (Array.getElem?_eq_getElem hi) ⟨hit', st.2.extBut hs'.extBut hne⟩ hs')
  (fun s Q E h1 h2 st hQ => tuple_end h1 h2 st.1 st.2 (Array.getElem?_eq_none (Nat.le_refl _)) hQ) (fun z' z' z' z' st hQ => wpAny_pyIter_tupleiter st.1 hQ) (by decide) (fun i h q => ⟨_, q.1.choose_spec.1, q.1.choose_spec.2.1⟩)
theorem wk_ascii (I : Addr) (x : Str) (t : Tok) : WK prog w A I [I] [I] false x.cps.size (fun i v z' => SignAt x i v) (fun i v h => SignAt x i v ∧ h.IsStrIter I "str_ascii_iterator" x t (i + 1)) (fun i h => h.IsStrIter I "str_ascii_iterator" x t i) :=
 WK.of (P := SignAt x) (Si := fun i h => h.IsStrIter I "str_ascii_iterator" x t i) (T := "str_ascii_iterator") (List.mem_cons_self ..) (fun z' z' z' st hk => let ⟨o, ho, r⟩ := st; ⟨o, hk I (List.mem_cons_self ..) o ho, r⟩)
  (fun i s Q E hi st hQ => wpAny_pyNext_ascii_item st (c := x.cps[i]) (Array.getElem?_eq_getElem hi) fun h' hit' hs' => hQ _ h' (s.toks + 1) ⟨_, _, Array.getElem?_eq_getElem hi, rfl⟩ hit' hs')
  (fun s Q E h1 h2 st hQ => ascii_end h1 h2 st (Array.getElem?_eq_none (Nat.le_refl _)) hQ) (fun z' z' z' z' st hQ => wpAny_pyIter_striter_ascii st hQ) (by decide) (fun i h q => ⟨_, q.choose_spec.1, q.choose_spec.2.1⟩)
theorem wk_wide (I : Addr) (x : Str) (t : Tok) : WK prog w A I [I] [I] false x.cps.size (fun i v z' => SignAt x i v) (fun i v h => SignAt x i v ∧ h.IsStrIter I "str_iterator" x t (i + 1)) (fun i h => h.IsStrIter I "str_iterator" x t i) :=
 WK.of (P := SignAt x) (Si := fun i h => h.IsStrIter I "str_iterator" x t i) (T := "str_iterator") (List.mem_cons_self ..) (fun z' z' z' st hk => let ⟨o, ho, r⟩ := st; ⟨o, hk I (List.mem_cons_self ..) o ho, r⟩)
  (fun i s Q E hi st hQ => wpAny_pyNext_wide_item st (c := x.cps[i]) (Array.getElem?_eq_getElem hi) fun h' hit' hs' => hQ _ h' (s.toks + 1) ⟨_, _, Array.getElem?_eq_getElem hi, rfl⟩ hit' hs')
  (fun s Q E h1 h2 st hQ => wide_end h1 h2 st (Array.getElem?_eq_none (Nat.le_refl _)) hQ) (fun z' z' z' z' st hQ => wpAny_pyIter_striter_wide st hQ) (by decide) (fun i h q => ⟨_, q.choose_spec.1, q.choose_spec.2.1⟩)
theorem wk_range (I : Addr) (a c : Int) (n : Nat) : WK prog w A I [I] [I] false n (fun i v z' => ∃ t, v = .int (a + i * c) t) (fun i v h => (∃ t, v = .int (a + i * c) t) ∧ IsRangeIter h I (a + ((i + 1 : Nat) : Int) * c) ((n : Int) - ((i + 1 : Nat) : Int)) c) (fun i h => IsRangeIter h I (a + (i : Nat) * c) ((n : Int) - (i : Nat)) c) :=
 WK.of (P := fun i v => ∃ t, v = .int (a + i * c) t) (Si := fun i h => IsRangeIter h I (a + (i : Nat) * c) ((n : Int) - (i : Nat)) c) (T := "range_iterator") (List.mem_cons_self ..) (fun z' z' z' st hk => hk I (List.mem_cons_self ..) _ st)
  (fun i s Q E hi st hQ => wpAny_pyNext_range_item st (by omega) fun h' hit' hs' => hQ _ h' _ ⟨_, rfl⟩ (by
   have e1 : a + ((i + 1 : Nat) : Int) * c = a + (i : Int) * c + c := by push_cast; rw [Int.add_mul, Int.one_mul, Int.add_assoc]
   have e2 : (n : Int) - ((i + 1 : Nat) : Int) = (n : Int) - (i : Int) - 1 := by push_cast; omega
   rw [e1, e2]; exact hit') hs')
  (fun s Q E h1 z' st hQ => range_end h1 st (by omega) hQ) (fun z' z' z' z' st hQ => wpAny_pyIter_rangeiter st hQ) (by decide) (fun i h q => ⟨_, q, rfl⟩)
end
inductive ItOk (G : PG) (A : Around) (H : AH) (Sys : Addr → Prop) (s s' : Shared) (vs : List V) (ds : List Nat) (I : Addr) (nw : Bool) : Prop
 | mk (fp wr : List Addr) (P Mi : Nat → Value → Heap → Prop) (Si : Nat → Heap → Prop) (h1 : WK G.prog G.w A I fp wr nw vs.length P Mi Si) (h2 : Si 0 s'.heap) (h3 : ∀ b ∈ wr, s.heap.get? b = none) (h4 : ∀ b ∈ fp, ∃ o, s'.heap.get? b = some o)
  (h5 : ∀ b ∈ fp, b ∉ wr → (¬ NN H Sys b ∨ (b ∈ ds ∧ H b ≠ none)))
  (h6 : ∀ i v val h, vs[i]? = some v → P i val h → match nw with
   | false => RV (NN H (fun a => Sys a ∨ a ∈ wr)) s'.heap v val
   | true => ∃ t xs n ws, v = .tup ws ∧ val = .ref t ∧ IsT h t xs n ∧ xs.size ≤ sizeLine ∧ RVs (NN H (fun a => Sys a ∨ a ∈ wr)) s'.heap ws xs.toList) : ItOk G A H Sys s s' vs ds I nw
theorem all_cons {α : Type} {p : α → Prop} {a : α} {l : List α} (h : p a) (t : ∀ x ∈ l, p x) : ∀ x ∈ a :: l, p x := List.forall_mem_cons.mpr ⟨h, t⟩
theorem all_nil {α : Type} {p : α → Prop} : ∀ x ∈ ([] : List α), p x := fun z' h => nomatch h
section
variable {G : PG} {A : Around} {H : AH} {Sys : Addr → Prop} {s s' : Shared} {vs : List V} {ds : List Nat} {I : Addr} {P Mi : Nat → Value → Heap → Prop} {Si : Nat → Heap → Prop}
theorem ItOk.one (h1 : WK G.prog G.w A I [I] [I] false vs.length P Mi Si) (h2 : Si 0 s'.heap) (h3 : s.heap.get? I = none) (h4 : ∃ o, s'.heap.get? I = some o) (h6 : ∀ i v val h, vs[i]? = some v → P i val h → RV (NN H (fun a => Sys a ∨ a ∈ [I])) s'.heap v val) : ItOk G A H Sys s s' vs ds I false :=
 ⟨_, _, _, _, _, h1, h2, all_cons h3 all_nil, all_cons h4 all_nil, fun z' hb hw => absurd hb hw, h6⟩
theorem ItOk.two {a : Addr} (h1 : WK G.prog G.w A I [I, a] [I] false vs.length P Mi Si) (h2 : Si 0 s'.heap) (h3 : s.heap.get? I = none) (h4 : ∃ o, s'.heap.get? I = some o) (h4' : ∃ o, s'.heap.get? a = some o) (h5 : ¬ NN H Sys a ∨ (a ∈ ds ∧ H a ≠ none)) (h6 : ∀ i v val h, vs[i]? = some v → P i val h → RV (NN H (fun a => Sys a ∨ a ∈ [I])) s'.heap v val) : ItOk G A H Sys s s' vs ds I false :=
 ⟨_, _, _, _, _, h1, h2, all_cons h3 all_nil, all_cons h4 (all_cons h4' all_nil), all_cons (fun w => absurd (List.mem_cons_self ..) w) (all_cons (fun z' => h5) all_nil), h6⟩
end
noncomputable abbrev SI (G : PG) (d : Nat) (c : Sc) (it : It) (x : Expr) : Prop :=
 ∀ {A : Around} {env : Env} {lay : Nat → Option Place} {Sys : Addr → Prop} {base : Heap} {st : St} {s : Shared}, Fx G d c A env lay Sys base st s →
  ∀ (Q : List V → List Nat → Prop) (X : String → Prop) (K : Value → Shared → Prop) (E : Value → Shared → Prop), WI (G.cx d) it st Q X →
   (∀ vs ds I s', Q vs ds → Kp (FZ A Sys) s s' → ItOk G A st.H Sys s s' vs ds I (isEZ it) → K (.ref I) s') → (∀ e s', Rz G.mg A Sys s X e s' → E e s') →
   wpAny (model G.prog G.w) A (eval x env) (fun v s₁ => wpAny (model G.prog G.w) A (pyIter v) K E s₁) E s
section
variable {G : PG} {d : Nat} {c : Sc} {A : Around} {env : Env} {lay : Nat → Option Place} {Sys : Addr → Prop} {base : Heap} {st : St} {s : Shared} {H : AH}
theorem NN.more {wr : List Addr} {b : Addr} (h : NN H (fun a => Sys a ∨ a ∈ wr) b) : NN H Sys b ∨ b ∈ wr := by
 rcases h with h | h | h
 ·exact .inl (.inl h)
 ·exact .inl (.inr h)
 ·exact .inr h
theorem item_rv {Sys : Addr → Prop} {I : Addr} {h₀ h₁ : Heap} {vs : List V} {xs : List Value} (r : RVs (NN H Sys) h₀ vs xs) (hI : h₀.get? I = none) (k : HK h₀ h₁) {i : Nat} {v : V} {val : Value} (hv : vs[i]? = some v) (hx : xs[i]? = some val) : RV (NN H (fun a => Sys a ∨ a ∈ [I])) h₁ v val := by
 obtain ⟨x, e, rx⟩ := r.get i hv
 rw [hx] at e; cases e
 refine rx.gen (fun b q => ?_) fun b o nb e => k b o e
 rcases NN.more q with q | q
 ·exact .inl q
 ·rw [List.mem_singleton.mp q]; exact .inr hI
theorem it_list {a : Addr} {xs : Array Value} {n : Nat} {vs : List V} {ds : List Nat} {K E : Value → Shared → Prop} (F : Fx G d c A env lay Sys base st s) (hl : IsL s.heap a xs n) (r : RVs (NN st.H Sys) s.heap vs xs.toList)
  (hd : ¬ NN st.H Sys a ∨ (a ∈ ds ∧ st.H a ≠ none)) (hK : ∀ I s', Kp (FZ A Sys) s s' → ItOk G A st.H Sys s s' vs ds I false → K (.ref I) s') : wpAny (model G.prog G.w) A (pyIter (.ref a)) K E s := by
 have hne : a ≠ s.heap.objs.size := Nat.ne_of_lt (Heap.lt_size hl)
 have hsz := r.size
 exact wpAny_pyIter_list hl.isList (hK _ _ (Kp.ofH (HK.push _ _)) (.two (hsz ▸ wk_list s.heap.objs.size a hne xs) ⟨⟨_, Heap.get?_push_size _ rfl, rfl, rfl⟩, ⟨_, Heap.get?_push_of_some _ hl, rfl, _, rfl⟩⟩ (fresh_size _) ⟨_, Heap.get?_push_size _ rfl⟩ ⟨_, Heap.get?_push_of_some _ hl⟩ hd fun i v val h hv hp => item_rv r (fresh_size _) (HK.push _ _) hv (Array.getElem?_toList.trans hp)))
theorem it_tup {a : Addr} {xs : Array Value} {n : Nat} {vs : List V} {ds : List Nat} {K E : Value → Shared → Prop} (F : Fx G d c A env lay Sys base st s) (hl : IsT s.heap a xs n) (r : RVs (NN st.H Sys) s.heap vs xs.toList)
  (hd : ¬ NN st.H Sys a ∨ (a ∈ ds ∧ st.H a ≠ none)) (hK : ∀ I s', Kp (FZ A Sys) s s' → ItOk G A st.H Sys s s' vs ds I false → K (.ref I) s') : wpAny (model G.prog G.w) A (pyIter (.ref a)) K E s := by
 have hne : a ≠ s.heap.objs.size := Nat.ne_of_lt (Heap.lt_size hl)
 have hsz := r.size
 exact wpAny_pyIter_tuple (IsT.isTuple hl) (hK _ _ (Kp.ofH (HK.push _ _)) (.two (hsz ▸ wk_tuple s.heap.objs.size a hne xs) ⟨⟨_, Heap.get?_push_size _ rfl, rfl, rfl⟩, ⟨_, Heap.get?_push_of_some _ hl, rfl, _, rfl⟩⟩ (fresh_size _) ⟨_, Heap.get?_push_size _ rfl⟩ ⟨_, Heap.get?_push_of_some _ hl⟩ hd fun i v val h hv hp => item_rv r (fresh_size _) (HK.push _ _) hv (Array.getElem?_toList.trans hp)))
theorem it_str {x : Str} {t : Tok} {ds : List Nat} {K E : Value → Shared → Prop} (F : Fx G d c A env lay Sys base st s) (hx : SOk x)
  (hK : ∀ I s', Kp (FZ A Sys) s s' → ItOk G A st.H Sys s s' (signsOf x) ds I false → K (.ref I) s') : wpAny (model G.prog G.w) A (pyIter (.str x t)) K E s := by
 have hsz : (signsOf x).length = x.cps.size := by simp [signsOf]
 have sign : ∀ (Sy : Addr → Prop) (h : Heap) (i : Nat) (v : V) (val : Value), (signsOf x)[i]? = some v → SignAt x i val → RV (NN st.H Sy) h v val := by
  rintro Sy h i v val hv ⟨c, u, hc, rfl⟩
  have hc' : x.cps.toList[i]? = some c := by rw [Array.getElem?_toList]; exact hc
  simp only [signsOf, List.getElem?_map, hc', Option.map_some, Option.some.injEq] at hv
  subst hv
  exact .str _ _ (hx.one (List.mem_of_getElem? hc'))
 cases ha : x.cps.all (· < 128)
 ·exact wpAny_pyIter_wide ha (hK _ _ (Kp.ofH (HK.push _ _)) (.one (hsz ▸ wk_wide s.heap.objs.size x t) ⟨_, Heap.get?_push_size _ rfl, rfl, rfl⟩ (fresh_size _) ⟨_, Heap.get?_push_size _ rfl⟩ fun i v val z' hv hp => sign _ _ _ _ _ hv hp))
 ·exact wpAny_pyIter_ascii ha (hK _ _ (Kp.ofH (HK.push _ _)) (.one (hsz ▸ wk_ascii s.heap.objs.size x t) ⟨_, Heap.get?_push_size _ rfl, rfl, rfl⟩ (fresh_size _) ⟨_, Heap.get?_push_size _ rfl⟩ fun i v val z' hv hp => sign _ _ _ _ _ hv hp))
theorem ItOk.before {s₀ s₁ s₂ : Shared} {vs : List V} {ds : List Nat} {I : Addr} {nw : Bool} (k : Kp (FZ A Sys) s₀ s₁) (x : ItOk G A H Sys s₁ s₂ vs ds I nw) : ItOk G A H Sys s₀ s₂ vs ds I nw := by
 obtain ⟨fp, wr, P, Mi, Si, h1, h2, h3, h4, h5, h6⟩ := x
 exact ⟨fp, wr, P, Mi, Si, h1, h2, fun b hb => fresh_keeps k (h3 b hb), h4, h5, h6⟩
set_option tactic.hygienic true in
theorem si_seq {e : E} {x : Expr} (he : SE G d c e x) : SI G d c (.seq e) x := by
 intro A env lay Sys base st s F Q X K E hW hK hX
 simp only [wi_0, rg1, rg2, rg3] at hW
 refine (he F).weak _ X _ E hW (fun v a s₁ h₁ r₁ k₁ z' => ?_) hX
 have F₁ := F.keeps k₁
 split at h₁
 ·rename_i vs hv
  have fin : ∀ I s', Kp (FZ A Sys) s₁ s' → ItOk G A st.H Sys s₁ s' vs (depsV v) I false → K (.ref I) s' := fun I s' k i => hK vs _ I s' h₁ (k₁.trans k) (i.before k₁)
  cases r₁ with
  | lst b1 b2 b3 b4 => simp [iv_none, iv_bool, iv_int, iv_str, iv_tup, iv_lst, iv_ref, iv_inst, iv_iref, iv_exc, iv_dct] at hv; subst hv; exact it_list F₁ b2 b4 (.inl b1) fin
  | tup b1 b2 b3 b4 => simp [iv_none, iv_bool, iv_int, iv_str, iv_tup, iv_lst, iv_ref, iv_inst, iv_iref, iv_exc, iv_dct] at hv; subst hv; exact it_tup F₁ b2 b4 (.inl b1) fin
  | str u t o => simp [iv_none, iv_bool, iv_int, iv_str, iv_tup, iv_lst, iv_ref, iv_inst, iv_iref, iv_exc, iv_dct] at hv; subst hv; exact it_str F₁ o fin
  | ref ad =>
   simp only [iv_none, iv_bool, iv_int, iv_str, iv_tup, iv_lst, iv_ref, iv_inst, iv_iref, iv_exc, iv_dct] at hv
   split at hv
   ·rename_i ws hw
    cases hv
    cases F₁.sim.objs _ _ hw with
    | list b1 b2 b3 => exact it_list F₁ b1 b3 (.inr ⟨by simp [dv_none, dv_bool, dv_int, dv_str, dv_tup, dv_lst, dv_ref, dv_inst, dv_iref, dv_exc, dv_dct], by rw [hw]; simp⟩) fin
   ·cases hv
  | _ => simp [iv_none, iv_bool, iv_int, iv_str, iv_tup, iv_lst, iv_ref, iv_inst, iv_iref, iv_exc, iv_dct] at hv
 ·exact h₁.elim
end
end Mine
end
section
set_option autoImplicit false
namespace Mine
open PySem
section
variable {G : PG} {d : Nat} {c : Sc} {A : Around} {env : Env} {lay : Nat → Option Place} {Sys : Addr → Prop} {base : Heap} {st : St} {s : Shared} {H : AH}
theorem RVs.reverse {N : Addr → Prop} {h : Heap} : ∀ {vs : List V} {xs : List Value}, RVs N h vs xs → RVs N h vs.reverse xs.reverse
 | _, _, .nil => .nil
 | _, _, .cons a b => by simpa using b.reverse.append (.cons a .nil)
theorem rng1_inv {vs : List V} {P : Int → Prop} (h : rng1 vs P) : ∃ i, vs = [.int i] ∧ smallI i ∧ P i := by
 rcases vs with _ | ⟨a, _ | ⟨b, r⟩⟩
 ·exact False.elim h
 ·obtain ⟨i, rfl, h⟩ := intP_inv h
  exact ⟨_, rfl, h⟩
 ·exact False.elim h
theorem rng3_elim {vs : List V} {W : Int → Int → Int → Prop} {P : List V → Prop} (h : rng3 vs W) (kk : ∀ i j k, smallI i → smallI j → W i j k → P [.int i, .int j, .int k]) : P vs := by
 rcases vs with _ | ⟨a, _ | ⟨b, _ | ⟨e, _ | ⟨g, r⟩⟩⟩⟩
 ·exact False.elim h
 ·exact False.elim h
 ·exact False.elim h
 ·obtain ⟨i, rfl, h⟩ := intP_inv h
  obtain ⟨j, rfl, h⟩ := intP_inv h
  obtain ⟨k, rfl, h⟩ := intP_inv h
  exact kk _ _ _ h.1 h.2.1 h.2.2
 ·exact False.elim h
theorem rangeSize_neg (a b : Int) : Builtin.Range.rangeSize a b (-1) = if b < a then a - b else 0 := by
 unfold Builtin.Range.rangeSize
 simp only [show ¬ ((-1 : Int) > 0) by decide, if_false]
 split <;> simp <;> omega
theorem to_nat (x : Int) : (if 0 < x then x else 0) = ((x.toNat : Nat) : Int) := by split <;> omega
theorem size_neg (a b : Int) : Builtin.Range.rangeSize a b (-1) = (((a - b).toNat : Nat) : Int) := by
 rw [rangeSize_neg, ← to_nat]
 by_cases h : b < a
 ·rw [if_pos h, if_pos (Int.sub_pos_of_lt h)]
 ·rw [if_neg h, if_neg (fun q => h (Int.lt_of_sub_pos q))]
theorem fitL {i : Int} (h1 : -(2 ^ 62) ≤ i) (h2 : i < 2 ^ 62) : Builtin.Range.rangeFitsLong i = true := (Bool.and_eq_true _ _).mpr ⟨decide_eq_true (Int.le_trans (by decide) h1), decide_eq_true (Int.lt_of_lt_of_le h2 (by decide))⟩
theorem sub63 {a b : Int} (ha : a < 2 ^ 62) (hb : -(2 ^ 62) ≤ b) : a - b < 2 ^ 63 := by omega
theorem small_neg {a b : Int} (ha : -(2 ^ 62) ≤ a) (ha' : a < 2 ^ 62) (hb : -(2 ^ 62) ≤ b) (hb' : b < 2 ^ 62) : Builtin.Range.small a b (-1) = true := by
 have hs : Builtin.Range.rangeFitsLong (Builtin.Range.rangeSize a b (-1)) = true := by
  rw [rangeSize_neg]
  by_cases h : b < a
  ·rw [if_pos h]; exact (Bool.and_eq_true _ _).mpr ⟨decide_eq_true (Int.le_trans (by decide) (Int.sub_nonneg_of_le (Int.le_of_lt h))), decide_eq_true (sub63 ha' hb)⟩
  ·rw [if_neg h]; rfl
 exact (Bool.and_eq_true _ _).mpr ⟨(Bool.and_eq_true _ _).mpr ⟨(Bool.and_eq_true _ _).mpr ⟨(Bool.and_eq_true _ _).mpr ⟨fitL ha ha', fitL hb hb'⟩, rfl⟩, hs⟩, (Bool.or_eq_true _ _).mpr (.inr (fitL (i := b + 0) ((Int.add_zero b).symm ▸ hb) ((Int.add_zero b).symm ▸ hb')))⟩
theorem upL_length (a b : Int) : (upL a b).length = (b - a).toNat := by simp [upL]
theorem downL_length (a b : Int) : (downL a b).length = (a - b).toNat := by simp [downL]
theorem upL_get {a b : Int} {i : Nat} {v : V} (h : (upL a b)[i]? = some v) : v = .int (a + i) := by
 simp only [upL, List.getElem?_map, Option.map_eq_some_iff] at h
 obtain ⟨k, hk, rfl⟩ := h
 have := List.getElem?_eq_some_iff.mp hk
 obtain ⟨h1, h2⟩ := this
 simp at h2; rw [h2]
theorem downL_get {a b : Int} {i : Nat} {v : V} (h : (downL a b)[i]? = some v) : v = .int (a - i) := by
 simp only [downL, List.getElem?_map, Option.map_eq_some_iff] at h
 obtain ⟨k, hk, rfl⟩ := h
 have := List.getElem?_eq_some_iff.mp hk
 obtain ⟨h1, h2⟩ := this
 simp at h2; rw [h2]
theorem it_range {r : Addr} {a b e : Int} {t u v : Tok} {n : Nat} {vs : List V} {K E : Value → Shared → Prop} (F : Fx G d c A env lay Sys base st s) (hr : IsRange s.heap r a b e t u v) (hs : Builtin.Range.small a b e = true)
  (hn : Builtin.Range.rangeSize a b e = (n : Int)) (hvn : vs.length = n) (hv : ∀ (i : Nat) (v : V), vs[i]? = some v → v = V.int (a + i * e))
  (hK : ∀ I s', Kp (FZ A Sys) s s' → ItOk G A st.H Sys s s' vs [] I false → K (.ref I) s') : wpAny (model G.prog G.w) A (pyIter (.ref r)) K E s := by
 refine wpAny_pyIter_range hr hs (hK _ _ (Kp.ofH (HK.push _ _)) (.one (hvn ▸ wk_range s.heap.objs.size a e n) ?_ (fresh_size _) ⟨_, Heap.get?_push_size _ rfl⟩ ?_))
 ·show Heap.get? (Heap.push _ _) _ = _
  rw [hn]
  have := Heap.get?_push_size (o := { cls := .type "range_iterator", data := .fields #[rawInt a, rawInt (n : Int), rawInt e] }) s.heap rfl
  simpa [hvn] using this
 ·rintro i v val h hv' ⟨tk, rfl⟩
  rw [hv i v hv']; exact .int _ _
theorem si_range1 {e : E} {y : Str} {p pos : Pos} {z : Expr} (hg : isGlob c y "range" = true) (hz : noStar z = true) (he : SE G d c e z) : SI G d c (.range1 e) (.Call (.Name y p) [z] [] pos) := by
 intro A env lay Sys base st s F Q X K E hW hK hX
 refine (ev_call_t (es := .cons e .nil) (X := X) (Q := fun vs => rng1 vs fun i => Q (upL 0 i) []) F hg (by decide) rfl (ses_cons hz he ses_nil) hW ?_ hX)
 ·intro vs vals s₁ q r k
  obtain ⟨i, rfl, ⟨h1, h2⟩, h₁⟩ := rng1_inv q
  apply RVs.elim r; clear r; intro _ _ r1 r2; apply RVs.elim r2; clear r2
  apply RV.elim r1; intro tt
  refine call_range_1 ?_
  have k' := Kp.of (Z := FZ A Sys) (s := s₁) (t := s₁.toks + 1 + 1) (HK.push s₁.heap { cls := .type "range", data := .fields #[.int 0 s₁.toks, .int i tt, .int 1 (s₁.toks + 1)] })
  have F₁ := (F.keeps k).keeps k'
  exact it_range (n := i.toNat) F₁ (IsRange.new ..) (small_one (by decide) (by decide) h1 h2) ((rangeSize_one ..).trans (by rw [Int.sub_zero]; exact to_nat i)) (by rw [upL_length, Int.sub_zero]) (fun j v hv => by rw [upL_get hv, Int.mul_one]) fun I s' k'' it => hK _ _ I s' h₁ ((k.trans k').trans k'') (it.before (k.trans k'))
theorem si_range3 {a b e : E} {y : Str} {p pos : Pos} {z u v : Expr} (hg : isGlob c y "range" = true) (hz : noStar z = true) (hu : noStar u = true) (hv : noStar v = true) (ha : SE G d c a z) (hb : SE G d c b u) (he : SE G d c e v) :
  SI G d c (.range3 a b e) (.Call (.Name y p) [z, u, v] [] pos) := by
 intro A env lay Sys base st s F Q X K E hW hK hX
 refine (ev_call_t (es := .cons a (.cons b (.cons e .nil))) (X := X) (Q := fun vs => rng3 vs fun i j k => k = -1 ∧ Q (downL i j) []) F hg (by decide) rfl (ses_cons hz ha (ses_cons hu hb (ses_cons hv he ses_nil))) hW ?_ hX)
 ·intro vs vals s₁ q r k
  revert r
  apply rng3_elim q; clear q; intro i j kk h1 h2 q r
  obtain ⟨rfl, h₁⟩ := q
  apply RVs.elim r; clear r; intro _ _ r1 r2; apply RVs.elim r2; clear r2; intro _ _ r2 r3; apply RVs.elim r3; clear r3; intro _ _ r3 r4; apply RVs.elim r4; clear r4
  apply RV.elim r1; intro t1; apply RV.elim r2; intro t2; apply RV.elim r3; intro t3
  refine call_range_3 (by decide) ?_ (.inl (PyProof.noPylong_small (by decide)))
  have k' := Kp.of (Z := FZ A Sys) (s := s₁) (t := s₁.toks) (HK.push s₁.heap { cls := .type "range", data := .fields #[.int i t1, .int j t2, .int (-1) t3] })
  have F₁ := (F.keeps k).keeps k'
  exact it_range (n := (i - j).toNat) F₁ (IsRange.new ..) (small_neg h1.1 h1.2 h2.1 h2.2) (size_neg i j) (downL_length i j) (fun j v hv => by rw [downL_get hv, Int.mul_neg, Int.mul_one, Int.sub_eq_add_neg]) fun I s' k'' it => hK _ _ I s' h₁ ((k.trans k').trans k'') (it.before (k.trans k'))
end
end Mine
end
section
set_option autoImplicit false
namespace Mine
open PySem
theorem ri_next : Slot "list_reverseiterator" "__next__" "list_reverseiterator.__next__" :=
 .of (owner := "list_reverseiterator") (n := "__next__") (by rw [typeLookup_type, builtinLookup_eq_fast]; kernel_rfl) (by decide +kernel) (by decide +kernel) (by decide +kernel) (.inl (by decide +kernel)) (by rw [isSubtype_type]; kernel_rfl)
theorem ri_next_entry : entryFor table "list_reverseiterator.__next__" = some Builtin.«list_reverseiterator.__next__» := entryFor_of_tree (by kernel_rfl)
noncomputable abbrev RI (l : Addr) (i : Int) : Obj := { cls := .type "list_reverseiterator", dict := none, data := .fields #[.ref l, rawInt i], slots := #[] }
theorem ri_args (a : Value) : argsOk "list_reverseiterator.__next__" ⟨[a], []⟩ := by
 unfold argsOk
 kernel_rfl
theorem ri_item (it l : Addr) (i : Nat) (items : Array Value) (n : Nat) (x : Value) (hx : items[i]? = some x) :
  Meets (Builtin.«list_reverseiterator.__next__» ⟨[.ref it], []⟩) (fun z' R s => s.heap.get? it = some { cls := .type "list_reverseiterator", dict := none, data := .fields #[.ref l, rawInt (i : Int)], slots := #[] } ∧ s.heap.get? l = some { cls := .type "list", dict := none, data := .seq items n, slots := #[] } ∧
   R (.ok (.ret x)) { s with heap := s.heap.update it (Obj.mapFields (·.setIfInBounds 1 (rawInt ((i : Int) - 1)))) }) :=
 .of_wp fun prog w A R s h => by
  obtain ⟨hp, g, d, tk, os⟩ := s
  obtain ⟨hi, hl, h⟩ := h
  wp_walk
  simp only [Int.toNat_natCast, hx]
  wp_walk
  exact ⟨_, rfl, h⟩
theorem ri_end {prog : Program} {w : World} {A : Around} {E : Value → Shared → Prop} {s : Shared} {it l : Addr} {Q : Option Value → Shared → Prop} (hh : A.handled = none) (hi : s.heap.get? it = some (RI l (-1)))
  (hQ : ∀ h', (∀ b o, s.heap.get? b = some o → h'.get? b = some o) → Q none { s with heap := h' }) : wpAny (model prog w) A (pyNext (.ref it)) Q E s := by
 obtain ⟨hp, g, d, tk, os⟩ := s
 have hh' : A.in1.handled = none := hh
 unfold pyNext
 refine wpAny_bind (wpAny_attempt (wpAny_callSpecial?_slot (name := Str.ofString "__next__") ⟨_, hi, rfl⟩ ri_next (wpAny_call_entry ri_next ⟨_, hi, rfl⟩ ri_next_entry ?_ (ri_args _))))
 wp_walk
 unfold raiseNew
 wp_walk
 refine wpAny_of_eq isSubtype_stop ?_
 exact wpAny_pure (hQ _ fun b o e => Heap.get?_push_of_some _ (Heap.get?_push_of_some _ e))
theorem ri_iter : Slot "list_reverseiterator" "__iter__" "list_reverseiterator.__iter__" :=
 .of (owner := "list_reverseiterator") (n := "__iter__") (by rw [typeLookup_type, builtinLookup_eq_fast]; kernel_rfl) (by decide +kernel) (by decide +kernel) (by decide +kernel) (.inl (by decide +kernel)) (by rw [isSubtype_type]; kernel_rfl)
theorem ri_iter_args (a : Value) : argsOk "list_reverseiterator.__iter__" ⟨[a], []⟩ := by
 unfold argsOk
 kernel_rfl
theorem ri_iter_entry : entryFor table "list_reverseiterator.__iter__" = some Builtin.«dict_keyiterator.__iter__» :=
 entryFor_alias (id' := "dict_keyiterator.__iter__") (by kernel_rfl) (by first | rfl | decide +kernel | (unfold String.splitOn; simp +decide [String.splitOnAux])) (by decide +kernel) (by kernel_rfl)
theorem ri_self {prog : Program} {w : World} {A : Around} {E : Value → Shared → Prop} {s : Shared} {it l : Addr} {i : Int} {Q : Value → Shared → Prop} (hi : s.heap.get? it = some (RI l i)) (hQ : Q (.ref it) s) : wpAny (model prog w) A (pyIter (.ref it)) Q E s :=
 wpAny_pyIter_slot ⟨_, hi, rfl⟩ ri_iter (wpAny_call_entry ri_iter ⟨_, hi, rfl⟩ ri_iter_entry (wpAny_pure ⟨_, rfl, _, _, ⟨_, hi, rfl⟩, ri_next.lookup, hQ⟩) (ri_iter_args _))
theorem ri_one {prog : Program} {w : World} {A : Around} {E : Value → Shared → Prop} {s : Shared} {it l : Addr} {i n : Nat} {items : Array Value} {x : Value} {Q : Option Value → Shared → Prop} (hi : s.heap.get? it = some (RI l i)) (hl : s.heap.get? l = some { cls := .type "list", data := .seq items n }) (hx : items[i]? = some x)
  (hQ : Q (some x) { s with heap := s.heap.update it (Obj.mapFields (·.setIfInBounds 1 (rawInt ((i : Int) - 1)))) }) : wpAny (model prog w) A (pyNext (.ref it)) Q E s := by
 unfold pyNext
 refine wpAny_bind (wpAny_attempt (wpAny_callSpecial?_slot (name := Str.ofString "__next__") ⟨_, hi, rfl⟩ ri_next (call_meets ri_next ⟨_, hi, rfl⟩ ri_next_entry (ri_args _) (ri_item it l i items n x hx) ⟨hi, hl, ?_⟩)))
 exact wpAny_pure hQ
theorem ri_made : Bind.madeBy (.type "reversed") = pure (some "reversed.__new__") := by kernel_rfl
theorem ri_sub : isSubtype (.type "list_reverseiterator") (.type "reversed") = pure false := by rw [isSubtype_type]; kernel_rfl
theorem ri_mro : mroOf (.type "reversed") = pure [.type "reversed", .type "object"] := by rw [mroOf_type]; kernel_rfl
theorem ri_new_entry : entryFor table "reversed.__new__" = some Builtin.«reversed.__new__» := entryFor_of_tree (by kernel_rfl)
set_option maxRecDepth 100000 in
theorem ri_call {prog : Program} {w : World} {A : Around} {E : Value → Shared → Prop} {s : Shared} {l : Addr} {Q : Value → Shared → Prop}
  (hQ : codeAny (model prog w) A.in1 (.call (.builtin "reversed.__new__") ⟨[.type "reversed", .ref l], []⟩) (wants (fun v s' => s'.TypeIs v "list_reverseiterator" ∧ Q v s') E) s) : wpAny (model prog w) A (call (.type "reversed") [.ref l]) Q E s := by
 have h1 := ri_made
 have h2 := ri_sub
 have h3 := ri_mro
 have h4 : checkTypeCall "reversed" ⟨[.ref l], []⟩ = pure () := by kernel_rfl
 have h5 : (Value.type "reversed" == Value.type "type") = false := by decide +kernel
 have h6 : ((Manifest.find? "reversed").bind (·.mro.findSome? fun t => (Manifest.find? t).bind fun b => if b.noNew then some true else if b.attrs.any (·.1 == "__new__") then some false else none)).getD false = false := by decide +kernel
 refine wpAny_call (codeAny_of_tree (wpAny_pure ⟨Code.quiet_builtin _ (by decide +kernel), codeAny_builtin F.entry_type_call ?_⟩))
 rw [Around.under_plain (weight_type_call_type _ _ _) rfl]
 repeat (any_goals (first | assumption | wp_step))
 refine codeAny_mono hQ fun r s₁ hr => ?_
 cases r with
 | error e => exact hr
 | ok fl =>
  cases fl with
  | ret v =>
   obtain ⟨hT, hq⟩ := hr
   repeat (any_goals (first | assumption | wp_step))
  | _ => exact hr.elim
theorem ri_new (l : Addr) (items : Array Value) (n : Nat) :
  Meets (Builtin.«reversed.__new__» ⟨[.type "reversed", .ref l], []⟩) (fun z' R s => s.heap.get? l = some { cls := .type "list", dict := none, data := .seq items n, slots := #[] } ∧
   R (.ok (.ret (Value.ref s.heap.objs.size))) { s with heap := s.heap.push (RI l (((items.size : Nat) : Int) - 1)) }) :=
 .of_wp fun prog w A R s h => by
  obtain ⟨hp, g, d, tk, os⟩ := s
  obtain ⟨hl, h⟩ := h
  wp_walk
  refine wpAny_of_eq (show isSubtype (.type "reversed") (.type "reversed") = pure true from by rw [isSubtype_type]; kernel_rfl) ?_
  wp_walk
  refine wpAny_of_eq F.slot_list_reversed.lookup ?_
  wp_walk
  refine wpAny_of_eq (F.slot_list_reversed.bind _) ?_
  wp_walk
  refine codeAny_call_builtin F.slot_list_reversed.plain F.entry_list_reversed (F.slot_list_reversed.check _ _ _ _ _ _ _ _ ⟨_, hl, rfl⟩ (F.args_list_reversed_1 _) (AutoListH.list___reversed___list_0 l items n prog w A.in1 (fun r s' => match r with
   | Except.ok (Flow.ret v) => wpAny (model prog w) A.in1 (ret v) (fun fin s' => ∃ v, fin = Fin.done (Flow.ret v) ∧ R (Except.ok (Flow.ret v)) s') (fun e s' => R (Except.error e) s') s'
   | Except.ok _ => False
   | Except.error e => R (Except.error e) s') _ ⟨hl, ?_⟩))
  wp_walk
  exact ⟨_, rfl, h⟩
theorem ri_calls {prog : Program} {w : World} {A : Around} {E : Value → Shared → Prop} {s : Shared} {l : Addr} {items : Array Value} {n : Nat} {Q : Value → Shared → Prop} (hl : IsL s.heap l items n)
  (hQ : Q (.ref s.heap.objs.size) { s with heap := s.heap.push (RI l (((items.size : Nat) : Int) - 1)) }) : wpAny (model prog w) A (call (.type "reversed") [.ref l]) Q E s :=
 ri_call (codeAny_call_builtin (by decide +kernel) ri_new_entry (wpAny_of_eq (show checkBuiltinCall "reversed.__new__" ⟨[.type "reversed", .ref l], []⟩ = pure () by kernel_rfl) (ri_new l items n prog w _ _ s ⟨hl, ⟨_, Heap.get?_push_size _ rfl, rfl⟩, hQ⟩)))
theorem rv1 {n i : Nat} (h : i < n) : (n : Int) - 1 - i = ((n - 1 - i : Nat) : Int) := by omega
theorem rv2 {n i : Nat} (h : i < n) : n - 1 - i < n := Nat.lt_of_le_of_lt (Nat.sub_le ..) (Nat.sub_lt (Nat.lt_of_le_of_lt (Nat.zero_le i) h) Nat.zero_lt_one)
theorem rv3 {n i : Nat} (h : i < n) : ((n - 1 - i : Nat) : Int) - 1 = (n : Int) - 1 - ((i + 1 : Nat) : Int) := by omega
theorem rv4 (n : Nat) : (n : Int) - 1 - n = -1 := by omega
theorem wk_rev {prog : Program} {w : World} {A : Around} (hh : A.handled = none) {I l : Addr} (hne : l ≠ I) (xs : Array Value) (n : Nat) {m : Nat} (hm : m = xs.size) :
  WK prog w A I [I, l] [I] false m (fun i v z' => xs[xs.size - 1 - i]? = some v) (fun i v h => xs[xs.size - 1 - i]? = some v ∧ i + 1 ≤ xs.size ∧ h.get? I = some (RI l ((xs.size : Int) - 1 - (i + 1 : Nat))) ∧ IsL h l xs n) (fun i h => i ≤ xs.size ∧ h.get? I = some (RI l ((xs.size : Int) - 1 - i)) ∧ IsL h l xs n) where
 sub := fun b hb => by rw [List.mem_singleton.mp hb]; exact List.mem_cons_self ..
 ex := fun i h hs b hb e => by rw [List.mem_singleton.mp hb, hs.2.1] at e; cases e
 frame := fun i h h' hs hk => ⟨hs.1, hk I (List.mem_cons_self ..) _ hs.2.1, hk l (List.mem_cons_of_mem _ (List.mem_cons_self ..)) _ hs.2.2⟩
 item := fun i s Q E hi hs hQ => by
  have hi := hm ▸ hi
  have e := rv1 hi
  have h1 := hs.2.1
  rw [e] at h1
  have hx := Array.getElem?_eq_getElem (rv2 hi)
  refine ri_one h1 hs.2.2 hx ?_
  rw [rv3 hi]
  refine hQ _ _ s.toks ⟨hx, hi, ?_, ?_⟩ nofun fun b o hb eo => ?_
  ·exact Heap.get?_update_self _ h1 rfl
  ·exact Heap.get?_update_of_ne _ (Ne.symm hne) hs.2.2
  ·exact Heap.get?_update_of_ne _ (fun q => hb (q ▸ List.mem_singleton.mpr rfl)) eo
 done := fun s Q E z' z' hs hQ => by
  have h1 := hs.2.1
  rw [hm, rv4] at h1
  exact ri_end hh h1 fun h' hk => hQ h' s.toks fun b o z' e => hk b o e
 own := fun i s v t Q E hs z' hQ => own_plain ⟨_, hs.2.2.1, rfl⟩ (by decide) (hQ s.heap hs.2 hs.1 fun z' z' z' e => e)
 self := fun i s Q E hs hQ => ri_self hs.2.1 hQ
section
variable {G : PG} {d : Nat} {c : Sc}
theorem si_rev {e : E} {y : Str} {p pos : Pos} {z : Expr} (hg : isGlob c y "reversed" = true) (hz : noStar z = true) (he : SE G d c e z) : SI G d c (.rev e) (.Call (.Name y p) [z] [] pos) := by
 intro A env lay Sys base st s F Q X K E hW hK hX
 refine ev_call_t (es := .cons e .nil) (X := X) (Q := fun vs => ∃ u, vs = [u] ∧ seqP st.H u fun ws => Q ws.reverse (depsV u)) F hg (by decide) rfl (ses_cons hz he ses_nil) ?_ ?_ hX
 ·simp only [wes_0, wes_1, List.cons.injEq, and_true, exists_eq_left']; exact hW
 ·rintro vs vals s₁ ⟨u, rfl, h₁⟩ r k
  apply one_arg r; intro va r1
  ·obtain ⟨ws, hws, h₁⟩ := seqP_inv h₁
   have F₁ := F.keeps k
   apply seq_dep F₁.sim.objs r1 hws; intro a xs n hl hsz rx hdep
   refine ri_calls hl (ri_self (Heap.get?_push_size _ rfl) ?_)
   have hne : a ≠ s₁.heap.objs.size := Nat.ne_of_lt (Heap.lt_size hl)
   have hlen : ws.reverse.length = xs.size := (List.length_reverse ..).trans rx.size
   have hsi : (s₁.heap.push (RI a (((xs.size : Nat) : Int) - 1))).get? s₁.heap.objs.size = some (RI a ((xs.size : Int) - 1 - (0 : Nat))) := by
    rw [Heap.get?_push_size _ rfl]; simp
   refine hK _ _ _ _ h₁ (k.trans (Kp.ofH (HK.push _ _))) (.two (wk_rev (F₁.cold (isGlob_cold hg rfl)) hne xs n hlen) ⟨Nat.zero_le _, hsi, Heap.get?_push_of_some _ hl⟩ (fresh_keeps k (fresh_size _)) ⟨_, Heap.get?_push_size _ rfl⟩ ⟨_, Heap.get?_push_of_some _ hl⟩ hdep ?_)
   ·intro i v val h hv hp
    refine item_rv rx.reverse (fresh_size _) (HK.push _ _) hv ?_
    have hi := (List.getElem?_eq_some_iff.mp hv).1
    rw [List.getElem?_reverse (Nat.lt_of_lt_of_eq hi hlen), Array.length_toList, Array.getElem?_toList]
    exact hp
end
end Mine
end
section
set_option autoImplicit false
namespace Mine
open PySem
noncomputable abbrev SqIt (b : Bool) (l : Addr) (i : Nat) : Obj := { cls := .type (cond b "tuple_iterator" "list_iterator"), dict := none, data := .fields #[.ref l, .int i 0], slots := #[] }
noncomputable abbrev SqOb (b : Bool) (xs : Array Value) (n : Nat) : Obj := { cls := .type (cond b "tuple" "list"), dict := none, data := .seq xs n, slots := #[] }
theorem rowP_elim {H : AH} {v : V} {W : List V → Prop} {P : Prop} (h : rowP H v W) (k : ∀ x, rowL H v = some x → W x → P) : P := by
 unfold rowP at h
 cases e : rowL H v with
 | none => rw [e] at h; exact False.elim h
 | some x => rw [e] at h; exact k x e h
theorem row_elim {hsh : HFn} {H : AH} {Sys : Addr → Prop} {h : Heap} (ho : HO hsh H Sys h) {v : V} {x : Value} {vs : List V} {P : Value → Prop} (r : RV (NN H Sys) h v x) (e : rowL H v = some vs)
  (k : ∀ a b xs n, h.get? a = some (SqOb b xs n) → xs.size ≤ sizeLine → RVs (NN H Sys) h vs xs.toList → (¬ NN H Sys a ∨ (a ∈ depsV v ∧ H a ≠ none)) → P (.ref a)) : P x := by
 cases v with
 | lst us => cases e; apply RV.elim r; intro a xs n a1 a2 a3 a4; exact k _ false _ _ a2 a3 a4 (.inl a1)
 | tup us => cases e; apply RV.elim r; intro a xs n a1 a2 a3 a4; exact k _ true _ _ a2 a3 a4 (.inl a1)
 | ref a =>
  apply RV.elim r
  have e : (match H a with
   | some (.list vs) => some vs
   | _ => none) = some vs := e
  cases hw : H a with
  | none => rw [hw] at e; cases e
  | some o =>
   rw [hw] at e
   cases o with
   | list ws =>
    cases e
    cases ho a _ hw with
    | list b1 b2 b3 => exact k _ false _ _ b1 b2 b3 (.inr ⟨List.mem_singleton.mpr rfl, by rw [hw]; exact nofun⟩)
   | _ => cases e
 | _ => cases e
section
variable {prog : Program} {w : World} {A : Around} {E : Value → Shared → Prop} {s : Shared}
theorem nx_row {b : Bool} {it t : Addr} {i n : Nat} {xs : Array Value} {x : Value} {Q : Value → Shared → Prop} (hi : s.heap.get? it = some (SqIt b t i)) (hl : s.heap.get? t = some (SqOb b xs n)) (hx : xs[i]? = some x)
  (hQ : ∀ h', h'.get? it = some (SqIt b t (i + 1)) → Heap.SameBut it s.heap h' → Q x { s with heap := h' }) : wpAny (model prog w) A (Builtin.SmallTypes.nextOf (.ref it)) Q E s := by
 cases b
 ·have hT : s.TypeIs (.ref it) "list_iterator" := ⟨_, hi, rfl⟩
  have hi' : s.heap.get? it = some { cls := .type "list_iterator", dict := none, data := .fields #[.ref t, .int i 0], slots := #[] } := hi
  unfold Builtin.SmallTypes.nextOf
  refine wpAny_bind (wpAny_callSpecial?_slot (name := Str.ofString "__next__") hT slot_listiter_next (wpAny_call_entry slot_listiter_next hT entry_listiter_next ?_ (args_listiter_next _)))
  wp_walk
  simp only [Int.toNat_natCast, hx]
  wp_walk
  exact ⟨_, rfl, wpAny_pure (hQ _ (Heap.get?_update_self _ hi' rfl) (Heap.SameBut.update ..))⟩
 ·have hT : s.TypeIs (.ref it) "tuple_iterator" := ⟨_, hi, rfl⟩
  have hi' : s.heap.get? it = some { cls := .type "tuple_iterator", dict := none, data := .fields #[.ref t, .int i 0], slots := #[] } := hi
  unfold Builtin.SmallTypes.nextOf
  refine wpAny_bind (wpAny_callSpecial?_slot (name := Str.ofString "__next__") hT F.slot_tuple_iterator_next (wpAny_call_entry F.slot_tuple_iterator_next hT F.entry_tuple_iterator_next ?_ (F.args_tuple_iterator_next_1 _)))
  wp_walk
  simp only [Int.toNat_natCast, hx]
  wp_walk
  exact ⟨_, rfl, wpAny_pure (hQ _ (Heap.get?_update_self _ hi' rfl) (Heap.SameBut.update ..))⟩
theorem nx_end {b : Bool} {it t : Addr} {i n : Nat} {xs : Array Value} {Q : Value → Shared → Prop} (hh : A.handled = none) (hi : s.heap.get? it = some (SqIt b t i)) (hl : s.heap.get? t = some (SqOb b xs n)) (hx : xs[i]? = none)
  (hE : ∀ h' e, Heap.ExtBut it s.heap h' → (∃ o, h'.get? e = some o ∧ o.cls = .type "StopIteration") → E (.ref e) { s with heap := h' }) : wpAny (model prog w) A (Builtin.SmallTypes.nextOf (.ref it)) Q E s := by
 have hh' : A.in1.handled = none := hh
 cases b
 ·exact wpAny_nextOf_list_end hh ⟨_, hi, rfl, rfl⟩ ⟨_, hl, rfl, _, rfl⟩ hx hE
 ·have hT : s.TypeIs (.ref it) "tuple_iterator" := ⟨_, hi, rfl⟩
  have hi' : s.heap.get? it = some { cls := .type "tuple_iterator", dict := none, data := .fields #[.ref t, .int i 0], slots := #[] } := hi
  obtain ⟨hp, g, d, tk, os⟩ := s
  unfold Builtin.SmallTypes.nextOf
  refine wpAny_bind (wpAny_callSpecial?_slot (name := Str.ofString "__next__") hT F.slot_tuple_iterator_next (wpAny_call_entry F.slot_tuple_iterator_next hT F.entry_tuple_iterator_next ?_ (F.args_tuple_iterator_next_1 _)))
  wp_walk
  simp only [Int.toNat_natCast, hx]
  wp_walk
  unfold raiseNew
  wp_walk
  exact hE _ _ (((Heap.SameBut.update ..).extBut.push _).push _) ⟨_, Heap.get?_push_size _ rfl, rfl⟩
end
theorem it_row {prog : Program} {w : World} {A : Around} {E : Value → Shared → Prop} {s : Shared} {b : Bool} {l : Addr} {xs : Array Value} {n : Nat} {Q : Value → Shared → Prop} (hl : s.heap.get? l = some (SqOb b xs n))
  (hQ : Q (.ref s.heap.objs.size) { s with heap := s.heap.push (SqIt b l 0) }) : wpAny (model prog w) A (pyIter (.ref l)) Q E s := by
 cases b
 ·exact wpAny_pyIter_list ⟨_, hl, rfl, _, rfl⟩ hQ
 ·exact wpAny_pyIter_tuple ⟨_, hl, rfl, _, rfl⟩ hQ
section
variable {G : PG} {d : Nat} {c : Sc}
end
end Mine
end
section
set_option autoImplicit false
namespace Mine
open PySem
structure ZS (b1 b2 : Bool) (l1 l2 : Addr) (xs ys : Array Value) (n1 n2 : Nat) (N : Addr) (f0 : Value) (k : Nat) (h : Heap) : Prop where
 z : IsZip h (N + 4) (N + 2) (N + 3) f0
 ti : IsPair h (N + 2) (.ref N) (.ref (N + 1))
 to : ∃ a b, IsPair h (N + 3) a b
 i1 : h.get? N = some (SqIt b1 l1 k)
 i2 : h.get? (N + 1) = some (SqIt b2 l2 k)
 l1 : h.get? l1 = some (SqOb b1 xs n1)
 l2 : h.get? l2 = some (SqOb b2 ys n2)
structure Apt (N : Nat) : Prop where
 a01 : N ≠ N + 1
 a03 : N ≠ N + 3
 a04 : N ≠ N + 4
 a13 : N + 1 ≠ N + 3
 a14 : N + 1 ≠ N + 4
 a20 : N + 2 ≠ N
 a21 : N + 2 ≠ N + 1
 a23 : N + 2 ≠ N + 3
 a24 : N + 2 ≠ N + 4
 a34 : N + 3 ≠ N + 4
theorem apt (N : Nat) : Apt N := by constructor <;> omega
theorem apl {l N : Nat} (h : l < N) (k : Nat) : l ≠ N + k := Nat.ne_of_lt (Nat.lt_add_right k h)
section
variable {prog : Program} {w : World} {A : Around} {E : Value → Shared → Prop} {s : Shared} {b1 b2 : Bool} {l1 l2 : Addr} {xs ys : Array Value} {n1 n2 : Nat} {N : Addr} {k : Nat}
theorem zp_next {Q : Option Value → Shared → Prop} (hh : A.handled = none) (hl1 : l1 < N) (hl2 : l2 < N) (S : ZS b1 b2 l1 l2 xs ys n1 n2 N .none k s.heap)
  (hE : ∀ h', (xs[k]? = none ∨ ys[k]? = none) → (∀ c o, c ≠ N + 4 → c ≠ N + 3 → c ≠ N → c ≠ N + 1 → s.heap.get? c = some o → h'.get? c = some o) → Q none { s with heap := h' })
  (hQ : ∀ x y h', xs[k]? = some x → ys[k]? = some y → ZS b1 b2 l1 l2 xs ys n1 n2 N (rawInt s.heap.objs.size) (k + 1) h' → IsPair h' s.heap.objs.size x y → (∀ c o, c ≠ N + 4 → c ≠ N + 3 → c ≠ N → c ≠ N + 1 → s.heap.get? c = some o → h'.get? c = some o) → Q (some (.ref s.heap.objs.size)) { s with heap := h' }) :
  wpAny (model prog w) A (pyNext (.ref (N + 4))) Q E s := by
 obtain ⟨hz, hTI, ⟨a, b, hTO⟩, h1, h2, g1, g2⟩ := S
 have D := apt N
 have hT : s.TypeIs (.ref (N + 4)) "zip" := ⟨_, hz, rfl⟩
 have fin : ∀ h' e, (xs[k]? = none ∨ ys[k]? = none) → (∀ c o, c ≠ N + 4 → c ≠ N + 3 → c ≠ N → c ≠ N + 1 → s.heap.get? c = some o → h'.get? c = some o) → (∃ o, h'.get? e = some o ∧ o.cls = .type "StopIteration") →
   wpAny (model prog w) A (do let b ← isInstance (.ref e) (.type "StopIteration"); if b = true then pure none else throw (.ref e)) Q E { s with heap := h' } := fun h' e hn hk he =>
  wpAny_bind (wpAny_isInstance (T := "StopIteration") (b := true) he isSubtype_stop (wpAny_pure (hE _ hn hk)))
 have hoff : ∀ (h : Heap) (e : Addr), IsZip h (N + 4) (N + 2) (N + 3) .ellipsis → (∃ o, h.get? e = some o ∧ o.cls = .type "StopIteration") → e ≠ N + 4 := by
  rintro h e hz ⟨o, ho, hc⟩ rfl
  rw [hz] at ho; cases ho; exact absurd hc (show Value.type "zip" ≠ .type "StopIteration" by decide)
 unfold pyNext
 refine wpAny_bind (wpAny_attempt (wpAny_callSpecial?_slot (name := Str.ofString "__next__") hT F.slot_zip_next (wpAny_call_entry F.slot_zip_next hT F.entry_zip_next ?_ (F.args_zip_next_1 _))))
 show wpAny _ _ (field (.ref (N + 4)) 2 >>= _) _ _ _
 refine wpAny_bind (wpAny_field hz rfl (x := .bool false) rfl ?_)
 show wpAny _ _ (field (.ref (N + 4)) 3 >>= _) _ _ _
 refine wpAny_bind (wpAny_field hz rfl (x := .ref (N + 2)) rfl ?_)
 refine wpAny_bind (wpAny_seqItems hTI rfl ?_)
 show wpAny _ _ (Builtin.SmallTypes.ownedTupleIsFree (.ref (N + 4)) >>= _) _ _ _
 refine wpAny_bind ?_
 unfold Builtin.SmallTypes.ownedTupleIsFree
 refine wpAny_bind (wpAny_field hz rfl (x := .none) rfl (wpAny_pure ?_))
 simp only [if_true]
 refine wpAny_bind (wpAny_rule ?_)
 refine wpAny_bind (wpAny_field hz rfl (x := .ref (N + 3)) rfl ?_)
 refine wpAny_bind (wpAny_setField_rec hz (show 0 < 5 by decide) fun h₁ hz₁ hs₁ => ?_)
 replace hz₁ : IsZip h₁ (N + 4) (N + 2) (N + 3) .ellipsis := hz₁
 refine wpAny_bind ?_
 simp only [List.zipIdx_cons, List.zipIdx_nil, List.forIn_cons, List.forIn_nil]
 refine wpAny_bind (wpAny_bind (wpAny_onRaise ?_))
 show wpAny _ _ (Builtin.SmallTypes.nextOf (.ref N) >>= _) _ _ _
 cases hx : xs[k]? with
 | none =>
  refine wpAny_bind (nx_end (b := b1) (show A.in1.handled = none from hh) (hs₁.extBut _ _ D.a04 h1) (hs₁.extBut _ _ (apl hl1 4) g1) hx fun h₂ e hs₂ he => ?_)
  have hz₂ : IsZip h₂ (N + 4) (N + 2) (N + 3) .ellipsis := hs₂ _ _ D.a04.symm hz₁
  have hez := hoff _ _ hz₂ he
  exact wpAny_setField_rec hz₂ (show 0 < 5 by decide) fun h₃ z' hs₃ => fin h₃ e (.inl hx) (fun c o c1 z' c3 z' x => hs₃.extBut _ _ c1 (hs₂ _ _ c3 (hs₁.extBut _ _ c1 x))) (he.imp fun z' q => ⟨hs₃.extBut _ _ hez q.1, q.2⟩)
 | some x =>
 refine wpAny_bind (nx_row (b := b1) (hs₁.extBut _ _ D.a04 h1) (hs₁.extBut _ _ (apl hl1 4) g1) hx fun h₂ h1₂ hs₂ => wpAny_pure ?_)
 have hTO₂ : IsPair h₂ (N + 3) a b := hs₂.extBut _ _ D.a03.symm (hs₁.extBut _ _ D.a34 hTO)
 refine wpAny_bind (wpAny_seqItems hTO₂ rfl ?_)
 refine wpAny_bind (wpAny_updateSeq_pair hTO₂ fun h₃ hTO₃ hs₃ => ?_)
 replace hTO₃ : IsPair h₃ (N + 3) x b := hTO₃
 refine wpAny_bind (wpAny_letGo (wpAny_pure ?_))
 refine wpAny_bind (wpAny_bind (wpAny_onRaise ?_))
 show wpAny _ _ (Builtin.SmallTypes.nextOf (.ref (N + 1)) >>= _) _ _ _
 have up3 : ∀ c o, c ≠ N + 4 → c ≠ N → c ≠ N + 3 → s.heap.get? c = some o → h₃.get? c = some o := fun c o c1 c2 c3 e => hs₃.extBut _ _ c3 (hs₂.extBut _ _ c2 (hs₁.extBut _ _ c1 e))
 cases hy : ys[k]? with
 | none =>
  refine wpAny_bind (nx_end (b := b2) (show A.in1.handled = none from hh) (up3 _ _ D.a14 D.a01.symm D.a13 h2) (up3 _ _ (apl hl2 4) (apl hl2 0) (apl hl2 3) g2) hy fun h₄ e hs₄ he => ?_)
  have hz₄ : IsZip h₄ (N + 4) (N + 2) (N + 3) .ellipsis := hs₄ _ _ D.a14.symm (hs₃.extBut _ _ D.a34.symm (hs₂.extBut _ _ D.a04.symm hz₁))
  have hez := hoff _ _ hz₄ he
  exact wpAny_setField_rec hz₄ (show 0 < 5 by decide) fun h₅ z' hs₅ => fin h₅ e (.inr hy) (fun c o c1 c2 c3 c4 x => hs₅.extBut _ _ c1 (hs₄ _ _ c4 (up3 c o c1 c3 c2 x))) (he.imp fun z' q => ⟨hs₅.extBut _ _ hez q.1, q.2⟩)
 | some y =>
 refine wpAny_bind (nx_row (b := b2) (up3 _ _ D.a14 D.a01.symm D.a13 h2) (up3 _ _ (apl hl2 4) (apl hl2 0) (apl hl2 3) g2) hy fun h₄ h2₄ hs₄ => wpAny_pure ?_)
 have hTO₄ : IsPair h₄ (N + 3) x b := hs₄.extBut _ _ D.a13.symm hTO₃
 refine wpAny_bind (wpAny_seqItems hTO₄ rfl ?_)
 refine wpAny_bind (wpAny_updateSeq_pair hTO₄ fun h₅ hTO₅ hs₅ => ?_)
 replace hTO₅ : IsPair h₅ (N + 3) x y := hTO₅
 refine wpAny_bind (wpAny_letGo (wpAny_pure (wpAny_pure ?_)))
 refine wpAny_bind (wpAny_seqItems hTO₅ rfl ?_)
 refine wpAny_bind (wpAny_newTuple ?_)
 have hsz : h₅.objs.size = s.heap.objs.size := by rw [hs₅.1, hs₄.1, hs₃.1, hs₂.1, hs₁.1]
 have hz₅ : IsZip h₅ (N + 4) (N + 2) (N + 3) .ellipsis := hs₅.extBut _ _ D.a34.symm (hs₄.extBut _ _ D.a14.symm (hs₃.extBut _ _ D.a34.symm (hs₂.extBut _ _ D.a04.symm hz₁)))
 have hk₅ : ∀ c o, c ≠ N + 4 → c ≠ N + 3 → c ≠ N → c ≠ N + 1 → s.heap.get? c = some o → h₅.get? c = some o := fun c o c1 c2 c3 c4 e => hs₅.extBut _ _ c2 (hs₄.extBut _ _ c4 (up3 c o c1 c3 c2 e))
 have hzlt : N + 4 < h₅.objs.size := Heap.lt_size hz₅
 show wpAny _ _ (Builtin.SmallTypes.ownedTupleHandOut (.ref (N + 4)) (.ref h₅.objs.size) >>= _) _ _ _
 refine wpAny_bind ?_
 unfold Builtin.SmallTypes.ownedTupleHandOut
 have hz₆ : IsZip (h₅.push { cls := .type "tuple", data := .seq #[x, y] }) (N + 4) (N + 2) (N + 3) .ellipsis := Heap.get?_push_of_some _ hz₅
 refine wpAny_bind (wpAny_setField_rec hz₆ (show 0 < 5 by decide) fun h₇ hz₇ hs₇ => ?_)
 replace hz₇ : IsZip h₇ (N + 4) (N + 2) (N + 3) (rawInt h₅.objs.size) := hz₇
 refine wpAny_setField_rec hz₇ (show 1 < 5 by decide) fun h₈ hz₈ hs₈ => ?_
 replace hz₈ : IsZip h₈ (N + 4) (N + 2) (N + 3) (rawInt h₅.objs.size) := hz₈
 have up : ∀ c o, c ≠ N + 4 → h₅.get? c = some o → h₈.get? c = some o := fun c o c1 e => hs₈.extBut _ _ c1 (hs₇.extBut _ _ c1 (Heap.get?_push_of_some _ e))
 have hT₈ : IsPair h₈ h₅.objs.size x y := hs₈.extBut _ _ (Nat.ne_of_gt hzlt) (hs₇.extBut _ _ (Nat.ne_of_gt hzlt) (Heap.get?_push_size _ rfl))
 rw [hsz] at hz₈ hT₈
 refine wpAny_pure ⟨_, rfl, wpAny_pure ?_⟩
 show Q (some (.ref h₅.objs.size)) _
 rw [hsz]
 refine hQ x y h₈ hx hy ⟨hz₈, up _ _ D.a24 (hk₅ _ _ D.a24 D.a23 D.a20 D.a21 hTI), ⟨_, _, up _ _ D.a34 hTO₅⟩, up _ _ D.a04 (hs₅.extBut _ _ D.a03 (hs₄.extBut _ _ D.a01 (hs₃.extBut _ _ D.a03 h1₂))), up _ _ D.a14 (hs₅.extBut _ _ D.a13 h2₄), ?_, ?_⟩ hT₈ fun c o c1 c2 c3 c4 e => up c o c1 (hk₅ c o c1 c2 c3 c4 e)
 ·exact up _ _ (apl hl1 4) (hk₅ _ _ (apl hl1 4) (apl hl1 3) (apl hl1 0) (apl hl1 1) g1)
 ·exact up _ _ (apl hl2 4) (hk₅ _ _ (apl hl2 4) (apl hl2 3) (apl hl2 0) (apl hl2 1) g2)
end
theorem zp_new (l1 l2 : Addr) (b1 b2 : Bool) (xs ys : Array Value) (n1 n2 : Nat) : Meets (Builtin.«zip.__new__» ⟨[.type "zip", .ref l1, .ref l2], []⟩) (fun z' R s => s.heap.get? l1 = some (SqOb b1 xs n1) ∧ s.heap.get? l2 = some (SqOb b2 ys n2) ∧
   ∀ H1 H2 H3 H4, H1 = s.heap.push (SqIt b1 l1 0) → H2 = H1.push (SqIt b2 l2 0) → H3 = H2.push { cls := .type "tuple", data := .seq #[.ref s.heap.objs.size, .ref H1.objs.size] } → H4 = H3.push { cls := .type "tuple", data := .seq #[.none, .none] } →
    R (.ok (.ret (.ref H4.objs.size))) { s with heap := H4.push { cls := .type "zip", data := .fields #[.none, .bool false, .bool false, .ref H2.objs.size, .ref H3.objs.size] } }) :=
 .of_wp fun prog w A R s h => by
  obtain ⟨hp, g, d, tk, os⟩ := s
  obtain ⟨hl1, hl2, h⟩ := h
  have hsub := sub_zip
  have hL2 : (Shared.heap ⟨hp.push (SqIt b1 l1 0), g, d, tk, os⟩).get? l2 = some (SqOb b2 ys n2) := Heap.get?_push_of_some _ hl2
  wp_walk using it_row hl1, it_row hL2
  exact ⟨_, rfl, h _ _ _ _ rfl rfl rfl rfl⟩
theorem zp_call {prog : Program} {w : World} {A : Around} {E : Value → Shared → Prop} {s : Shared} {l1 l2 : Addr} {b1 b2 : Bool} {xs ys : Array Value} {n1 n2 : Nat} {Q : Value → Shared → Prop} (hl1 : s.heap.get? l1 = some (SqOb b1 xs n1)) (hl2 : s.heap.get? l2 = some (SqOb b2 ys n2))
  (hQ : ∀ h', ZS b1 b2 l1 l2 xs ys n1 n2 s.heap.objs.size .none 0 h' → HK s.heap h' → Q (.ref (s.heap.objs.size + 4)) { s with heap := h' }) : wpAny (model prog w) A (call (.type "zip") [.ref l1, .ref l2]) Q E s := by
 refine callType_new F.called_zip (by decide) (F.typeCall_zip_2 _ _) (F.newCall_zip_2 _ _) (fun obj => F.args_object_init_3 obj _ _) F.entry_zip_new (zp_new l1 l2 b1 b2 xs ys n1 n2) ⟨hl1, hl2, fun H1 H2 H3 H4 e1 e2 e3 e4 => ?_⟩
 have z1 : H1.objs.size = s.heap.objs.size + 1 := by rw [e1, Heap.size_push]
 have z2 : H2.objs.size = s.heap.objs.size + 2 := by rw [e2, Heap.size_push, z1]
 have z3 : H3.objs.size = s.heap.objs.size + 3 := by rw [e3, Heap.size_push, z2]
 have z4 : H4.objs.size = s.heap.objs.size + 4 := by rw [e4, Heap.size_push, z3]
 have k1 : HK s.heap H1 := e1 ▸ HK.push _ _
 have k2 : HK H1 H2 := e2 ▸ HK.push _ _
 have k3 : HK H2 H3 := e3 ▸ HK.push _ _
 have k4 : HK H3 H4 := e4 ▸ HK.push _ _
 have g1 : H1.get? s.heap.objs.size = some (SqIt b1 l1 0) := e1 ▸ Heap.get?_push_size _ rfl
 have g2 : H2.get? H1.objs.size = some (SqIt b2 l2 0) := e2 ▸ Heap.get?_push_size _ rfl
 have g3 : H3.get? H2.objs.size = some { cls := .type "tuple", data := .seq #[.ref s.heap.objs.size, .ref H1.objs.size] } := e3 ▸ Heap.get?_push_size _ rfl
 have g4 : H4.get? H3.objs.size = some { cls := .type "tuple", data := .seq #[.none, .none] } := e4 ▸ Heap.get?_push_size _ rfl
 have k5 : HK H4 (H4.push { cls := .type "zip", data := .fields #[.none, .bool false, .bool false, .ref H2.objs.size, .ref H3.objs.size] }) := HK.push _ _
 have g5 : (H4.push { cls := .type "zip", data := .fields #[.none, .bool false, .bool false, .ref H2.objs.size, .ref H3.objs.size] }).get? H4.objs.size = some { cls := .type "zip", data := .fields #[.none, .bool false, .bool false, .ref H2.objs.size, .ref H3.objs.size] } := Heap.get?_push_size _ rfl
 generalize H4.push { cls := .type "zip", data := .fields #[.none, .bool false, .bool false, .ref H2.objs.size, .ref H3.objs.size] } = H5 at k5 g5 ⊢
 clear e1 e2 e3 e4
 show _ ∧ _
 rw [z1] at g2 g3
 rw [z2] at g3 g5
 rw [z3] at g4 g5
 rw [z4] at g5 ⊢
 exact ⟨⟨_, g5, rfl⟩, hQ H5 ⟨g5, k5 _ _ (k4 _ _ g3), ⟨_, _, k5 _ _ g4⟩, k5 _ _ (k4 _ _ (k3 _ _ (k2 _ _ g1))), k5 _ _ (k4 _ _ (k3 _ _ g2)), k5 _ _ (k4 _ _ (k3 _ _ (k2 _ _ (k1 _ _ hl1)))), k5 _ _ (k4 _ _ (k3 _ _ (k2 _ _ (k1 _ _ hl2))))⟩
  fun b o e => k5 _ _ (k4 _ _ (k3 _ _ (k2 _ _ (k1 _ _ e))))⟩
theorem ZS.keeps {b1 b2 : Bool} {l1 l2 : Addr} {xs ys : Array Value} {n1 n2 : Nat} {N : Addr} {f0 : Value} {k : Nat} {h h' : Heap} (S : ZS b1 b2 l1 l2 xs ys n1 n2 N f0 k h) (hk : ∀ b ∈ [N + 4, N + 3, N, N + 1, N + 2, l1, l2], ∀ o, h.get? b = some o → h'.get? b = some o) : ZS b1 b2 l1 l2 xs ys n1 n2 N f0 k h' := by
 obtain ⟨hz, hTI, ⟨a, b, hTO⟩, h1, h2, g1, g2⟩ := S
 exact ⟨hk _ (.head _) _ hz, hk _ (.tail _ (.tail _ (.tail _ (.tail _ (.head _))))) _ hTI, ⟨a, b, hk _ (.tail _ (.head _)) _ hTO⟩, hk _ (.tail _ (.tail _ (.head _))) _ h1, hk _ (.tail _ (.tail _ (.tail _ (.head _)))) _ h2, hk _ (.tail _ (.tail _ (.tail _ (.tail _ (.tail _ (.head _)))))) _ g1, hk _ (.tail _ (.tail _ (.tail _ (.tail _ (.tail _ (.tail _ (.head _))))))) _ g2⟩
theorem in4 {c N : Nat} {P : Prop} (h : c ∉ [N + 4, N + 3, N, N + 1]) (k : c ≠ N + 4 → c ≠ N + 3 → c ≠ N → c ≠ N + 1 → P) : P := k (fun e => h (e ▸ .head _)) (fun e => h (e ▸ .tail _ (.head _))) (fun e => h (e ▸ .tail _ (.tail _ (.head _)))) (fun e => h (e ▸ .tail _ (.tail _ (.tail _ (.head _)))))
theorem lt_min1 {i m a b : Nat} (hm : m = min a b) (h : i < m) : i < a := Nat.lt_of_lt_of_le h (hm ▸ Nat.min_le_left a b)
theorem lt_min2 {i m a b : Nat} (hm : m = min a b) (h : i < m) : i < b := Nat.lt_of_lt_of_le h (hm ▸ Nat.min_le_right a b)
theorem wk_zip {prog : Program} {w : World} {A : Around} (hh : A.handled = none) {b1 b2 : Bool} {l1 l2 : Addr} {xs ys : Array Value} {n1 n2 : Nat} {N : Addr} (hl1 : l1 < N) (hl2 : l2 < N) {m : Nat} (hm : m = min xs.size ys.size) :
  WK prog w A (N + 4) [N + 4, N + 3, N, N + 1, N + 2, l1, l2] [N + 4, N + 3, N, N + 1] true m (fun i v h => ∃ T x y, v = .ref T ∧ xs[i]? = some x ∧ ys[i]? = some y ∧ IsPair h T x y)
   (fun i v h => ∃ T x y, v = .ref T ∧ xs[i]? = some x ∧ ys[i]? = some y ∧ IsPair h T x y ∧ T ≠ N + 4 ∧ ZS b1 b2 l1 l2 xs ys n1 n2 N (rawInt T) (i + 1) h)
   (fun i h => ZS b1 b2 l1 l2 xs ys n1 n2 N .none i h) where
 sub := fun b hb => List.mem_append_left [N + 2, l1, l2] hb
 ex := fun i h S => all_cons (fun e => by rw [S.z] at e; cases e) (all_cons (fun e => by
  obtain ⟨a, b, q⟩ := S.to
  rw [q] at e; cases e) (all_cons (fun e => by rw [S.i1] at e; cases e) (all_cons (fun e => by rw [S.i2] at e; cases e) all_nil)))
 frame := fun i h h' S hk => S.keeps hk
 item := fun i s Q E hi S hQ => by
  have h1 := Array.getElem?_eq_getElem (lt_min1 hm hi)
  have h2 := Array.getElem?_eq_getElem (lt_min2 hm hi)
  refine zp_next hh hl1 hl2 S (fun h' q z' => ?_) fun x y h' h1 h2 S' hp hk => hQ _ h' s.toks ⟨_, _, _, rfl, h1, h2, hp, Nat.ne_of_gt (Heap.lt_size S.z), S'⟩ (fun z' t ht => ?_) fun b o hb e => in4 hb fun q1 q2 q3 q4 => hk b o q1 q2 q3 q4 e
  ·rcases q with q | q
   ·rw [h1] at q; cases q
   ·rw [h2] at q; cases q
  ·cases ht; exact fresh_size _
 done := fun s Q E z' z' S hQ => by
  refine zp_next hh hl1 hl2 S (fun h' z' hk => hQ h' s.toks fun b o hb e => in4 hb fun q1 q2 q3 q4 => hk b o q1 q2 q3 q4 e) fun x y h' h1 h2 z' z' z' => ?_
  obtain ⟨l1, _⟩ := Array.getElem?_eq_some_iff.mp h1
  obtain ⟨l2, _⟩ := Array.getElem?_eq_some_iff.mp h2
  exact absurd (Nat.lt_min.mpr ⟨l1, l2⟩) (hm ▸ Nat.lt_irrefl _)
 own := fun i s v t Q E hs ht hQ => by
  obtain ⟨T, x, y, rfl, h1, h2, hp, hT, S⟩ := hs
  have htt := ht rfl
  cases t with
  | Tuple elts k pos =>
   refine wpAny_letOwnedTupleGo_zip S.z fun h' hz' hs' => hQ h' ?_ ⟨T, x, y, rfl, h1, h2, hs'.extBut _ _ hT hp⟩ fun b o hb e => in4 hb fun q1 z' z' z' => hs'.extBut _ _ q1 e
   have D := apt N
   obtain ⟨a, b, q⟩ := S.to
   exact ⟨hz', hs'.extBut _ _ D.a24 S.ti, ⟨a, b, hs'.extBut _ _ D.a34 q⟩, hs'.extBut _ _ D.a04 S.i1, hs'.extBut _ _ D.a14 S.i2, hs'.extBut _ _ (apl hl1 4) S.l1, hs'.extBut _ _ (apl hl2 4) S.l2⟩
  | _ => exact ff htt
 self := fun i s Q E S hQ => wpAny_pyIter_zip S.z hQ
theorem zipL_get : ∀ {us vs : List V} {i : Nat} {v : V}, (zipL us vs)[i]? = some v → ∃ x y, us[i]? = some x ∧ vs[i]? = some y ∧ v = .tup [x, y]
 | [], _, _, _, h => by cases h
 | _ :: _, [], _, _, h => by cases h
 | x :: _, y :: _, 0, _, h => ⟨x, y, rfl, rfl, by cases h; rfl⟩
 | _ :: us, _ :: vs, i + 1, _, h => zipL_get (us := us) (vs := vs) (i := i) h
theorem zipL_length : ∀ (us vs : List V), (zipL us vs).length = min us.length vs.length
 | [], vs => (Nat.min_eq_left (Nat.zero_le vs.length)).symm
 | _ :: _, [] => rfl
 | _ :: us, _ :: vs => by
  show (zipL us vs).length + 1 = min (us.length + 1) (vs.length + 1)
  rw [zipL_length us vs, Nat.add_min_add_right]
noncomputable def row2 : List V → (V → V → Prop) → Prop
 | [u, v], P => P u v
 | _, _ => False
theorem row2_elim {vs : List V} {W : V → V → Prop} {P : List V → Prop} (h : row2 vs W) (k : ∀ u v, W u v → P [u, v]) : P vs := by
 rcases vs with _ | ⟨a, _ | ⟨b, _ | ⟨e, r⟩⟩⟩
 ·exact False.elim h
 ·exact False.elim h
 ·exact k _ _ h
 ·exact False.elim h
section
variable {G : PG} {d : Nat} {c : Sc}
theorem si_zip {e f : E} {y : Str} {p pos : Pos} {z u : Expr} (hg : isGlob c y "zip" = true) (hz : noStar z = true) (hu : noStar u = true) (he : SE G d c e z) (hf : SE G d c f u) : SI G d c (.zip e f) (.Call (.Name y p) [z, u] [] pos) := by
 intro A env lay Sys base st s F Q X K E hW hK hX
 refine ev_call_t (es := .cons e (.cons f .nil)) (X := X) (Q := fun vs => row2 vs fun u v => rowP st.H u fun xs => rowP st.H v fun ys => Q (zipL xs ys) (depsV u ++ depsV v)) F hg (by decide) rfl (ses_cons hz he (ses_cons hu hf ses_nil)) hW ?_ hX
 ·intro vs vals s₁ h₁ r k
  revert r
  apply row2_elim h₁; clear h₁; intro u v h₁ r
  have F₁ := F.keeps k
  apply rowP_elim h₁; clear h₁; intro ws hws h₁
  apply rowP_elim h₁; clear h₁; intro us hus h₁
  apply RVs.elim r; clear r; intro z zs r1 r2
  apply RVs.elim r2; clear r2; intro z' zs' r2 r3
  apply RVs.elim r3; clear r3
  apply row_elim F₁.sim.objs r1 hws; clear r1; intro a b1 xs n1 hl1 hsz1 rx hd1
  apply row_elim F₁.sim.objs r2 hus; clear r2; intro b b2 ys n2 hl2 hsz2 ry hd2
  ·
   obtain ⟨N, hN⟩ : ∃ N, s₁.heap.objs.size = N := ⟨_, rfl⟩
   have ha : a < N := hN ▸ Heap.lt_size hl1
   have hb : b < N := hN ▸ Heap.lt_size hl2
   have hfr : ∀ q, N ≤ q → s₁.heap.get? q = none := fun q h => Heap.get?_none_of_le (hN ▸ h)
   refine zp_call hl1 hl2 fun h' S kk => ?_
   rw [hN] at S ⊢
   have hwr : ∀ q ∈ [N + 4, N + 3, N, N + 1], N ≤ q := all_cons (Nat.le_add_right ..) (all_cons (Nat.le_add_right ..) (all_cons (Nat.le_refl _) (all_cons (Nat.le_add_right ..) all_nil)))
   have hmn : (zipL ws us).length = min xs.size ys.size := by rw [zipL_length, rx.size, ry.size]
   refine wpAny_pyIter_zip S.z (hK _ _ _ _ h₁ (k.trans (Kp.ofH kk)) ⟨_, _, _, _, _, wk_zip (F₁.cold (isGlob_cold hg rfl)) ha hb hmn, S, fun q h => fresh_keeps k (hfr q (hwr q h)), ?_, ?_, ?_⟩)
   ·obtain ⟨o1, o2, hto⟩ := S.to
    exact all_cons ⟨_, S.z⟩ (all_cons ⟨_, hto⟩ (all_cons ⟨_, S.i1⟩ (all_cons ⟨_, S.i2⟩ (all_cons ⟨_, S.ti⟩ (all_cons ⟨_, S.l1⟩ (all_cons ⟨_, S.l2⟩ all_nil))))))
   ·have no : ∀ {q : Addr} {R : Prop}, q ∈ [N + 4, N + 3, N, N + 1] → q ∉ [N + 4, N + 3, N, N + 1] → R := fun h w => absurd h w
    refine all_cons (no (.head _)) (all_cons (no (.tail _ (.head _))) (all_cons (no (.tail _ (.tail _ (.head _)))) (all_cons (no (.tail _ (.tail _ (.tail _ (.head _))))) (all_cons (fun z' => .inl fun q => ?_) (all_cons (fun z' => hd1.imp id fun h => ⟨List.mem_append_left _ h.1, h.2⟩) (all_cons (fun z' => hd2.imp id fun h => ⟨List.mem_append_right _ h.1, h.2⟩) all_nil))))))
    have hn := hfr (N + 2) (Nat.le_add_right ..)
    rcases q with q | q
    ·exact q (F₁.sim.fresh hn)
    ·exact F₁.sim.live _ q hn
   ·rintro i v val h hv ⟨T, x, y, rfl, hx, hy, hT⟩
    obtain ⟨u1, u2, h1, h2, rfl⟩ := zipL_get hv
    have gen : ∀ {v : V} {x : Value}, RV (NN st.H Sys) s₁.heap v x → RV (NN st.H fun a => Sys a ∨ a ∈ [N + 4, N + 3, N, N + 1]) h' v x := fun r => r.gen (fun b q => (NN.more q).imp id fun q => hfr b (hwr b q)) fun b o z' e => kk b o e
    obtain ⟨x', e1, rx'⟩ := rx.get i h1
    obtain ⟨y', e2, ry'⟩ := ry.get i h2
    rw [Array.getElem?_toList, hx] at e1; cases e1
    rw [Array.getElem?_toList, hy] at e2; cases e2
    exact ⟨T, _, _, _, rfl, rfl, hT, show 2 ≤ sizeLine by decide, .cons (gen rx') (.cons (gen ry') .nil)⟩
end
end Mine
end
section
set_option autoImplicit false
namespace Mine
open PySem PySem.NumText
noncomputable def one1 : List V → (V → Prop) → Prop
 | [u], P => P u
 | _, _ => False
theorem one1_inv {vs : List V} {P : V → Prop} (h : one1 vs P) : ∃ u, vs = [u] ∧ P u := by
 rcases vs with _ | ⟨a, _ | ⟨b, r⟩⟩
 ·exact False.elim h
 ·exact ⟨_, rfl, h⟩
 ·exact False.elim h
theorem tx_seen {x : Str} {n : Int} {v : Value} {M : Model} {A : Around} {E : Value → Shared → Prop} {s : Shared} {Q : Value → Shared → Prop} (hl : x.length ≤ 100) (hn : intText? x = some n) (h : Q (.int n s.toks) { s with toks := s.toks + 1 }) :
  wpAny M A ((int_private% "intFromText") v (numTextOf x) 10) Q E s := by
 have hs : (numSeenOf x).length ≤ 640 := Nat.le_trans (seen_length x) (Nat.le_trans hl (by decide))
 obtain ⟨e, hr⟩ : ((numSeenOf x).length == (numTextOf x).length) = true ∧ (int_private% "readNumeral") 0 10 (numSeenOf x) = (int_private% "Numeral.value") n := by
  rcases read0 x hs with ⟨m, h1, h2, h3⟩ | ⟨h1, _⟩
  ·rw [hn] at h1; cases h1; exact ⟨h2, h3⟩
  ·rw [hn] at h1; cases h1
 wp_delta
 refine wpAny_ite_true (decide_eq_true hs) (wpAny_bind (wpAny_pure ?_))
 dsimp only
 rw [hr]
 exact wpAny_ite_true (decide_eq_true e) (wpAny_mkInt h)
theorem str_noint : typeLookup (.type "str") "__int__" = pure none := by rw [typeLookup_type, builtinLookup_eq_fast]; kernel_rfl
theorem str_noidx : typeLookup (.type "str") "__index__" = pure none := by rw [typeLookup_type, builtinLookup_eq_fast]; kernel_rfl
theorem str_notrunc : typeLookup (.type "str") "__trunc__" = pure none := by rw [typeLookup_type, builtinLookup_eq_fast]; kernel_rfl
set_option maxRecDepth 100000 in
theorem tx_new {x : Str} {u : Tok} {n : Int} (hl : x.length ≤ 100) (hn : intText? x = some n) : Gives (Builtin.«int.__new__» ⟨[.type "int", .str x u], []⟩) (.int n) :=
 .of_wp fun M A E s Q h => by
  obtain ⟨hp, g, d, tk, os⟩ := s
  have f1 := F.conv_sub_int
  have f2 := F.madeHere_int
  have f3 := str_noint
  have f4 := str_noidx
  have f5 := str_notrunc
  have f6 : typeOf (.str x u) = pure (.type "str") := rfl
  have ht := fun (v : Value) (s : Shared) (Q : Value → Shared → Prop) => tx_seen (v := v) (M := M) (A := A) (E := E) (s := s) (Q := Q) hl hn
  clear hl hn
  repeat (any_goals (first
   | assumption
   | with_reducible refine ht _ _ _ ?_
   | wp_step))
  all_goals exact ⟨_, rfl, h⟩
theorem allDigits_eq {l : List Nat} (h : allDigits l = true) : AllDigits l := fun c hc => by
 unfold allDigits at h
 rw [List.all_eq_true] at h
 have := h c hc
 simpa using this
section
variable {G : PG} {d : Nat} {c : Sc} {A : Around} {env : Env} {lay : Nat → Option Place} {Sys : Addr → Prop} {base : Heap} {st : St} {s : Shared}
theorem ev_one {n : String} {e : E} {z : Expr} {y : Str} {p pos : Pos} {Q : V → Prop} {X : String → Prop} {K E : Value → Shared → Prop} (F : Fx G d c A env lay Sys base st s) (hg : isGlob c y n = true) (hn : n ∈ bnames) (hv : bval n = .type n) (hz : noStar z = true) (he : SE G d c e z)
  (hW : WE (G.cx d) e st Q X) (hK : ∀ u va s', Q u → RV (NN st.H Sys) s'.heap u va → Kp (FZ A Sys) s s' → wpAny (model G.prog G.w) A (call (.type n) [va]) K E s') (hX : ∀ e s', Rz G.mg A Sys s X e s' → E e s') :
  wpAny (model G.prog G.w) A (eval (.Call (.Name y p) [z] [] pos) env) K E s := by
 refine ev_call_t (es := .cons e .nil) (X := X) (Q := fun vs => one1 vs Q) F hg hn hv (ses_cons hz he ses_nil) hW ?_ hX
 intro vs vals s₁ h₁ r k
 obtain ⟨u, rfl, h₁⟩ := one1_inv h₁
 apply one_arg r; intro va r1
 exact hK u _ s₁ h₁ r1 k
theorem se_int {a : E} {y : Str} {z : Expr} {p pos : Pos} (F : Fx G d c A env lay Sys base st s) (hg : isGlob c y "int" = true) (hz : noStar z = true) (ha : SE G d c a z) :
  Snd G.prog G.w G.mg A (NN st.H Sys) Sys s false (eval (.Call (.Name y p) [z] [] pos) env) (WE (G.cx d) (.intOf a) st) := by
 intro Q X K E hW hK hX
 refine ev_one F hg (by decide) rfl hz ha hW (fun u va s₁ h₁ r k => ?_) hX
 cases u with
 | bool b =>
  apply RV.elim r
  exact call_int_bool (hK _ _ _ h₁ (.int _ _) (k.trans (Kp.tok _ _)) nofun)
 | str x =>
  apply RV.elim r; intro t ho
  obtain ⟨h1, h2, h3, h4⟩ := h₁
  have hn : x.cps.toList ≠ [] := fun q => by
   have : x.cps.toList.length = 0 := by rw [q]; rfl
   rw [Array.length_toList] at this
   exact Nat.ne_of_gt h2 this
  exact call_int_1 (tx_new (u := t) h3 (intText_digits (allDigits_eq h1) hn (Nat.le_trans h3 (by decide)))).meets ⟨rfl, hK _ _ _ h4 (.int _ _) (k.trans (Kp.tok _ _)) nofun⟩
 | _ => exact False.elim h₁
theorem se_str {a : E} {y : Str} {z : Expr} {p pos : Pos} (F : Fx G d c A env lay Sys base st s) (hg : isGlob c y "str" = true) (hz : noStar z = true) (ha : SE G d c a z) :
  Snd G.prog G.w G.mg A (NN st.H Sys) Sys s false (eval (.Call (.Name y p) [z] [] pos) env) (WE (G.cx d) (.strOf a) st) := by
 intro Q X K E hW hK hX
 refine ev_one F hg (by decide) rfl hz ha hW (fun u va s₁ h₁ r k => ?_) hX
 apply int_val h₁ r; intro i t h₁
 obtain ⟨h1, h2⟩ := h₁
 ·have hlog : i.natAbs.log2 < 1920 := by
   by_cases h0 : i.natAbs = 0
   ·rw [h0]; decide
   ·exact Nat.lt_of_lt_of_le ((Nat.log2_lt h0).mpr h1) (by decide)
  refine P.str_of_int hlog (hK _ _ _ h2 (.str _ _ ⟨int_text_fits hlog, fun c hc => ?_⟩) (k.trans (Kp.tok _ _)) nofun)
  have hc : c ∈ (Str.ofString (toString i)).cps.toList := hc
  rw [Str.ofString_eq_toList] at hc
  simp only [List.mem_map] at hc
  obtain ⟨ch, _, rfl⟩ := hc
  rcases ch.valid with h | ⟨_, h⟩
  ·exact Nat.lt_trans h (by decide)
  ·exact h
theorem se_tupOf {a : E} {y : Str} {z : Expr} {p pos : Pos} (F : Fx G d c A env lay Sys base st s) (hg : isGlob c y "tuple" = true) (hz : noStar z = true) (ha : SE G d c a z) :
  Snd G.prog G.w G.mg A (NN st.H Sys) Sys s false (eval (.Call (.Name y p) [z] [] pos) env) (WE (G.cx d) (.tupOf a) st) := by
 intro Q X K E hW hK hX
 refine ev_one F hg (by decide) rfl hz ha hW (fun u va s₁ h₁ r k => ?_) hX
 obtain ⟨vs, hv, h₁⟩ := seqP_inv h₁
 have F₁ := F.keeps k
 apply seq_val F₁.sim.objs r hv; intro a xs n hl hsz rx
 refine call_tuple_list hl.isList (fun h' hk => ?_) hsz
 have kk : Kp (FZ A Sys) s₁ { s₁ with heap := h' } := Kp.ofH hk
 have F₂ := F₁.keeps kk
 exact hK _ _ _ h₁ (new_tup F₂.sim.objs F₂.sim.live (rx.keeps hk) hsz) ((k.trans kk).trans (Kp.ofH (HK.push _ _))) nofun
end
end Mine
end
section
set_option autoImplicit false
namespace Mine
open PySem
noncomputable abbrev KI (d : Addr) (i n ep : Nat) : Obj := { cls := .type "dict_keyiterator", dict := none, data := .fields #[.ref d, .int i 0, .int n 0, .int ep 0], slots := #[] }
noncomputable abbrev DO (es : Array DictEntry) (ep : Nat) : Obj := { cls := .type "dict", dict := none, data := .dict es ep, slots := #[] }
section
variable {prog : Program} {w : World} {A : Around} {E : Value → Shared → Prop} {s : Shared} {d it : Addr} {es : Array DictEntry} {ep : Nat}
theorem ki_new {Q : Value → Shared → Prop} (hd : s.heap.get? d = some (DO es ep)) (hsm : (d == sysModules) = false) (hQ : Q (.ref s.heap.objs.size) { s with heap := s.heap.push (KI d 0 es.size ep) }) : wpAny (model prog w) A (pyIter (.ref d)) Q E s := by
 have hT : s.TypeIs (.ref d) "dict" := ⟨_, hd, rfl⟩
 refine wpAny_pyIter_slot hT F.slot_dict_iter (wpAny_call_entry F.slot_dict_iter hT F.entry_dict_iter ?_ (F.args_dict_iter_1 _))
 unfold Builtin.«dict.__iter__» Builtin.Dict.dictSlotNone
 refine wpAny_bind (wpAny_bind (wpAny_notOrdered_dict hT (wpAny_pure ?_)))
 show wpAny _ _ (Builtin.Dict.showsAll d >>= _) _ _ s
 unfold Builtin.Dict.showsAll
 refine wpAny_bind (wpAny_ite_false (by rw [hsm]; rfl) (wpAny_pure ?_))
 refine wpAny_bind (wpAny_dictEntries hd rfl (wpAny_bind (wpAny_dictEpoch hd rfl (wpAny_bind (wpAny_newObj_type (wpAny_pure ⟨_, rfl, "dict_keyiterator", _, ⟨_, Heap.get?_push_size _ rfl, rfl⟩, F.slot_dict_keyiterator_next.lookup, hQ⟩))))))
theorem ki_item {i : Nat} {e : DictEntry} {Q : Option Value → Shared → Prop} (hi : s.heap.get? it = some (KI d i es.size ep)) (hd : s.heap.get? d = some (DO es ep)) (he : es[i]? = some e)
  (hQ : Q (some e.key) { s with heap := s.heap.update it (Obj.mapFields (·.setIfInBounds 1 (rawInt ((i : Int) + 1)))) }) : wpAny (model prog w) A (pyNext (.ref it)) Q E s := by
 have hT : s.TypeIs (.ref it) "dict_keyiterator" := ⟨_, hi, rfl⟩
 unfold pyNext
 refine wpAny_bind (wpAny_attempt (wpAny_callSpecial?_slot (name := Str.ofString "__next__") hT F.slot_dict_keyiterator_next (wpAny_call_entry F.slot_dict_keyiterator_next hT F.entry_dict_keyiterator_next ?_ (F.args_dict_keyiterator_next_1 _))))
 refine wpAny_bind (wpAny_pure (wpAny_bind (wpAny_bind (wpAny_bind (wpAny_typeNameOfWhole_keyiter hT (wpAny_pure ?_))))))
 refine wpAny_bind (wpAny_fieldsOf hi rfl ?_)
 have hown : Builtin.Dict_items.ownsTuple "dict_keyiterator" = false := by decide
 rw [hown]
 refine wpAny_ite_false rfl (wpAny_bind (wpAny_pure (wpAny_bind (wpAny_dictEntries hd rfl ?_))))
 rw [if_neg (by simp)]
 refine wpAny_bind (wpAny_pure (wpAny_bind (wpAny_dictEpoch hd rfl ?_)))
 rw [if_neg (by simp)]
 refine wpAny_pure ?_
 dsimp only
 rw [if_neg (Int.not_lt.mpr (Int.natCast_nonneg i)), show es[(i : Int).toNat]? = _ from he]
 refine wpAny_bind (wpAny_bind (wpAny_typeNameOfWhole_keyiter hT (wpAny_pure ?_)))
 refine wpAny_bind (wpAny_isOneOf_keyiter hT ?_)
 show wpAny _ _ (setField (.ref it) 1 (rawInt ((i : Int) + 1)) >>= _) _ _ s
 refine wpAny_bind (wpAny_setField hi rfl (by simp) ?_)
 have hT' : Shared.TypeIs { s with heap := s.heap.update it (Obj.mapFields (·.setIfInBounds 1 (rawInt ((i : Int) + 1)))) } (.ref it) "dict_keyiterator" := ⟨_, Heap.get?_update_self _ hi rfl, rfl⟩
 refine wpAny_bind (wpAny_holding (wpAny_bind (wpAny_isOneOf_keyiter hT' ?_)))
 show wpAny _ _ (pure e.key) _ _ _
 exact wpAny_pure (wpAny_pure ⟨_, rfl, wpAny_pure hQ⟩)
theorem ki_end {i : Nat} {Q : Option Value → Shared → Prop} (hh : A.handled = none) (hi : s.heap.get? it = some (KI d i es.size ep)) (hd : s.heap.get? d = some (DO es ep)) (he : es[i]? = none)
  (hQ : ∀ h', Heap.ExtBut it s.heap h' → Q none { s with heap := h' }) : wpAny (model prog w) A (pyNext (.ref it)) Q E s := by
 have hT : s.TypeIs (.ref it) "dict_keyiterator" := ⟨_, hi, rfl⟩
 have hh' : A.in1.handled = none := hh
 unfold pyNext
 refine wpAny_bind (wpAny_attempt (wpAny_callSpecial?_slot (name := Str.ofString "__next__") hT F.slot_dict_keyiterator_next (wpAny_call_entry F.slot_dict_keyiterator_next hT F.entry_dict_keyiterator_next ?_ (F.args_dict_keyiterator_next_1 _))))
 refine wpAny_bind (wpAny_pure (wpAny_bind (wpAny_bind (wpAny_bind (wpAny_typeNameOfWhole_keyiter hT (wpAny_pure ?_))))))
 refine wpAny_bind (wpAny_fieldsOf hi rfl ?_)
 have hown : Builtin.Dict_items.ownsTuple "dict_keyiterator" = false := by decide
 rw [hown]
 refine wpAny_ite_false rfl (wpAny_bind (wpAny_pure (wpAny_bind (wpAny_dictEntries hd rfl ?_))))
 rw [if_neg (by simp)]
 refine wpAny_bind (wpAny_pure (wpAny_bind (wpAny_dictEpoch hd rfl ?_)))
 rw [if_neg (by simp)]
 refine wpAny_pure ?_
 dsimp only
 rw [if_neg (Int.not_lt.mpr (Int.natCast_nonneg i)), show es[(i : Int).toNat]? = _ from he]
 refine wpAny_bind (wpAny_bind (wpAny_typeNameOfWhole_keyiter hT (wpAny_pure ?_)))
 show wpAny _ _ (setField (.ref it) 0 .none >>= _) _ _ s
 refine wpAny_bind (wpAny_setField hi rfl (by simp) ?_)
 obtain ⟨hp, g, dd, tk, os⟩ := s
 wp_walk
 unfold raiseNew
 wp_walk
 refine wpAny_of_eq isSubtype_stop ?_
 exact wpAny_pure (hQ _ (((Heap.SameBut.update ..).extBut.push _).push _))
end
theorem wk_keys {prog : Program} {w : World} {A : Around} (hh : A.handled = none) {I d : Addr} (hne : d ≠ I) (es : Array DictEntry) (ep : Nat) {m : Nat} (hm : m = es.size) :
  WK prog w A I [I, d] [I] false m (fun i v z' => ∃ e, es[i]? = some e ∧ v = e.key) (fun i v h => (∃ e, es[i]? = some e ∧ v = e.key) ∧ h.get? I = some (KI d (i + 1) es.size ep) ∧ h.get? d = some (DO es ep)) (fun i h => h.get? I = some (KI d i es.size ep) ∧ h.get? d = some (DO es ep)) where
 sub := fun b hb => by rw [List.mem_singleton.mp hb]; exact List.mem_cons_self ..
 ex := fun i h hs b hb e => by rw [List.mem_singleton.mp hb, hs.1] at e; cases e
 frame := fun i h h' hs hk => ⟨hk I (List.mem_cons_self ..) _ hs.1, hk d (List.mem_cons_of_mem _ (List.mem_cons_self ..)) _ hs.2⟩
 item := fun i s Q E hi hs hQ => by
  have hx : es[i]? = some (es[i]'(by omega)) := Array.getElem?_eq_getElem (by omega)
  refine ki_item hs.1 hs.2 hx (hQ _ _ s.toks ⟨⟨_, hx, rfl⟩, ?_, ?_⟩ nofun fun b o hb eo => ?_)
  ·exact Heap.get?_update_self _ hs.1 rfl
  ·exact Heap.get?_update_of_ne _ (Ne.symm hne) hs.2
  ·exact Heap.get?_update_of_ne _ (fun q => hb (q ▸ List.mem_singleton.mpr rfl)) eo
 done := fun s Q E z' z' hs hQ => ki_end hh hs.1 hs.2 (Array.getElem?_eq_none (by omega)) fun h' hk => hQ h' s.toks fun b o hb e => hk b o (fun q => hb (q ▸ List.mem_singleton.mpr rfl)) e
 own := fun i s v t Q E hs z' hQ => own_plain ⟨_, hs.2.1, rfl⟩ (by decide) (hQ s.heap hs.2 hs.1 fun z' z' z' e => e)
 self := fun i s Q E hs hQ => wpAny_pyIter_keyiter (i := i) (n := es.size) (ep := ep) ⟨_, hs.1, rfl, rfl⟩ hQ
section
variable {G : PG} {d : Nat} {c : Sc}
set_option tactic.hygienic true in
theorem si_keys {e : E} {x : Expr} (hcold : c.hot = false) (he : SE G d c e x) : SI G d c (.keys e) x := by
 intro A env lay Sys base st s F Q X K E hW hK hX
 refine (he F).weak _ X _ E hW (fun u va s₁ h₁ r₁ k₁ z' => ?_) hX
 obtain ⟨b, kvs, rfl, hb, h₁⟩ := dictP_inv h₁
 have F₁ := F.keeps k₁
 cases r₁
 cases F₁.sim.objs b _ hb with
 | dict a1 a2 a3 a4 a5 a6 a7 a8 =>
  rename_i es ep xs
  have hne : b ≠ s₁.heap.objs.size := Nat.ne_of_lt (Heap.lt_size a1)
  have hsz : es.size = xs.length := by rw [← Array.length_toList, a2, List.length_map]
  have hlen : (kvs.map fun p => keyV p.1).length = es.size := by
   have := congrArg List.length a5
   simp only [List.length_map] at this
   rw [List.length_map, this, hsz]
  refine ki_new a1 a8 (hK _ _ _ _ h₁ (k₁.trans (Kp.ofH (HK.push _ _))) (.two (wk_keys (F₁.cold hcold) hne es ep hlen) ⟨Heap.get?_push_size _ rfl, Heap.get?_push_of_some _ a1⟩ (fresh_keeps k₁ (fresh_size _)) ⟨_, Heap.get?_push_size _ rfl⟩ ⟨_, Heap.get?_push_of_some _ a1⟩ (.inr ⟨List.mem_singleton.mpr rfl, by rw [hb]; exact nofun⟩) ?_))
  ·rintro i v val h hv ⟨en, hen, rfl⟩
   have hen' : (xs.map (dent G.hf))[i]? = some en := by rw [← a2, Array.getElem?_toList]; exact hen
   rw [List.getElem?_map] at hen'
   cases hx : xs[i]? with
   | none => rw [hx] at hen'; cases hen'
   | some x =>
    rw [hx] at hen'; cases hen'
    have hk : v = keyV x.1 := by
     have h5 : (kvs.map (·.1))[i]? = some x.1 := by rw [a5, List.getElem?_map, hx]; rfl
     rw [List.getElem?_map] at hv h5
     cases hkv : kvs[i]? with
     | none => rw [hkv] at h5; cases h5
     | some p =>
      rw [hkv] at hv h5
      have e1 : p.1 = x.1 := Option.some.inj h5
      have e2 : keyV p.1 = v := Option.some.inj hv
      rw [← e2, e1]
    rw [hk]
    refine (a6 x (List.mem_of_getElem? hx)).gen (fun b q => ?_) fun b o z' e => HK.push _ _ b o e
    rcases NN.more q with q | q
    ·exact .inl q
    ·rw [List.mem_singleton.mp q]; exact .inr (fresh_size _)
end
section
variable {G : PG} {d : Nat} {c : Sc} {A : Around} {env : Env} {lay : Nat → Option Place} {Sys : Addr → Prop} {base : Heap} {st : St} {s : Shared}
theorem se_get {e k v : E} {o z u : Expr} {ap cp : Pos} (F : Fx G d c A env lay Sys base st s) (he : SE G d c e o) (hk : SE G d c k z) (hv : SE G d c v u) (hb : baseX o = true) (hz : noStar z = true) (hu : noStar u = true) (hl : (ap.endLine == cp.line) = true) :
  Snd G.prog G.w G.mg A (NN st.H Sys) Sys s false (eval (.Call (.Attribute o (Str.ofString "get") ap) [z, u] [] cp) env) (WE (G.cx d) (.get e k v) st) := by
 intro Q X K E hW hK hX
 have hbase : attributeBase o (Str.ofString "get") env (eval o env) = eval o env := by cases o <;> first | rfl | exact ff hb
 have hst : backTo cp (starEach [z, u] env) = [(false, eval z env), (false, eval u env)] := by rw [starEach_cons hz, starEach_cons hu]; rfl
 refine wpAny_Call_method (T := "dict") (id := "dict.get") hbase (by rw [hst]; rfl) hl PySem.F.plainAttrs_dict PySem.F.slot_dict_get PySem.F.type_dict_get ?_
 rw [hst]
 refine (he F).weak _ X _ E hW (fun uu va s₁ h₁ r₁ k₁ z' => ?_) hX
 have F₁ := F.keeps k₁
 obtain ⟨b, kvs, e', hb, hV1⟩ := dictP_inv h₁
 subst e'
 cases r₁
 obtain ⟨xs, D⟩ := dict_at (prog := G.prog) (w := G.w) rfl F₁.sim.objs hb
 obtain ⟨ob, _, _, hob, hex, _⟩ := id D.of
 refine ⟨D.of.typeIs, fun a ea => by cases ea; exact ⟨ob, hob, hex.2.1⟩, ?_⟩
 refine wpAny_dict_get2_heap (knd := tupleKind (mixKind G.prog G.w)) (dRoom F₁.rm) D.sm ((hk F₁).weak _ X _ E hV1 (fun kk kv s₂ h₂ r₂ k₂ z' => ?_) fun e s' q => hX e s' (Rz.trans k₁ q))
 have F₂ := F₁.keeps k₂
 refine (hv F₂).weak _ X _ E h₂ (fun w wv s₃ h₃ r₃ k₃ z' => ?_) fun e s' q => hX e s' (Rz.trans (k₁.trans k₂) q)
 have F₃ := F₂.keeps k₃
 obtain ⟨ks, hks, hV⟩ := keyP_inv h₃
 subst hks
 obtain ⟨ka, rfl, hka⟩ := key_at (prog := G.prog) (w := G.w) (r₂.kz k₃.hw)
 obtain ⟨ys, D'⟩ := dict_at (prog := G.prog) (w := G.w) rfl F₃.sim.objs hb
 refine ⟨ka, ks, ys, rfl, hka, D'.of, ?_⟩
 rcases look_at ks D'.vals D'.keys with ⟨e1, e2⟩ | ⟨x, p, e1, e2, rv⟩
 ·rw [e1] at hV; rw [e2]
  exact hK _ _ _ hV r₃ (((k₁.trans k₂).trans k₃).trans (Kp.tok _ _)) nofun
 ·rw [e1] at hV; rw [e2]
  exact hK _ _ _ hV rv (((k₁.trans k₂).trans k₃).trans (Kp.tok _ _)) nofun
end
end Mine
end
section
set_option autoImplicit false
namespace Mine
open PySem
section
variable {G : PG} {d : Nat} {c : Sc} {A : Around} {env : Env} {lay : Nat → Option Place} {Sys : Addr → Prop} {base : Heap} {st : St} {s : Shared} {H : AH}
noncomputable abbrev SL (G : PG) (d : Nat) (c : Sc) (it : It) (z : Expr) : Prop :=
 ∀ {A : Around} {env : Env} {lay : Nat → Option Place} {Sys : Addr → Prop} {base : Heap} {st : St} {s : Shared} {y : Str} {p pos : Pos}, Fx G d c A env lay Sys base st s → isGlob c y "list" = true → noStar z = true →
  Snd G.prog G.w G.mg A (NN st.H Sys) Sys s true (eval (.Call (.Name y p) [z] [] pos) env) (WE (G.cx d) (.listOf it) st)
theorem new_at {hsh : HFn} {h h' : Heap} {vs : List V} {xs : Array Value} {n : Nat} {a : Addr} (ho : HO hsh H Sys h) (hsys : ∀ a, Sys a → h.get? a ≠ none) (hf : h.get? a = none) (hl : IsL h' a xs n) (hz : xs.size ≤ sizeLine) (r : RVs (NN H Sys) h' vs xs.toList) :
  RV (NN H Sys) h' (.lst vs) (.ref a) := by
 refine .lst (fun q => ?_) hl hz r
 rcases q with q | q
 ·cases e : H a with
  | none => exact q e
  | some o =>
   obtain ⟨ob, e'⟩ := (ho _ _ e).exists
   rw [hf] at e'; cases e'
 ·exact hsys _ q hf
theorem RVs.of_get {N : Addr → Prop} {h : Heap} : ∀ {vs : List V} {xs : List Value}, vs.length = xs.length → (∀ (i : Nat) (v : V) (x : Value), vs[i]? = some v → xs[i]? = some x → RV N h v x) → RVs N h vs xs
 | [], [], _, _ => .nil
 | v :: vs, x :: xs, hl, hg => .cons (hg 0 v x rfl rfl) (RVs.of_get (by simpa using hl) fun i u y a b => hg (i + 1) u y (by simpa using a) (by simpa using b))
 | [], _ :: _, hl, _ => by simp at hl
 | _ :: _, [], hl, _ => by simp at hl
end
end Mine
end
section
set_option autoImplicit false
namespace Mine
open PySem
theorem wl_rev {prog : Program} {w : World} {A : Around} (hh : A.handled = none) {I l : Addr} (hne : l ≠ I) (xs : Array Value) (n : Nat) :
  Walks prog w A I [I, l] [I] xs.size (fun i v => xs[xs.size - 1 - i]? = some v) (fun i h => i ≤ xs.size ∧ h.get? I = some (RI l ((xs.size : Int) - 1 - i)) ∧ IsL h l xs n) where
 sub := fun b hb => by simp at hb; simp [hb]
 frame := fun i h h' hs hk => ⟨hs.1, hk I (List.mem_cons_self ..) _ hs.2.1, hk l (List.mem_cons_of_mem _ (List.mem_cons_self ..)) _ hs.2.2⟩
 item := fun i s Q E hi hs hQ => by
  have e := rv1 hi
  have h1 := hs.2.1
  rw [e] at h1
  have hx := Array.getElem?_eq_getElem (rv2 hi)
  refine ri_one h1 hs.2.2 hx ?_
  rw [rv3 hi]
  refine hQ _ _ s.toks hx ⟨hi, ?_, ?_⟩ fun b o hb eo => ?_
  ·exact Heap.get?_update_self _ h1 rfl
  ·exact Heap.get?_update_of_ne _ (Ne.symm hne) hs.2.2
  ·exact Heap.get?_update_of_ne _ (fun q => hb (q ▸ List.mem_singleton.mpr rfl)) eo
 done := fun s Q E hs hQ => by
  have h1 := hs.2.1
  rw [rv4] at h1
  exact ri_end hh h1 fun h' hk => hQ h' s.toks fun b o z' e => hk b o e
 self := fun i s Q E hs hQ => ri_self hs.2.1 hQ
theorem lri_no_len : typeLookup (.type "list_reverseiterator") "__len__" = pure none := by rw [typeLookup_type, builtinLookup_eq_fast]; kernel_rfl
theorem lri_hint : typeLookup (.type "list_reverseiterator") "__length_hint__" = pure (some (.builtin "list_reverseiterator.__length_hint__")) := by rw [typeLookup_type, builtinLookup_eq_fast]; kernel_rfl
section
variable {prog : Program} {w : World} {A : Around} {E : Value → Shared → Prop} {s : Shared}
theorem hint_rev {I l : Addr} {i : Int} {Q : Bool → Shared → Prop} (hr : s.heap.get? I = some (RI l i)) (h : Q false s) : wpAny (model prog w) A (Builtin.List.listLengthHint (.ref I)) Q E s := by
 unfold Builtin.List.listLengthHint
 refine wpAny_bind (wpAny_specialOf ⟨_, hr, rfl⟩ lri_no_len ?_)
 show wpAny _ _ (specialOf (Value.ref I) (Str.ofString "__length_hint__") >>= _) _ _ _
 refine wpAny_bind (wpAny_specialOf ⟨_, hr, rfl⟩ lri_hint ?_)
 generalize hid : ("list_reverseiterator.__length_hint__" : String) = id0
 wp_delta
 rw [show splitId id0 = some ("list_reverseiterator", "__length_hint__") from by subst hid; decide +kernel]
 subst hid
 refine wpAny_bind (wpAny_isInstance (T := "list_reverseiterator") (b := true) ⟨_, hr, rfl⟩ (by rw [isSubtype_type]; kernel_rfl) ?_)
 refine wpAny_ite_split (fun hab => absurd hab (by decide)) (fun z' => ?_)
 refine wpAny_ite_split (fun z' => ?_) (fun hab => absurd (by decide +kernel) hab)
 refine wpAny_ite_split (fun hab => absurd hab (by decide)) (fun z' => ?_)
 exact wpAny_pure h
theorem extend_rev {R : Result → Shared → Prop} (hh : A.handled = none) {I l : Addr} {items : Array Value} (hz : items.size ≤ sizeLine) (hr : s.heap.get? I = some (RI l ((items.size : Int) - 1))) {n : Nat} (hl : IsL s.heap l items n) (S : Addr) (res : Value) (c₀ : Nat)
  (hS : s.heap.get? S = some { cls := .type "list", data := .seq #[] c₀ }) (hne : l ≠ I) (hSl : S ≠ l)
  (hR : ∀ h' tk acc' c', (∀ b o, b ≠ S → b ≠ I → s.heap.get? b = some o → h'.get? b = some o) → h'.get? S = some { cls := .type "list", dict := none, data := .seq acc' c', slots := #[] } →
   ItemsOf (fun i v => items[items.size - 1 - i]? = some v) acc' items.size → R (.ok (.ret res)) { s with heap := h', toks := tk }) :
  wpAny (model prog w) A.in1 (Builtin.List.listExtendWith (.ref S) (.ref I) res)
   (fun fin s' => match fin with | .done f => R (.ok f) s' | .again c' => c'.quiet = true ∧ codeAny (model prog w) A c' R s') (fun e s' => R (.error e) s') s := by
 have hSI : S ≠ I := by
  rintro rfl
  rw [hr] at hS; injection hS with hS; exact absurd (congrArg Obj.cls hS) (by simp [RI])
 have hSf : S ∉ [I, l] := by simp [hSI, hSl]
 have W := (wl_rev (prog := prog) (w := w) (A := A.in1) hh hne items n).toS
 unfold Builtin.List.listExtendWith
 refine wpAny_bind (wpAny_typeOf ⟨_, hr, rfl⟩ ?_)
 have h1 : Builtin.List.listSameRef (.ref S) (.ref I) = false := by simp [Builtin.List.listSameRef, hSI]
 have h2 : (Value.type "list_reverseiterator" == Value.type "list") = false := by decide
 have h3 : (Value.type "list_reverseiterator" == Value.type "tuple") = false := by decide
 simp only [h1, h2, h3, Bool.or_false, Bool.false_eq_true, if_false]
 refine wpAny_bind (ri_self hr ?_)
 refine wpAny_bind (wpAny_holding (hint_rev hr ?_))
 refine wpAny_ite_split (fun hab => absurd hab (by decide +kernel)) (fun z' => ?_)
 refine wpAny_pure ⟨plainId_quiet F.plain_extend_loop _, ?_⟩
 refine codeAny_extend_loopS W hz S hSf res items.size 0 _ #[] c₀ rfl (Nat.zero_le _) ⟨Nat.zero_le _, by simpa using hr, hl⟩ hS (ItemsOf.nil _) fun s' acc' c' hm hS' hacc => ?_
 rw [Moved.eq_with hm]
 refine hR s'.heap s'.toks acc' c' (fun b o hb hb' e => hm.heap b o (fun hmem => ?_) e) hS' hacc
 rcases List.mem_cons.mp hmem with e' | hmem
 ·exact hb e'
 ·exact hb' (List.mem_singleton.mp hmem)
theorem init_rev {R : Result → Shared → Prop} (hh : A.handled = none) {I l : Addr} {items : Array Value} (hz : items.size ≤ sizeLine) (hr : s.heap.get? I = some (RI l ((items.size : Int) - 1))) {n : Nat} (hl : IsL s.heap l items n) (S : Addr)
  (hS : s.heap.get? S = some { cls := .type "list", data := .seq #[] }) (hne : l ≠ I) (hSl : S ≠ l)
  (hR : ∀ h' tk acc' c', (∀ b o, b ≠ S → b ≠ I → s.heap.get? b = some o → h'.get? b = some o) → h'.get? S = some { cls := .type "list", dict := none, data := .seq acc' c', slots := #[] } →
   ItemsOf (fun i v => items[items.size - 1 - i]? = some v) acc' items.size → R (.ok (.ret .none)) { s with heap := h', toks := tk }) :
  wpAny (model prog w) A.in1 (Builtin.«list.__init__» ⟨[.ref S, .ref I], []⟩)
   (fun fin s' => match fin with | .done f => R (.ok f) s' | .again c' => c'.quiet = true ∧ codeAny (model prog w) A c' R s') (fun e s' => R (.error e) s') s := by
 have hSI : S ≠ I := by
  rintro rfl
  rw [hr] at hS; injection hS with hS; exact absurd (congrArg Obj.cls hS) (by simp [RI])
 show wpAny _ A.in1 (do let old ← Builtin.List.listItems (.ref S); Builtin.List.listUpdate (.ref S) (fun z' => #[]); letGo old.toList.reverse; Builtin.List.listExtendWith (.ref S) (.ref I) .none) _ _ s
 refine wpAny_bind ?_
 unfold Builtin.List.listItems
 refine wpAny_bind (wpAny_seqItems hS rfl (wpAny_pure ?_))
 show wpAny _ A.in1 (updateSeq S (fun z' => #[]) >>= fun z' => letGo (#[] : Array Value).toList.reverse >>= fun z' => Builtin.List.listExtendWith (.ref S) (.ref I) .none) _ _ s
 refine wpAny_bind (wpAny_updateSeq hS rfl ?_)
 have hS₂ := Heap.get?_update_self (Obj.mapSeq (fun z' => (#[] : Array Value))) hS rfl
 have oth : ∀ b o, b ≠ S → s.heap.get? b = some o → (s.heap.update S (Obj.mapSeq (fun z' => (#[] : Array Value)))).get? b = some o :=
  fun b o hb e => (Heap.get?_update_other _ _ (Ne.symm hb)).trans e
 refine wpAny_bind (wpAny_letGo ?_)
 refine extend_rev hh hz (oth I _ (Ne.symm hSI) hr) (oth l _ (Ne.symm hSl) hl) S .none _ hS₂ hne hSl fun h' tk acc' c' hk hS' hacc => ?_
 exact hR h' tk acc' c' (fun b o hb hb' e => hk b o hb hb' (oth b o hb e)) hS' hacc
theorem call_list_rev {Q : Value → Shared → Prop} (hh : A.handled = none) {I l : Addr} {items : Array Value} (hz : items.size ≤ sizeLine) (hr : s.heap.get? I = some (RI l ((items.size : Int) - 1))) {n : Nat} (hl : IsL s.heap l items n) (hne : l ≠ I)
  (hQ : ∀ h' tk acc' c', (∀ b o, b ≠ I → s.heap.get? b = some o → h'.get? b = some o) →
   h'.get? s.heap.objs.size = some { cls := .type "list", dict := none, data := .seq acc' c', slots := #[] } → ItemsOf (fun i v => items[items.size - 1 - i]? = some v) acc' items.size → Q (.ref s.heap.objs.size) { s with heap := h', toks := tk }) :
  wpAny (model prog w) A (call (.type "list") [.ref I]) Q E s := by
 refine callType_codes (Q₁ := fun obj s₁ => obj = .ref s.heap.objs.size ∧ s₁ = { s with heap := s.heap.push { cls := .type "list", data := .seq #[] } }) F.called_list (F.typeCall_list_1 _) F.entry_list_init
  (code_list_new _ ⟨rfl, rfl⟩) fun obj s₁ h₁ => ?_
 obtain ⟨rfl, rfl⟩ := h₁
 have hS : (s.heap.push { cls := .type "list", data := .seq #[] }).get? s.heap.objs.size = some { cls := .type "list", data := .seq #[] } := Heap.get?_push_size _ rfl
 refine ⟨⟨_, hS, rfl⟩, F.args_list_init_2 _ _, init_rev (A := A.in1) hh hz (Heap.get?_push_of_some _ hr) (Heap.get?_push_of_some _ hl) _ hS hne (Ne.symm (Nat.ne_of_lt (Heap.lt_size hl))) fun h' tk acc' c' hk hS' hacc => ?_⟩
 exact ⟨rfl, hQ h' tk acc' c' (fun b o hb e => hk b o (Nat.ne_of_lt (Heap.lt_size e)) hb (Heap.get?_push_of_some _ e)) hS' hacc⟩
end
section
variable {G : PG} {d : Nat} {c : Sc}
set_option tactic.hygienic true in
theorem sl_rev {e : E} {y' : Str} {p' pos' : Pos} {z : Expr} (hg' : isGlob c y' "reversed" = true) (hz' : noStar z = true) (he : SE G d c e z) : SL G d c (.rev e) (.Call (.Name y' p') [z] [] pos') := by
 intro A env lay Sys base st s y p pos F hg hz Q X K E hW hK hX
 rw [arm_eval_Call_Name']
 refine wpAny_bind (ld_bltn F hg (by decide) ?_)
 rw [show bval "list" = .type "list" from rfl]
 refine callWith_type (star_plain pos env [.Call (.Name y' p') [z] [] pos'] rfl) ?_
 refine Calls.evalArgs_plain (Calls.spliced_cons ?_)
 refine ev_call_t (es := .cons e .nil) (X := X) (Q := fun vs => ∃ u, vs = [u] ∧ match seqL st.H u with | some ws => ws.reverse.length ≤ sizeLine ∧ Q (.lst ws.reverse) | none => False) F hg' (by decide) rfl (ses_cons hz' he ses_nil) ?_ ?_ hX
 ·simp only [wes_0, wes_1, List.cons.injEq, and_true, exists_eq_left']; exact hW
 ·rintro vs vals s₁ ⟨u, rfl, h₁⟩ r k
  apply one_arg r; intro va r1
  ·split at h₁
   ·rename_i ws hws
    have F₁ := F.keeps k
    apply seq_val F₁.sim.objs r1 hws; intro a xs n hl hsz rx
    have hne : a ≠ s₁.heap.objs.size := Nat.ne_of_lt (Heap.lt_size hl)
    refine ri_calls hl (Calls.spliced_nil ?_)
    have hk1 : HK s₁.heap (s₁.heap.push (RI a ((xs.size : Int) - 1))) := HK.push _ _
    refine call_list_rev (F.cold (isGlob_cold hg' rfl)) hsz (I := s₁.heap.objs.size) (l := a) (Heap.get?_push_size _ rfl) (Heap.get?_push_of_some _ hl) hne fun h' tk acc' c' hk hn hi => ?_
    have kh : HK s₁.heap h' := fun b o e => hk b o (Nat.ne_of_lt (Heap.lt_size e)) (hk1 b o e)
    have kk : Kp (FZ A Sys) s₁ { s₁ with heap := h', toks := tk } := Kp.of kh
    have hlen : acc'.size = xs.size := hi.1
    have hf : s₁.heap.get? (s₁.heap.push (RI a ((xs.size : Int) - 1))).objs.size = none := Heap.get?_none_of_le (by rw [Heap.size_push]; exact Nat.le_succ _)
    have hws' := rx.size
    have rr : RVs (NN st.H Sys) s₁.heap ws.reverse acc'.toList := RVs.of_get ((List.length_reverse ..).trans (hws'.trans hlen.symm)) fun i v x hv hx => ?_
    exact hK _ _ _ h₁.2 (new_at F₁.sim.objs F₁.sim.live hf hn (Nat.le_trans (Nat.le_of_eq hlen) hsz) (rr.kz kk.hw)) (k.trans kk) fun z' => (Frsh.mk (s := s₁) (s' := { s₁ with heap := h', toks := tk }) hf rr kh hn (Nat.le_trans (Nat.le_of_eq hlen) hsz)).before k
    have hp := hi.2 i x (by simpa using hx)
    obtain ⟨x', e', rx'⟩ := (rx.reverse).get i hv
    have hi' : i < xs.size := Nat.lt_of_lt_of_eq (List.getElem?_eq_some_iff.mp hv).1 ((List.length_reverse ..).trans hws')
    rw [List.getElem?_reverse (show i < xs.toList.length from hi'), Array.length_toList, Array.getElem?_toList, hp] at e'
    cases e'
    exact rx'
   ·exact h₁.elim
end
end Mine
end
section
set_option autoImplicit false
namespace Mine
open PySem
theorem cut_mem {α : Type} {xs : List α} {lo hi : Nat} {x : α} (h : x ∈ cutL xs lo hi) : x ∈ xs := List.mem_of_mem_drop (List.mem_of_mem_take h)
theorem cut_len {α : Type} (xs : List α) (lo hi : Nat) : (cutL xs lo hi).length ≤ xs.length := Nat.le_trans (List.length_take_le' ..) (Nat.le_trans (Nat.le_of_eq List.length_drop) (Nat.sub_le ..))
theorem clip_le (n : Nat) (z : Int) : clipAt n z ≤ n := Int.toNat_le.mpr (Int.max_le.mpr ⟨Int.natCast_nonneg n, Int.min_le_right ..⟩)
theorem cut_whole {α : Type} {xs : List α} {i j : Nat} (h1 : j - i = xs.length) (h2 : j ≤ xs.length) : cutL xs i j = xs := by
 have e : xs.length - i = xs.length := Nat.le_antisymm (Nat.sub_le ..) (Nat.le_trans (Nat.le_of_eq h1.symm) (Nat.sub_le_sub_right h2 i))
 refine ((List.take_sublist _ _).trans (List.drop_sublist _ _)).eq_of_length ?_
 rw [List.length_take, List.length_drop, h1, e, Nat.min_self]
set_option tactic.hygienic true in
theorem RVs.cut {N : Addr → Prop} {h : Heap} {vs : List V} {xs : List Value} (r : RVs N h vs xs) (lo hi : Nat) : RVs N h (cutL vs lo hi) (cutL xs lo hi) := by
 have hl := r.length
 refine RVs.of_get (by simp [cutL, hl]) fun i v x hv hx => ?_
 simp only [cutL, List.getElem?_take, List.getElem?_drop] at hv hx
 split at hv
 ·rename_i hlt
  rw [if_pos hlt] at hx
  obtain ⟨x', e, rx⟩ := r.get _ hv
  rw [hx] at e; cases e; exact rx
 ·cases hv
set_option tactic.hygienic true in
theorem bnd_part {N : Addr → Prop} {h : Heap} {n e : Nat} {v : V} {x : Value} {k : Nat} (r : RV N h v x) (hb : bnd n e v = some k) : ∃ o : Option Int, IsPart x o ∧ k = o.elim e (clipAt n) ∧ ∃ l : Option (Int × Tok), x = partValue l ∧ l.map (·.1) = o := by
 cases r <;> simp [bn_none, bn_int, bn_bool, bn_str, bn_tup, bn_lst, bn_ref, bn_inst, bn_iref, bn_exc, bn_dct] at hb
 ·exact ⟨none, .none, hb.symm, none, rfl, rfl⟩
 ·rename_i i t
  exact ⟨some i, .int i t, hb.symm, some (i, t), rfl, rfl⟩
theorem strIdx (lo hi : Option Int) (n : Nat) : Builtin.Str.strSliceIndices lo hi 1 n = sliceRange ((lo.elim 0 (clipAt n) : Nat) : Int) ((hi.elim n (clipAt n) : Nat) : Int) 1 := by
 unfold Builtin.Str.strSliceIndices
 cases lo <;> cases hi <;> simp [clipAt_cast]
section
variable {G : PG} {d : Nat} {c : Sc} {A : Around} {env : Env} {lay : Nat → Option Place} {Sys : Addr → Prop} {base : Heap} {st : St} {s : Shared} {H : AH}
noncomputable abbrev SP (G : PG) (d : Nat) (c : Sc) (e : E) (x : Option Expr) : Prop := match x with
 | some x => SE G d c e x
 | none => e = .none
theorem sp_eval {e : E} {x : Option Expr} {Q : V → Prop} {X : String → Prop} {K E : Value → Shared → Prop} (h : SP G d c e x) (F : Fx G d c A env lay Sys base st s) (hW : WE (G.cx d) e st Q X)
  (hK : ∀ v val s', Q v → RV (NN st.H Sys) s'.heap v val → Kp (FZ A Sys) s s' → K val s') (hX : ∀ e s', Rz G.mg A Sys s X e s' → E e s') : wpAny (model G.prog G.w) A (evalPart x env) K E s := by
 cases x with
 | none =>
  have h : e = .none := h
  subst h
  rw [evalPart_none]
  exact wpAny_pure (hK _ _ _ (by simpa [we_0, we_1, we_2, we_3, we_4, we_5, we_6, we_7, we_8, we_9, we_10, we_11, we_12, we_13, we_14, we_15, we_16, we_17, we_18, we_19, we_20, we_21, we_22, we_23, we_24, we_25, we_26, we_27, we_28, we_29, we_30, we_31, we_32, we_33, we_34, we_35, we_36, we_37] using hW) .none (Kp.refl s))
 | some x =>
  rw [evalPart_some]
  exact (show SE G d c e x from h) F |>.weak _ X _ E hW (fun v val s' q r k z' => hK v val s' q r k) hX
set_option tactic.hygienic true in
theorem prim_slice {value : Expr} {lower upper : Option Expr} {p : Pos} {u lv hv : V} {a l h : Value} {Q : V → Prop} {K E : Value → Shared → Prop} (F : Fx G d c A env lay Sys base st s) (hW : sliceV st.H u lv hv Q)
  (ra : RV (NN st.H Sys) s.heap u a) (rl : RV (NN st.H Sys) s.heap lv l) (rh : RV (NN st.H Sys) s.heap hv h)
  (hK : ∀ r val s', Q r → RV (NN st.H Sys) s'.heap r val → Kp (FZ A Sys) s s' → K val s') :
  wpAny (model G.prog G.w) A (PyProof.Rows.subscriptTail value (.Slice lower upper none p) a (.ref s.heap.objs.size)) K E { s with heap := s.heap.push { cls := .type "slice", data := .fields #[l, h, .none] } } := by
 have k1 : Kp (FZ A Sys) s { s with heap := s.heap.push { cls := .type "slice", data := .fields #[l, h, .none] } } := Kp.ofH (HK.push _ _)
 have F₁ := F.keeps k1
 unfold sliceV at hW
 split at hW
 ·rename_i x
  cases ra with
  | str _ t hx =>
   split at hW
   ·rename_i i j hi hj
    obtain ⟨oi, pi, ei, li, vi, mi⟩ := bnd_part rl hi
    obtain ⟨oj, pj, ej, lj, vj, mj⟩ := bnd_part rh hj
    subst vi vj
    refine PyProof.Rows.tail_any (typeIs_str _ x t) PySem.F.slot_str_getitem.lookup (wpAny_getItem_str_slice (l := li) (u := lj) (st := none) ⟨_, Heap.get?_push_size _ rfl, rfl, rfl⟩ rfl ?_) rfl
    have hpick : slicePicked x li lj none = (List.range (j - i)).map (i + ·) := by
     unfold slicePicked
     rw [mi, mj]
     show Builtin.Str.strSliceIndices oi oj 1 x.length = _
     rw [strIdx, ← ei, ← ej, sliceRange_one]
    have hcut : (slicePicked x li lj none).filterMap (x.cps[·]?) = cutL x.cps.toList i j := by rw [hpick, pick_run]; rfl
    have hok : SOk ⟨(cutL x.cps.toList i j).toArray⟩ := hx.sub (cut_len ..) fun c hc => cut_mem hc
    unfold sliceMade
    split
    ·rename_i hw
     have hwhole : cutL x.cps.toList i j = x.cps.toList := by
      refine cut_whole (((congrArg List.length hpick).trans ((List.length_map ..).trans List.length_range)).symm.trans (eq_of_beq hw)) ?_
      show j ≤ x.cps.size
      rw [ej]
      cases oj with
      | none => exact Nat.le_refl _
      | some z => exact clip_le ..
     rw [hwhole] at hW
     exact hK _ _ _ hW (.str _ _ hx) k1
    ·refine ⟨?_, ?_⟩
     ·rw [hcut]; exact hok.1
     ·rw [hcut]
      exact hK _ _ _ hW (.str _ _ hok) (k1.trans (Kp.tok _ _))
   ·exact hW.elim
 ·split at hW
  ·rename_i vs hvs
   split at hW
   ·rename_i i j hi hj
    obtain ⟨oi, pi, ei, _⟩ := bnd_part rl hi
    obtain ⟨oj, pj, ej, _⟩ := bnd_part rh hj
    apply seq_val F.sim.objs ra hvs; intro ad xs n hl hz rx
    have hsz := rx.size
    have hl1 := hl.isList.push { cls := .type "slice", data := .fields #[l, h, .none] }
    refine PyProof.Rows.tail_any hl1.typeIs slot_list_getitem.lookup (wpAny_getItem_list_slice hl1 (Heap.IsSliceOf.new ..) pi pj .none (by simp) ?_ hz) rfl
    have hpick : slicePick xs oi oj none = (cutL xs.toList i j).toArray := by
     rw [slicePick_plain, ei, ej, hsz]; rfl
    rw [hpick]
    exact hK _ _ _ hW (new_lst F₁.sim.objs F₁.sim.live ((rx.kz k1.hw).cut i j) (Nat.le_trans (cut_len ..) hz)) (k1.trans (Kp.ofH (HK.push _ _)))
   ·exact hW.elim
  ·exact hW.elim
theorem se_slice {a lo hi : E} {y : Expr} {lower upper : Option Expr} {p pos : Pos} (F : Fx G d c A env lay Sys base st s) (ha : SE G d c a y) (hl : SP G d c lo lower) (hh : SP G d c hi upper) :
  Snd G.prog G.w G.mg A (NN st.H Sys) Sys s false (eval (.Subscript y (.Slice lower upper none p) pos) env) (WE (G.cx d) (.slice a lo hi) st) := by
 intro Q X K E hW hK hX
 simp only [we_16] at hW
 refine PyProof.Rows.Subscript_ ((ha F).weak _ X _ E hW (fun u va s₁ h₁ r₁ k₁ z' => ?_) hX)
 have F₁ := F.keeps k₁
 refine wpAny_Slice (sp_eval hl F₁ h₁ (fun lv l s₂ h₂ r₂ k₂ => ?_) fun e s' q => hX e s' (Rz.trans k₁ q))
 have F₂ := F₁.keeps k₂
 refine sp_eval hh F₂ h₂ (fun hv h s₃ h₃ r₃ k₃ => ?_) fun e s' q => hX e s' (Rz.trans (k₁.trans k₂) q)
 have F₃ := F₂.keeps k₃
 rw [evalPart_none]
 refine wpAny_pure ?_
 exact prim_slice F₃ h₃ (r₁.kz (k₂.trans k₃).hw) (r₂.kz k₃.hw) r₃ fun r val s' q rv k => hK r val s' q rv (((k₁.trans k₂).trans k₃).trans k) nofun
set_option tactic.hygienic true in
theorem strs_are {N : Addr → Prop} {h : Heap} : ∀ {vs : List V} {xs : List Value} {ys : List Str}, RVs N h vs xs → strsOf vs = some ys → PyProof.Rows.StrsAre xs ys ∧ ∀ y ∈ ys, SOk y
 | _, _, ys, .nil, e => by simp [so_nil, so_none, so_bool, so_int, so_str, so_tup, so_lst, so_ref, so_inst, so_iref, so_exc, so_dct] at e; subst e; exact ⟨.nil, by simp⟩
 | _, _, ys, .cons r1 r2, e => by
  cases r1 <;> simp [so_nil, so_none, so_bool, so_int, so_str, so_tup, so_lst, so_ref, so_inst, so_iref, so_exc, so_dct] at e
  rename_i s0 t0 ho
  obtain ⟨zs, e1, rfl⟩ := e
  obtain ⟨h1, h2⟩ := strs_are r2 e1
  exact ⟨.cons _ _ h1, by simp; exact ⟨ho, h2⟩⟩
theorem lenAll_eq : ∀ ys : List Str, lenAll ys = (ys.map (·.length)).sum
 | [] => rfl
 | y :: ys => by simp [la_nil, la_cons, lenAll_eq ys]
theorem join_mem {sep : Str} : ∀ {ys : List Str} {ch : Nat}, ch ∈ (Str.join sep ys).cps.toList → ch ∈ sep.cps.toList ∨ ∃ y ∈ ys, ch ∈ y.cps.toList
 | [], ch, h => by simp [Str.join, Str.empty] at h
 | [y], ch, h => .inr ⟨y, by simp, h⟩
 | y :: z :: r, ch, h => by
  have e : (Str.join sep (y :: z :: r)) = y ++ sep ++ Str.join sep (z :: r) := rfl
  rw [e] at h
  have e2 : (y ++ sep ++ Str.join sep (z :: r)).cps = y.cps ++ sep.cps ++ (Str.join sep (z :: r)).cps := rfl
  rw [e2] at h
  simp only [Array.toList_append, List.mem_append] at h
  rcases h with (h | h) | h
  ·exact .inr ⟨y, by simp, h⟩
  ·exact .inl h
  ·rcases join_mem h with h | ⟨u, hu, h⟩
   ·exact .inl h
   ·exact .inr ⟨u, by simp at hu ⊢; exact .inr hu, h⟩
set_option tactic.hygienic true in
theorem se_join {a : E} {t : Str} {k : Nat} {z : Expr} {p ap pos : Pos} (F : Fx G d c A env lay Sys base st s) (hline : (ap.endLine == pos.line) = true) (ht : SOk t) (hz : noStar z = true) (ha : SE G d c a z) :
  Snd G.prog G.w G.mg A (NN st.H Sys) Sys s false (eval (.Call (.Attribute (.Constant (.str t) k p) (Str.ofString "join") ap) [z] [] pos) env) (WE (G.cx d) (.join (.str t) a) st) := by
 intro Q X K E hW hK hX
 simp only [we_3, we_20, we_29] at hW
 refine wpAny_Call_method (T := "str") (id := "str.join") rfl (by rw [starEach_cons hz]; rfl) hline PySem.F.plainAttrs_str PySem.F.slot_str_join PySem.F.type_str_join ?_
 refine wpAny_Constant_str ⟨typeIs_str _ _ _, nofun, ?_⟩
 have k₁ : Kp (FZ A Sys) s { s with toks := s.toks + 1 } := Kp.tok s _
 have F₁ := F.keeps k₁
 rw [starEach_cons hz]
 refine Calls.callWith_builtin rfl (Calls.evalArgs_plain (Calls.spliced_cons ((ha F₁).weak _ X _ E hW (fun v va s₂ h₂ r₂ k₂ z' => Calls.spliced_nil ?_) fun e s' q => hX e s' (Rz.trans k₁ q))))
 have F₂ := F₁.keeps k₂
 split at h₂
 ·rename_i _ ss e1 e2
  cases e1
  simp only [Option.bind_eq_some_iff] at e2
  obtain ⟨vs, e3, e4⟩ := e2
  apply seq_val F₂.sim.objs r₂ e3; intro ad xs n hl hsz rx
  obtain ⟨h1, h2⟩ := strs_are rx e4
  have hok : (ss.map (·.length)).sum + ss.length * t.length ≤ 16777216 := by
   rw [← lenAll_eq, Nat.mul_comm]; exact h₂.1
  refine PyProof.Rows.join_list hl.isList h1 hok fun t' tk => ?_
  have ej : Txt.join t ss = Str.join t ss := StrLaws.glued_eq_join t ss
  rw [ej]
  refine hK _ _ _ h₂.2 (.str _ _ ⟨?_, fun ch hc => ?_⟩) ((k₁.trans k₂).trans (Kp.tok _ _)) nofun
  ·exact Nat.le_trans (StrLaws.join_length_le t ss) hok
  ·rcases join_mem hc with h | ⟨y, hy, h⟩
   ·exact ht.2 ch h
   ·exact (h2 y hy).2 ch h
 ·exact h₂.elim
end
section
variable {G : PG} {d : Nat} {c : Sc} {A : Around} {env : Env} {lay : Nat → Option Place} {Sys : Addr → Prop} {base : Heap} {st : St} {s : Shared}
theorem intsP_inv {vs : List V} {P : List Int → Prop} (h : intsP vs P) : ∃ is, intsOf vs = some is ∧ P is := by
 unfold intsP at h
 cases e : intsOf vs with
 | none => rw [e] at h; exact False.elim h
 | some x => rw [e] at h; exact ⟨_, rfl, h⟩
theorem ints_items {N : Addr → Prop} {h : Heap} : ∀ (is : List Int) {vs : List V} {xs : List Value}, RVs N h vs xs → intsOf vs = some is → ∃ ps : List (Int × Tok), xs = ps.map (fun p => Value.int p.1 p.2) ∧ ps.map (·.1) = is := by
 intro is vs
 induction vs generalizing is with
 | nil => intro xs r e; cases r; cases e; exact ⟨[], rfl, rfl⟩
 | cons v vs ih =>
  intro xs r e
  cases r with
  | cons r1 r2 =>
   cases r1 with
   | int i t =>
    obtain ⟨js, e1, rfl⟩ := Option.map_eq_some_iff.mp e
    obtain ⟨ps, rfl, rfl⟩ := ih js r2 e1
    exact ⟨(i, t) :: ps, rfl, rfl⟩
   | _ => cases e
theorem ints_val {hsh : HFn} {H : AH} {Sys : Addr → Prop} {h : Heap} (ho : HO hsh H Sys h) {v : V} {x : Value} {W : List Int → Prop} {P : Value → Prop} (hW : seqP H v fun vs => intsP vs W) (r : RV (NN H Sys) h v x)
  (k : ∀ l (ps : List (Int × Tok)) n, IsL h l (intItems ps.toArray) n → W (ps.map (·.1)) → P (.ref l)) : P x := by
 obtain ⟨ws, e1, q⟩ := seqP_inv hW
 obtain ⟨is, e2, q⟩ := intsP_inv q
 apply seq_val ho r e1; intro l xs n hl _ rx
 obtain ⟨ps, e3, rfl⟩ := ints_items _ rx e2
 have e4 : xs = intItems ps.toArray := by apply Array.ext'; rw [e3]; simp [intItems]
 exact k l ps n (e4 ▸ hl) q
theorem two_ints {N : Addr → Prop} {h : Heap} {vs : List V} {vals : List Value} {W : Int → Int → Prop} {P : List Value → Prop} (q : int2 vs W) (r : RVs N h vs vals) (k : ∀ i j t t', W i j → P [.int i t, .int j t']) : P vals := by
 rcases vs with _ | ⟨a, _ | ⟨b, _ | ⟨e, r⟩⟩⟩
 ·exact False.elim q
 ·exact False.elim q
 ·apply RVs.elim r; intro x xs r1 r2
  apply one_arg r2; intro y r3
  apply int_val q r1; intro i t q
  apply int_val q r3; intro j t' q
  exact k i j t t' q
 ·exact False.elim q
theorem sum1_val {N : Addr → Prop} {h : Heap} {H : AH} {vs : List V} {vals : List Value} {W : Int → Prop} {P : List Value → Prop} (q : sum1 H vs W) (r : RVs N h vs vals) (k : ∀ u x, RV N h u x → (seqP H u fun vs => intsP vs fun is => W is.sum) → P [x]) : P vals := by
 rcases vs with _ | ⟨a, _ | ⟨b, r⟩⟩
 ·exact False.elim q
 ·apply one_arg r; intro x r1; exact k a x r1 q
 ·exact False.elim q
theorem se_sum {a : E} {y : Str} {z : Expr} {p pos : Pos} (F : Fx G d c A env lay Sys base st s) (hg : isGlob c y "sum" = true) (hz : noStar z = true) (ha : SE G d c a z) :
  Snd G.prog G.w G.mg A (NN st.H Sys) Sys s false (eval (.Call (.Name y p) [z] [] pos) env) (WE (G.cx d) (.sum a) st) := by
 intro Q X K E hW hK hX
 refine ev_call_b (es := .cons a .nil) (X := X) (Q := fun vs => sum1 st.H vs fun n => Q (.int n)) F hg (by decide) rfl (ses_cons hz ha ses_nil) hW ?_ hX
 intro vs vals s₁ q r k
 apply sum1_val q r; intro u x r1 q
 apply ints_val (F.keeps k).sim.objs q r1; intro l ps n hl q
 refine sum_intListG (F.cold (isGlob_cold hg rfl)) (IsL.isList hl) fun h' tk t' hk => ?_
 have e5 : preSum (numAt ps.toArray) ps.toArray.size = (ps.map (·.1)).sum := by rw [preSum_eq, List.take_of_length_le (by simp)]
 rw [e5]
 exact hK _ _ _ q (.int _ _) (k.trans (Kp.of hk)) nofun
theorem se_max2 {a b : E} {y : Str} {z u : Expr} {p pos : Pos} (F : Fx G d c A env lay Sys base st s) (hg : isGlob c y "max" = true) (hz : noStar z = true) (hu : noStar u = true) (ha : SE G d c a z) (hb : SE G d c b u) :
  Snd G.prog G.w G.mg A (NN st.H Sys) Sys s false (eval (.Call (.Name y p) [z, u] [] pos) env) (WE (G.cx d) (.max2 a b) st) := by
 intro Q X K E hW hK hX
 refine ev_call_b (es := .cons a (.cons b .nil)) (X := X) (Q := fun vs => int2 vs fun i j => Q (.int (if j > i then j else i))) F hg (by decide) rfl (ses_cons hz ha (ses_cons hu hb ses_nil)) hW ?_ hX
 intro vs vals s₁ q r k
 apply two_ints q r; intro i j t1 t2 q
 refine max_two_ints (F.cold (isGlob_cold hg rfl)) fun h' tk hk => ?_
 have e : (if j > i then Value.int j t2 else Value.int i t1) = .int (if j > i then j else i) (if j > i then t2 else t1) := by split <;> rfl
 rw [e]
 exact hK _ _ _ q (.int _ _) (k.trans (Kp.of hk)) nofun
theorem se_min2 {a b : E} {y : Str} {z u : Expr} {p pos : Pos} (F : Fx G d c A env lay Sys base st s) (hg : isGlob c y "min" = true) (hz : noStar z = true) (hu : noStar u = true) (ha : SE G d c a z) (hb : SE G d c b u) :
  Snd G.prog G.w G.mg A (NN st.H Sys) Sys s false (eval (.Call (.Name y p) [z, u] [] pos) env) (WE (G.cx d) (.min2 a b) st) := by
 intro Q X K E hW hK hX
 refine ev_call_b (es := .cons a (.cons b .nil)) (X := X) (Q := fun vs => int2 vs fun i j => Q (.int (if j < i then j else i))) F hg (by decide) rfl (ses_cons hz ha (ses_cons hu hb ses_nil)) hW ?_ hX
 intro vs vals s₁ q r k
 apply two_ints q r; intro i j t1 t2 q
 refine min_two_ints (F.cold (isGlob_cold hg rfl)) fun h' tk hk => ?_
 have e : (if j < i then Value.int j t2 else Value.int i t1) = .int (if j < i then j else i) (if j < i then t2 else t1) := by split <;> rfl
 rw [e]
 exact hK _ _ _ q (.int _ _) (k.trans (Kp.of hk)) nofun
end
noncomputable def bst : Option Int → List Int → Option Int
 | b, [] => b
 | none, x :: r => bst (some x) r
 | some m, x :: r => bst (some (if x > m then x else m)) r
theorem bst_some : ∀ (r : List Int) (m : Int), bst (some m) r = some (maxI m r)
 | [], _ => rfl
 | x :: r, m => bst_some r _
noncomputable def Bx : Option Int → Array Value → Prop
 | none, a => a = #[]
 | some m, a => ∃ t, a = #[.int m t, .int m t]
noncomputable def Rs (d : Value) : Option Int → Value → Prop
 | none, v => v = d
 | some m, v => ∃ t, v = .int m t
section
variable {prog : Program} {w : World} {A : Around} {R : Result → Shared → Prop} {I : Addr} {fp wr : List Addr} {n : Nat} {P : Nat → Value → Prop} {St : Nat → Heap → Prop}
theorem drop_getD {ns : List Int} {j : Nat} (h : j < ns.length) : ns.drop j = ns.getD j 0 :: ns.drop (j + 1) := by
 rw [List.drop_eq_getElem_cons h, List.getD_eq_getElem?_getD, List.getElem?_eq_getElem h]; rfl
theorem max_go (W : Walks prog w A.in1 I fp wr n P St) (ns : List Int) (hns : ns.length = n) (hP : ∀ i v, P i v → ∃ t, v = Value.int (ns.getD i 0) t) (S : Addr) (hSf : S ∉ fp) (dn : Str) (dv : Value) :
  ∀ (k j : Nat) (s : Shared) (b : Option Int) (items : Array Value) (c : Nat), n - j = k → j ≤ n → St j s.heap → Bx b items →
  s.heap.get? S = some { cls := .type "list", dict := none, data := .seq items c, slots := #[] } →
  (∀ v h' tk, Rs dv (bst b (ns.drop j)) v → (∀ b o, b ∉ wr → b ≠ S → s.heap.get? b = some o → h'.get? b = some o) → R (.ok (.ret v)) { s with heap := h', toks := tk }) →
  codeAny (model prog w) A (.builtin "max.loop" ⟨[.ref I, .none, .ref S], [(dn, dv)]⟩) R s := by
 have hSw : S ∉ wr := fun h => hSf (W.sub _ h)
 have hname : (toString "max" ++ toString ".loop" : String) = "max.loop" := by decide
 intro k
 induction k with
 | zero =>
  intro j s b items c hk hj hst hb hS hR
  have hin : j = n := Nat.le_antisymm hj (Nat.le_of_sub_eq_zero hk)
  subst hin
  have hdrop : ns.drop j = [] := List.drop_of_length_le (Nat.le_of_eq hns)
  rw [hdrop] at hR
  refine codeAny_builtin F.entry_max_loop ?_
  rw [Around.under_plainId F.plain_max_loop _]
  show wpAny _ A.in1 (seqItems? (.ref S) >>= _) _ _ s
  refine wpAny_bind (wpAny_seqItems hS rfl ?_)
  show wpAny _ A.in1 (tryCatch (pyNext (.ref I)) _ >>= _) _ _ s
  refine wpAny_bind (wpAny_tryCatch (W.done s _ _ hst fun h' tk hk' => ?_))
  have hS' := hk' S _ hSw hS
  cases b with
  | none =>
   cases hb
   refine wpAny_bind (wpAny_rule ?_)
   exact wpAny_pure (hR dv _ tk rfl fun b o hbw z' e => hk' b o hbw e)
  | some m =>
   obtain ⟨t, rfl⟩ := hb
   show wpAny _ A.in1 (updateSeq S (fun z' => #[]) >>= _) _ _ _
   refine wpAny_bind ?_
   refine wpAny_updateSeq hS' rfl (wpAny_bind (wpAny_letGo (wpAny_pure ?_)))
   exact hR _ _ tk ⟨t, rfl⟩ fun b o hbw hbS e => (Heap.get?_update_other _ _ (Ne.symm hbS)).trans (hk' b o hbw e)
 | succ k ih =>
  intro j s b items c hk hj hst hb hS hR
  have hlt : j < n := Nat.lt_of_sub_eq_succ hk
  have hk : n - (j + 1) = k := congrArg Nat.pred hk
  have hdrop : ns.drop j = ns.getD j 0 :: ns.drop (j + 1) := drop_getD (hns ▸ hlt)
  rw [hdrop] at hR
  refine codeAny_builtin F.entry_max_loop ?_
  rw [Around.under_plainId F.plain_max_loop _]
  show wpAny _ A.in1 (seqItems? (.ref S) >>= _) _ _ s
  refine wpAny_bind (wpAny_seqItems hS rfl ?_)
  show wpAny _ A.in1 (tryCatch (pyNext (.ref I)) _ >>= _) _ _ s
  refine wpAny_bind (wpAny_tryCatch (W.item j s _ _ hlt hst fun v h' tk hPv hst' hk' => ?_))
  have hS' := hk' S _ hSw hS
  obtain ⟨tv, rfl⟩ := hP _ _ hPv
  cases b with
  | none =>
   cases hb
   show wpAny _ A.in1 (updateSeq S (fun z' => #[.int (ns.getD j 0) tv, .int (ns.getD j 0) tv]) >>= _) _ _ _
   refine wpAny_bind ?_
   refine wpAny_updateSeq hS' rfl ?_
   rw [hname]
   refine wpAny_pure ⟨plainId_quiet F.plain_max_loop _, ih (j + 1) _ (some (ns.getD j 0)) _ _ hk hlt (W.frame _ _ _ hst' fun b hbf o e => ?_) ⟨tv, rfl⟩ (Heap.get?_update_self _ hS' rfl) fun v' h'' tk'' hr hk'' => ?_⟩
   ·exact (Heap.get?_update_other _ _ (fun h : S = b => hSf (by rw [h]; exact hbf))).trans e
   ·exact hR v' h'' tk'' hr fun b o hbw hbS e => hk'' b o hbw hbS ((Heap.get?_update_other _ _ (Ne.symm hbS)).trans (hk' b o hbw e))
  | some m =>
   obtain ⟨t, rfl⟩ := hb
   have hcmp : CmpOf prog w A.in1 .Gt (fun i v => ∃ t, v = Value.int (if i = 0 then ns.getD j 0 else m) t) _ := CmpOf.ints_gt (fun i => if i = 0 then ns.getD j 0 else m) (fun z' z' h => h)
   show wpAny _ A.in1 (tryCatch (holding [_, _] (richCompare .Gt (.int (ns.getD j 0) tv) (.int m t) >>= _)) _ >>= _) _ _ _
   refine wpAny_bind (wpAny_tryCatch (wpAny_holding (wpAny_bind (hcmp 0 1 _ _ _ _ _ ⟨tv, rfl⟩ ⟨t, rfl⟩ ?_))))
   refine wpAny_bind (wpAny_holding (wpAny_truthy_bool ?_))
   refine wpAny_bind (wpAny_letGo (wpAny_pure ?_))
   by_cases hg : ns.getD j 0 > m
   ·have hb : decide ((if (0 : Nat) = 0 then ns.getD j 0 else m) > (if (1 : Nat) = 0 then ns.getD j 0 else m)) = true := decide_eq_true hg
    rw [if_pos hb]
    refine wpAny_bind ?_
    refine wpAny_updateSeq hS' rfl (wpAny_bind (wpAny_letGo ?_))
    rw [hname]
    refine wpAny_pure ⟨plainId_quiet F.plain_max_loop _, ih (j + 1) _ (some (ns.getD j 0)) _ _ hk hlt (W.frame _ _ _ hst' fun b hbf o e => ?_) ⟨tv, rfl⟩ (Heap.get?_update_self _ hS' rfl) fun v' h'' tk'' hr hk'' => ?_⟩
    ·exact (Heap.get?_update_other _ _ (fun h : S = b => hSf (by rw [h]; exact hbf))).trans e
    ·refine hR v' h'' tk'' ?_ fun b o hbw hbS e => hk'' b o hbw hbS ((Heap.get?_update_other _ _ (Ne.symm hbS)).trans (hk' b o hbw e))
     show Rs dv (bst (some (if ns.getD j 0 > m then ns.getD j 0 else m)) _) v'
     rw [if_pos hg]; exact hr
   ·have hb : decide ((if (0 : Nat) = 0 then ns.getD j 0 else m) > (if (1 : Nat) = 0 then ns.getD j 0 else m)) = false := decide_eq_false hg
    rw [if_neg (fun q => absurd (hb.symm.trans q) (by decide))]
    refine wpAny_bind (wpAny_letGo ?_)
    rw [hname]
    refine wpAny_pure ⟨plainId_quiet F.plain_max_loop _, ih (j + 1) _ (some m) _ c hk hlt hst' ⟨t, rfl⟩ hS' fun v' h'' tk'' hr hk'' => ?_⟩
    refine hR v' h'' tk'' ?_ fun b o hbw hbS e => hk'' b o hbw hbS (hk' b o hbw e)
    show Rs dv (bst (some (if ns.getD j 0 > m then ns.getD j 0 else m)) _) v'
    rw [if_neg hg]; exact hr
end
section
variable {prog : Program} {w : World} {A : Around} {E : Value → Shared → Prop} {s : Shared}
theorem args_maxD (a d : Value) : argsOk "max" ⟨[a], [(Str.ofString "default", d)]⟩ := by unfold argsOk; kernel_rfl
theorem call_maxD {l : Addr} {ps : List (Int × Tok)} {dv : Value} {Q : Value → Shared → Prop} (hh : A.handled = none) (hl : s.heap.IsList l (intItems ps.toArray))
  (h : ∀ v h' tk, Rs dv (bst none (ps.map (·.1))) v → (∀ b o, s.heap.get? b = some o → h'.get? b = some o) → Q v { s with heap := h', toks := tk }) :
  wpAny (model prog w) A (call (.builtin "max") [.ref l] [(Str.ofString "default", dv)]) Q E s := by
 have hname : (toString "max" ++ toString ".loop" : String) = "max.loop" := by decide
 have hbody : wpAny (model prog w) A.in1 (Builtin.«max» ⟨[.ref l], [(Str.ofString "default", dv)]⟩) (fun fin s' => match fin with
   | .done f => (match (Except.ok f : Result) with | .ok (.ret v) => Q v s' | .ok _ => False | .error e => E e s')
   | .again c' => c'.quiet = true ∧ codeAny (model prog w) A c' (fun r s' => match r with | .ok (.ret v) => Q v s' | .ok _ => False | .error e => E e s') s') E s := by
  show wpAny _ A.in1 (Builtin.Builtins.bindParams "max" ["key", "default"] 0 ⟨[], [(Str.ofString "default", dv)]⟩ >>= _) _ _ s
  refine wpAny_bind (wpAny_of_eq (show Builtin.Builtins.bindParams "max" ["key", "default"] 0 ⟨[], [(Str.ofString "default", dv)]⟩ = pure [none, some dv] from by kernel_rfl) ?_)
  refine wpAny_bind (wpAny_pure ?_)
  refine wpAny_bind (iter_intList hl fun s₂ e st hfp hlI => ?_)
  subst e
  refine wpAny_bind (wpAny_newObj_type ?_)
  rw [hname]
  have hsz : ∀ b ∈ [s.heap.objs.size, l], b < (s.heap.push { cls := .type "list_iterator", data := .fields #[.ref l, .int 0 0] }).objs.size := hfp
  have W := Walks.list (prog := prog) (w := w) (A := A.in1) hh s.heap.objs.size l hlI (intItems ps.toArray)
  have hSf : (s.heap.push { cls := .type "list_iterator", data := .fields #[.ref l, .int 0 0] }).objs.size ∉ [s.heap.objs.size, l] := fun hm => Nat.lt_irrefl _ (hsz _ hm)
  refine wpAny_pure ⟨plainId_quiet F.plain_max_loop _, max_go W (ps.map (·.1)) (by simp [intItems]) ?_ _ hSf _ dv _ 0 _ none #[] _ rfl (Nat.zero_le _) (W.frame _ _ _ st fun b z' o e => Heap.get?_push_of_some _ e) rfl (Heap.get?_push_size _ rfl) fun v h' tk hr hk => ?_⟩
  ·intro i v hv
   obtain ⟨t, rfl⟩ := intItems_at hv
   refine ⟨t, ?_⟩
   congr 1
   simp [numAt, List.getD]
  ·refine h v h' tk (by simpa using hr) ?_
   refine old_kept (s := s) (l := l) fun b o hb e => ?_
   exact hk b o hb (Nat.ne_of_lt (Heap.lt_size e)) (Heap.get?_push_of_some _ e)
 refine wpAny_call (codeAny_call_builtin F.plain_max F.entry_max ?_)
 simp only [checkBuiltinCall, F.kind_max]
 have ha := args_maxD (.ref l) dv
 cases hsig : Manifest.signature? "max" with
 | none => exact wpAny_pure hbody
 | some sig =>
  simp only [argsOk, hsig] at ha
  have h2 : Bind.checkArgs "max" sig ⟨[.ref l], [(Str.ofString "default", dv)]⟩ = pure () := ha
  show wpAny _ A.in1 (Bind.checkArgs "max" sig ⟨[.ref l], [(Str.ofString "default", dv)]⟩) _ _ s
  rw [h2]; exact wpAny_pure hbody
end
section
variable {G : PG} {d : Nat} {c : Sc} {A : Around} {env : Env} {lay : Nat → Option Place} {Sys : Addr → Prop} {base : Heap} {st : St} {s : Shared}
theorem se_maxd {a b : E} {y k : Str} {z u : Expr} {p pos kp : Pos} (F : Fx G d c A env lay Sys base st s) (hg : isGlob c y "max" = true) (hz : noStar z = true) (hk : k = Str.ofString "default") (ha : SE G d c a z) (hb : SE G d c b u) :
  Snd G.prog G.w G.mg A (NN st.H Sys) Sys s false (eval (.Call (.Name y p) [z] [⟨some k, u, kp⟩] pos) env) (WE (G.cx d) (.maxd a b) st) := by
 subst hk
 intro Q X K E hW hK hX
 rw [arm_eval_Call_Name']
 refine wpAny_bind (ld_bltn F hg (by decide) ?_)
 have he : backTo pos (starEach [z] env) = (false, eval z env) :: backTo pos (starEach [] env) := by rw [starEach_cons hz]; rfl
 show wpAny _ _ (callWith pos (.builtin "max") [] _ _) _ _ _
 refine PyProof.Rows.callWith_kw ?_ he (by rw [he]; rfl) rfl rfl
 rw [he]
 refine Calls.spliced_cons ((ha F).weak _ X _ E hW (fun v va s₁ q₁ r₁ k₁ z' => Calls.spliced_nil ?_) hX)
 have F₁ := F.keeps k₁
 refine PyProof.Rows.kws_cons ((hb F₁).weak _ X _ E q₁ (fun v' vd s₂ q₂ r₂ k₂ z' => PyProof.Rows.kws_nil ?_) fun e s' q => hX e s' (Rz.trans k₁ q))
 have F₂ := F₁.keeps k₂
 apply ints_val F₂.sim.objs q₂ (r₁.kz k₂.hw); intro l ps n hl q₂
 refine call_maxD (F.cold (isGlob_cold hg rfl)) (IsL.isList hl) fun v h' tk hr hk' => ?_
 have kk : Kp (FZ A Sys) s { s₂ with heap := h', toks := tk } := (k₁.trans k₂).trans (Kp.of hk')
 cases hps : ps.map (·.1) with
 | nil =>
  rw [hps] at hr q₂
  cases hr
  exact hK _ _ _ q₂ (r₂.keeps hk') kk nofun
 | cons i r =>
  rw [hps] at hr q₂
  have hr : Rs vd (bst (some i) r) v := hr
  rw [bst_some] at hr
  obtain ⟨t, rfl⟩ := hr
  exact hK _ _ _ q₂ (.int _ _) kk nofun
end
end Mine
end
section
set_option autoImplicit false
namespace Mine
open PySem
noncomputable def Tc (is : List Nat) (lay : Nat → Option Place) (h h' : Heap) : Prop := ∀ b o, (∀ i ∈ is, ∀ p, lay i = some p → b ≠ p.addr) → h.get? b = some o → h'.get? b = some o
theorem Tc.trans {is : List Nat} {lay : Nat → Option Place} {a b c : Heap} (x : Tc is lay a b) (y : Tc is lay b c) : Tc is lay a c := fun p o n e => y p o n (x p o n e)
theorem Tc.ofHK {is : List Nat} {lay : Nat → Option Place} {a b : Heap} (x : HK a b) : Tc is lay a b := fun p o z' e => x p o e
theorem Tc.more {is js : List Nat} {lay : Nat → Option Place} {a b : Heap} (x : Tc is lay a b) (h : ∀ i ∈ is, i ∈ js) : Tc js lay a b := fun p o n e => x p o (fun i hi => n i (h i hi)) e
noncomputable def Tg.idx : Tg → List Nat
 | .var i => [i]
 | .tup is => is
section
variable {prog : Program} {w : World} {A : Around} {E : Value → Shared → Prop} {hsh : HFn} {T : Heap → Prop} {lay : Nat → Option Place} {Sys Z : Addr → Prop} {base : Heap} {st : St} {s : Shared} {env : Env} {c : Sc}
noncomputable def NameOk (c : Sc) (x : Str) (i : Nat) : Prop := c.σ.lookup x = some i ∧ (c.names.lookup x = some .local ∨ c.names.lookup x = some .cell)
theorem chkN_elim {i : Nat} {tg : Expr} {P : Expr → Prop} (h : chkN c i tg = true) (k : ∀ x pos, NameOk c x i → P (.Name x pos)) : P tg := by
 apply onName_elim h; clear h; intro x pos h
 simp only [Bool.and_eq_true, isVar, canStore, decide_eq_true_eq, Bool.or_eq_true] at h
 exact k x pos ⟨h.1.1, h.2⟩
theorem chkNs_elim {is : List Nat} {xs : List Expr} {P : List Nat → List Expr → Prop} (h : chkNs c is xs = true) (k : ∀ i j x y p q, NameOk c x i → NameOk c y j → i ≠ j → P [i, j] [.Name x p, .Name y q]) : P is xs := by
 refine two_elim (P := fun is => P is xs) h fun i j h => two_elim (P := fun xs => P [i, j] xs) h fun x y h => ?_
 apply and3_elim h; clear h; intro h1 h2 h3
 exact chkN_elim (P := fun x => P [i, j] [x, y]) h1 fun x p h1 => chkN_elim (P := fun y => P [i, j] [_, y]) h2 fun y q h2 => k i j x y p q h1 h2 (of_decide_eq_true h3)
theorem RV.tc {v : V} {x : Value} {h' : Heap} (S : Sim hsh T lay Sys Z base st s.heap) (r : RV (NN st.H Sys) s.heap v x) {is : List Nat} (t : Tc is lay s.heap h') : RV (NN st.H Sys) h' v x :=
 r.gen (fun z' q => .inl q) fun b o nb e => t b o (fun i z' p hp hb => nb (.inr (hb ▸ (S.sys i p hp).1))) e
theorem st_name {M : Model} {i : Nat} {x : Str} {v : V} {val : Value} {Q : Unit → Shared → Prop} (O : EnvOk env c.names c.σ lay) (S : Sim hsh T lay Sys Z base st s.heap) (h : NameOk c x i) (hi : i < st.ρ.length) (hr : RV (NN st.H Sys) s.heap v val)
  (hQ : ∀ h' tk, Sim hsh T lay Sys Z base { st with ρ := st.ρ.set i (some v) } h' → Tc [i] lay s.heap h' → Q () { s with heap := h', toks := tk }) : wpAny M A (storeName env x val) Q E s := by
 refine st_var O S h.1 hi (fun e => ?_) hr fun h' t p hp hs hsim => hQ h' t hsim fun b o nb e => (hs.2 b (nb i (List.mem_singleton.mpr rfl) p hp)).trans e
 rcases h.2 with h2 | h2
 ·rw [O.lc x h2] at e; cases e
 ·rw [O.ce x h2] at e; cases e
theorem st_one {M : Model} {i : Nat} {tg : Expr} {v : V} {val : Value} {Q : Unit → Shared → Prop} (O : EnvOk env c.names c.σ lay) (S : Sim hsh T lay Sys Z base st s.heap) (ht : chkN c i tg = true) (hi : i < st.ρ.length) (hr : RV (NN st.H Sys) s.heap v val)
  (hQ : ∀ h' tk, Sim hsh T lay Sys Z base { st with ρ := st.ρ.set i (some v) } h' → Tc [i] lay s.heap h' → Q () { s with heap := h', toks := tk }) : wpAny M A (assign tg env val) Q E s :=
 chkN_elim (P := fun tg => wpAny M A (assign tg env val) Q E s) ht fun z' z' h => wpAny_assign_Name (st_name O S h hi hr hQ)
theorem st_two {M : Model} {i j : Nat} {x y : Str} {v w : V} {a b : Value} {t u : Value → Sem Unit} {Q : Unit → Shared → Prop} (ht : ∀ {s : Shared} {Q : Unit → Shared → Prop}, wpAny M A (storeName env x a) Q E s → wpAny M A (t a) Q E s) (hu : ∀ {s : Shared} {Q : Unit → Shared → Prop}, wpAny M A (storeName env y b) Q E s → wpAny M A (u b) Q E s)
  (O : EnvOk env c.names c.σ lay) (S : Sim hsh T lay Sys Z base st s.heap) (h1 : NameOk c x i) (h2 : NameOk c y j) (hi : i < st.ρ.length) (hj : j < st.ρ.length) (r1 : RV (NN st.H Sys) s.heap v a) (r2 : RV (NN st.H Sys) s.heap w b)
  (hQ : ∀ h' tk, Sim hsh T lay Sys Z base { st with ρ := (st.ρ.set i (some v)).set j (some w) } h' → Tc [i, j] lay s.heap h' → Q () { s with heap := h', toks := tk }) : wpAny M A (assignInOrder [t, u] [a, b]) Q E s := by
 refine wpAny_bind (wpAny_holding (ht (st_name O S h1 hi r1 fun h' tk S' tc => ?_)))
 refine wpAny_bind (wpAny_holding (hu (st_name O S' h2 (Nat.lt_of_lt_of_eq hj (List.length_set ..).symm) (RV.tc (st := st) (s := s) S r2 tc) fun h'' tk' S'' tc' => ?_)))
 exact wpAny_pure (hQ h'' tk' S'' ((tc.more fun z' q => List.mem_singleton.mp q ▸ List.mem_cons_self ..).trans (tc'.more fun z' q => List.mem_cons_of_mem _ q)))
theorem no_some {α : Type} {x : α} {P : Prop} (h : (none : Option α) = some x) : P := nomatch h
theorem set_one {i : Nat} {is : List Nat} {v : V} {vs : List V} {ρ ρ' : List (Option V)} {P : Prop} (h : setAll (i :: is) (v :: vs) ρ = some ρ') (k : i < ρ.length → setAll is vs (ρ.set i (some v)) = some ρ' → P) : P := by
 have h : (match putV i v ρ with
  | some ρ' => setAll is vs ρ'
  | Option.none => Option.none) = some ρ' := h
 unfold putV at h
 by_cases hi : i < ρ.length
 ·rw [if_pos hi] at h; exact k hi h
 ·rw [if_neg hi] at h; exact no_some h
theorem put_one {i : Nat} {v : V} {ρ ρ' : List (Option V)} {P : Prop} (h : putV i v ρ = some ρ') (k : i < ρ.length → ρ.set i (some v) = ρ' → P) : P := by
 have h : (if i < ρ.length then some (ρ.set i (some v)) else none) = some ρ' := h
 by_cases hi : i < ρ.length
 ·rw [if_pos hi] at h; exact k hi (Option.some.inj h)
 ·rw [if_neg hi] at h; exact no_some h
theorem bind_one {t : Tg} {v : V} {ρ ρ' : List (Option V)} {P : Prop} (h : bindT t v ρ = some ρ') (k1 : ∀ i, t = .var i → i < ρ.length → ρ.set i (some v) = ρ' → P) (k2 : ∀ is vs, t = .tup is → v = .tup vs → setAll is vs ρ = some ρ' → P) : P := by
 cases t with
 | var i => exact put_one h (k1 i rfl)
 | tup is => cases v with
  | tup vs => exact k2 is vs rfl rfl h
  | _ => exact no_some h
theorem set_two {i j : Nat} {vs : List V} {ρ ρ' : List (Option V)} {P : List V → Prop} (h : setAll [i, j] vs ρ = some ρ') (k : ∀ v w, i < ρ.length → j < ρ.length → (ρ.set i (some v)).set j (some w) = ρ' → P [v, w]) : P vs := by
 rcases vs with _ | ⟨v, _ | ⟨w, _ | ⟨_, _⟩⟩⟩
 ·exact no_some h
 ·apply set_one h; intro _ h; exact no_some h
 ·apply set_one h; intro hi h; apply set_one h; intro hj h; exact k v w hi (Nat.lt_of_lt_of_eq hj (List.length_set ..)) (Option.some.inj h)
 ·apply set_one h; intro _ h; apply set_one h; intro _ h; exact no_some h
theorem setAll_len : ∀ {is : List Nat} {vs : List V} {ρ ρ' : List (Option V)}, setAll is vs ρ = some ρ' → is.length = vs.length ∧ ρ'.length = ρ.length
 | [], [], _, _, h => ⟨rfl, congrArg List.length (Option.some.inj h).symm⟩
 | [], _ :: _, _, _, h => no_some h
 | _ :: _, [], _, _, h => no_some h
 | i :: is, v :: vs, ρ, ρ', h => by
  apply set_one h; intro _ h
  exact ⟨congrArg Nat.succ (setAll_len h).1, (setAll_len h).2.trans (List.length_set ..)⟩
theorem bindT_len {t : Tg} {v : V} {ρ ρ' : List (Option V)} (h : bindT t v ρ = some ρ') : ρ'.length = ρ.length := by
 apply bind_one h
 ·intro i _ _ e; rw [← e]; exact List.length_set ..
 ·intro is vs _ _ h; exact (setAll_len h).2
theorem st_tg {t : Tg} {tg : Expr} {v : V} {val : Value} {ρ' : List (Option V)} {Q : Unit → Shared → Prop} (hh : c.hot = false → A.handled = none) (O : EnvOk env c.names c.σ lay) (S : Sim hsh T lay Sys Z base st s.heap) (ht : chkTg c t tg = true) (hb : bindT t v st.ρ = some ρ')
  (hr : RV (NN st.H Sys) s.heap v val) (hQ : ∀ h' tk, Sim hsh T lay Sys Z base { st with ρ := ρ' } h' → Tc t.idx lay s.heap h' → Q () { s with heap := h', toks := tk }) : wpAny (model prog w) A (assign tg env val) Q E s := by
 cases t with
 | var i =>
  apply put_one hb; intro hi e; subst e
  exact st_one O S ht hi hr hQ
 | tup is =>
  apply onTup_elim ht; clear ht; intro xs k pos ht
  obtain ⟨ht, hc⟩ := (Bool.and_eq_true _ _).mp ht
  have hh := hh ((Bool.not_eq_true' _).mp hc)
  revert hb hQ
  apply chkNs_elim ht; intro i j x y p q n1 n2 _ hb hQ
  cases v with
  | tup vs =>
   revert hr
   apply set_two hb; intro v w hi hj e hr
   subst e
   apply RV.elim hr; clear hr; intro ad ys n h1 h2 h3 h4
   refine wpAny_assign_Tuple hh (IsT.isTuple h2) h4.size rfl fun h' he => ?_
   have hk : HK s.heap h' := fun b o e => he b o (Nat.ne_of_lt (Heap.lt_size e)) e
   revert h4; generalize ys.toList = zs; intro h4
   apply RVs.elim (h4.keeps hk); intro a as r1 r2
   apply RVs.elim r2; intro b bs r2 r3
   apply RVs.elim r3
   exact st_two (s := { s with heap := h' }) wpAny_assign_Name wpAny_assign_Name O (S.keeps hk) n1 n2 hi hj r1 r2 fun h'' tk S' tc => hQ h'' tk S' ((Tc.ofHK hk).trans tc)
  | _ => exact no_some hb
end
theorem Sim.enter {hsh : HFn} {T : Heap → Prop} {lay : Nat → Option Place} {Sys Z New : Addr → Prop} {base : Heap} {st : St} {h h' : Heap} (S : Sim hsh T lay Sys Z base st h) (k : HW Z h h') (hn : ∀ b, New b → h.get? b = none) (hn' : ∀ b, New b → h'.get? b ≠ none) :
  Sim hsh T lay (fun a => Sys a ∨ New a) Z base st h' where
 keep := S.keep.trans k
 zs := fun b q => .inl (S.zs b q)
 top := let ⟨b0, t, k0, n⟩ := S.top; ⟨b0, t, k0, fun a q => q.elim (fun q => q.elim (fun q => n a (.inl q)) fun q => (HW.of (Z := Sys) k0).ext (S.keep.ext (hn a q))) fun q => n a (.inr q)⟩
 vals := fun i v p a b => by
  obtain ⟨val, x, y⟩ := S.vals i v p a b
  refine ⟨val, x.kz k, y.gen (fun b q => ?_) fun b o nb e => (k b o e).1 fun q => nb (.inr (S.zs b q))⟩
  rcases q with q | q | q
  ·exact .inl (.inl q)
  ·exact .inl (.inr q)
  ·exact .inr (hn b q)
 ok := fun i p a => (S.ok i p a).kz k
 inj := S.inj
 sys := fun i p a => ⟨.inl (S.sys i p a).1, (S.sys i p a).2⟩
 objs := fun a o e => (S.objs a o e).gen (fun b q => by
  rcases q with q | q | q
  ·exact .inl (.inl q)
  ·exact .inl (.inr q)
  ·exact .inr (hn b q)) (fun b o nb e => (k b o e).1 fun q => nb (.inr (S.zs b q))) (fun o' e' => (k a o' e').1 fun q => by rw [S.dis a (S.zs a q)] at e; cases e)
 own := S.own
 live := fun a q e => by
  rcases q with q | q
  ·exact S.live a q (k.ext e)
  ·exact hn' a q e
 ent := S.ent
 dis := fun a q => q.elim (S.dis a) fun q => S.fresh (hn a q)
theorem nodup_inj {α : Type} {l : List α} (h : l.Nodup) {i j : Nat} (hi : i < l.length) (hj : j < l.length) (e : l[i] = l[j]) : i = j := by
 have h' := List.pairwise_iff_getElem.mp h
 rcases Nat.lt_trichotomy i j with h1 | h1 | h1
 ·exact absurd e (h' i j hi hj h1)
 ·exact h1
 ·exact absurd e.symm (h' j i hj hi h1)
noncomputable def wipe (used : Nat) (ρ : List (Option V)) : List (Option V) := ρ.mapIdx fun i o => if i < used then o else none
theorem wipe_length (u : Nat) (ρ : List (Option V)) : (wipe u ρ).length = ρ.length := List.length_mapIdx
theorem wipe_get {u i : Nat} {ρ : List (Option V)} {v : V} (h : (wipe u ρ)[i]? = some (some v)) : i < u ∧ ρ[i]? = some (some v) := by
 obtain ⟨o, ho, e⟩ := Option.map_eq_some_iff.mp (List.getElem?_mapIdx.symm.trans h)
 by_cases hi : i < u
 ·rw [if_pos hi] at e; exact ⟨hi, e ▸ ho⟩
 ·rw [if_neg hi] at e; exact no_some e
noncomputable def layC (used : Nat) (C : Addr) (xs : List Str) (lay : Nat → Option Place) : Nat → Option Place := fun i => if i < used then lay i else (xs[i - used]?).map (Place.loc C)
theorem layC_elim {used : Nat} {C : Addr} {xs : List Str} {lay : Nat → Option Place} {i : Nat} {p : Place} {P : Place → Prop} (h : layC used C xs lay i = some p) (k1 : i < used → lay i = some p → P p) (k2 : ∀ x, used ≤ i → xs[i - used]? = some x → P (.loc C x)) : P p := by
 have h : (if i < used then lay i else (xs[i - used]?).map (Place.loc C)) = some p := h
 by_cases hi : i < used
 ·rw [if_pos hi] at h; exact k1 hi h
 ·rw [if_neg hi] at h
  obtain ⟨x, hx, e⟩ := Option.map_eq_some_iff.mp h
  exact e ▸ k2 x (Nat.not_lt.mp hi) hx
theorem Sim.comp {hsh : HFn} {T : Heap → Prop} {lay : Nat → Option Place} {Sys Z : Addr → Prop} {base : Heap} {st : St} {h : Heap} {used : Nat} {C : Addr} {xs : List Str} {m : Str → Option Value} (S : Sim hsh T lay Sys Z base st h) (hus : ∀ i p, lay i = some p → i < used)
  (hC : Sys C) (hCl : ∀ i p, lay i = some p → p.addr ≠ C) (hb : base.get? C = none) (hH : st.H C = none) (hm : h.Ns C m) (hnd : xs.Nodup) : Sim hsh T (layC used C xs lay) Sys Z base { st with ρ := wipe used st.ρ } h where
 keep := S.keep
 zs := S.zs
 top := S.top
 vals := fun i v p a b => by
  obtain ⟨h1, h2⟩ := wipe_get a
  exact S.vals i v p h2 ((if_pos h1).symm.trans b)
 ok := fun i p a => layC_elim (P := fun p => p.ok h) a (fun z' a => S.ok i p a) fun z' z' z' => ⟨m, hm⟩
 inj := fun i j p a b => by
  refine layC_elim (P := fun q => q = p → i = j) a (fun z' a z' => ?_) (fun x hi ha e => ?_) rfl
  ·exact layC_elim (P := fun q => q = p → i = j) b (fun z' b z' => S.inj i j p a b) (fun y z' z' e => absurd (congrArg Place.addr e).symm (hCl i p a)) rfl
  ·refine layC_elim (P := fun q => q = p → i = j) b (fun z' b z' => absurd (congrArg Place.addr e).symm (hCl j p b)) (fun y hj hb e' => ?_) rfl
   cases e.trans e'.symm
   obtain ⟨l1, e1⟩ := List.getElem?_eq_some_iff.mp ha
   obtain ⟨l2, e2⟩ := List.getElem?_eq_some_iff.mp hb
   exact (Nat.sub_add_cancel hi).symm.trans ((congrArg (· + used) (nodup_inj hnd l1 l2 (e1.trans e2.symm))).trans (Nat.sub_add_cancel hj))
 sys := fun i p a => layC_elim (P := fun p => Sys p.addr ∧ base.get? p.addr = none ∧ st.H p.addr = none) a (fun z' a => S.sys i p a) fun z' z' z' => ⟨hC, hb, hH⟩
 objs := S.objs
 own := S.own
 live := S.live
 ent := S.ent
 dis := S.dis
theorem Sim.forget {hsh : HFn} {T : Heap → Prop} {lay : Nat → Option Place} {Sys Z : Addr → Prop} {base : Heap} {st : St} {h : Heap} {ρ' : List (Option V)} (S : Sim hsh T lay Sys Z base st h) (hv : ∀ (i : Nat) (v : V) (p : Place), lay i = some p → ρ'[i]? = some (some v) → st.ρ[i]? = some (some v)) :
  Sim hsh T lay Sys Z base { st with ρ := ρ' } h where
 keep := S.keep
 zs := S.zs
 top := S.top
 vals := fun i v p a b => S.vals i v p (hv i v p b a) b
 ok := S.ok
 inj := S.inj
 sys := S.sys
 objs := S.objs
 own := S.own
 live := S.live
 ent := S.ent
 dis := S.dis
end Mine
end
section
set_option autoImplicit false
namespace Mine
open PySem
section
variable {prog : Program} {w : World} {A : Around} {E : Value → Shared → Prop} {R : Result → Shared → Prop} {s : Shared}
theorem compLoop_gen {elt target iter : Expr} {ifs : List Expr} {scope : Scope} {pos : Pos} {it acc : Value} {env : Env} (I : Nat → Shared → Prop)
  (turn : ∀ n s, I n s → wpAny (model prog w) A (pyNext it) (fun r s₁ => match r with
   | none => R (.ok .next) s₁
   | some v => wpAny (model prog w) A (letOwnedTupleGo target it v) (fun z' s₁' => wpAny (model prog w) A (assign target env v) (fun z' s₂ =>
     wpAny (model prog w) A (forIn ifs true fun c r => if r = true then do let ok ← isTrue c env (eval c env); pure (ForInStep.yield ok) else pure (ForInStep.yield r)) (fun ok s₃ =>
      if ok = true then wpAny (model prog w) A (eval elt env) (fun x s₄ =>
       wpAny (model prog w) A (call (.builtin "list.append") [acc, x]) (fun z' s₅ => ∃ m, m < n ∧ I m s₅) (notedBy (model prog w) A env fun e s' => R (.error e) s') s₄) (notedBy (model prog w) A env fun e s' => R (.error e) s') s₃
      else ∃ m, m < n ∧ I m s₃) (notedBy (model prog w) A env fun e s' => R (.error e) s') s₂) (notedBy (model prog w) A env fun e s' => R (.error e) s') s₁') (notedBy (model prog w) A env fun e s' => R (.error e) s') s₁) (notedBy (model prog w) A env fun e s' => R (.error e) s') s)
  (n : Nat) (h : I n s) : codeAny (model prog w) A (.compLoop (.ListComp elt [⟨target, iter, ifs, 0⟩] scope pos) 0 it acc env) R s := by
 refine codeAny_loop rfl I (fun n s hI => ?_) n h
 show wpAny _ A ((compTurn (.ListComp elt [⟨target, iter, ifs, 0⟩] scope pos) 0 it acc env).onRaise (fun x => do noteFrame x env; theTreesLotGoes x)) _ _ s
 refine wpAny_noted ?_
 rw [compTurn_list]
 refine wpAny_bind (wpAny_standAt (wpAny_bind (wpAny_mono (turn n s hI) (fun r s₁ h₁ => ?_) fun z' z' h' => h')))
 cases r with
 | none => exact wpAny_pure h₁
 | some v =>
  refine wpAny_bind (wpAny_mono h₁ (fun z' s₁' h₁' => ?_) fun z' z' h' => h')
  refine wpAny_bind (wpAny_mono h₁' (fun z' s₂ h₂ => wpAny_bind (wpAny_mono h₂ (fun ok s₃ h₃ => ?_) fun z' z' h' => h')) fun z' z' h' => h')
  cases ok with
  | false => exact wpAny_pure ⟨rfl, h₃⟩
  | true =>
   exact wpAny_bind (wpAny_bind (wpAny_mono h₃ (fun x s₄ h₄ => wpAny_bind (wpAny_mono h₄ (fun z' s₅ h₅ => wpAny_pure (wpAny_pure ⟨rfl, h₅⟩)) fun z' z' h' => h')) fun z' z' h' => h'))
theorem append_call {l : Addr} {items : Array Value} {n : Nat} {v : Value} {Q : Value → Shared → Prop} (hl : IsL s.heap l items n) (hz : items.size ≤ sizeLine)
  (h : Q .none { s with heap := s.heap.update l (Obj.mapSeq fun xs => xs.push v) }) : wpAny (model prog w) A (call (.builtin "list.append") [.ref l, v]) Q E s :=
 call_meets F.slot_list_append ⟨_, hl, rfl⟩ F.entry_list_append (F.args_list_append_2 _ _) (list_append l items n v hz) ⟨hl, h⟩
end
set_option tactic.hygienic true in
theorem closure_ok {scope : Scope} {env : Env} (h : ∀ p ∈ scope.names, p.2 = .free → ∃ a, env.cells.lookup p.1 = some a) :
  ∃ cl, closureFor scope env = pure cl ∧ ∀ p ∈ scope.names, p.2 = .free → ∃ a, cl.lookup p.1 = some a ∧ env.cells.lookup p.1 = some a := by
 have key : ∀ (names : List (Str × NameKind)) (acc : List (Str × Addr)), (∀ p ∈ names, p.2 = .free → ∃ a, env.cells.lookup p.1 = some a) → (∀ x a, acc.lookup x = some a → env.cells.lookup x = some a) →
   ∃ cl, (forIn names acc (fun (p : Str × NameKind) cs => do
    if p.2 == .free then
     let a ← cellOf env p.1
     pure (ForInStep.yield ((p.1, a) :: cs))
    else pure (ForInStep.yield cs)) : Sem (List (Str × Addr))) = pure cl ∧ (∀ x a, cl.lookup x = some a → env.cells.lookup x = some a) ∧ (∀ x, (acc.lookup x).isSome → (cl.lookup x).isSome) ∧ (∀ p ∈ names, p.2 = .free → (cl.lookup p.1).isSome) := by
  intro names
  induction names with
  | nil => intro acc _ ha; exact ⟨acc, rfl, ha, fun z' e => e, by simp⟩
  | cons p r ih =>
   intro acc hf ha
   obtain ⟨n, k⟩ := p
   by_cases hk : k = .free
   ·subst hk
    obtain ⟨a, hc⟩ := hf (n, .free) (by simp) rfl
    obtain ⟨cl, e, h1, h2, h3⟩ := ih ((n, a) :: acc) (fun q hq => hf q (List.mem_cons_of_mem _ hq)) (fun x b hx => by
     simp only [List.lookup_cons] at hx
     split at hx
     ·rename_i hxn
      have : x = n := by simpa using hxn
      subst this; cases hx; exact hc
     ·exact ha x b hx)
    refine ⟨cl, ?_, h1, fun x hx => h2 x ?_, fun q hq hqf => ?_⟩
    ·rw [List.forIn_cons]
     simp only [beq_self_eq_true, if_true, cellOf, hc, pure_bind]
     exact e
    ·simp only [List.lookup_cons]; split
     ·rfl
     ·exact hx
    ·rcases List.mem_cons.mp hq with rfl | hq
     ·exact h2 n (by simp)
     ·exact h3 q hq hqf
   ·obtain ⟨cl, e, h1, h2, h3⟩ := ih acc (fun q hq => hf q (List.mem_cons_of_mem _ hq)) ha
    refine ⟨cl, ?_, h1, h2, fun q hq hqf => ?_⟩
    ·rw [List.forIn_cons]
     have : (k == NameKind.free) = false := by simpa using hk
     simp only [this, Bool.false_eq_true, if_false, pure_bind]
     exact e
    ·rcases List.mem_cons.mp hq with rfl | hq
     ·exact absurd hqf hk
     ·exact h3 q hq hqf
 obtain ⟨cl, e, h1, _, h3⟩ := key scope.names [] h (by simp)
 refine ⟨cl, ?_, fun p hp hf => ?_⟩
 ·simp only [closureFor]
  exact (congrArg (· >>= _) e).trans rfl
 ·have := h3 p hp hf
  cases hc : cl.lookup p.1 with
  | none => rw [hc] at this; cases this
  | some a => exact ⟨a, rfl, h1 _ _ hc⟩
noncomputable def rl (env : Env) (p : Str × NameKind) : Str × NameKind := (p.1, if (p.2 == .free && env.scope.kind == .function && env.kindOf p.1 == some .cell) then .cell else p.2)
theorem relabel_names (scope : Scope) (env : Env) : (relabel scope env).names = scope.names.map (rl env) := by
 simp only [relabel]
 refine List.map_congr_left fun p z' => ?_
 obtain ⟨n, k⟩ := p
 simp only [rl]
 split <;> rfl
theorem lookup_rl {env : Env} : ∀ {names : List (Str × NameKind)} {x : Str} {k : NameKind}, names.lookup x = some k → ∃ n, (x == n) = true ∧ (names.map (rl env)).lookup x = some (rl env (n, k)).2
 | [], _, _, h => by simp at h
 | (n, k') :: r, x, k, h => by
  rw [List.map_cons]
  have e : rl env (n, k') = (n, (rl env (n, k')).2) := rfl
  rw [e]
  simp only [List.lookup_cons] at h ⊢
  cases hx : x == n with
  | true => rw [hx] at h; simp only at h ⊢; cases h; exact ⟨n, hx, rfl⟩
  | false => rw [hx] at h; simp only at h ⊢; exact lookup_rl h
theorem lookup_relabel {scope : Scope} {env : Env} {x : Str} {k : NameKind} (h : scope.names.lookup x = some k) (hk : k ≠ .free) : (relabel scope env).names.lookup x = some k := by
 rw [relabel_names]
 obtain ⟨n, _, e⟩ := lookup_rl (env := env) h
 rw [e]
 have : (k == NameKind.free) = false := by simpa using hk
 simp [rl, this]
theorem lookup_relabel_free {scope : Scope} {env : Env} {x : Str} (h : scope.names.lookup x = some .free) : (relabel scope env).names.lookup x = some .cell ∨ (relabel scope env).names.lookup x = some .free := by
 rw [relabel_names]
 obtain ⟨n, _, e⟩ := lookup_rl (env := env) h
 rw [e]
 simp only [rl]
 split
 ·exact .inl rfl
 ·exact .inr rfl
end Mine
end
section
set_option autoImplicit false
namespace Mine
open PySem
theorem mem_lookup {β : Type} : ∀ {l : List (Str × β)} {x : Str} {k : β}, l.lookup x = some k → (x, k) ∈ l
 | [], _, _, h => by simp at h
 | (n, k') :: r, x, k, h => by
  simp only [List.lookup_cons] at h
  cases hx : x == n with
  | true =>
   rw [hx] at h; simp only at h; cases h
   have : x = n := by simpa using hx
   subst this; simp
  | false => rw [hx] at h; simp only at h; exact List.mem_cons_of_mem _ (mem_lookup h)
theorem lookup_zip : ∀ {xs : List Str} {u : Nat} {x : Str} {i : Nat}, (xs.zip (List.range' u xs.length)).lookup x = some i → ∃ j, xs[j]? = some x ∧ i = u + j
 | [], _, _, _, h => by simp at h
 | y :: ys, u, x, i, h => by
  simp only [List.length_cons, List.range'_succ, List.zip_cons_cons, List.lookup_cons] at h
  cases hx : x == y with
  | true =>
   rw [hx] at h; simp only at h; cases h
   have : x = y := by simpa using hx
   subst this; exact ⟨0, rfl, rfl⟩
  | false =>
   rw [hx] at h; simp only at h
   obtain ⟨j, h1, h2⟩ := lookup_zip h
   exact ⟨j + 1, by simpa using h1, by omega⟩
set_option tactic.hygienic true in
theorem lookup_filter {q : Str → Bool} : ∀ {l : List (Str × Nat)} {x : Str} {i : Nat}, (l.filter fun p => q p.1).lookup x = some i → q x = true ∧ l.lookup x = some i
 | [], _, _, h => by simp at h
 | (n, k) :: r, x, i, h => by
  rw [List.filter_cons] at h
  split at h
  ·rename_i hq
   simp only [List.lookup_cons] at h ⊢
   cases hx : x == n with
   | true =>
    rw [hx] at h; simp only at h ⊢
    have : x = n := by simpa using hx
    subst this; exact ⟨hq, h⟩
   | false => rw [hx] at h; simp only at h ⊢; exact lookup_filter h
  ·rename_i hq
   obtain ⟨h1, h2⟩ := lookup_filter h
   refine ⟨h1, ?_⟩
   simp only [List.lookup_cons]
   cases hx : x == n with
   | true =>
    have : x = n := by simpa using hx
    subst this; exact absurd h1 hq
   | false => exact h2
structure TableOk (c : Sc) (xs : List Str) (sc : Scope) : Prop where
 kind : sc.kind = .function
 loc : ∀ x ∈ xs, sc.names.lookup x = some .local
 nd : xs.Nodup
 names : ∀ p ∈ sc.names, (p.2 = .local) ∨ (p.2 = .free ∧ sc.names.lookup p.1 = some .free ∧ (∃ i, c.σ.lookup p.1 = some i) ∧ (c.names.lookup p.1 = some .cell ∨ c.names.lookup p.1 = some .free) ∧ (p.1 == ("__classdict__" : Str)) = false) ∨ p.2 = .globalImplicit
 nodup : (sc.names.map (·.1)).Nodup
 dead : c.dead = false
theorem tableOk_eq {c : Sc} {xs : List Str} {sc : Scope} (h : tableOk c xs sc = true) : TableOk c xs sc := by
 apply and6_elim h; clear h; intro h1 h2 h3 h4 h5 h6
 refine ⟨of_decide_eq_true h1, fun x hx => of_decide_eq_true ((Bool.and_eq_true _ _).mp (List.all_eq_true.mp h2 x hx)).1, of_decide_eq_true h3, fun p hp => ?_, of_decide_eq_true h5, (Bool.not_eq_true' _).mp h6⟩
 have h := List.all_eq_true.mp h4 p hp
 obtain ⟨x, k⟩ := p
 cases k with
 | «local» => exact .inl rfl
 | free =>
  apply and4_elim h; intro q1 q2 q3 q4
  exact .inr (.inl ⟨rfl, of_decide_eq_true q1, Option.isSome_iff_exists.mp q2, ((Bool.or_eq_true _ _).mp q3).imp of_decide_eq_true of_decide_eq_true, (Bool.not_eq_true' _).mp q4⟩)
 | globalImplicit => exact .inr (.inr rfl)
 | _ => exact ff h
theorem nodup_lookup {β : Type} : ∀ {l : List (Str × β)} {p : Str × β}, (l.map (·.1)).Nodup → p ∈ l → l.lookup p.1 = some p.2
 | [], _, _, h => by simp at h
 | (n, k) :: r, p, hn, h => by
  simp only [List.map_cons, List.nodup_cons] at hn
  rcases List.mem_cons.mp h with rfl | h
  ·simp
  ·simp only [List.lookup_cons]
   cases hx : p.1 == n with
   | true =>
    have : p.1 = n := by simpa using hx
    exact absurd (this ▸ List.mem_map.mpr ⟨p, h, rfl⟩) hn.1
   | false => exact nodup_lookup hn.2 h
theorem env_comp {env : Env} {c : Sc} {lay : Nat → Option Place} {xs : List Str} {sc : Scope} {cl : List (Str × Addr)} {C : Addr} (O : EnvOk env c.names c.σ lay) (hus : ∀ i p, lay i = some p → i < c.used) (ht : TableOk c xs sc)
  (hcl : ∀ p ∈ sc.names, p.2 = .free → ∃ a, cl.lookup p.1 = some a ∧ env.cells.lookup p.1 = some a) : EnvOk (compEnvC sc cl C env) (inner c xs sc.names).names (inner c xs sc.names).σ (layC c.used C xs lay) where
 kind := ht.kind
 glob := O.glob
 blt := O.blt
 gl := fun x h => lookup_relabel h (by simp)
 lc := fun x h => lookup_relabel h (by simp)
 ce := fun x h => lookup_relabel h (by simp)
 fr := fun x h => lookup_relabel_free h
 vars := fun x i h => by
  have h : ((xs.zip (List.range' c.used xs.length)) ++ c.σ.filter (fun p => decide (sc.names.lookup p.1 = some .free))).lookup x = some i := h
  rw [List.lookup_append] at h
  cases hz : (xs.zip (List.range' c.used xs.length)).lookup x with
  | some j =>
   rw [hz] at h; simp at h; subst h
   obtain ⟨k, hk, rfl⟩ := lookup_zip hz
   refine ⟨.loc C x, ?_, .inl ⟨lookup_relabel (ht.loc x (List.mem_of_getElem? hk)) (by simp), rfl⟩⟩
   unfold layC
   rw [if_neg (by omega), show c.used + k - c.used = k by omega, hk]; rfl
  | none =>
   rw [hz] at h; simp only [Option.none_or] at h
   obtain ⟨hq, hσ⟩ := lookup_filter (q := fun y => decide (sc.names.lookup y = some .free)) h
   have hq : sc.names.lookup x = some .free := by simpa using hq
   have hm := mem_lookup hq
   obtain ⟨a, h1, h2⟩ := hcl _ hm rfl
   have hk : (x == ("__classdict__" : Str)) = false ∧ (env.kindOf x = some .cell ∨ env.kindOf x = some .free) := by
    rcases ht.names _ hm with e | ⟨_, _, _, e, e'⟩ | e
    ·cases e
    ·exact ⟨e', e.elim (fun q => .inl (O.ce x q)) (O.fr x)⟩
    ·cases e
   obtain ⟨p, hp, hc⟩ := O.vars x i hσ
   have hlt := hus i p hp
   rcases hc with ⟨hl, _⟩ | ⟨_, _, c', hc', rfl⟩
   ·rcases hk.2 with q | q <;> rw [hl] at q <;> cases q
   ·rw [h2] at hc'; cases hc'
    exact ⟨.cell a, by unfold layC; rw [if_pos hlt]; exact hp, .inr ⟨lookup_relabel_free hq, hk.1, a, h1, rfl⟩⟩
set_option tactic.hygienic true in
theorem bindT_agree {t : Tg} {u : Nat} {xs : List Str} {v : V} {ρ ρ₁ ρ' ρ₁' : List (Option V)} (ht : tgIs u t xs = true) (hl : ρ.length = ρ₁.length) (hag : ∀ i, i < u → ρ[i]? = ρ₁[i]?) (hb : bindT t v ρ = some ρ') (hb₁ : bindT t v ρ₁ = some ρ₁') :
  ∀ i, i < u + xs.length → ρ'[i]? = ρ₁'[i]? := by
 intro i hi
 cases t with
 | var iv =>
  obtain ⟨k1, k2⟩ := (Bool.and_eq_true _ _).mp ht
  rw [eq_of_beq k1] at hb hb₁
  rw [eq_of_beq k2] at hi
  simp only [bd_var, bd_tup, bd_none, bd_bool, bd_int, bd_str, bd_lst, bd_ref, bd_inst, bd_iref, bd_exc, bd_dct] at hb hb₁
  split at hb
  ·rename_i h1
   rw [if_pos (by omega)] at hb₁
   cases hb; cases hb₁
   by_cases e : i = u
   ·subst e; rw [List.getElem?_set_self h1, List.getElem?_set_self (by omega)]
   ·rw [List.getElem?_set_ne (Ne.symm e), List.getElem?_set_ne (Ne.symm e)]; exact hag i (by omega)
  ·cases hb
 | tup is => exact ff ht
theorem bindT_ok {t : Tg} {u : Nat} {xs : List Str} {v : V} {ρ ρ₁ ρ' : List (Option V)} (ht : tgIs u t xs = true) (hl : ρ.length = ρ₁.length) (hb : bindT t v ρ = some ρ') : ∃ ρ₁', bindT t v ρ₁ = some ρ₁' := by
 cases t with
 | var i =>
  simp only [bd_var, bd_tup, bd_none, bd_bool, bd_int, bd_str, bd_lst, bd_ref, bd_inst, bd_iref, bd_exc, bd_dct] at hb ⊢
  split at hb
  ·rw [if_pos (by omega)]; exact ⟨_, rfl⟩
  ·cases hb
 | tup is => exact ff ht
theorem wipe_lo {u i : Nat} {ρ : List (Option V)} (h : i < u) : (wipe u ρ)[i]? = ρ[i]? := by
 refine List.getElem?_mapIdx.trans ?_
 cases ρ[i]? with
 | none => rfl
 | some o => exact congrArg some (if_pos h)
end Mine
end
section
set_option autoImplicit false
namespace Mine
open PySem
theorem lookup_zip_some {β : Type} : ∀ {names : List Str} {vals : List β} {x : Str}, names.length = vals.length → x ∈ names → ((names.zip vals).lookup x).isSome
 | [], _, _, _, h => by simp at h
 | _ :: _, [], _, hl, _ => by simp at hl
 | n :: ns, v :: vs, x, hl, h => by
  simp only [List.zip_cons_cons, List.lookup_cons]
  cases hx : x == n with
  | true => rfl
  | false =>
   have hne : x ≠ n := by simpa using hx
   exact lookup_zip_some (by simpa using hl) ((List.mem_cons.mp h).resolve_left hne)
theorem fm_zip {β : Type} : ∀ {names : List Str} {vals : List β}, names.length = vals.length → names.Nodup → names.filterMap (fun n => ((names.zip vals).lookup n).map (fun v => (n, v))) = names.zip vals := by
 have key : ∀ (names : List Str) (vals : List β) (full : List (Str × β)), names.length = vals.length → names.Nodup → (∀ n v, (n, v) ∈ names.zip vals → full.lookup n = some v) → names.filterMap (fun n => (full.lookup n).map (fun v => (n, v))) = names.zip vals := by
  intro names
  induction names with
  | nil => intro vals full hl _ _; rfl
  | cons n ns ih =>
   intro vals full hl hn hf
   cases vals with
   | nil => simp at hl
   | cons v vs =>
    rw [List.nodup_cons] at hn
    rw [List.filterMap_cons, hf n v (by simp)]
    simp only [Option.map_some, List.zip_cons_cons]
    rw [ih vs full (by simpa using hl) hn.2 fun m w hm => hf m w (by simp [hm])]
 intro names vals hl hn
 refine key names vals _ hl hn fun n v hm => ?_
 have hnz : ((names.zip vals).map (·.1)).Nodup := by
  have e : (names.zip vals).map (·.1) = names := by rw [List.map_fst_zip]; omega
  rw [e]; exact hn
 exact nodup_lookup hnz hm
theorem bp_key {nm qn : Str} {ar : List Arg} {kd : List (Option Expr)} {df : List Expr} {body : FuncBody} {sc : Scope} {gl : Addr} {cl : List (Str × Addr)} {kdv doc pm : Value} {an : Option Addr} {code ct : Value} {bl : Addr} {vals : List Value}
  (h1 : (decide (vals.length > (ar.map Arg.arg).length) && true) = false) (h2 : ((((ar.map Arg.arg).take ((ar.map Arg.arg).length)).filter fun n => (((ar.map Arg.arg).zip vals).lookup n).isNone).isEmpty) = true) :
  bindArgs ⟨nm, qn, ⟨[], ar, none, [], kd, none, df⟩, body, sc, gl, cl, .none, kdv, doc, pm, an, code, ct, bl⟩ ⟨vals, []⟩ = pure ((ar.map Arg.arg ++ []).filterMap fun n => (((ar.map Arg.arg).zip vals).lookup n).map (n, ·)) := by
 have hd : ([] : List Value).drop (0 - (ar.map Arg.arg).length) = [] := List.drop_nil
 have key : ∀ ds : List Value, ds = [] → ∀ a b : Sem (List (Str × Value)), (if (decide (vals.length > (ar.map Arg.arg).length) && true) = true then a else 
   if (!(((ar.map Arg.arg).take ((ar.map Arg.arg).length - ds.length)).filter fun n => (((ar.map Arg.arg).zip vals).lookup n).isNone).isEmpty) = true then b else
    (forIn (((ar.map Arg.arg).drop ((ar.map Arg.arg).length - ds.length)).zip ds) ((ar.map Arg.arg).zip vals) (fun (x : Str × Value) r => if (r.lookup x.1).isNone = true then pure (ForInStep.yield (r ++ [(x.1, x.2)])) else pure (ForInStep.yield r))) >>= fun slots => pure ((ar.map Arg.arg ++ []).filterMap fun n => (slots.lookup n).map (n, ·)))
    = pure ((ar.map Arg.arg ++ []).filterMap fun n => (((ar.map Arg.arg).zip vals).lookup n).map (n, ·)) := by
  rintro _ rfl a b
  rw [h1]
  show (if (!(((ar.map Arg.arg).take ((ar.map Arg.arg).length)).filter fun n => (((ar.map Arg.arg).zip vals).lookup n).isNone).isEmpty) = true then b else _) = _
  rw [h2, List.zip_nil_right]
  rfl
 exact key _ hd _ _
theorem bind_plain {fd : FuncData} {vals : List Value} {names : List Str} (hp : fd.params.posonlyargs = []) (ha : fd.params.args.map (·.arg) = names) (hk : fd.params.kwonlyargs = []) (hv : fd.params.vararg = none) (hkw : fd.params.kwarg = none) (hd : fd.defaults = .none)
  (hl : names.length = vals.length) (hn : names.Nodup) : bindArgs fd ⟨vals, []⟩ = pure (names.zip vals) := by
 have h1 : ¬ (vals.length > names.length) := by omega
 have h2 : names.filter (fun n => ((names.zip vals).lookup n).isNone) = [] := by
  rw [List.filter_eq_nil_iff]
  intro x hx
  have := lookup_zip_some hl hx
  cases e : (names.zip vals).lookup x with
  | none => rw [e] at this; cases this
  | some v => simp
 rcases fd with ⟨nm, qn, ⟨po, ar, va, ko, kd, kw, df⟩, body, sc, gl, cl, dv, kdv, doc, pm, an, code, ct, bl⟩
 dsimp only at hp ha hk hv hkw hd
 subst hp ha hk hv hkw hd
 rw [bp_key (by rw [decide_eq_false h1]; rfl) (by rw [List.take_length]; exact congrArg List.isEmpty h2), List.append_nil]
 exact congrArg pure (fm_zip hl hn)
end Mine
end
section
set_option autoImplicit false
namespace Mine
open PySem PyProof.Rows
theorem lk_put {β : Type} {f : Str} {v : β} {y : Str} : ∀ {l : List (Str × β)}, f ∉ l.map (·.1) → (l ++ [(f, v)]).lookup y = if y = f then some v else l.lookup y := by
 intro l
 induction l with
 | nil =>
  intro _
  by_cases e : y = f
  ·subst e; simp
  ·simp [List.lookup_cons, e, beq_eq_false_iff_ne.mpr e]
 | cons p l ih =>
  obtain ⟨g, u⟩ := p
  intro h
  rw [List.map_cons, List.mem_cons, not_or] at h
  rw [List.cons_append, List.lookup_cons, List.lookup_cons, ih h.2]
  by_cases e : y = g
  ·subst e
   rw [beq_self_eq_true]
   exact (if_neg (fun q => h.1 q.symm)).symm
  ·rw [beq_eq_false_iff_ne.mpr e]
theorem lk_mem {β : Type} {y : Str} : ∀ {l : List (Str × β)}, l.lookup y ≠ none → y ∈ l.map (·.1) := by
 intro l
 induction l with
 | nil => intro h; exact absurd rfl h
 | cons p l ih =>
  obtain ⟨g, u⟩ := p
  intro h
  rw [List.lookup_cons] at h
  by_cases e : y = g
  ·rw [e]; exact List.mem_cons_self ..
  ·rw [beq_eq_false_iff_ne.mpr e] at h
   exact List.mem_cons_of_mem _ (ih h)
section
variable {prog : Program} {w : World} {A : Around} {E : Value → Shared → Prop}
theorem iv_run {env : Env} {m : Str → Option Value} {names : List Str} {xv : Value} {vals : List Value} {vs : List V} {N : Addr → Prop} {h₀ : Heap} {i : Ini} {y : Expr} {s : Shared} {Q : Value → Shared → Prop}
  (hk : env.scope.kind = .function) (hloc : ∀ y ∈ names, env.kindOf y = some .local ∧ (y == ("__debug__" : Str)) = false) (hL : s.heap.Ns env.locals m) (hm : ∀ (i : Nat) (y : Str), names[i]? = some y → m y = (xv :: vals)[i]?)
  (hn : names.length = vals.length + 1) (r : RVs N h₀ vs vals) (hc : chkIv names i y = true) (hQ : ∀ val tk, RV N h₀ (iniV vs i) val → Q val { s with toks := tk }) : wpAny (model prog w) A (eval y env) Q E s := by
 cases i with
 | arg i =>
  have q_ := onName_inv hc; clear hc; obtain ⟨z, p, rfl, hz⟩ := q_
  have hz := of_decide_eq_true hz
  have hl := hloc z (List.mem_of_getElem? hz)
  have e := hm _ _ hz
  have hi : i < vs.length := by
   have := (List.getElem?_eq_some_iff.mp hz).1
   rw [hn] at this
   rw [r.length]
   exact Nat.lt_of_succ_lt_succ this
  obtain ⟨val, hv, rv⟩ := r.get i (List.getElem?_eq_getElem hi)
  have e : m z = some val := e.trans hv
  refine wpAny_Name (wpAny_loadName_local hk hl.1 hL e ?_) hl.2
  refine hQ val s.toks ?_
  show RV N h₀ ((vs[i]?).getD .none) val
  rw [List.getElem?_eq_getElem hi]; exact rv
 | val v =>
  have q_ := onConst_inv hc; clear hc; obtain ⟨k, j, p, rfl, hz⟩ := q_
  cases v with
  | none => cases of_decide_eq_true hz; exact wpAny_Constant_none (hQ _ s.toks .none)
  | int i => cases of_decide_eq_true hz; exact wpAny_Constant_int (hQ _ _ (.int i _))
  | _ => exact ff hz
theorem chkIv_comp {names : List Str} {i : Ini} {y : Expr} (h : chkIv names i y = true) (t : Option Expr) (l : Nat) (env : Env) : swapsWith y t l env = pure false := by
 cases i with
 | arg i => obtain ⟨z, p, rfl, _⟩ := onName_inv h; rfl
 | val v => obtain ⟨k, j, p, rfl, _⟩ := onConst_inv h; rfl
theorem InsX.inst {h : Heap} {x a C : Addr} {m : Str → Option Value} (i : InsX h x a C) (n : h.Ns1 a m) : h.Inst x C m := by
 obtain ⟨o, h1, h2, h3, h4, h5⟩ := i
 exact ⟨o, h1, h2, h3, .inr ⟨a, h4, h5, n⟩⟩
theorem fs_run {env : Env} {m mN : Str → Option Value} {names : List Str} {self : Str} {x dx C N0 : Addr} {vals : List Value} {vs : List V} {N : Addr → Prop} {h₀ : Heap} {Q : Flow → Shared → Prop}
  (hk : env.scope.kind = .function) (hloc : ∀ y ∈ names, env.kindOf y = some .local ∧ (y == ("__debug__" : Str)) = false) (hm : ∀ (i : Nat) (y : Str), names[i]? = some y → m y = (Value.ref x :: vals)[i]?)
  (hn : names.length = vals.length + 1) (h0 : names[0]? = some self) (r : RVs N h₀ vs vals) (X : ClsAt h₀ C N0 mN) (hsa : mN "__setattr__" = none) (hx : h₀.get? x = none) (hd : h₀.get? dx = none) (hLx : env.locals ≠ x) (hLd : env.locals ≠ dx) :
  ∀ (fs : List (String × Ini)) (body : List Stmt) (l : List (Str × Value)) (s : Shared), chkFs self names fs body = true → (∀ f ∈ fs, mN (Str.ofString f.1) = none) → (∀ f ∈ fs, typeLookup (.type "object") (Str.ofString f.1) = pure none) →
   (l.map (·.1) ++ fs.map fun f => Str.ofString f.1).Nodup → l.length + fs.length ≤ 50 → HK h₀ s.heap → s.heap.Ns env.locals m → InsX s.heap x dx C → s.heap.Ns1 dx (fun y => l.lookup y) →
   (∀ ys h' tk, HK h₀ h' → InsX h' x dx C → h'.Ns1 dx (fun y => (l ++ ys).lookup y) → ys.map (·.1) = (fs.map fun f => Str.ofString f.1) → RVs N h₀ (fs.map fun f => iniV vs f.2) (ys.map (·.2)) → Q .next { s with heap := h', toks := tk }) →
   wpAny (model prog w) A (execs body env) Q E s := by
 intro fs
 induction fs with
 | nil =>
  intro body l s hc _ _ _ _ kk _ hi hn1 hQ
  cases body with
  | cons => exact ff hc
  | nil => exact wpAny_execs_nil (hQ [] s.heap s.toks kk hi (by rw [List.append_nil]; exact hn1) rfl .nil)
 | cons f fs ih =>
  intro body l s hc hq hB hnd hsz kk hL hi hn1 hQ
  cases body with
  | nil => exact ff hc
  | cons b body =>
   have q_ := (Bool.and_eq_true _ _).mp hc; clear hc; obtain ⟨h1, h2⟩ := q_
   have q_ := onAssign_inv h1; clear h1; obtain ⟨tg, y, p, rfl, h1⟩ := q_
   have q_ := onAttr_inv h1; clear h1; obtain ⟨o, a, ap, rfl, h1⟩ := q_
   have q_ := (Bool.and_eq_true _ _).mp h1; clear h1; obtain ⟨h1, hv⟩ := q_
   have q_ := (Bool.and_eq_true _ _).mp h1; clear h1; obtain ⟨h1, ha⟩ := q_
   cases of_decide_eq_true ha
   have q_ := onName_inv h1; clear h1; obtain ⟨z, zp, rfl, hz⟩ := q_
   cases of_decide_eq_true hz
   refine wpAny_execs_cons (plainObj_wpAny_Assign_Attribute ?_ (chkIv_comp hv _ _ _))
   refine iv_run hk hloc hL hm hn r hv fun val tk rv => ?_
   have hl := hloc self (List.mem_of_getElem? h0)
   refine wpAny_Name (wpAny_loadName_local hk hl.1 (s := { s with toks := tk }) hL (hm 0 _ h0) ?_) hl.2
   obtain ⟨nm, q, bs, sn, sub, col, dd, k0, k1, k2, k3, k5, hC⟩ := (X.keeps kk).obj
   obtain ⟨ox, g1, g2, g3, g4, g5⟩ := id hi
   have hxC : x ≠ C := by
    obtain ⟨_, _, _, _, _, _, _, _, _, _, _, _, e⟩ := X.obj
    rintro rfl; rw [hx] at e; cases e
   have hf : Str.ofString f.1 ∉ l.map (·.1) := fun hm => by
    rw [List.nodup_append] at hnd
    exact hnd.2.2 _ hm _ (List.mem_cons_self ..) rfl
   refine store_attr (ns := l.map (·.1)) PySem.F.store_object hC (X.keeps kk).ns hsa (hq f (List.mem_cons_self ..)) (hB f (List.mem_cons_self ..)) hxC (hi.inst hn1) (fun h' tk' I' hk' hsame => ?_) (fun y hy => lk_mem hy) (by rw [List.length_map, sizeLine_eq]; simp only [List.length_cons] at hsz; omega)
   have kk2 : ∀ b o, b ≠ x → b ≠ dx → s.heap.get? b = some o → h'.get? b = some o := fun b o n1 n2 e => hk' b o n1 (fun o₀ d' e₀ ed => by
    obtain rfl := Option.some.inj (g1.symm.trans e₀); obtain rfl := Option.some.inj (g4.symm.trans ed); exact n2) e
   have kk0 : HK h₀ h' := fun b o e => kk2 b o (by rintro rfl; rw [hx] at e; cases e) (by rintro rfl; rw [hd] at e; cases e) (kk b o e)
   obtain ⟨o₁, e₁, c₁, dt₁, _, dk₁⟩ := hsame ox g1
   have hi' : InsX h' x dx C := ⟨o₁, e₁, c₁.trans g2, fun c => by rw [dt₁]; exact g3 c, dk₁ dx g4, g5⟩
   have hn1' : h'.Ns1 dx (fun y => (l ++ [(Str.ofString f.1, val)]).lookup y) := by
    obtain ⟨o', e', _, _, hd'⟩ := I'
    obtain rfl := Option.some.inj (e₁.symm.trans e')
    rcases hd' with ⟨hn0, _⟩ | ⟨d', hd', _, hns'⟩
    ·rw [dk₁ dx g4] at hn0; cases hn0
    ·obtain rfl := Option.some.inj ((dk₁ dx g4).symm.trans hd')
     have e : (fun y => (l ++ [(Str.ofString f.1, val)]).lookup y) = fun y => if y = Str.ofString f.1 then some val else l.lookup y := funext fun y => lk_put hf
     rw [e]; exact hns'
   have hL' : h'.Ns env.locals m := by
    obtain ⟨oL, es, ep, eL, rL⟩ := hL
    exact ⟨oL, es, ep, kk2 _ _ hLx hLd eL, rL⟩
   refine ih body (l ++ [(Str.ofString f.1, val)]) { s with heap := h', toks := tk' } h2 (fun g hg => hq g (List.mem_cons_of_mem _ hg)) (fun g hg => hB g (List.mem_cons_of_mem _ hg)) (by rw [List.map_append, List.append_assoc]; exact hnd) (by rw [List.length_append]; simp only [List.length_cons, List.length_nil] at hsz ⊢; omega) kk0 hL' hi' hn1' fun ys h'' tk'' q1 q2 q3 q4 q5 => ?_
   exact hQ ((Str.ofString f.1, val) :: ys) h'' tk'' q1 q2 (by rw [← List.append_cons] at q3; exact q3) (by rw [List.map_cons, q4, List.map_cons]) (.cons rv q5)
theorem new_call {C N0 : Addr} {mN : Str → Option Value} {n : Nat} {fs : List (String × Ini)} {vs : List V} {vals : List Value} {N : Addr → Prop} {s : Shared} {Q : Value → Shared → Prop}
  (R : CRow s.heap C N0 mN n fs) (hlim : s.heap.NoLimit) (hroom : A.depth + 1 < recursionLimit) (hl : vals.length = n) (r : RVs N s.heap vs vals)
  (hQ : ∀ x dx h' tk ys, HK s.heap h' → s.heap.get? x = none → s.heap.get? dx = none → x ≠ dx → InsX h' x dx C → NsOf h' dx (fs.map (·.1)) ys → RVs N s.heap (fs.map fun f => iniV vs f.2) ys → Q (.ref x) { s with heap := h', toks := tk }) :
  wpAny (model prog w) A (call (.ref C) vals) Q E s := by
 obtain ⟨hh, g, d, t, os⟩ := s
 obtain ⟨nm, q, bs, sn, sub, col, dd, k0, k1, k2, k3, k5, hC⟩ := R.cls.obj
 obtain ⟨fI, oI, pm, cdv, doc, qual, params, body, scope, h1, h2, h3, h4, h5, h6⟩ := R.ini
 unfold chkIni at h6
 have q_ := (Bool.and_eq_true _ _).mp h6; clear h6; obtain ⟨h6, hfs⟩ := q_
 simp only [plainParams, Bool.and_eq_true, decide_eq_true_eq, List.all_eq_true, Bool.not_eq_true', decide_eq_false_iff_not, List.isEmpty_iff, Option.isNone_iff_eq_none] at h6
 obtain ⟨⟨⟨⟨⟨⟨⟨⟨⟨⟨⟨⟨⟨⟨p1, p2⟩, p3⟩, p4⟩, p5⟩, p6⟩, hn⟩, hnd⟩, hloc⟩, hk⟩, hgen⟩, hco⟩, hcell⟩, hfd⟩, hf50⟩ := h6
 refine wpAny_call_obj_init PySem.F.objNew hC R.cls.ns h1 h2 h3 fun h' x dx Mk => ?_
 have hlen : (params.args.map (·.arg)).length = (Value.ref x :: vals).length := by rw [List.length_map, hn, List.length_cons, hl]
 refine wpAny_call (codeAny_call_def (fd := methDef "__init__" qual params body scope pm cdv doc) (body := body) (binds := (params.args.map (·.arg)).zip (.ref x :: vals)) hroom (Mk.keeps _ _ h2) h4 (hlim.keeps Mk.keeps) (h5.keeps Mk.keeps) rfl
  (.of_eq (bind_plain p1 rfl p3 p2 p4 rfl hlen hnd)) hcell (fun y hy => (hloc _ (List.of_mem_zip hy).1).1) (fun h₁ hns hk₁ => ?_) hco hgen hk)
 obtain ⟨ox, hx, hcx, hncx, hdx⟩ := Mk.inst
 have hdd := Mk.dict ox hx
 obtain ⟨hnsd, hne⟩ : (h'.Ns1 dx fun z' => none) ∧ dx ≠ x := by
  rcases hdx with ⟨hn0, _⟩ | ⟨d', hd', hne', hns'⟩
  ·rw [hn0] at hdd; cases hdd
  ·obtain rfl := Option.some.inj (hd'.symm.trans hdd); exact ⟨hns', hne'⟩
 obtain ⟨p0, ps, hps⟩ : ∃ p0 ps, params.args = p0 :: ps := by
  cases hps : params.args with
  | nil => rw [hps] at hn; cases hn
  | cons p0 ps => exact ⟨p0, ps, rfl⟩
 have hfs : chkFs p0.arg (params.args.map Arg.arg) fs body = true := by
  rw [hps] at hfs ⊢; exact hfs
 have hzn : (((params.args.map Arg.arg).zip (Value.ref x :: vals)).reverse.map (·.1)).Nodup := by
  rw [List.map_reverse, List.map_fst_zip (Nat.le_of_eq hlen)]
  exact (List.pairwise_reverse.mpr (hnd.imp Ne.symm))
 refine fs_run (names := params.args.map Arg.arg) (self := p0.arg) (x := x) (dx := dx) (C := C) (N0 := N0) (mN := mN) (m := fun y => ((params.args.map Arg.arg).zip (Value.ref x :: vals)).reverse.lookup y) (vals := vals) (vs := vs) (N := N) (h₀ := hh) (env := callEnv (methDef "__init__" qual params body scope pm cdv doc) h'.objs.size fI)
  hk (fun y hy => hloc y hy) (fun i y hy => ?_) (by rw [hlen]; rfl) (by rw [hps]; rfl) r R.cls R.sa Mk.newX Mk.newD (Ne.symm (Nat.ne_of_lt (Heap.lt_size hx))) (Ne.symm (Nat.ne_of_lt hnsd.lt)) fs body [] _ hfs (fun f hf => (R.qt f hf).1) (fun f hf => (R.qt f hf).2) hfd (by simpa using hf50)
  (fun b o e => hk₁ _ _ (Mk.keeps _ _ e)) hns ⟨ox, hk₁ _ _ hx, hcx, hncx, hdd, hne⟩ (hnsd.keeps hk₁) fun ys h'' tk q1 q2 q3 q4 q5 => ?_
 ·have hi : i < (Value.ref x :: vals).length := by rw [← hlen]; exact (List.getElem?_eq_some_iff.mp hy).1
  have hv : (Value.ref x :: vals)[i]? = some (Value.ref x :: vals)[i] := List.getElem?_eq_getElem hi
  rw [hv]
  refine nodup_lookup hzn (p := (y, _)) (List.mem_reverse.mpr ?_)
  refine List.mem_of_getElem? (i := i) ?_
  rw [List.getElem?_zip_eq_some]
  exact ⟨hy, hv⟩
 ·refine ⟨rfl, hQ x dx h'' tk (ys.map (·.2)) q1 Mk.newX Mk.newD (Ne.symm hne) q2 ⟨?_, ?_, ?_, ?_⟩ q5⟩
  ·have := congrArg List.length q4
   simpa using this.symm
  ·rw [List.map_map]; exact hfd
  ·simpa using hf50
  ·have e : (fs.map (·.1)).map Str.ofString = ys.map (·.1) := by rw [q4, List.map_map]; rfl
   rw [e, show (ys.map (·.1)).zip (ys.map (·.2)) = ys from by rw [List.zip_map', List.map_id'']; exact fun z' => rfl]
   exact q3
end
end Mine
end
section
set_option autoImplicit false
namespace Mine
open PySem PyProof.Rows
theorem memS {β : Type} {x : String} {v : β} : ∀ {l : List (String × β)}, l.lookup x = some v → (x, v) ∈ l := by
 intro l
 induction l with
 | nil => intro h; cases h
 | cons p l ih =>
  obtain ⟨y, u⟩ := p
  intro h
  rw [List.lookup_cons] at h
  by_cases e : x = y
  ·rw [e, beq_self_eq_true] at h
   cases h; rw [e]; exact List.mem_cons_self ..
  ·rw [beq_eq_false_iff_ne.mpr e] at h
   exact List.mem_cons_of_mem _ (ih h)
theorem attr_mem {n : String} {v : V} : ∀ {ns : List String} {vs : List V}, attrL n ns vs = some v → n ∈ ns := by
 intro ns
 induction ns with
 | nil => intro vs e; cases e
 | cons m ns ih =>
  intro vs e
  cases vs with
  | nil => cases e
  | cons u vs =>
   by_cases h : m = n
   ·rw [h]; exact List.mem_cons_self ..
   ·have e : (if m = n then some u else attrL n ns vs) = some v := e
    rw [if_neg h] at e
    exact List.mem_cons_of_mem _ (ih e)
theorem set_mem {n : String} {w : V} : ∀ {ns : List String} {vs vs' : List V}, setAttrL n w ns vs = some vs' → n ∈ ns := by
 intro ns
 induction ns with
 | nil => intro vs vs' e; cases e
 | cons m ns ih =>
  intro vs vs' e
  cases vs with
  | nil => cases e
  | cons u vs =>
   by_cases h : m = n
   ·rw [h]; exact List.mem_cons_self ..
   ·have e : (if m = n then some (w :: vs) else (setAttrL n w ns vs).map (u :: ·)) = some vs' := e
    rw [if_neg h] at e
    cases q : setAttrL n w ns vs with
    | none => rw [q] at e; cases e
    | some z => exact List.mem_cons_of_mem _ (ih q)
set_option tactic.hygienic true in
theorem attr_get {N : Addr → Prop} {h : Heap} {n : String} {v : V} : ∀ {ns : List String} {vs : List V} {xs : List Value}, attrL n ns vs = some v → RVs N h vs xs → (ns.map Str.ofString).Nodup → ∃ val, ((ns.map Str.ofString).zip xs).lookup (Str.ofString n) = some val ∧ RV N h v val := by
 intro ns
 induction ns with
 | nil => intro vs xs e; cases e
 | cons m ns ih =>
  intro vs xs e r hn
  cases r with
  | nil => cases e
  | cons r1 r2 =>
   rename_i u vs x xs
   have e : (if m = n then some u else attrL n ns vs) = some v := e
   rw [List.map_cons, List.nodup_cons] at hn
   rw [List.map_cons, List.zip_cons_cons, List.lookup_cons]
   by_cases hm : m = n
   ·rw [if_pos hm] at e; cases e
    rw [hm, beq_self_eq_true]
    exact ⟨x, rfl, r1⟩
   ·rw [if_neg hm] at e
    have hne : Str.ofString n ≠ Str.ofString m := fun q => hn.1 (q ▸ List.mem_map.mpr ⟨n, attr_mem e, rfl⟩)
    rw [beq_eq_false_iff_ne.mpr hne]
    exact ih e r2 hn.2
set_option tactic.hygienic true in
theorem attr_set {N : Addr → Prop} {h : Heap} {n : String} {w : V} {val : Value} (rw' : RV N h w val) : ∀ {ns : List String} {vs vs' : List V} {xs : List Value}, setAttrL n w ns vs = some vs' → RVs N h vs xs → (ns.map Str.ofString).Nodup →
  ∃ xs', RVs N h vs' xs' ∧ xs'.length = xs.length ∧ ∀ y, (if y = Str.ofString n then some val else ((ns.map Str.ofString).zip xs).lookup y) = ((ns.map Str.ofString).zip xs').lookup y := by
 intro ns
 induction ns with
 | nil => intro vs vs' xs e; cases e
 | cons m ns ih =>
  intro vs vs' xs e r hn
  cases r with
  | nil => cases e
  | cons r1 r2 =>
   rename_i u vs x xs
   have e : (if m = n then some (w :: vs) else (setAttrL n w ns vs).map (u :: ·)) = some vs' := e
   rw [List.map_cons, List.nodup_cons] at hn
   by_cases hm : m = n
   ·rw [if_pos hm] at e; cases e
    refine ⟨val :: xs, .cons rw' r2, rfl, fun y => ?_⟩
    rw [List.map_cons, List.zip_cons_cons, List.zip_cons_cons, List.lookup_cons, List.lookup_cons, hm]
    by_cases hy : y = Str.ofString n
    ·rw [if_pos hy, hy, beq_self_eq_true]
    ·rw [if_neg hy, beq_eq_false_iff_ne.mpr hy]
   ·rw [if_neg hm] at e
    cases q : setAttrL n w ns vs with
    | none => rw [q] at e; cases e
    | some z =>
     rw [q] at e; cases e
     have hne : Str.ofString n ≠ Str.ofString m := fun q' => hn.1 (q' ▸ List.mem_map.mpr ⟨n, set_mem q, rfl⟩)
     obtain ⟨xs', a1, a2, a3⟩ := ih q r2 hn.2
     refine ⟨x :: xs', .cons r1 a1, by rw [List.length_cons, a2, List.length_cons], fun y => ?_⟩
     rw [List.map_cons, List.zip_cons_cons, List.zip_cons_cons, List.lookup_cons, List.lookup_cons]
     by_cases hy : y = Str.ofString m
     ·rw [hy, beq_self_eq_true, if_neg (fun q' => hne q'.symm)]
     ·rw [beq_eq_false_iff_ne.mpr hy]
      exact a3 y
theorem RV.out {N : Addr → Prop} {h : Heap} {v : V} {x : Value} (r : RV N h v x) : handedOut x = pure x := by cases r <;> rfl
theorem hasC_row {G : PG} {d : Nat} {h : Heap} {c : Nat} {ns : List String} (T : TT G h) (e : (G.cx d).has c ns = true) : ∃ N0 mN n fs, CRow h c N0 mN n fs ∧ fs.map (·.1) = ns := by
 obtain ⟨r, hr, e⟩ := List.any_eq_true.mp e
 obtain ⟨e1, e2⟩ := (Bool.and_eq_true _ _).mp e
 obtain ⟨_, N0, mN, R⟩ := T.cl r hr
 cases of_decide_eq_true e1
 exact ⟨N0, mN, _, _, R, of_decide_eq_true e2⟩
theorem CRow.name {h : Heap} {C N0 : Addr} {mN : Str → Option Value} {k : Nat} {fs : List (String × Ini)} {ns : List String} {n : String} (R : CRow h C N0 mN k fs) (e : fs.map (·.1) = ns) (hn : n ∈ ns) : mN (Str.ofString n) = none ∧ typeLookup (.type "object") (Str.ofString n) = pure none := by
 rw [← e] at hn
 obtain ⟨f, hf, rfl⟩ := List.mem_map.mp hn
 exact R.qt f hf
section
variable {G : PG} {d : Nat} {c : Sc} {A : Around} {env : Env} {lay : Nat → Option Place} {Sys : Addr → Prop} {base : Heap} {st : St} {s : Shared}
theorem attr_eval {o : Expr} {n : Str} {pos : Pos} (h : attrB o = true) : eval (.Attribute o n pos) env = (do
   let v ← eval o env
   standAt pos.atName
   let r ← holding [v] (getAttr v n true)
   letTemporaryGo o v r
   pure r) := by
 cases o with
 | Name => rfl
 | Call f xs ks p =>
  obtain ⟨z, r, rfl⟩ := some1_inv h
  cases f <;> rfl
 | _ => exact ff h
theorem attr_load {N : Addr → Prop} {E : Value → Shared → Prop} {x a C : Addr} {ns : List String} {vs : List V} {xs : List Value} {n : String} {v : V} {K : Value → Shared → Prop} (T : TT G s.heap) (hh : (G.cx d).has C ns = true) (i : InsX s.heap x a C) (o : NsOf s.heap a ns xs) (r : RVs N s.heap vs xs) (e : attrL n ns vs = some v)
  (hK : ∀ val tk, RV N s.heap v val → K val { s with toks := tk }) : wpAny (model G.prog G.w) A (getAttr (.ref x) (Str.ofString n) true) K E s := by
 obtain ⟨N0, mN, k, fs, R, hns⟩ := hasC_row T hh
 obtain ⟨q1, q2⟩ := R.name hns (attr_mem e)
 obtain ⟨val, hl, rv⟩ := attr_get e r o.2.1
 obtain ⟨nm, q, bs, sn, sub, col, dd, k0, k1, k2, k3, k5, hC⟩ := R.cls.obj
 exact load_attr hC R.cls.ns R.ga q1 q2 (i.inst o.2.2.2) hl rv.out (hK val _ rv)
set_option tactic.hygienic true in
theorem se_attr {a : E} {n : String} {o : Expr} {pos : Pos} (F : Fx G d c A env lay Sys base st s) (ha : SE G d c a o) (hb : attrB o = true) : Snd G.prog G.w G.mg A (NN st.H Sys) Sys s false (eval (.Attribute o (Str.ofString n) pos) env) (WE (G.cx d) (.attr a n) st) := by
 intro Q X K E hW hK hX
 simp only [we_32] at hW
 refine Attribute_any_ ((ha F).weak _ X _ E hW (fun u va s₁ h₁ r₁ k₁ z' => ?_) hX) (attr_eval hb)
 have F₁ := F.keeps k₁
 split at h₁
 ·obtain ⟨hh, h₁⟩ := h₁
  split at h₁
  ·rename_i v hv
   cases r₁ with
   | inst n1 n2 i o r => exact attr_load F₁.top hh i o r hv fun val tk rv => hK _ _ _ h₁ rv (k₁.trans (Kp.tok _ tk)) nofun
  ·exact h₁.elim
 ·split at h₁
  ·rename_i hH
   obtain ⟨hh, rfl, rfl, h₁⟩ := h₁
   split at h₁
   ·rename_i v hv
    cases r₁ with
    | iref n1 i =>
     cases F₁.sim.objs _ _ hH with
     | inst o r => exact attr_load F₁.top hh i o r hv fun val tk rv => hK _ _ _ h₁ rv (k₁.trans (Kp.tok _ tk)) nofun
   ·exact h₁.elim
  ·exact h₁.elim
 ·exact h₁.elim
theorem ev_new {cn : String} {k n : Nat} {fs : List (String × Ini)} {es : Es} {y : Str} {z : Expr} {xs : List Expr} {p pos : Pos} {Q : List V → Prop} {X : String → Prop} {K E : Value → Shared → Prop} (F : Fx G d c A env lay Sys base st s) (hg : isGlob c y cn = true) (h : SEs G d c es (z :: xs)) (hlk : G.ctab.lookup cn = some (k, n, fs))
  (hW : WEs (G.cx d) es st (fun vs => vs.length = n ∧ Q vs) X)
  (hK : ∀ vs x dx ys h₁ s', Q vs → Kp (FZ A Sys) s s' → s.heap.get? x = none → s.heap.get? dx = none → x ≠ dx → InsX s'.heap x dx k → NsOf s'.heap dx (fs.map (·.1)) ys → RVs (NN st.H Sys) h₁ (fs.map fun f => iniV vs f.2) ys → h₁.get? dx = none → HK h₁ s'.heap → K (.ref x) s') (hX : ∀ e s', Rz G.mg A Sys s X e s' → E e s') :
  wpAny (model G.prog G.w) A (eval (.Call (.Name y p) (z :: xs) [] pos) env) K E s := by
 obtain ⟨b0, T0, k0, n0⟩ := F.sim.topH
 obtain ⟨h1, N0, mN, R⟩ := T0.cl _ (memS hlk)
 have hs := h.1
 simp only [List.all_cons, Bool.and_eq_true] at hs
 rw [arm_eval_Call_Name']
 refine wpAny_bind (ld_glob F hg h1 ?_)
 have kk : ∀ {s₁ : Shared}, Kp (FZ A Sys) s s₁ → HK b0 s₁.heap := fun k₁ b o e => (k₁.hw b o (k0 b o e)).1 fun q => by rw [n0 b (.inr q.2)] at e; cases e
 refine callWith_cls (h₀ := b0) R.cls (h.2 F pos _ X _ E hW (fun vs vals s₁ q r k₁ => ⟨kk k₁, ?_⟩) hX) (starEach_cons hs.1) (star_plain pos env _ hs.2)
 have F₁ := F.keeps k₁
 have hd := F.rm.depth
 refine new_call (R.keeps (kk k₁)) F₁.top.nolimit (by omega) (by rw [← r.length]; exact q.1) r fun x dx h' tk ys q1 q2 q3 q4 q5 q6 q7 => ?_
 exact hK vs x dx ys _ _ q.2 (k₁.trans (Kp.of q1)) (fresh_keeps k₁ q2) (fresh_keeps k₁ q3) q4 q5 q6 q7 q3 q1
set_option tactic.hygienic true in
theorem se_new {cn : String} {es : Es} {y : Str} {z : Expr} {xs : List Expr} {p pos : Pos} (F : Fx G d c A env lay Sys base st s) (hg : isGlob c y cn = true) (h : SEs G d c es (z :: xs)) : Snd G.prog G.w G.mg A (NN st.H Sys) Sys s false (eval (.Call (.Name y p) (z :: xs) [] pos) env) (WE (G.cx d) (.new cn es) st) := by
 intro Q X K E hW hK hX
 simp only [we_30, we_33] at hW
 split at hW
 ·rename_i k n fs hlk
  refine ev_new F hg h hlk hW (fun vs x dx ys h₁ s' q k₁ fx fd hne i o r z' kk => ?_) hX
  have nf : ∀ b, s.heap.get? b = none → ¬ NN st.H Sys b := fun b e q => q.elim (fun q => q (F.sim.fresh e)) fun q => F.sim.live b q e
  exact hK _ _ _ q (.inst (nf x fx) (nf dx fd) i o (r.keeps kk)) k₁ nofun
 ·exact hW.elim
end
end Mine
end
section
set_option autoImplicit false
namespace Mine
open PySem
section
variable {G : PG} {d : Nat} {c : Sc} {A : Around} {env : Env} {lay : Nat → Option Place} {Sys : Addr → Prop} {base : Heap} {st : St} {s : Shared} {E : Value → Shared → Prop}
theorem tgIs_idx {u : Nat} {t : Tg} {xs : List Str} (h : tgIs u t xs = true) : ∀ j ∈ t.idx, u ≤ j := by
 cases t with
 | var i =>
  intro j hj
  rw [List.mem_singleton.mp hj, eq_of_beq ((Bool.and_eq_true _ _).mp h).1]
  exact Nat.le_refl _
 | tup is => exact ff h
theorem tgIs_ne {u : Nat} {t : Tg} (h : tgIs u t [] = true) : False := by
 cases t with
 | var i => exact ff ((Bool.and_eq_true _ _).mp h).2
 | tup is => exact ff h
noncomputable abbrev CStep (G : PG) (d : Nat) (c : Sc) (A : Around) (st : St) (base : Heap) (xs : List Str) (sc : Scope) (t : Tg) (ifs : List Expr) (elt : Expr) (f : V → (Option V → Prop) → Prop) : Prop :=
 ∀ (x : V) (k : Option V → Prop), f x k → ∃ ρ', bindT t x st.ρ = some ρ' ∧ ∀ {cenv : Env} {lay' : Nat → Option Place} {Sys' : Addr → Prop} {s' : Shared}, Fx G d (inner c xs sc.names) A cenv lay' Sys' base { st with ρ := ρ' } s' →
  ∀ (K : Option Value → Shared → Prop) (E' : Value → Shared → Prop), (∀ y val s'', k (some y) → RV (NN st.H Sys') s''.heap y val → Kp (FZ A Sys') s' s'' → K (some val) s'') → (∀ s'', k none → Kp (FZ A Sys') s' s'' → K none s'') →
   wpAny (model G.prog G.w) A (forIn ifs true fun c r => if r = true then do let ok ← isTrue c cenv (eval c cenv); pure (ForInStep.yield ok) else pure (ForInStep.yield r))
    (fun ok s₃ => if ok = true then wpAny (model G.prog G.w) A (eval elt cenv) (fun v s₄ => K (some v) s₄) E' s₃ else K none s₃) E' s'
inductive InvC (A : Around) (Sys N : Addr → Prop) (vs : List V) (wr : List Addr) (Si : Nat → Heap → Prop) (s₂ : Shared) (D C : Addr) (f : V → (Option V → Prop) → Prop) (QQ : List V → Prop) (n : Nat) (s' : Shared) : Prop
 | mk (i acc ys nn m h tk) : n = vs.length - i → i ≤ vs.length → s' = { s₂ with heap := h, toks := tk } → (∀ b o, b ∉ wr → s₂.heap.get? b = some o → (¬ FZ A Sys b → h.get? b = some o) ∧ ∃ sl, h.get? b = some { o with slots := sl }) → Si i h → IsL h D ys nn → h.Ns C m →
  RVs N h acc ys.toList → ys.size ≤ i → compL f (vs.drop i) (fun rest => QQ (acc ++ rest)) → InvC A Sys N vs wr Si s₂ D C f QQ n s'
theorem comp_block {f : V → (Option V → Prop) → Prop} {t : Tg} {tg iter elt : Expr} {ifs : List Expr} {sc : Scope} {pos : Pos} {xs : List Str} {vs : List V} {ds : List Nat} {I : Addr} {cl : List (Str × Addr)} {s₂ : Shared} {nw : Bool} {QQ : List V → Prop} {RR : Value → Addr → Result → Shared → Prop}
  (F : Fx G d c A env lay Sys base st s) (k : Kp (FZ A Sys) s s₂) (io : ItOk G A st.H Sys s s₂ vs ds I nw) (hez : nw = true → isTupX tg = true) (hz : vs.length ≤ sizeLine) (ht : TableOk c xs sc) (hti : tgIs c.used t xs = true) (htg : chkTg (inner c xs sc.names) t tg = true)
  (hcl : ∀ p ∈ sc.names, p.2 = .free → ∃ a, cl.lookup p.1 = some a ∧ env.cells.lookup p.1 = some a) (hstep : CStep G d c A st base xs sc t ifs elt f) (hc : compL f vs QQ)
  (hRR : ∀ D C h' tk m' ys zs nn, QQ ys → s.heap.get? D = none → s.heap.get? C = none → D ≠ C → h'.Ns C m' → IsL h' D zs nn → zs.size ≤ sizeLine → RVs (NN st.H (fun a => Sys a ∨ a = C ∨ a = D)) h' ys zs.toList → HW (FZ A Sys) s.heap h' → RR (.ref D) C (.ok .next) { s₂ with heap := h', toks := tk }) :
  wpAny (model G.prog G.w) A (newList []) (fun acc s₃ => wpAny (model G.prog G.w) A (newFunctionEnv sc env.globals cl [] env.qual none .none (some env)) (fun cenv s₄ =>
   codeAny (model G.prog G.w) A (.compStart (.ListComp elt [⟨tg, iter, ifs, 0⟩] sc pos) 0 (.ref I) acc { cenv with scope := relabel sc env }) (RR acc cenv.locals) s₄) E s₃) E s₂ := by
 obtain ⟨fp, wr, P, Mi, Si, W, hsi, hwr, hfp, hdep, hitem⟩ := io
 have hcell : ∀ y ∈ sc.names, y.2 ≠ .cell := by
  intro y hy e
  rcases ht.names y hy with q | ⟨q, _⟩ | q <;> rw [e] at q <;> cases q
 refine wpAny_newObj_type (wpAny_newFunctionEnv hcell (fun z' hy => nomatch hy) (fun h₁ hns₁ hsb₁ => ?_) ht.kind)
 dsimp only at hns₁ hsb₁ ⊢
 generalize hH2 : s₂.heap.push { cls := .type "list", dict := none, data := .seq ([] : List Value).toArray } = H2 at hns₁ hsb₁ ⊢
 have hC : H2.objs.size = s₂.heap.objs.size + 1 := by rw [← hH2, Heap.size_push]
 obtain ⟨D, hDe⟩ : ∃ D, s₂.heap.objs.size = D := ⟨_, rfl⟩
 obtain ⟨C, hCe⟩ : ∃ C, H2.objs.size = C := ⟨_, rfl⟩
 rw [hCe] at hns₁ hsb₁ hC ⊢
 rw [hDe] at hC ⊢
 have hfp : ∀ b ∈ fp, b < D := fun b hb => by
  obtain ⟨o, ho⟩ := hfp b hb
  exact hDe ▸ Heap.lt_size ho
 have hlDC : D < C := hC ▸ Nat.lt_succ_self D
 have hDC : D ≠ C := Nat.ne_of_lt hlDC
 have below : ∀ (b : Nat) o, s₂.heap.get? b = some o → b ≠ C ∧ b ≠ D := fun b o e =>
  have h' : b < D := hDe ▸ Heap.lt_size e
  ⟨Nat.ne_of_lt (Nat.lt_trans h' hlDC), Nat.ne_of_lt h'⟩
 have fresh₂ : ∀ b, D ≤ b → s₂.heap.get? b = none := fun b hb => Heap.get?_none_of_le (Nat.le_trans (Nat.le_of_eq hDe) hb)
 have old : ∀ b o, s₂.heap.get? b = some o → h₁.get? b = some o := fun b o e => hsb₁.extBut b o (below b o e).1 (Heap.get?_push_of_some _ (hH2 ▸ Heap.get?_push_of_some _ e))
 have hacc : IsL h₁ D #[] 0 := hsb₁.extBut D _ hDC (Heap.get?_push_of_some _ (hH2 ▸ hDe ▸ Heap.get?_push_size _ rfl))
 have hst₁ : Si 0 h₁ := W.frame _ _ _ hsi fun b z' o e => old b o e
 have hDs : s.heap.get? D = none := fresh_keeps k (fresh₂ D (Nat.le_refl _))
 have hCs : s.heap.get? C = none := fresh_keeps k (fresh₂ C (Nat.le_of_lt hlDC))
 let New : Addr → Prop := fun b => b = C ∨ b = D ∨ b ∈ wr
 let Sys' : Addr → Prop := fun a => Sys a ∨ New a
 have hNs : ∀ b, New b → s.heap.get? b = none := by
  rintro b (rfl | rfl | hb)
  ·exact hCs
  ·exact hDs
  ·exact hwr b hb
 have hplace : ∀ i p, lay i = some p → p.addr ≠ C ∧ p.addr ≠ D ∧ p.addr ∉ wr := by
  intro i p hp
  have hl := F.sim.live _ (F.sim.sys i p hp).1
  exact ⟨fun e => hl (e ▸ hCs), fun e => hl (e ▸ hDs), fun e => hl (hwr _ e)⟩
 have hCw : C ∉ wr := fun e => Nat.lt_asymm hlDC (hfp _ (W.sub _ e))
 have hDw : D ∉ wr := fun e => Nat.lt_irrefl _ (hfp _ (W.sub _ e))
 have hplaceC : ∀ i p, layC c.used C xs lay i = some p → Sys' p.addr := by
  exact fun i p hp => layC_elim (P := fun p => Sys' p.addr) hp (fun z' hp => .inl (F.sim.sys i p hp).1) fun z' z' z' => .inr (.inl rfl)
 have hplaceC' : ∀ i p, layC c.used C xs lay i = some p → p.addr ≠ D ∧ p.addr ∉ wr := by
  exact fun i p hp => layC_elim (P := fun p => p.addr ≠ D ∧ p.addr ∉ wr) hp (fun z' hp => (hplace i p hp).2) fun z' z' z' => ⟨Ne.symm hDC, hCw⟩
 have hbaseC : base.get? C = none := F.sim.keep.ext hCs
 have hDz : ¬ ZA A D := F.nz hDs
 have hCz : ¬ ZA A C := F.nz hCs
 have hfz : ∀ b ∈ fp, ¬ ZA A b := fun b hb z => by
  by_cases hbw : b ∈ wr
  ·exact F.nz (hwr b hbw) z
  ·rcases hdep b hb hbw with q | q
   ·exact q (.inr (F.za z))
   ·exact q.2 (F.sim.dis b (F.za z))
 have loop : ∀ s₃ : Shared, s₃ = { s₂ with heap := h₁, toks := s₂.toks + ([] : List (Str × Value)).length } →
   codeAny (model G.prog G.w) A (.compLoop (.ListComp elt [⟨tg, iter, ifs, 0⟩] sc pos) 0 (.ref I) (.ref D) (compEnvC sc cl C env)) (RR (.ref D) C) s₃ := by
  rintro s₃ rfl
  refine compLoop_gen (InvC A Sys (NN st.H Sys') vs wr Si s₂ D C f QQ) ?_ vs.length ⟨0, [], #[], 0, _, h₁, _, rfl, Nat.zero_le _, rfl, fun b o z' e => ⟨fun z' => old b o e, o.slots, old b o e⟩, hst₁, hacc, hns₁, .nil, Nat.le_refl _, by simpa using hc⟩
  rintro n s' ⟨i, acc, ys, nn, m, h, tk, hn, hi, rfl, hkeep, hs_i, hL, hM, hR, hsz, hcc⟩
  have toS : ∀ {h : Heap}, (∀ b o, b ∉ wr → s₂.heap.get? b = some o → (¬ FZ A Sys b → h.get? b = some o) ∧ ∃ sl, h.get? b = some { o with slots := sl }) → HW (FZ A Sys) s.heap h := fun {h} hkp b o e =>
   have nb : b ∉ wr := fun hb => by rw [hwr b hb] at e; cases e
   ⟨fun n => (hkp b o nb ((k.hw b o e).1 n)).1 n, let ⟨_, e1⟩ := (k.hw b o e).2; let ⟨sl, e2⟩ := (hkp b _ nb e1).2; ⟨sl, e2⟩⟩
  have hkeep_s := toS hkeep
  rcases Nat.lt_or_ge i vs.length with hlt | hge
  ·-- one more
   have hx : vs[i]? = some vs[i] := List.getElem?_eq_getElem hlt
   rw [List.drop_eq_getElem_cons hlt] at hcc
   simp only [cl_nil, cl_cons] at hcc
   obtain ⟨ρ', hb, hstp⟩ := hstep _ _ hcc
   refine W.item i _ _ _ hlt hs_i fun val h1 tk1 hMi hfr hk1 => ?_
   refine W.own i { s₂ with heap := h1, toks := tk1 } val tg _ _ hMi hez fun h2 hs2 hP2 hk2 => ?_
   have hk02 : ∀ b o, b ∉ wr → h.get? b = some o → h2.get? b = some o := fun b o nb e => hk2 b o nb (hk1 b o nb e)
   have hk22 : ∀ b o, b ∉ wr → s₂.heap.get? b = some o → (¬ FZ A Sys b → h2.get? b = some o) ∧ ∃ sl, h2.get? b = some { o with slots := sl } := fun b o nb e => ⟨fun n => hk02 b o nb ((hkeep b o nb e).1 n), let ⟨sl, e'⟩ := (hkeep b o nb e).2; ⟨sl, hk02 b _ nb e'⟩⟩
   have hks2 := toS hk22
   have hL2 : IsL h2 D ys nn := hk02 D _ hDw hL
   have hM2 : h2.Ns C m := by
    obtain ⟨o, es, ep, ho, r⟩ := hM
    exact ⟨o, es, ep, hk02 C _ hCw ho, r⟩
   have hNew2 : ∀ b, New b → h2.get? b ≠ none := by
    rintro b (rfl | rfl | hb) e
    ·obtain ⟨o, es, ep, ho, r⟩ := hM2
     rw [ho] at e; cases e
    ·rw [hL2] at e; cases e
    ·exact W.ex _ _ hs2 b hb e
   have S2 : Sim G.hf (TT G) lay Sys' (FZ A Sys) base st h2 := F.sim.enter (New := New) hks2 hNs hNew2
   have S3 : Sim G.hf (TT G) (layC c.used C xs lay) Sys' (FZ A Sys) base { st with ρ := wipe c.used st.ρ } h2 := S2.comp F.us (.inr (.inl rfl)) (fun i p hp => (hplace i p hp).1) hbaseC (F.sim.fresh hCs) hM2 ht.nd
   have hgenN : ∀ b, NN st.H Sys' b → NN st.H (fun a => Sys a ∨ a ∈ wr) b ∨ s₂.heap.get? b = none := by
    rintro b (q | q | rfl | rfl | q)
    ·exact .inl (.inl q)
    ·exact .inl (.inr (.inl q))
    ·exact .inr (fresh₂ _ (Nat.le_of_lt hlDC))
    ·exact .inr (fresh₂ _ (Nat.le_refl _))
    ·exact .inl (.inr (.inr q))
   have hgenK : ∀ b o, ¬ NN st.H (fun a => Sys a ∨ a ∈ wr) b → s₂.heap.get? b = some o → h2.get? b = some o := fun b o nb e => (hk22 b o (fun q => nb (.inr (.inr q))) e).1 fun q => nb (.inr (.inl q.2))
   have hval : RV (NN st.H Sys') h2 vs[i] val := by
    have := hitem i vs[i] val h2 hx hP2
    cases nw with
    | false => exact RV.gen hgenN hgenK this
    | true =>
     obtain ⟨t', xs', n', ws, e1, rfl, e3, e4, e5⟩ := this
     rw [e1]
     have hft : h.get? t' = none := hfr rfl t' rfl
     refine .tup (fun q => ?_) e3 e4 (RVs.gen hgenN hgenK e5)
     rcases q with q | q | rfl | rfl | q
     ·exact q ((F.sim.kz hkeep_s).fresh hft)
     ·exact (F.sim.kz hkeep_s).live _ q hft
     ·obtain ⟨o, es, ep, ho, r⟩ := hM
      rw [ho] at hft; cases hft
     ·rw [hL] at hft; cases hft
     ·exact W.ex _ _ hs_i _ q hft
   obtain ⟨ρ₁, hb₁⟩ := bindT_ok (ρ₁ := wipe c.used st.ρ) hti (by rw [wipe_length]) hb
   have O' := env_comp (C := C) F.eo F.us ht hcl
   refine st_tg (c := inner c xs sc.names) F.cold O' (s := { s₂ with heap := h2, toks := tk1 }) S3 htg hb₁ hval fun h3 tk3 S4 tc => ?_
   have hus' : ∀ j p, layC c.used C xs lay j = some p → j < c.used + xs.length := by
    exact fun j p hp => layC_elim (P := fun z' => j < c.used + xs.length) hp (fun h z' => Nat.lt_add_right _ h) fun z' hj hx => (Nat.sub_lt_iff_lt_add' hj).mp (List.getElem?_eq_some_iff.mp hx).1
   have S5 : Sim G.hf (TT G) (layC c.used C xs lay) Sys' (FZ A Sys) base { st with ρ := ρ' } h3 := S4.forget (ρ' := ρ') fun j v p hp hv => by
    rw [← bindT_agree hti (by rw [wipe_length]) (fun q hq => (wipe_lo hq).symm) hb hb₁ j (hus' j p hp)]; exact hv
   have hk23 : ∀ b o, ¬ Sys' b → h2.get? b = some o → h3.get? b = some o := fun b o nb e => tc b o (fun j z' p hp hb => nb (hb ▸ hplaceC j p hp)) e
   have hk33 : ∀ b o, b ≠ C → h2.get? b = some o → h3.get? b = some o := fun b o nb e => tc b o (fun j hj p hp hb => by
    exact layC_elim (P := fun p => b ≠ p.addr) hp (fun h z' => absurd (tgIs_idx hti j hj) (Nat.not_le.mpr h)) (fun z' z' z' => nb) hb) e
   have F5 : Fx G d (inner c xs sc.names) A (compEnvC sc cl C env) (layC c.used C xs lay) Sys' base { st with ρ := ρ' } { s₂ with heap := h3, toks := tk3 } := by
    have ez : FZ A Sys' = FZ A Sys := funext fun b => propext ⟨fun q => ⟨q.1, F.za q.1⟩, fun q => ⟨q.1, .inl q.2⟩⟩
    refine ⟨⟨F.rm, O', hus', ez ▸ S5, F.own, F.cold⟩, ?_, ?_⟩
    ·obtain ⟨lv, l, e, f⟩ := F.fr
     refine ⟨S5.live, l, e, fun v hv => ?_⟩
     obtain ⟨g1, L', o, g2, g3, g4, g5⟩ := f v hv
     obtain ⟨sl, g6⟩ := (hks2 L' o g4).2
     exact ⟨g1, L', _, g2, .inl g3, hk33 L' _ (fun q => hCz (q ▸ ⟨l, v, e, hv, g2⟩)) g6, g5⟩
    ·exact .inr (F.hdo ht.dead)
   have hL3 : IsL h3 D ys nn := tc D _ (fun j z' p hp => Ne.symm (hplaceC' j p hp).1) hL2
   have hM3 : ∃ m', h3.Ns C m' := by
    cases xs with
    | nil =>
     exact (tgIs_ne hti).elim
    | cons x r => exact S5.ok c.used (.loc C x) ((if_neg (Nat.lt_irrefl _)).trans (by rw [Nat.sub_self]; rfl))
   have hsi3 : Si (i + 1) h3 := W.frame _ _ _ hs2 fun b hb o e => tc b o (fun j z' p hp hbe => by
    refine layC_elim (P := fun p => b ≠ p.addr) hp (fun z' hp hbe => ?_) (fun z' z' z' q => Nat.lt_asymm hlDC ((show b = C from q) ▸ hfp b hb)) hbe
    by_cases hbw : b ∈ wr
    ·exact (hplace j p hp).2.2 (hbe ▸ hbw)
    ·rcases hdep b hb hbw with q | q
     ·exact q (.inr (hbe ▸ (F.sim.sys j p hp).1))
     ·exact q.2 (hbe ▸ (F.sim.sys j p hp).2.2)) e
   refine hstp F5 (fun o s₄ => match o with
    | some v => wpAny (model G.prog G.w) A (call (.builtin "list.append") [.ref D, v]) (fun z' s₅ => ∃ m, m < n ∧ InvC A Sys (NN st.H Sys') vs wr Si s₂ D C f QQ m s₅) (notedBy (model G.prog G.w) A (compEnvC sc cl C env) fun e s' => RR (.ref D) C (.error e) s') s₄
    | none => ∃ m, m < n ∧ InvC A Sys (NN st.H Sys') vs wr Si s₂ D C f QQ m s₄) _ ?_ ?_
   ·rintro y v s₄ hq rv ⟨h4, tk4, rfl, hk4⟩
    have hL4 : IsL h4 D ys nn := (hk4 _ _ hL3).1 fun q => hDz q.1
    refine append_call hL4 (Nat.le_trans hsz (Nat.le_trans hi hz)) ?_
    have hot0 : ∀ b o, b ≠ D → h4.get? b = some o → (h4.update D (Obj.mapSeq fun xs => xs.push v)).get? b = some o := fun b o nb e => (Heap.get?_update_other _ _ (Ne.symm nb)).trans e
    have hoth : ∀ b o, b ≠ D → ¬ ZA A b → h3.get? b = some o → (h4.update D (Obj.mapSeq fun xs => xs.push v)).get? b = some o := fun b o nb nz e => hot0 b o nb ((hk4 b o e).1 fun q => nz q.1)
    have hR' : ∀ {us : List V} {zs : List Value}, RVs (NN st.H Sys') h4 us zs → RVs (NN st.H Sys') (h4.update D (Obj.mapSeq fun xs => xs.push v)) us zs := fun r => r.gen (fun z' q => .inl q) fun b o nb e => (Heap.get?_update_other _ _ (fun q => nb (.inr (.inr (.inr (.inl q.symm)))))).trans e
    obtain ⟨m3, hM3⟩ := hM3
    refine ⟨vs.length - (i + 1), hn ▸ Nat.sub_lt_sub_left hlt (Nat.lt_succ_self i), i + 1, acc ++ [y], ys.push v, _, m3, _, tk4, rfl, hlt, rfl, ?_, ?_, hL4.update _, ?_, ?_, ?_, ?_⟩
    ·intro b o nb e
     refine ⟨fun n => hot0 b o (below b o e).2 ((hk4 b o (hk33 b o (below b o e).1 ((hk22 b o nb e).1 n))).1 fun q => n ⟨q.1, F.za q.1⟩), ?_⟩
     obtain ⟨_, e1⟩ := (hk22 b o nb e).2
     obtain ⟨sl, e2⟩ := (hk4 b _ (hk33 b _ (below b o e).1 e1)).2
     exact ⟨sl, hot0 b _ (below b o e).2 e2⟩
    ·exact W.frame _ _ _ hsi3 fun b hb o e => hoth b o (Nat.ne_of_lt (hfp b hb)) (hfz b hb) e
    ·exact hM3.at' fun o e => hoth C o (Ne.symm hDC) hCz e
    ·rw [Array.toList_push]
     refine RVs.append (hR' ?_) (hR' (.cons rv .nil))
     refine RVs.gen (fun z' q => .inl q) (fun b o nb e => (hk4 b o (hk23 b o (fun q => nb (.inr q)) (hk02 b o (fun q => nb (.inr (.inr (.inr (.inr q))))) e))).1 fun q => nb (.inr q.2)) hR
    ·exact Nat.le_trans (Nat.le_of_eq (Array.size_push ..)) (Nat.succ_le_succ hsz)
    ·simpa using hq
   ·rintro s₄ hq ⟨h4, tk4, rfl, hk4⟩
    obtain ⟨m3, hM3⟩ := hM3
    refine ⟨vs.length - (i + 1), hn ▸ Nat.sub_lt_sub_left hlt (Nat.lt_succ_self i), i + 1, acc, ys, _, m3, _, tk4, rfl, hlt, rfl, ?_, ?_, (hk4 _ _ hL3).1 (fun q => hDz q.1), ?_, ?_, ?_, ?_⟩
    ·intro b o nb e
     refine ⟨fun n => (hk4 b o (hk33 b o (below b o e).1 ((hk22 b o nb e).1 n))).1 fun q => n ⟨q.1, F.za q.1⟩, ?_⟩
     obtain ⟨_, e1⟩ := (hk22 b o nb e).2
     obtain ⟨sl, e2⟩ := (hk4 b _ (hk33 b _ (below b o e).1 e1)).2
     exact ⟨sl, e2⟩
    ·exact W.frame _ _ _ hsi3 fun b hb o e => (hk4 b o e).1 fun q => hfz b hb q.1
    ·exact hM3.at' fun o e => (hk4 C o e).1 fun q => hCz q.1
    ·refine RVs.gen (fun z' q => .inl q) (fun b o nb e => (hk4 b o (hk23 b o (fun q => nb (.inr q)) (hk02 b o (fun q => nb (.inr (.inr (.inr (.inr q))))) e))).1 fun q => nb (.inr q.2)) hR
    ·exact Nat.le_succ_of_le hsz
    ·exact hq
  ·-- the end
   have hi' : i = vs.length := Nat.le_antisymm hi hge
   subst hi'
   rw [List.drop_length] at hcc
   simp only [cl_nil, cl_cons, List.append_nil] at hcc
   have hq : Hq A h := F.hdo ht.dead
   have hy : ∀ y, A.handled = some (.ref y) → y ∉ wr := fun y e hb => by
    rw [show A.handled = none from F.hdo ht.dead] at e; cases e
   refine W.done _ _ _ hq hy hs_i fun h1 tk1 hk1 => ?_
   have hM1 : h1.Ns C m := hM.at' fun o e => hk1 C o hCw e
   refine hRR D C h1 tk1 m acc ys nn hcc hDs hCs hDC hM1 (hk1 D _ hDw hL) (Nat.le_trans hsz hz) (hR.gen (fun b q => ?_) fun b o nb e => hk1 b o (fun q => nb (.inr (.inr (.inr (.inr q))))) e) (toS fun b o nb e => ⟨fun n => hk1 b o nb ((hkeep b o nb e).1 n), let ⟨sl, e'⟩ := (hkeep b o nb e).2; ⟨sl, hk1 b _ nb e'⟩⟩)
   rcases q with q | q | q | q
   ·exact .inl (.inl q)
   ·exact .inl (.inr (.inl q))
   ·exact .inl (.inr (.inr (.inl q)))
   ·exact .inl (.inr (.inr (.inr (.inl q))))
 exact codeAny_compStart_list (loop _ rfl) (W.self 0 _ _ _ hst₁ (loop _ rfl))
end
end Mine
end
section
set_option autoImplicit false
namespace Mine
open PySem
section
variable {G : PG} {d : Nat} {c : Sc} {A : Around} {env : Env} {lay : Nat → Option Place} {Sys : Addr → Prop} {base : Heap} {st : St} {s : Shared}
theorem folded_plain {x : Expr} (h : isSetX x = false) (env : Env) (v : Value) : foldedSetIterable x env v = pure v := by
 cases x <;> first | rfl | exact nomatch h
theorem free_cells {xs : List Str} {sc : Scope} (O : EnvOk env c.names c.σ lay) (ht : TableOk c xs sc) : ∀ p ∈ sc.names, p.2 = .free → ∃ a, env.cells.lookup p.1 = some a := by
 intro p hp hf
 rcases ht.names p hp with q | ⟨_, _, ⟨i, hi⟩, hk, _⟩ | q
 ·rw [hf] at q; cases q
 ·obtain ⟨pl, _, hc⟩ := O.vars p.1 i hi
  have hk' : env.kindOf p.1 = some .cell ∨ env.kindOf p.1 = some .free := hk.elim (fun q => .inl (O.ce _ q)) (O.fr _)
  rcases hc with ⟨hl, _⟩ | ⟨_, _, a, ha, _⟩
  ·rcases hk' with q | q <;> rw [hl] at q <;> cases q
  ·exact ⟨a, ha⟩
 ·rw [hf] at q; cases q
theorem comp_val {f : V → (Option V → Prop) → Prop} {t : Tg} {tg iter elt : Expr} {ifs : List Expr} {sc : Scope} {pos : Pos} {xs : List Str} {it : It} {Q : V → Prop} {X : String → Prop} {K E : Value → Shared → Prop}
  (F : Fx G d c A env lay Sys base st s) (hi : SI G d c it iter) (hset : isSetX iter = false) (hez : isEZ it = true → isTupX tg = true) (ht : TableOk c xs sc) (hti : tgIs c.used t xs = true) (htg : chkTg (inner c xs sc.names) t tg = true)
  (hstep : CStep G d c A st base xs sc t ifs elt f) (hW : WI (G.cx d) it st (fun xs z' => xs.length ≤ sizeLine ∧ compL f xs (fun ys => Q (.lst ys))) X)
  (hK : ∀ v val s', Q v → RV (NN st.H Sys) s'.heap v val → Kp (FZ A Sys) s s' → Frsh (NN st.H Sys) s s' v val → K val s') (hX : ∀ e s', Rz G.mg A Sys s X e s' → E e s') :
  wpAny (model G.prog G.w) A (eval (.ListComp elt [⟨tg, iter, ifs, 0⟩] sc pos) env) K E s := by
 rw [eval_ListComp]
 obtain ⟨cl, e1, e2⟩ := closure_ok (free_cells F.eo ht)
 refine wpAny_comprehension_free (use := none) rfl (folded_plain hset env) e1 ht.kind (fun x hx hl => by rw [← hl]; exact nodup_lookup ht.nodup hx) ?_
 refine hi F _ X _ E hW (fun vs ds I s₂ hq k io => ?_) hX
 refine comp_block (RR := fun acc C => compPost (model G.prog G.w) A E none K acc C) F k io hez hq.1 ht hti htg e2 hstep hq.2 ?_
 intro D C h' tk m' ys zs nn hQ hD hC hDC hm hl hz hr hk
 refine ⟨m', hm, fun h'' hs => ?_⟩
 obtain ⟨h2, t2, rfl, k2⟩ := k
 have hkk : HW (FZ A Sys) s.heap h'' := hk.ext1 hC hs.extBut
 have hl' : IsL h'' D zs nn := hs.extBut D _ hDC hl
 have hr' : RVs (fun b => NN st.H Sys b ∨ b = D) h'' ys zs.toList := hr.gen (fun b q => by
  rcases q with (q | q) | q
  ·exact .inl (.inl q)
  ·exact .inl (.inr (.inl q))
  ·exact .inl (.inr (.inr (.inr q)))) fun b o nb e => hs.extBut b o (fun q => nb (.inr (.inr (.inl q)))) e
 refine hK _ _ _ hQ (new_at F.sim.objs F.sim.live hD hl' hz (hr'.less fun b q => .inl q)) (Kp.ofW hkk) ?_
 rintro a ⟨⟩
 refine ⟨hD, ?_⟩
 rintro vs' ⟨⟩
 exact ⟨zs, nn, hl', hz, hr'⟩
set_option tactic.hygienic true in
theorem cstep_plain {t : Tg} {e : E} {elt : Expr} {sc : Scope} {xs : List Str} (he : SE G d (inner c xs sc.names) e elt) :
  CStep G d c A st base xs sc t [] elt (fun x k => match bindT t x st.ρ with
    | some ρ' => WE (G.cx d) e { st with ρ := ρ' } (fun y => k (some y)) (fun z' => False)
    | none => False) := by
 intro x k h
 split at h
 ·rename_i ρ' hb
  refine ⟨ρ', hb, fun {cenv lay' Sys' s'} F K E' hs hn => wpAny_tests_nil ?_⟩
  rw [if_pos rfl]
  exact (he F).weak _ (fun z' => False) _ _ h (fun v val s'' q r k' z' => hs v val s'' q r k') fun e s'' q => q.no.elim
 ·exact h.elim
set_option tactic.hygienic true in
theorem cstep_if {t : Tg} {e cd : E} {elt z : Expr} {sc : Scope} {xs : List Str} (he : SE G d (inner c xs sc.names) e elt) (hc : ST G d (inner c xs sc.names) cd z) :
  CStep G d c A st base xs sc t [z] elt (fun x k => match bindT t x st.ρ with
    | some ρ' => WE (G.cx d) cd { st with ρ := ρ' } (fun u => match truthV st.H u with
     | some true => WE (G.cx d) e { st with ρ := ρ' } (fun y => k (some y)) (fun z' => False)
     | some false => k none
     | none => False) (fun z' => False)
    | none => False) := by
 intro x k h
 split at h
 ·rename_i ρ' hb
  refine ⟨ρ', hb, fun {cenv lay' Sys' s'} F K E' hs hn => wpAny_tests_one (hc F (fun r => if r then WE (G.cx d) e { st with ρ := ρ' } (fun y => k (some y)) (fun z' => False) else k none) (fun z' => False) _ _ (WE_cg h fun u => ?_) (fun r s₁ q k' => ?_) fun e s'' q => q.no.elim)⟩
  ·show _ = match truthV st.H u with | some b => _ | none => False
   cases truthV st.H u with
   | none => rfl
   | some r => cases r <;> rfl
  ·cases r
   ·simp only [Bool.false_eq_true, if_false] at q ⊢; exact hn s₁ q k'
   ·simp only [if_true] at q ⊢
    exact (he (F.keeps k')).weak _ (fun z' => False) _ _ q (fun v val s'' q r k'' z' => hs v val s'' q r (k'.trans k'')) fun e s'' q => q.no.elim
 ·exact h.elim
theorem se_comp {t : Tg} {e : E} {tg iter elt : Expr} {sc : Scope} {pos : Pos} {xs : List Str} {it : It} (F : Fx G d c A env lay Sys base st s) (hi : SI G d c it iter) (hset : isSetX iter = false) (hez : isEZ it = true → isTupX tg = true) (ht : TableOk c xs sc) (hti : tgIs c.used t xs = true)
  (htg : chkTg (inner c xs sc.names) t tg = true) (he : SE G d (inner c xs sc.names) e elt) : Snd G.prog G.w G.mg A (NN st.H Sys) Sys s true (eval (.ListComp elt [⟨tg, iter, [], 0⟩] sc pos) env) (WE (G.cx d) (.comp e t it) st) := by
 intro Q X K E hW hK hX
 simp only [we_34] at hW
 exact comp_val F hi hset hez ht hti htg (cstep_plain he) hW (fun v val s' q r k f => hK v val s' q r k fun z' => f) hX
theorem se_compIf {t : Tg} {e cd : E} {tg iter elt z : Expr} {sc : Scope} {pos : Pos} {xs : List Str} {it : It} (F : Fx G d c A env lay Sys base st s) (hi : SI G d c it iter) (hset : isSetX iter = false) (hez : isEZ it = true → isTupX tg = true) (ht : TableOk c xs sc) (hti : tgIs c.used t xs = true)
  (htg : chkTg (inner c xs sc.names) t tg = true) (he : SE G d (inner c xs sc.names) e elt) (hc : ST G d (inner c xs sc.names) cd z) : Snd G.prog G.w G.mg A (NN st.H Sys) Sys s true (eval (.ListComp elt [⟨tg, iter, [z], 0⟩] sc pos) env) (WE (G.cx d) (.compIf e t it cd) st) := by
 intro Q X K E hW hK hX
 simp only [we_35] at hW
 exact comp_val F hi hset hez ht hti htg (cstep_if he hc) hW (fun v val s' q r k f => hK v val s' q r k fun z' => f) hX
end
end Mine
end
section
set_option autoImplicit false
namespace Mine
open PySem
noncomputable def CallSnd (G : PG) (d : Nat) : Prop :=
 ∀ {A : Around} {H : AH} {Sys : Addr → Prop} {s : Shared} {f : String} {fa : Addr} {vs : List V} {vals : List Value}, RmC d A → (∃ b0, TT G b0 ∧ HK b0 s.heap ∧ ∀ a, NN H Sys a → b0.get? a = none) → HO G.hf H Sys s.heap → (∀ a, Sys a → s.heap.get? a ≠ none) → (∀ a, Sys a → H a = none) → FrOk A Sys s.heap → HdOk A Sys s.heap → (G.hots.contains f = false → A.handled = none) → G.mg (Str.ofString f) = some (.ref fa) →
  RVs (NN H Sys) s.heap vs vals → ∀ (Q : V → AH → Prop) (X : String → Prop) (K E : Value → Shared → Prop), (G.cx d).run f vs H Q X → (∀ v val H' Sys' s', Q v H' → Given G.hf H H' Sys Sys' s s' → RV (NN H' Sys') s'.heap v val → Kp (FZ A Sys) s s' → K val s') → (∀ e s', Rz G.mg A Sys s X e s' → E e s') →
   wpAny (model G.prog G.w) A (call (.ref fa) vals) K E s
section
variable {G : PG} {d : Nat} {c : Sc} {A : Around} {env : Env} {lay : Nat → Option Place} {Sys : Addr → Prop} {base : Heap} {st : St} {s : Shared}
noncomputable def BodyOk (C : Cx) (vs : List V) (H : AH) (Q : V → AH → Prop) (X : String → Prop) (fn : Fn) : Prop := vs.length = fn.np ∧ fn.np ≤ fn.nv ∧ WB C fn.body ⟨vs.map some ++ List.replicate (fn.nv - fn.np) Option.none, H, H⟩
 (fun fl st => match fl with
  | .ret v => Q v st.H
  | .next => Q .none st.H
  | _ => False) (fun x z' => X x)
theorem run_elim {f : String} {vs : List V} {H : AH} {Q : V → AH → Prop} {X : String → Prop} {P : Prop} (h : (G.cx (d + 1)).run f vs H Q X) (k : ∀ fn, G.tbl.lookup f = some fn → BodyOk (G.cx d) vs H Q X fn → P) : P := by
 have h : (match G.tbl.lookup f with
  | Option.none => False
  | some fn => BodyOk (G.cx d) vs H Q X fn) := h
 cases e : G.tbl.lookup f with
 | none => rw [e] at h; exact h.elim
 | some fn => rw [e] at h; exact k fn e h
theorem call_raw (hc : CallSnd G d) {f : String} {es : Es} {y : Str} {p pos : Pos} {z : Expr} {xs : List Expr} (F : Fx G d c A env lay Sys base st s) (hg : isGlob c y f = true) (h : SEs G d c es (z :: xs)) (hf : ∃ fn, G.tbl.lookup f = some fn) (hfn0 : c.fns.contains f = true) (hho : c.hots = G.hots) :
  ∀ (Q : V → AH → Prop) (X : String → Prop) (K E : Value → Shared → Prop), WEs (G.cx d) es st (fun vs => (G.cx d).run f vs st.H Q X) X → (∀ v val H' Sys' s', Q v H' → Given G.hf st.H H' Sys Sys' s s' → RV (NN H' Sys') s'.heap v val → Kp (FZ A Sys) s s' → K val s') → (∀ e s', Rz G.mg A Sys s X e s' → E e s') →
   wpAny (model G.prog G.w) A (eval (.Call (.Name y p) (z :: xs) [] pos) env) K E s := by
 intro Q X K E hW hK hX
 obtain ⟨fn, hfn⟩ := hf
 have hcold : G.hots.contains f = false → A.handled = none := fun e => F.cold (by
  have := isGlob_hot hg
  unfold hotOk at this
  rw [hho, e, hfn0] at this
  cases q : c.hot with
  | false => rfl
  | true => rw [q] at this; simp at this)
 have hnd : ¬ (c.hot = true ∧ c.dead = true) := fun ⟨q1, q2⟩ => by
  have := isGlob_hot hg
  unfold hotOk at this
  rw [hfn0, q1, q2] at this
  simp at this
 obtain ⟨b0, T0, k0, n0⟩ := F.sim.topH
 obtain ⟨dr, a, o, pm, code, doc, h1, h2, h3, h4, h5⟩ := T0.fn f fn hfn
 have k0' : ∀ {s₁ : Shared}, Kp (FZ A Sys) s s₁ → HK b0 s₁.heap := fun k₁ b o e => (k₁.hw b o (k0 b o e)).1 fun q => by rw [n0 b (.inr q.2)] at e; cases e
 rw [arm_eval_Call_Name']
 refine wpAny_bind (ld_glob F hg h1 ?_)
 have e : backTo pos (starEach (z :: xs) env) = (false, eval z env) :: backTo pos (starEach xs env) := by
  have := h.1
  simp only [List.all_cons, Bool.and_eq_true] at this
  rw [starEach_cons this.1]; rfl
 have hs := h.2 F pos _ X (fun vals s' => (s'.heap.get? a = some o ∧ o.data = .func (Calls.docDef dr.name dr.params dr.body dr.scope pm code doc)) ∧ wpAny (model G.prog G.w) A (call (.ref a) vals) K E s') E hW (fun vs vals s' q r k => ?_) hX
 ·show wpAny _ _ (callWith pos (.ref a) [] _ _) _ _ _
  rw [e] at hs ⊢
  exact Calls.callWith_function (Calls.evalArgs_plain hs)
 ·have F' := F.keeps k
  exact ⟨⟨(k0' k) _ _ h2, h3⟩, hc F'.rm.toC F'.sim.topH F'.sim.objs F'.sim.live F'.sim.dis F'.fr (F'.hd.resolve_left hnd) hcold h1 r Q X K E q (fun v val H' Sys' s'' q' g r' k' => hK v val H' Sys' s'' q' (g.before k) r' (k.trans k')) fun e s'' q' => hX e s'' (Rz.trans k q')⟩
set_option tactic.hygienic true in
theorem se_call (hc : CallSnd G d) {f : String} {es : Es} {y : Str} {p pos : Pos} {z : Expr} {xs : List Expr} (F : Fx G d c A env lay Sys base st s) (hg : isGlob c y f = true) (h : SEs G d c es (z :: xs)) (hf : ∃ fn, G.tbl.lookup f = some fn) (hfn0 : c.fns.contains f = true) (hho : c.hots = G.hots) :
  Snd G.prog G.w G.mg A (NN st.H Sys) Sys s false (eval (.Call (.Name y p) (z :: xs) [] pos) env) (WE (G.cx d) (.call f es) st) := by
 intro Q X K E hW hK hX
 simp only [we_15, we_17] at hW
 refine call_raw hc F hg h hf hfn0 hho _ X K E hW (fun v val H' Sys' s' q g r k => ?_) hX
 have hfz := frz_ok (H := H') (B := st.H) (Sys := Sys) (Sys' := Sys') (h := s'.heap) g.ho g.sub g.stay fun a q q' hs => F.sim.live a hs (g.own a q q')
 split at q
 ·rename_i v' hv'
  exact hK v' _ s' q ((hfz 8).1 _ _ _ hv' r) k nofun
 ·exact q.elim
end
theorem st_ite {G : PG} {d : Nat} {c : Sc} {t a b : E} {y z u : Expr} {pos : Pos} (ht : ST G d c t y) (ha : ST G d c a z) (hb : ST G d c b u) : ST G d c (.ite t a b) (.IfExp y z u pos) := by
 intro A env lay Sys base st s F Q X K E hW hK hX
 simp only [we_11] at hW
 show wpAny _ _ (do if ← isTrue y env (eval y env) then isTrue z env (eval z env) else isTrue u env (eval u env)) _ _ _
 refine wpAny_bind (ht F (fun r => if r then WE (G.cx d) a st (fun u => match truthV st.H u with | some b => Q b | none => False) X else WE (G.cx d) b st (fun u => match truthV st.H u with | some b => Q b | none => False) X) X _ E (WE_cg hW fun u => ?_) (fun r s₁ q k => ?_) hX)
 ·cases truthV st.H u with
  | none => rfl
  | some r => cases r <;> rfl
 ·cases r
  ·simp only [Bool.false_eq_true, if_false] at q ⊢
   exact hb (F.keeps k) Q X K E q (fun b s' q' k' => hK b s' q' (k.trans k')) fun e s' q' => hX e s' (Rz.trans k q')
  ·simp only [if_true] at q ⊢
   exact ha (F.keeps k) Q X K E q (fun b s' q' k' => hK b s' q' (k.trans k')) fun e s' q' => hX e s' (Rz.trans k q')
theorem isComp_inv {y : Expr} (h : isComp y = true) : (∃ a b c d, y = .ListComp a b c d) ∨ (∃ a b c d, y = .SetComp a b c d) ∨ (∃ a b c d e, y = .DictComp a b c d e) := by
 cases y <;> first | exact ff h | exact .inl ⟨_, _, _, _, rfl⟩ | exact .inr (.inl ⟨_, _, _, _, rfl⟩) | exact .inr (.inr ⟨_, _, _, _, _, rfl⟩)
theorem comp_only {c : Sc} {e : E} {y : Expr} (he : chkE c e y = true) (h : isComp y = true) : isCompE e = true := by
 rcases isComp_inv h with ⟨a, b, g, d, rfl⟩ | ⟨a, b, g, d, rfl⟩ | ⟨a, b, g, d, p, rfl⟩ <;> cases e <;> first | rfl | exact ff he
theorem tyNames {t : Ty} (h : plainTy t = true) : tyName t ∈ bnames ∧ bval (tyName t) = .type (tyName t) := by
 cases t <;> first | exact ⟨by decide, rfl⟩ | exact ff h
end Mine
end
section
set_option autoImplicit false
set_option maxRecDepth 100000
namespace Mine
open PySem
section
variable {G : PG} {d : Nat} {c : Sc} {A : Around} {env : Env} {lay : Nat → Option Place} {Sys : Addr → Prop} {base : Heap} {st : St} {s : Shared}
end
end Mine
end
section
set_option autoImplicit false
namespace Mine
open PySem
theorem tbl_mem {tbl : Tbl} : ∀ {f : String}, (tbl.map (·.1)).contains f = true → ∃ fn, tbl.lookup f = some fn := by
 induction tbl with
 | nil => intro f h; simp at h
 | cons p r ih =>
  intro f h
  obtain ⟨n, fn⟩ := p
  simp only [List.lookup_cons]
  cases e : f == n with
  | true => exact ⟨_, rfl⟩
  | false =>
   refine ih ?_
   simp only [List.map_cons, List.contains_cons, e, Bool.false_or] at h
   exact h
section
variable {G : PG} {d : Nat}
theorem both {c : Sc} {e : E} {x : Expr} (h1 : SE G d c e x) (h2 : ∀ (env : Env) (w : Sem Value), isTrue x env w = (do let v ← w; standAt x.pos; holding [v] (truthy v))) : SE G d c e x ∧ ST G d c e x := ⟨h1, st_of h1 h2⟩
set_option tactic.hygienic true
mutual
theorem sndE (hc : CallSnd G d) : ∀ (e : E) (c : Sc) (x : Expr), c.fns = G.tbl.map (·.1) ∧ c.xs = G.xs ∧ c.hots = G.hots → chkE c e x = true → SE G d c e x ∧ ST G d c e x
 | .none, c, x, hf, h => by
  apply onConst_elim h; clear h; intro v kk pp h
  have e := of_decide_eq_true h
  subst e
  ·exact both (fun {A env lay Sys base st s} F Q X K E hW hK hX => by
    simp only [we_0, we_1, we_2, we_3, we_4, we_5, we_6, we_7, we_8, we_9, we_10, we_11, we_12, we_13, we_14, we_15, we_16, we_17, we_18, we_19, we_20, we_21, we_22, we_23, we_24, we_25, we_26, we_27, we_28, we_29, we_30, we_31, we_32, we_33, we_34, we_35, we_36, we_37] at hW; exact snd_none Q X K E hW hK hX) fun z' z' => rfl
 | .bool b, c, x, hf, h => by
  apply onConst_elim h; clear h; intro v kk pp h
  have e := of_decide_eq_true h
  subst e
  ·exact both (fun {A env lay Sys base st s} F Q X K E hW hK hX => by
    simp only [we_0, we_1, we_2, we_3, we_4, we_5, we_6, we_7, we_8, we_9, we_10, we_11, we_12, we_13, we_14, we_15, we_16, we_17, we_18, we_19, we_20, we_21, we_22, we_23, we_24, we_25, we_26, we_27, we_28, we_29, we_30, we_31, we_32, we_33, we_34, we_35, we_36, we_37] at hW; exact snd_bool Q X K E hW hK hX) fun z' z' => rfl
 | .int i, c, x, hf, h => by
  apply onConst_elim h; clear h; intro v kk pp h
  have e := of_decide_eq_true h
  subst e
  ·exact both (fun {A env lay Sys base st s} F Q X K E hW hK hX => by
    simp only [we_0, we_1, we_2, we_3, we_4, we_5, we_6, we_7, we_8, we_9, we_10, we_11, we_12, we_13, we_14, we_15, we_16, we_17, we_18, we_19, we_20, we_21, we_22, we_23, we_24, we_25, we_26, we_27, we_28, we_29, we_30, we_31, we_32, we_33, we_34, we_35, we_36, we_37] at hW; exact snd_int Q X K E hW hK hX) fun z' z' => rfl
 | .str u, c, x, hf, h => by
  apply onConst_elim h; clear h; intro v kk pp h
  ·apply and3_elim h; clear h; intro e0_ h1 h2
   try simp only [decide_eq_true_eq] at e0_
   try simp only [decide_eq_true_eq] at h1
   try simp only [decide_eq_true_eq] at h2
   subst e0_
   have h : (True ∧ u.length ≤ sizeLine) ∧ u.cps.all (· < 0x110000) = true := ⟨⟨trivial, h1⟩, h2⟩
   have ho : SOk u := ⟨h.1.2, fun c hc => by
    have := h.2
    rw [← Array.all_toList, List.all_eq_true] at this
    simpa using this c hc⟩
   exact both (fun {A env lay Sys base st s} F Q X K E hW hK hX => by
    simp only [we_0, we_1, we_2, we_3, we_4, we_5, we_6, we_7, we_8, we_9, we_10, we_11, we_12, we_13, we_14, we_15, we_16, we_17, we_18, we_19, we_20, we_21, we_22, we_23, we_24, we_25, we_26, we_27, we_28, we_29, we_30, we_31, we_32, we_33, we_34, we_35, we_36, we_37] at hW; exact snd_str ho Q X K E hW hK hX) fun z' z' => rfl
 | .var i, c, x, hf, h => by
  apply onName_elim h; clear h; intro y p h
  ·exact both (fun {A env lay Sys base st s} F => se_var F h) fun z' z' => rfl
 | .glob g, c, x, hf, h => by
  apply onName_elim h; clear h; intro y p h
  ·exact both (fun {A env lay Sys base st s} F => se_glob F h) fun z' z' => rfl
 | .bin op a b, c, x, hf, h => by
  apply onBin_elim h; clear h; intro l o r p h
  ·apply and3_elim h; clear h; intro e0_ ha hb
   try simp only [decide_eq_true_eq] at e0_
   try simp only [decide_eq_true_eq] at ha
   try simp only [decide_eq_true_eq] at hb
   subst e0_
   exact both (fun {A env lay Sys base st s} F => se_bin F (sndE hc a c _ hf ha).1 (sndE hc b c _ hf hb).1) fun z' z' => rfl
 | .neg a, c, x, hf, h => by
  apply onUn_elim h; clear h; intro o y p h
  ·apply and2_elim h; clear h; intro e0_ ha
   try simp only [decide_eq_true_eq] at e0_
   try simp only [decide_eq_true_eq] at ha
   subst e0_
   exact both (fun {A env lay Sys base st s} F => se_neg F (sndE hc a c _ hf ha).1) fun z' z' => rfl
 | .not a, c, x, hf, h => by
  apply onUn_elim h; clear h; intro o y p h
  ·apply and2_elim h; clear h; intro e0_ ha
   try simp only [decide_eq_true_eq] at e0_
   try simp only [decide_eq_true_eq] at ha
   subst e0_
   exact ⟨fun {A env lay Sys base st s} F => se_not F (sndE hc a c _ hf ha).1, st_not (sndE hc a c _ hf ha).2⟩
 | .and a b, c, x, hf, h => by
  apply onBool_elim h; clear h; intro o ys p h
  apply and2_elim h; clear h; intro h1 h2
  have e := of_decide_eq_true h1
  subst e
  rcases andT_inv h2 with ⟨y, z, rfl, ha, hb⟩ | ⟨y, z, u, r, rfl, ha, hb⟩
  ·exact ⟨fun {A env lay Sys base st s} F => se_and F (sndE hc a c _ hf ha).1 (sndE hc b c _ hf hb).1, st_and2 (sndE hc a c _ hf ha).2 (sndE hc b c _ hf hb).2⟩
  ·exact ⟨fun {A env lay Sys base st s} F => se_andN F (sndE hc a c _ hf ha).1 (sndE hc b c _ hf hb).1, st_and (sndE hc a c _ hf ha).2 (sndE hc b c _ hf hb).2⟩
 | .or a b, c, x, hf, h => by
  apply onBool_elim h; clear h; intro o ys p h
  apply and2_elim h; clear h; intro h1 h2
  have e := of_decide_eq_true h1
  subst e
  rcases andT_inv h2 with ⟨y, z, rfl, ha, hb⟩ | ⟨y, z, u, r, rfl, ha, hb⟩
  ·exact ⟨fun {A env lay Sys base st s} F => se_or F (sndE hc a c _ hf ha).1 (sndE hc b c _ hf hb).1, st_or2 (sndE hc a c _ hf ha).2 (sndE hc b c _ hf hb).2⟩
  ·exact ⟨fun {A env lay Sys base st s} F => se_orN F (sndE hc a c _ hf ha).1 (sndE hc b c _ hf hb).1, st_or (sndE hc a c _ hf ha).2 (sndE hc b c _ hf hb).2⟩
 | .ite t a b, c, x, hf, h => by
  apply onIf_elim h; clear h; intro y z u p h
  ·apply and3_elim h; clear h; intro ht ha hb
   exact ⟨fun {A env lay Sys base st s} F => se_ite F (sndE hc t c _ hf ht).2 (sndE hc a c _ hf ha).1 (sndE hc b c _ hf hb).1, st_ite (sndE hc t c _ hf ht).2 (sndE hc a c _ hf ha).2 (sndE hc b c _ hf hb).2⟩
 | .list es, c, x, hf, h => by
  apply onList_elim h; clear h; intro xs p h
  ·exact both (fun {A env lay Sys base st s} F => se_list F (sndEs hc es c _ hf h)) fun z' z' => rfl
 | .tup es, c, x, hf, h => by
  apply onTup_elim h; clear h; intro xs k p h
  ·exact both (fun {A env lay Sys base st s} F => se_tup F (sndEs hc es c _ hf h)) fun z' z' => rfl
 | .cmp a ch, c, x, hf, h => by
  apply onCmp_elim h; clear h; intro l o r p h
  ·apply and3_elim h; clear h; intro hm ha hb
   try simp only [Bool.not_eq_true'] at hm
   try simp only [Bool.not_eq_true'] at ha
   try simp only [Bool.not_eq_true'] at hb
   exact ⟨fun {A env lay Sys base st s} F => se_cmp F (sndE hc a c _ hf ha).1 (sndCh hc ch c _ _ hf hb) hm, st_cmp (sndE hc a c _ hf ha).1 (sndCh hc ch c _ _ hf hb) hm⟩
 | .sub a i, c, x, hf, h => by
  apply onSub_elim h; clear h; intro y z p h
  ·apply and3_elim h; clear h; intro ha hi hp
   exact both (fun {A env lay Sys base st s} F => se_sub F (sndE hc a c _ hf ha).1 (sndE hc i c _ hf hi).1 hp) fun z' z' => rfl
 | .slice a lo hi, c, x, hf, h => by
  apply onSub_elim h; clear h; intro y z p h
  apply onSlice_elim h; clear h; intro l h' sp p' h
  ·apply and4_elim h; clear h; intro hsn ha hl hh
   cases sp with
   | some _ => exact ff hsn
   | none =>
   have p1 : SP G d c lo l := by
    cases l with
    | none => cases lo <;> first | rfl | exact ff hl
    | some l => exact (sndE hc lo c _ hf hl).1
   have p2 : SP G d c hi h' := by
    cases h' with
    | none => cases hi <;> first | rfl | exact ff hh
    | some l => exact (sndE hc hi c _ hf hh).1
   exact both (fun {A env lay Sys base st s} F => se_slice F (sndE hc a c _ hf ha).1 p1 p2) fun z' z' => rfl
 | .call f es, c, x, hf, h => by
  apply onCallN_elim h; clear h; intro y p xs q h
  ·apply and4_elim h; clear h; intro h0 hg hm hs
   obtain ⟨z, r, rfl⟩ := some1_inv h0
   exact both (fun {A env lay Sys base st s} F => se_call hc F hg (sndEs hc es c _ hf hs) (tbl_mem (hf.1 ▸ hm)) hm hf.2.2) fun z' z' => rfl
 | .isinst a t, c, x, hf, h => by
  apply onCallN_elim h; clear h; intro y p xs q h
  apply two_elim h; clear h; intro z n h
  apply onName_elim h; clear h; intro u p' h
  ·apply and5_elim h; clear h; intro hg hz ha ht hp
   exact both (fun {A env lay Sys base st s} F => se_isi F hg hz (sndE hc a c _ hf ha).1 ht (tyNames hp).1 (tyNames hp).2) fun z' z' => rfl
 | .len a, c, x, hf, h => by
  apply onCallN_elim h; clear h; intro y p xs q h
  apply one_elim h; clear h; intro z h
  ·apply and3_elim h; clear h; intro hg hz ha
   exact both (fun {A env lay Sys base st s} F => se_len F hg hz (sndE hc a c _ hf ha).1) fun z' z' => rfl
 | .sum a, c, x, hf, h => by
  apply onCallN_elim h; clear h; intro y p xs q h
  apply one_elim h; clear h; intro z h
  apply and3_elim h; clear h; intro hg hz ha
  exact both (fun {A env lay Sys base st s} F => se_sum F hg hz (sndE hc a c _ hf ha).1) fun z' z' => rfl
 | .max2 a b, c, x, hf, h => by
  apply onCallN_elim h; clear h; intro y p xs q h
  apply two_elim h; clear h; intro z u h
  apply and5_elim h; clear h; intro hg hz hu ha hb
  exact both (fun {A env lay Sys base st s} F => se_max2 F hg hz hu (sndE hc a c _ hf ha).1 (sndE hc b c _ hf hb).1) fun z' z' => rfl
 | .min2 a b, c, x, hf, h => by
  apply onCallN_elim h; clear h; intro y p xs q h
  apply two_elim h; clear h; intro z u h
  apply and5_elim h; clear h; intro hg hz hu ha hb
  exact both (fun {A env lay Sys base st s} F => se_min2 F hg hz hu (sndE hc a c _ hf ha).1 (sndE hc b c _ hf hb).1) fun z' z' => rfl
 | .maxl a, c, x, hf, h => ff h
 | .maxd a b, c, x, hf, h => by
  apply onCall_elim h; clear h; intro g xs ks q h
  apply one_elim h; clear h; intro z h
  apply one_elim h; clear h; intro kw h
  apply onName_elim h; clear h; intro y p h
  obtain ⟨ka, u, kp⟩ := kw
  apply and5_elim h; clear h; intro hg hz e2_ ha hb
  try simp only [decide_eq_true_eq] at hg
  try simp only [decide_eq_true_eq] at hz
  try simp only [decide_eq_true_eq] at e2_
  try simp only [decide_eq_true_eq] at ha
  try simp only [decide_eq_true_eq] at hb
  subst e2_
  exact both (fun {A env lay Sys base st s} F => se_maxd F hg hz rfl (sndE hc a c _ hf ha).1 (sndE hc b c _ hf hb).1) fun z' z' => rfl
 | .strOf a, c, x, hf, h => by
  apply onCallN_elim h; clear h; intro y p xs q h
  apply one_elim h; clear h; intro z h
  apply and3_elim h; clear h; intro hg hz ha
  exact both (fun {A env lay Sys base st s} F => se_str F hg hz (sndE hc a c _ hf ha).1) fun z' z' => rfl
 | .intOf a, c, x, hf, h => by
  apply onCallN_elim h; clear h; intro y p xs q h
  apply one_elim h; clear h; intro z h
  apply and3_elim h; clear h; intro hg hz ha
  exact both (fun {A env lay Sys base st s} F => se_int F hg hz (sndE hc a c _ hf ha).1) fun z' z' => rfl
 | .tupOf a, c, x, hf, h => by
  apply onCallN_elim h; clear h; intro y p xs q h
  apply one_elim h; clear h; intro z h
  apply and3_elim h; clear h; intro hg hz ha
  exact both (fun {A env lay Sys base st s} F => se_tupOf F hg hz (sndE hc a c _ hf ha).1) fun z' z' => rfl
 | .listOf it, c, x, hf, h => by
  apply onCallN_elim h; clear h; intro y p xs q h
  apply one_elim h; clear h; intro z h
  ·apply and5_elim h; clear h; intro hg hz hl hi hco
   try simp only [Bool.not_eq_true'] at hg
   try simp only [Bool.not_eq_true'] at hz
   try simp only [Bool.not_eq_true'] at hl
   try simp only [Bool.not_eq_true'] at hi
   try simp only [Bool.not_eq_true'] at hco
   exact both (fun {A env lay Sys base st s} F => (sndI hc it c _ hf hi).2 hl hco F hg hz) fun z' z' => rfl
 | .join sp a, c, x, hf, h => by
  apply onCall_elim h; clear h; intro g xs ks pos h
  apply and2_elim h; clear h; intro hks h
  apply one_elim h; clear h; intro z h
  apply onAttr_elim h; clear h; intro o n ap h
  apply and6_elim h; clear h; intro e0_ hz hl hs hst ha
  try simp only [decide_eq_true_eq] at e0_
  try simp only [decide_eq_true_eq] at hz
  try simp only [decide_eq_true_eq] at hl
  try simp only [decide_eq_true_eq] at hs
  try simp only [decide_eq_true_eq] at hst
  try simp only [decide_eq_true_eq] at ha
  subst e0_
  cases ks with
  | cons => exact ff hks
  | nil =>
  cases sp with
  | str u =>
   apply onConst_elim hs; clear hs; intro v kk pp hs
   apply and3_elim hs; clear hs; intro e0_ h1 h2
   try simp only [decide_eq_true_eq] at e0_
   try simp only [decide_eq_true_eq] at h1
   try simp only [decide_eq_true_eq] at h2
   subst e0_
   have ho : SOk u := ⟨h1, fun c hc => by
    have := h2
    rw [← Array.all_toList, List.all_eq_true] at this
    simpa using this c hc⟩
   exact both (fun {A env lay Sys base st s} F => se_join F hl ho hz (sndE hc a c _ hf ha).1) fun z' z' => rfl
  | _ => exact ff hst
 | .get a b e, c, x, hf, h => by
  apply onCall_elim h; clear h; intro g xs ks cp h
  apply and2_elim h; clear h; intro hk h
  apply two_elim h; clear h; intro z u h
  apply onAttr_elim h; clear h; intro o n ap h
  cases ks with
  | cons => exact ff hk
  | nil =>
  apply and8_elim h; clear h; intro e0_ h2 h3 h4 h5 h6 h7 h8
  try simp only [decide_eq_true_eq] at e0_
  try simp only [decide_eq_true_eq] at h2
  try simp only [decide_eq_true_eq] at h3
  try simp only [decide_eq_true_eq] at h4
  try simp only [decide_eq_true_eq] at h5
  try simp only [decide_eq_true_eq] at h6
  try simp only [decide_eq_true_eq] at h7
  try simp only [decide_eq_true_eq] at h8
  subst e0_
  exact both (fun {A env lay Sys base st s} F => se_get F (sndE hc a c _ hf h6).1 (sndE hc b c _ hf h7).1 (sndE hc e c _ hf h8).1 h3 h4 h5 h2) fun z' z' => rfl
 | .dict0, c, x, hf, h => ff h
 | .isexc a t, c, x, hf, h => ff h
 | .only a, c, x, hf, h => ff h
 | .attr a n, c, x, hf, h => by
  apply onAttr_elim h; clear h; intro o m p h
  apply and2_elim h; clear h; intro h h3
  apply and2_elim h; clear h; intro h1 h2
  cases of_decide_eq_true h1
  exact both (fun {A env lay Sys base st s} F => se_attr F (sndE hc a c _ hf h3).1 h2) fun z' z' => rfl
 | .new f es, c, x, hf, h => by
  apply onCallN_elim h; clear h; intro y p xs q h
  apply and2_elim h; clear h; intro h h3
  apply and2_elim h; clear h; intro h1 h2
  obtain ⟨z, r, rfl⟩ := some1_inv h1
  exact both (fun {A env lay Sys base st s} F => se_new F h2 (sndEs hc es c _ hf h3)) fun z' z' => rfl
 | .comp elt t it, c, x, hf, h => by
  apply onLC_elim h; clear h; intro y gs sc p h
  apply one_elim h; clear h; intro g h
  apply and2_elim h; clear h; intro h0 h
  apply and2_elim h0; clear h0; intro hz h0
  obtain ⟨tg, iter, ifs, ias⟩ := g
  have e0 := of_decide_eq_true h0
  simp only at hz e0 h
  cases ifs with
  | cons => exact ff hz
  | nil =>
  subst e0
  split at h
  ·rename_i xs hx
   have hf' : (inner c xs sc.names).fns = G.tbl.map (·.1) ∧ (inner c xs sc.names).xs = G.xs ∧ (inner c xs sc.names).hots = G.hots := hf
   apply and7_elim h; clear h; intro h1 h2 h3 h4 h0 h5 h6
   try simp only [Bool.not_eq_true'] at h1
   try simp only [Bool.not_eq_true'] at h2
   try simp only [Bool.not_eq_true'] at h3
   try simp only [Bool.not_eq_true'] at h4
   try simp only [Bool.not_eq_true'] at h0
   try simp only [Bool.not_eq_true'] at h5
   try simp only [Bool.not_eq_true'] at h6
   exact both (fun {A env lay Sys base st s} F => se_comp F ((sndI hc it c _ hf h5).1 (ezOk_walk h0)) h4 (ezOk_inv h0) (tableOk_eq h2) h1 h3 (sndE hc elt _ _ hf' h6).1) fun z' z' => rfl
  ·cases h
 | .compIf elt t it cd, c, x, hf, h => by
  apply onLC_elim h; clear h; intro y gs sc p h
  apply one_elim h; clear h; intro g h
  apply and2_elim h; clear h; intro h0 h
  replace h := one_inv h; obtain ⟨z, hz, h⟩ := h
  obtain ⟨tg, iter, ifs, ias⟩ := g
  have e0 := of_decide_eq_true h0
  simp only at hz e0 h
  subst hz e0
  split at h
  ·rename_i xs hx
   have hf' : (inner c xs sc.names).fns = G.tbl.map (·.1) ∧ (inner c xs sc.names).xs = G.xs ∧ (inner c xs sc.names).hots = G.hots := hf
   apply and8_elim h; clear h; intro h1 h2 h3 h4 h0 h5 h6 h7
   try simp only [Bool.not_eq_true'] at h1
   try simp only [Bool.not_eq_true'] at h2
   try simp only [Bool.not_eq_true'] at h3
   try simp only [Bool.not_eq_true'] at h4
   try simp only [Bool.not_eq_true'] at h0
   try simp only [Bool.not_eq_true'] at h5
   try simp only [Bool.not_eq_true'] at h6
   try simp only [Bool.not_eq_true'] at h7
   exact both (fun {A env lay Sys base st s} F => se_compIf F ((sndI hc it c _ hf h5).1 (ezOk_walk h0)) h4 (ezOk_inv h0) (tableOk_eq h2) h1 h3 (sndE hc elt _ _ hf' h7).1 (sndE hc cd _ _ hf' h6).2) fun z' z' => rfl
  ·cases h
theorem sndEs (hc : CallSnd G d) : ∀ (es : Es) (c : Sc) (xs : List Expr), c.fns = G.tbl.map (·.1) ∧ c.xs = G.xs ∧ c.hots = G.hots → chkEs c es xs = true → SEs G d c es xs
 | .nil, c, xs, hf, h => by
  cases xs with
  | nil => exact ses_nil
  | cons => exact ff h
 | .cons e es, c, xs, hf, h => by
  cases xs with
  | nil => exact ff h
  | cons x r =>
   apply and2_elim h; clear h; intro h h3
   apply and2_elim h; clear h; intro h1 h2
   exact ses_cons h1 (sndE hc e c _ hf h2).1 (sndEs hc es c _ hf h3)
theorem sndCh (hc : CallSnd G d) : ∀ (ch : Ch) (c : Sc) (ops : List CmpOp) (xs : List Expr), c.fns = G.tbl.map (·.1) ∧ c.xs = G.xs ∧ c.hots = G.hots → chkCh c ch ops xs = true → SCh G d c ch ops xs
 | .one op e, c, ops, xs, hf, h => by
  apply one_elim h; clear h; intro o h
  apply one_elim h; clear h; intro x h
  apply and2_elim h; clear h; intro h1 h2
  have e1 := of_decide_eq_true h1
  subst e1
  exact sch_one (sndE hc e c _ hf h2).1
 | .more op e ch, c, ops, xs, hf, h => by
  rcases ops with _ | ⟨o, ops⟩
  ·exact ff h
  rcases xs with _ | ⟨x, xs⟩
  ·exact ff h
  apply and2_elim h; clear h; intro h h3
  apply and2_elim h; clear h; intro h h2
  apply and2_elim h; clear h; intro h h1
  apply and2_elim h; clear h; intro ha hb
  have e1 := of_decide_eq_true h1
  subst e1
  obtain ⟨o2, ops, rfl⟩ := some1_inv ha
  obtain ⟨x2, xs, rfl⟩ := some1_inv hb
  exact sch_more (sndE hc e c _ hf h2).1 (sndCh hc ch c _ _ hf h3)
theorem sndI (hc : CallSnd G d) : ∀ (it : It) (c : Sc) (x : Expr), c.fns = G.tbl.map (·.1) ∧ c.xs = G.xs ∧ c.hots = G.hots → chkI c it x = true → (walk it = true → SI G d c it x) ∧ (listable it = true → c.hot = false → SL G d c it x)
 | .seq e, c, x, hf, h => by
  exact ⟨fun z' => si_seq (sndE hc e c _ hf h).1,
   fun q => ff q⟩
 | .rev e, c, x, hf, h => by
  apply onCallN_elim h; clear h; intro y p xs q h
  apply one_elim h; clear h; intro z h
  ·apply and3_elim h; clear h; intro h1 h2 h3
   exact ⟨
    fun z' => si_rev h1 h2 (sndE hc e c _ hf h3).1,
    fun z' z' => sl_rev h1 h2 (sndE hc e c _ hf h3).1⟩
 | .range1 e, c, x, hf, h => by
  apply onCallN_elim h; clear h; intro y p xs q h
  apply one_elim h; clear h; intro z h
  ·apply and3_elim h; clear h; intro h1 h2 h3
   exact ⟨fun z' => si_range1 h1 h2 (sndE hc e c _ hf h3).1,
    fun q => ff q⟩
 | .range2 a b, c, x, hf, h => ff h
 | .range3 a b e, c, x, hf, h => by
  apply onCallN_elim h; clear h; intro y p xs q h
  apply three_elim h; clear h; intro z u v h
  ·apply and7_elim h; clear h; intro h1 h2 h3 h4 h5 h6 h7
   exact ⟨fun z' => si_range3 h1 h2 h3 h4 (sndE hc a c _ hf h5).1 (sndE hc b c _ hf h6).1 (sndE hc e c _ hf h7).1, fun q => ff q⟩
 | .enum e, c, x, hf, h => ff h
 | .keys e, c, x, hf, h => by
  replace h := (Bool.and_eq_true _ _).mp h
  exact ⟨fun z' => si_keys (by simpa using h.2) (sndE hc e c _ hf h.1).1, fun q => ff q⟩
 | .zip a b, c, x, hf, h => by
  apply onCallN_elim h; clear h; intro y p xs q h
  apply two_elim h; clear h; intro z u h
  ·apply and5_elim h; clear h; intro h1 h2 h3 h4 h5
   exact ⟨fun z' => si_zip h1 h2 h3 (sndE hc a c _ hf h4).1 (sndE hc b c _ hf h5).1, fun q => ff q⟩
end
set_option tactic.hygienic false
end
end Mine
end
section
set_option autoImplicit false
namespace Mine
open PySem
structure Gr (H H' : AH) (s : Shared) : Prop where
 stay : ∀ b, H b ≠ none → H' b = H b
 new : ∀ b, H' b ≠ none → H b = none → s.heap.get? b = none
theorem Gr.refl (H : AH) (s : Shared) : Gr H H s := ⟨fun z' z' => rfl, fun z' h e => absurd e h⟩
theorem Gr.trans {Z : Addr → Prop} {H H' H'' : AH} {s s' : Shared} (x : Gr H H' s) (y : Gr H' H'' s') (k : Kp Z s s') : Gr H H'' s where
 stay := fun b h => by
  have := x.stay b h
  rw [y.stay b (by rw [this]; exact h), this]
 new := fun b h e => by
  cases q : H' b with
  | none => exact fresh_keeps k (y.new b h q)
  | some o => exact x.new b (by rw [q]; simp) e
theorem upd_self (H : AH) (a : Nat) (o : AO) : H.upd a o a = some o := by simp [AH.upd]
theorem upd_other (H : AH) {a b : Nat} (o : AO) (h : b ≠ a) : H.upd a o b = H b := by simp [AH.upd, h]
theorem RV.grow {H H' : AH} {Sys Z : Addr → Prop} {s s' : Shared} {v : V} {x : Value} (zs : ∀ b, Z b → Sys b) (r : RV (NN H Sys) s.heap v x) (g : Gr H H' s) (k : HW Z s.heap s'.heap) : RV (NN H' Sys) s'.heap v x :=
 r.gen (fun b q => by
  rcases q with q | q
  ·cases e : H b with
   | none => exact .inr (g.new b q e)
   | some o => exact .inl (.inl (by rw [e]; simp))
  ·exact .inl (.inr q)) fun b o nb e => (k b o e).1 fun q => nb (.inr (zs b q))
theorem Sim.track {hsh : HFn} {T : Heap → Prop} {lay : Nat → Option Place} {Sys Z : Addr → Prop} {base : Heap} {st : St} {s s' : Shared} {a : Addr} {o : AO} (S : Sim hsh T lay Sys Z base st s.heap) (k : HW Z s.heap s'.heap) (hf : s.heap.get? a = none) (ro : RO hsh (NN (st.H.upd a o) Sys) s'.heap a o) :
  Sim hsh T lay Sys Z base { st with H := st.H.upd a o } s'.heap := by
 have hfa : st.H a = none := S.fresh hf
 have g : Gr st.H (st.H.upd a o) s := ⟨fun b h => upd_other _ _ (fun e => h (e ▸ hfa)), fun b h e => by
  by_cases q : b = a
  ·subst q; exact hf
  ·rw [upd_other _ _ q] at h; exact absurd e h⟩
 have hN : ∀ b, NN (st.H.upd a o) Sys b → NN st.H Sys b ∨ s.heap.get? b = none := fun b q => by
  rcases q with q | q
  ·cases e : st.H b with
   | none => exact .inr (g.new b q e)
   | some o => exact .inl (.inl (by rw [e]; simp))
  ·exact .inl (.inr q)
 refine ⟨S.keep.trans k, S.zs, S.top, fun i v p a' b => ?_, fun i p a => (S.ok i p a).kz k, S.inj, fun i p h => ?_, fun b o' e => ?_, fun b h hB => ?_, (S.kz k).live, S.ent, fun b q => (upd_other _ _ fun e : b = a => S.live b q (by rw [e]; exact hf)).trans (S.dis b q)⟩
 ·obtain ⟨val, x, y⟩ := S.vals i v p a' b
  exact ⟨val, x.kz k, y.grow S.zs g k⟩
 ·have hs := S.sys i p h
  refine ⟨hs.1, hs.2.1, ?_⟩
  show st.H.upd a o p.addr = none
  rw [upd_other _ _ (fun e : p.addr = a => S.live _ hs.1 (by rw [e]; exact hf))]; exact hs.2.2
 ·by_cases q : b = a
  ·subst q
   have e : st.H.upd b o b = some o' := e
   rw [upd_self] at e; cases e; exact ro
  ·have e : st.H.upd a o b = some o' := e
   rw [upd_other _ _ q] at e
   exact (S.objs b o' e).gen hN (fun b o nb e => (k b o e).1 fun q => nb (.inr (S.zs b q))) fun o e'' => (k b o e'').1 fun q => by rw [S.dis b (S.zs b q)] at e; cases e
 ·by_cases q : b = a
  ·subst q
   exact S.keep.ext hf
  ·have h : st.H.upd a o b ≠ none := h
   rw [upd_other _ _ q] at h; exact S.own b h hB
theorem Sim.freshB {hsh : HFn} {T : Heap → Prop} {lay : Nat → Option Place} {Sys Z : Addr → Prop} {base : Heap} {st : St} {h : Heap} (S : Sim hsh T lay Sys Z base st h) {a : Addr} (e : h.get? a = none) : st.B a = none := by
 cases q : st.B a with
 | none => rfl
 | some o =>
  obtain ⟨ob, e'⟩ := S.ent a (by rw [q]; simp)
  rw [S.keep.ext e] at e'; cases e'
section
variable {G : PG} {d : Nat} {c : Sc} {A : Around} {env : Env} {lay : Nat → Option Place} {Sys : Addr → Prop} {base : Heap} {st : St} {s : Shared}
noncomputable abbrev SA (G : PG) (d : Nat) (c : Sc) (a : Mine.A) (x : Expr) : Prop :=
 ∀ {A : Around} {env : Env} {lay : Nat → Option Place} {Sys : Addr → Prop} {base : Heap} {st : St} {s : Shared}, Fx G d c A env lay Sys base st s →
  ∀ (Q : V → AH → Prop) (X : String → Prop) (K : Value → Shared → Prop) (E : Value → Shared → Prop), WA (G.cx d) a st Q X →
   (∀ v H' val s', Q v H' → Fx G d c A env lay Sys base { st with H := H' } s' → RV (NN H' Sys) s'.heap v val → Kp (FZ A Sys) s s' → Gr st.H H' s → K val s') → (∀ e s', Rz G.mg A Sys s X e s' → E e s') →
   wpAny (model G.prog G.w) A (eval x env) K E s
noncomputable abbrev SAs (G : PG) (d : Nat) (c : Sc) (as : As) (xs : List Expr) : Prop :=
 xs.all noStar = true ∧ ∀ {A : Around} {env : Env} {lay : Nat → Option Place} {Sys : Addr → Prop} {base : Heap} {st : St} {s : Shared}, Fx G d c A env lay Sys base st s →
  ∀ (pos : Pos) (Q : List V → AH → Prop) (X : String → Prop) (K : List Value → Shared → Prop) (E : Value → Shared → Prop), WAs (G.cx d) as st Q X →
   (∀ vs H' vals s', Q vs H' → Fx G d c A env lay Sys base { st with H := H' } s' → RVs (NN H' Sys) s'.heap vs vals → Kp (FZ A Sys) s s' → Gr st.H H' s → K vals s') → (∀ e s', Rz G.mg A Sys s X e s' → E e s') →
   wpAny (model G.prog G.w) A (spliced (backTo pos (starEach xs env))) K E s
theorem sa_pure {e : E} {x : Expr} (he : SE G d c e x) : SA G d c (.pure e) x := by
 intro A env lay Sys base st s F Q X K E hW hK hX
 simp only [wa_0] at hW
 exact (he F).weak _ X _ E hW (fun v val s' q r k z' => hK v st.H val s' q (F.keeps k) r k (Gr.refl _ _)) hX
set_option tactic.hygienic true in
theorem sa_thaw {e : E} {x : Expr} (he : SE G d c e x) (hf : isFresh e = true) : SA G d c (.thaw e) x := by
 intro A env lay Sys base st s F Q X K E hW hK hX
 simp only [wa_1, wa_2] at hW
 refine he F _ X _ E hW (fun v val s' q r k fr => ?_) hX
 split at q
 ·rename_i vs
  cases r with
  | lst h1 h2 h3 h4 =>
   rename_i a xs n
   obtain ⟨hfa, hv⟩ := fr hf a rfl
   obtain ⟨ys, m, hl, hz, hr⟩ := hv vs rfl
   have S' := F.sim.track (o := .list vs) k.hw hfa (.list hl hz (hr.less fun b q => by
    rcases q with q | q
    ·by_cases e : b = a
     ·exact .inr e
     ·rw [upd_other _ _ e] at q; exact .inl (.inl q)
    ·exact .inl (.inr q)))
   refine hK _ _ _ _ (q a ⟨F.sim.fresh hfa, F.sim.freshB hfa⟩) ⟨⟨F.rm, F.eo, F.us, S', F.own, F.cold⟩, F.fr.kz k.hw, F.hd.imp id fun q => q.kz k.hw⟩ (.ref a) k ⟨fun b h => upd_other _ _ (fun e => h (e ▸ F.sim.fresh hfa)), fun b h e => ?_⟩
   by_cases q : b = a
   ·subst q; exact hfa
   ·rw [upd_other _ _ q] at h; exact absurd e h
 ·exact q.elim
theorem sa_dict {pos : Pos} : SA G d c .dict (.Dict [] [] pos) := by
 intro A env lay Sys base st s F Q X K E hW hK hX
 refine wpAny_Dict_empty ?_
 have hf := fresh_size s.heap
 have hsm : (s.heap.objs.size == sysModules) = false := by
  obtain ⟨o, es, ep, ho, _⟩ := F.top.g
  have := Heap.lt_size ho
  have h3 : 3 < s.heap.objs.size := this
  exact beq_eq_false_iff_ne.mpr (Nat.ne_of_gt (Nat.lt_of_lt_of_le (by decide : 1 < 4) h3))
 have S' := F.sim.track (s' := { s with heap := s.heap.push { cls := .type "dict", data := .dict #[] } }) (o := .dict []) (.of (HK.push _ _)) hf
  (.dict (xs := []) (Heap.get?_push_size _ rfl) rfl List.nodup_nil (Nat.zero_le _) rfl nofun .nil hsm)
 refine hK _ _ _ _ (hW _ ⟨F.sim.fresh hf, F.sim.freshB hf⟩) ⟨⟨F.rm, F.eo, F.us, S', F.own, F.cold⟩, F.fr.kz (.of (Z := Sys) (HK.push _ _)), F.hd.imp id fun q => q.kz (.of (HK.push _ _))⟩ (.ref _) (Kp.ofH (HK.push _ _)) ⟨fun b h => upd_other _ _ (fun e => h (e ▸ F.sim.fresh hf)), fun b h e => ?_⟩
 by_cases q : b = s.heap.objs.size
 ·rw [q]; exact hf
 ·rw [upd_other _ _ q] at h; exact absurd e h
set_option tactic.hygienic true in
theorem sa_new {cn : String} {es : Es} {y : Str} {z : Expr} {xs : List Expr} {p pos : Pos} (hg : isGlob c y cn = true) (h : SEs G d c es (z :: xs)) : SA G d c (.new cn es) (.Call (.Name y p) (z :: xs) [] pos) := by
 intro A env lay Sys base st s F Q X K E hW hK hX
 simp only [wa_4] at hW
 split at hW
 ·rename_i k n fs hlk
  refine ev_new F hg h hlk hW (fun vs x dx ys h₁ s' q k₁ fx fd hne i o r fd₁ kk => ?_) hX
  have hfd := F.sim.fresh fd
  have hu : ∀ b, (st.H.upd dx (.inst k (fs.map (·.1)) (fs.map fun f => iniV vs f.2))) b ≠ none → st.H b = none → s.heap.get? b = none := fun b hb e => by
   by_cases q : b = dx
   ·rw [q]; exact fd
   ·rw [upd_other _ _ q] at hb; exact absurd e hb
  have g : Gr st.H (st.H.upd dx (.inst k (fs.map (·.1)) (fs.map fun f => iniV vs f.2))) s := ⟨fun b h => upd_other _ _ (fun e => h (e ▸ hfd)), hu⟩
  have nx : ¬ NN (st.H.upd dx (.inst k (fs.map (·.1)) (fs.map fun f => iniV vs f.2))) Sys x := fun q => by
   rcases q with q | q
   ·rw [upd_other _ _ hne] at q; exact q (F.sim.fresh fx)
   ·exact F.sim.live x q fx
  have r' : RVs (NN (st.H.upd dx (.inst k (fs.map (·.1)) (fs.map fun f => iniV vs f.2))) Sys) s'.heap (fs.map fun f => iniV vs f.2) ys := r.gen (fun b q => by
   rcases q with q | q
   ·by_cases e : b = dx
    ·exact .inr (e ▸ fd₁)
    ·rw [upd_other _ _ e] at q; exact .inl (.inl q)
   ·exact .inl (.inr q)) fun b o z' e => kk b o e
  have S' := F.sim.track (s := s) (s' := s') (o := .inst k (fs.map (·.1)) (fs.map fun f => iniV vs f.2)) k₁.hw fd (.inst o r')
  exact hK _ _ _ _ (q dx ⟨hfd, F.sim.freshB fd⟩) ⟨⟨F.rm, F.eo, F.us, S', F.own, F.cold⟩, F.fr.kz k₁.hw, F.hd.imp id fun q => q.kz k₁.hw⟩ (.iref nx i) k₁ g
 ·exact hW.elim
theorem sas_nil : SAs G d c .nil [] :=
 ⟨rfl, fun {A env lay Sys base st s} F pos Q X K E hW hK _ => wpAny_items_nil (hK [] st.H [] s (by simpa [was_0, was_1] using hW) F .nil (Kp.refl s) (Gr.refl _ _))⟩
theorem sas_cons {a : Mine.A} {as : As} {x : Expr} {xs : List Expr} (hn : noStar x = true) (ha : SA G d c a x) (has : SAs G d c as xs) : SAs G d c (.cons a as) (x :: xs) := by
 refine ⟨by simp [hn, has.1], fun {A env lay Sys base st s} F pos Q X K E hW hK hX => ?_⟩
 simp only [was_1] at hW
 refine wpAny_items_cons (ha F _ X _ E hW (fun v H' va s₁ h₁ F₁ r₁ k₁ g₁ => ?_) hX) (starEach_cons hn)
 exact has.2 F₁ pos _ X _ E h₁ (fun vs H'' vals s' q F' r k g => hK (v :: vs) H'' (va :: vals) s' q F' (.cons (r₁.grow F.sim.zs g k.hw) r) (k₁.trans k) (g₁.trans g k₁)) fun e s' q => hX e s' (Rz.trans k₁ q)
theorem sa_list {as : As} {xs : List Expr} {pos : Pos} (h : SAs G d c as xs) : SA G d c (.list as) (.List xs pos) := by
 intro A env lay Sys base st s F Q X K E hW hK hX
 simp only [wa_2, wa_4] at hW
 refine wpAny_List (h.2 F pos _ X _ E hW (fun vs H' vals s₁ h₁ F₁ r₁ k₁ g₁ => ?_) hX)
 have hl := r₁.length
 have hf := fresh_size s₁.heap
 refine ⟨by rw [← hl]; exact h₁.1, ?_⟩
 have hu : ∀ b, (H'.upd s₁.heap.objs.size (.list vs)) b ≠ none → H' b = none → s₁.heap.get? b = none := fun b hb e => by
  by_cases q : b = s₁.heap.objs.size
  ·rw [q]; exact hf
  ·rw [upd_other _ _ q] at hb; exact absurd e hb
 have hfa : H' s₁.heap.objs.size = none := F₁.sim.fresh hf
 have r' : RVs (NN H' Sys) s₁.heap vs vals.toArray.toList := by simpa using r₁
 have S' := F₁.sim.track (s := s₁) (s' := { s₁ with heap := s₁.heap.push { cls := .type "list", data := .seq vals.toArray } }) (o := .list vs) (.of (HK.push _ _)) hf
  (.list (IsL.new _ _) (by simpa [← hl] using h₁.1) (r'.gen (fun b q => by
    rcases q with q | q
    ·cases e : H' b with
     | none => exact .inr (hu b q e)
     | some o => exact .inl (.inl (by rw [e]; simp))
    ·exact .inl (.inr q)) (fun b o z' e => HK.push _ _ b o e)))
 have g : Gr H' (H'.upd s₁.heap.objs.size (.list vs)) s₁ := ⟨fun b h => upd_other _ _ (fun e => h (e ▸ hfa)), hu⟩
 exact hK _ _ _ _ (h₁.2 _ hfa (F₁.sim.freshB hf)) ⟨⟨F.rm, F.eo, F.us, S', F.own, F.cold⟩, F₁.fr.kz (.of (Z := Sys) (HK.push _ _)), F₁.hd.imp id fun q => q.kz (.of (HK.push _ _))⟩ (.ref _) (k₁.trans (Kp.ofH (HK.push _ _))) (g₁.trans g k₁)
end
section
variable {G : PG} {d : Nat}
mutual
theorem sndA (hc : CallSnd G d) : ∀ (a : A) (c : Sc) (x : Expr), c.fns = G.tbl.map (·.1) ∧ c.xs = G.xs ∧ c.hots = G.hots → chkA c a x = true → SA G d c a x
 | .pure e, c, x, hf, h => sa_pure (sndE hc e c x hf h).1
 | .thaw e, c, x, hf, h => by
  replace h := (Bool.and_eq_true _ _).mp h
  exact sa_thaw (sndE hc e c x hf h.2).1 h.1
 | .list as, c, x, hf, h => by
  apply onList_elim h; clear h; intro xs p h
  exact sa_list (sndAs hc as c _ hf h)
 | .dict, c, x, hf, h => by
  obtain ⟨p, rfl⟩ := onDict0_inv h
  exact sa_dict
 | .new f es, c, x, hf, h => by
  apply onCallN_elim h; clear h; intro y p xs q h
  apply and2_elim h; clear h; intro h h3
  apply and2_elim h; clear h; intro h1 h2
  obtain ⟨z, r, rfl⟩ := some1_inv h1
  exact sa_new h2 (sndEs hc es c _ hf h3)
 | .callO f es, c, x, hf, h => ff h
theorem sndAs (hc : CallSnd G d) : ∀ (as : As) (c : Sc) (xs : List Expr), c.fns = G.tbl.map (·.1) ∧ c.xs = G.xs ∧ c.hots = G.hots → chkAs c as xs = true → SAs G d c as xs
 | .nil, c, xs, hf, h => by
  cases xs with
  | nil => exact sas_nil
  | cons => exact ff h
 | .cons a as, c, xs, hf, h => by
  cases xs with
  | nil => exact ff h
  | cons x r =>
   apply and2_elim h; clear h; intro h h3
   apply and2_elim h; clear h; intro h1 h2
   exact sas_cons h1 (sndA hc a c _ hf h2) (sndAs hc as c _ hf h3)
end
end
end Mine
end
section
set_option autoImplicit false
namespace Mine
open PySem
structure Ps (q : Bool) (lay : Nat → Option Place) (Z : Addr → Prop) (st : St) (s : Shared) (st' : St) (s' : Shared) : Prop where
 sh : ∃ h' tk, s' = { s with heap := h', toks := tk }
 old : ∀ b o, st.H b = none → (∀ i p, lay i = some p → b ≠ p.addr) → s.heap.get? b = some o → (¬ Z b → s'.heap.get? b = some o) ∧ ∃ sl, s'.heap.get? b = some { o with slots := sl }
 new : ∀ b, st'.H b ≠ none → st.H b = none → s.heap.get? b = none
 stay : ∀ b, st.H b ≠ none → st'.H b ≠ none
 B : st'.B = st.B
 len : st'.ρ.length = st.ρ.length
 ext : ∀ b, s.heap.get? b ≠ none → s'.heap.get? b ≠ none
 qt : q = true → ∀ b o, (∀ i p, lay i = some p → b ≠ p.addr) → s.heap.get? b = some o → ¬ Z b → s'.heap.get? b = some o
section
variable {Z : Addr → Prop}
theorem Ps.weak {q q' : Bool} {lay : Nat → Option Place} {st st' : St} {s s' : Shared} (x : Ps q lay Z st s st' s') (h : q' = true → q = true) : Ps q' lay Z st s st' s' := ⟨x.sh, x.old, x.new, x.stay, x.B, x.len, x.ext, fun e => x.qt (h e)⟩
theorem Ps.refl {q : Bool} {lay : Nat → Option Place} {st : St} {s : Shared} : Ps q lay Z st s st s := ⟨⟨s.heap, s.toks, rfl⟩, fun z' o z' z' e => ⟨fun z' => e, o.slots, e⟩, fun z' h e => absurd e h, fun z' h => h, rfl, rfl, fun z' h => h, fun z' z' z' z' e z' => e⟩
theorem Ps.trans {q : Bool} {lay : Nat → Option Place} {st st₁ st₂ : St} {s s₁ s₂ : Shared} (x : Ps q lay Z st s st₁ s₁) (y : Ps q lay Z st₁ s₁ st₂ s₂) : Ps q lay Z st s st₂ s₂ where
 sh := by
  obtain ⟨h1, t1, rfl⟩ := x.sh
  obtain ⟨h2, t2, rfl⟩ := y.sh
  exact ⟨h2, t2, rfl⟩
 old := fun b o h hp e => by
  have h1 : st₁.H b = none := by
   cases q : st₁.H b with
   | none => rfl
   | some ob => rw [x.new b (by rw [q]; simp) h] at e; cases e
  refine ⟨fun n => (y.old b o h1 hp ((x.old b o h hp e).1 n)).1 n, ?_⟩
  obtain ⟨_, e1⟩ := (x.old b o h hp e).2
  obtain ⟨sl, e2⟩ := (y.old b _ h1 hp e1).2
  exact ⟨sl, e2⟩
 new := fun b h e => by
  cases q : st₁.H b with
  | some o => exact x.new b (by rw [q]; simp) e
  | none =>
   cases q' : s.heap.get? b with
   | none => rfl
   | some o => exact absurd (y.new b h q) (x.ext b (by rw [q']; simp))
 stay := fun b h => y.stay b (x.stay b h)
 B := y.B.trans x.B
 len := y.len.trans x.len
 ext := fun b h => y.ext b (x.ext b h)
 qt := fun e b o hp h n => y.qt e b o hp (x.qt e b o hp h n) n
theorem Ps.ofK {q : Bool} {lay : Nat → Option Place} {st : St} {H' : AH} {s s' : Shared} (k : Kp Z s s') (g : Gr st.H H' s) : Ps q lay Z st s { st with H := H' } s' where
 sh := let ⟨h', tk, e, _⟩ := k; ⟨h', tk, e⟩
 old := fun b o z' z' e => k.hw b o e
 new := g.new
 stay := fun b h => by show H' b ≠ none; rw [g.stay b h]; exact h
 B := rfl
 len := rfl
 ext := fun b h e => h (k.hw.ext e)
 qt := fun z' b o z' e n => (k.hw b o e).1 n
theorem Ps.ofKp {q : Bool} {lay : Nat → Option Place} {st : St} {s s' : Shared} (k : Kp Z s s') : Ps q lay Z st s st s' := Ps.ofK k (Gr.refl _ _)
theorem Ps.ofTc {q : Bool} {hsh : HFn} {T : Heap → Prop} {lay : Nat → Option Place} {Sys Z' : Addr → Prop} {base : Heap} {st : St} {ρ' : List (Option V)} {is : List Nat} {s : Shared} {h' : Heap} {tk : Nat} (S : Sim hsh T lay Sys Z' base { st with ρ := ρ' } h') (t : Tc is lay s.heap h') (hl : ρ'.length = st.ρ.length) :
  Ps q lay Z st s { st with ρ := ρ' } { s with heap := h', toks := tk } where
 sh := ⟨h', tk, rfl⟩
 old := fun b o z' hp e => have e' := t b o (fun i z' p hi => hp i p hi) e; ⟨fun z' => e', o.slots, e'⟩
 new := fun b h e => absurd e h
 stay := fun z' h => h
 B := rfl
 len := hl
 ext := fun b h e => by
  cases q : s.heap.get? b with
  | none => exact h q
  | some o =>
   by_cases hp : ∃ i p, lay i = some p ∧ b = p.addr
   ·obtain ⟨i, p, hi, rfl⟩ := hp
    exact S.live _ (S.sys i p hi).1 e
   ·have := t b o (fun i z' p hi hb => hp ⟨i, p, hi, hb⟩) q
    rw [show ({ s with heap := h', toks := tk } : Shared).heap = h' from rfl, this] at e; cases e
 qt := fun z' b o hp e z' => t b o (fun i z' p hi => hp i p hi) e
end
theorem FrOk.ps {q : Bool} {A : Around} {hsh : HFn} {T : Heap → Prop} {lay : Nat → Option Place} {Sys Z Z' : Addr → Prop} {base : Heap} {st st' : St} {s s' : Shared} (f : FrOk A Sys s.heap) (S : Sim hsh T lay Sys Z base st s.heap) (S' : Sim hsh T lay Sys Z base st' s'.heap) (p : Ps q lay Z' st s st' s') : FrOk A Sys s'.heap := by
 obtain ⟨_, l, e, f⟩ := f
 refine ⟨S'.live, l, e, fun v hv => ?_⟩
 obtain ⟨g1, L, o, g2, g3, g4, g5⟩ := f v hv
 by_cases hp : ∃ i pl, lay i = some pl ∧ L = pl.addr
 ·obtain ⟨i, pl, hi, rfl⟩ := hp
  have hk := S'.ok i pl hi
  cases pl with
  | loc L x => obtain ⟨m, o', es, ep, e', d, _⟩ := hk; exact ⟨g1, L, o', g2, g3, e', fun vs q => by rw [d] at q; cases q⟩
  | cell c => obtain ⟨v', o', e', d⟩ := hk; exact ⟨g1, c, o', g2, g3, e', fun vs q => by rw [d] at q; cases q⟩
 ·obtain ⟨sl, e'⟩ := (p.old L o (S.dis L g3) (fun i pl hi hb => hp ⟨i, pl, hi, hb⟩) g4).2
  exact ⟨g1, L, _, g2, g3, e', g5⟩
theorem HdOk.ps {q : Bool} {A : Around} {hsh : HFn} {T : Heap → Prop} {lay : Nat → Option Place} {Sys Z : Addr → Prop} {base : Heap} {st st' : St} {s s' : Shared} (f : HdOk A Sys s.heap) (S : Sim hsh T lay Sys Z base st s.heap) (p : Ps q lay (FZ A Sys) st s st' s') : HdOk A Sys s'.heap := f
theorem RV.ps {q : Bool} {hsh : HFn} {T : Heap → Prop} {lay : Nat → Option Place} {Sys Z : Addr → Prop} {base : Heap} {st st' : St} {s s' : Shared} {v : V} {x : Value} (r : RV (NN st.H Sys) s.heap v x) (S : Sim hsh T lay Sys Z base st s.heap) (p : Ps q lay Z st s st' s') : RV (NN st'.H Sys) s'.heap v x :=
 r.gen (fun b q => by
  rcases q with q | q
  ·cases e : st.H b with
   | none => exact .inr (p.new b q e)
   | some o => exact .inl (.inl (by rw [e]; simp))
  ·exact .inl (.inr q)) fun b o nb e => (p.old b o (by
   cases q : st.H b with
   | none => rfl
   | some o => exact absurd (.inl (by rw [q]; simp)) nb) (fun i pl hp hb => nb (.inr (hb ▸ (S.sys i pl hp).1))) e).1 fun q => nb (.inr (S.zs b q))
inductive FlR (N : Addr → Prop) (h : Heap) : Fl → Flow → Prop
 | next : FlR N h .next .next
 | brk : FlR N h .brk .brk
 | cont : FlR N h .cont .cont
 | ret {v val} : RV N h v val → FlR N h (.ret v) (.ret val)
inductive RzS (mg : Str → Option Value) (A : Around) (Sys : Addr → Prop) (base : Heap) (s : Shared) (X : String → St → Prop) (e : Value) (s' : Shared) : Prop
theorem RzS.trans {mg : Str → Option Value} {A : Around} {Sys : Addr → Prop} {base : Heap} {s s₁ s' : Shared} {X : String → St → Prop} {e : Value} (r : RzS mg A Sys base s₁ X e s') (k : ∃ h' tk, s₁ = { s with heap := h', toks := tk }) : RzS mg A Sys base s X e s' := by cases r
theorem Rz.toS {G : PG} {d : Nat} {c : Sc} {A : Around} {env : Env} {lay : Nat → Option Place} {Sys : Addr → Prop} {base : Heap} {st st' : St} {s s' : Shared} {X : String → St → Prop} {e : Value} (r : Rz G.mg A Sys s (fun x => X x st') e s') (F : Fx G d c A env lay Sys base st s) : RzS G.mg A Sys base s X e s' := by cases r
theorem RzS.pass {G : PG} {d : Nat} {c : Sc} {A : Around} {env : Env} {lay : Nat → Option Place} {Sys : Addr → Prop} {base : Heap} {st : St} {s s₀ s' : Shared} {X : String → St → Prop} {e : Value} {E : Value → Shared → Prop} (r : RzS G.mg A Sys base s X e s') (F : Fx G d c A env lay Sys base st s₀) (hX : ∀ e s', RzS G.mg A Sys base s X e s' → E e s') :
  notedBy (model G.prog G.w) A env (fun e s' => cameBackBy (model G.prog G.w) A env E e s') e s' := by cases r
section
variable {G : PG} {d : Nat} {c : Sc} {A : Around} {env : Env} {lay : Nat → Option Place} {Sys : Addr → Prop} {base : Heap} {st : St} {s : Shared}
noncomputable abbrev SS (G : PG) (d : Nat) (c : Sc) (m : S) (x : Stmt) : Prop :=
 ∀ {A : Around} {env : Env} {lay : Nat → Option Place} {Sys : Addr → Prop} {base : Heap} {st : St} {s : Shared}, Fx G d c A env lay Sys base st s →
  ∀ (Q : Fl → St → Prop) (X : String → St → Prop) (K : Flow → Shared → Prop) (E : Value → Shared → Prop), WS (G.cx d) m st Q X →
   (∀ f fl st' s', Q f st' → FlR (NN st'.H Sys) s'.heap f fl → Fx0 G d c A env lay Sys base st' s' → Ps (quietS m) lay (FZ A Sys) st s st' s' → K fl s') → (∀ e s', RzS G.mg A Sys base s X e s' → E e s') →
   wpAny (model G.prog G.w) A (exec x env) K E s
noncomputable abbrev SB (G : PG) (d : Nat) (c : Sc) (b : Bl) (xs : List Stmt) : Prop :=
 ∀ {A : Around} {env : Env} {lay : Nat → Option Place} {Sys : Addr → Prop} {base : Heap} {st : St} {s : Shared}, Fx G d c A env lay Sys base st s →
  ∀ (Q : Fl → St → Prop) (X : String → St → Prop) (K : Flow → Shared → Prop) (E : Value → Shared → Prop), WB (G.cx d) b st Q X →
   (∀ f fl st' s', Q f st' → FlR (NN st'.H Sys) s'.heap f fl → Fx0 G d c A env lay Sys base st' s' → Ps (quietB b) lay (FZ A Sys) st s st' s' → K fl s') → (∀ e s', RzS G.mg A Sys base s X e s' → E e s') →
   wpAny (model G.prog G.w) A (execs xs env) K E s
theorem Fx.ps {q : Bool} {st' : St} {s' : Shared} (F : Fx G d c A env lay Sys base st s) (F' : Fx0 G d c A env lay Sys base st' s') (p : Ps q lay (FZ A Sys) st s st' s') : Fx G d c A env lay Sys base st' s' := ⟨F', F.fr.ps F.sim F'.sim p, F.hd.imp id fun q => q.ps F.sim p⟩
theorem sb_nil : SB G d c .nil [] := by
 intro A env lay Sys base st s F Q X K E hW hK hX
 simp only [wb_0] at hW
 exact wpAny_execs_nil (hK _ _ st s hW .next F.toFx0 Ps.refl)
theorem and_l {a b : Bool} (h : (a && b) = true) : a = true := ((Bool.and_eq_true _ _).mp h).1
theorem and_r {a b : Bool} (h : (a && b) = true) : b = true := ((Bool.and_eq_true _ _).mp h).2
theorem sb_cons {m : S} {b : Bl} {x : Stmt} {xs : List Stmt} (hm : SS G d c m x) (hb : SB G d c b xs) : SB G d c (.cons m b) (x :: xs) := by
 intro A env lay Sys base st s F Q X K E hW hK hX
 simp only [wb_1] at hW
 refine wpAny_execs_cons (hm F _ X _ E hW (fun f fl st' s' q r F' p => ?_) hX)
 cases r with
 | next => exact hb (F.ps F' p) Q X K E q (fun f fl st'' s'' q r F'' p' => hK f fl st'' s'' q r F'' ((p.weak and_l).trans (p'.weak and_r))) fun e s' q => hX e s' (q.trans p.sh)
 | brk => exact hK _ _ st' s' q .brk F' (p.weak and_l)
 | cont => exact hK _ _ st' s' q .cont F' (p.weak and_l)
 | ret r => exact hK _ _ st' s' q (.ret r) F' (p.weak and_l)
theorem swaps_none {x : Expr} {t : Option Expr} {l : Nat} (h : isComp x = false) : swapsWith x t l env = pure false := by
 cases x <;> first | rfl | exact nomatch h
theorem ss_expr {e : E} {y : Expr} {pos : Pos} (he : SE G d c e y) (hc : isComp y = false) : SS G d c (.expr e) (.Expr y pos) := by
 intro A env lay Sys base st s F Q X K E hW hK hX
 simp only [ws_0, pk_ret, pk_next] at hW
 refine wpAny_Expr_any ((he F).weak _ _ _ E hW (fun v val s' q r k z' => hK .next .next st s' q .next (F.keeps k).toFx0 (Ps.ofKp k)) fun e s' q => hX e s' (q.toS F)) (by simp [interactive, F.eo.kind]) (swaps_none hc)
theorem ss_ret {e : E} {y : Expr} {pos : Pos} (he : SE G d c e y) : SS G d c (.ret e) (.Return (some y) pos) := by
 intro A env lay Sys base st s F Q X K E hW hK hX
 simp only [ws_12, pk_ret, pk_next] at hW
 exact wpAny_Return_some ((he F).weak _ _ _ E hW (fun v val s' q r k z' => hK (.ret v) (.ret val) st s' q (.ret r) (F.keeps k).toFx0 (Ps.ofKp k)) fun e s' q => hX e s' (q.toS F))
theorem ss_ite {t : E} {a b : Bl} {y : Expr} {bs os : List Stmt} {pos : Pos} (ht : ST G d c t y) (ha : SB G d c a bs) (hb : SB G d c b os) : SS G d c (.ite t a b) (.If y bs os pos) := by
 intro A env lay Sys base st s F Q X K E hW hK hX
 simp only [ws_9, pk_ret, pk_next] at hW
 refine wpAny_If (ht F (fun r => if r then WB (G.cx d) a st Q X else WB (G.cx d) b st Q X) _ _ E (WE_cg hW fun u => ?_) (fun r s₁ q k => ?_) fun e s' q => hX e s' (q.toS F))
 ·cases truthV st.H u with
  | none => rfl
  | some r => cases r <;> rfl
 ·cases r
  ·simp only [Bool.false_eq_true, if_false] at q ⊢
   exact hb (F.keeps k) Q X K E q (fun f fl st' s' q' r' F' p => hK f fl st' s' q' r' F' ((Ps.ofKp k).trans (p.weak and_r))) fun e s' q => hX e s' (q.trans (let ⟨h', tk, e, _⟩ := k; ⟨h', tk, e⟩))
  ·simp only [if_true] at q ⊢
   exact ha (F.keeps k) Q X K E q (fun f fl st' s' q' r' F' p => hK f fl st' s' q' r' F' ((Ps.ofKp k).trans (p.weak and_l))) fun e s' q => hX e s' (q.trans (let ⟨h', tk, e, _⟩ := k; ⟨h', tk, e⟩))
theorem ss_while {t : E} {b : Bl} {y : Expr} {bs : List Stmt} {pos : Pos} (ht : ST G d c t y) (hb : SB G d c b bs) : SS G d c (.while t b) (.While y bs [] pos) := by
 intro A env lay Sys base st s F Q X K E hW hK hX
 simp only [ws_10, ws_12, pk_ret, pk_next] at hW
 obtain ⟨n, hn⟩ := hW
 refine wpAny_While (codeAny_whileLoop (fun n s' => ∃ st', whileN (fun st' K => WE (G.cx d) t st' (fun u => match truthV st'.H u with
   | some r => K r
   | none => False) (fun x => X x st')) (fun st' K => WB (G.cx d) b st' K X) Q n st' ∧ Fx G d c A env lay Sys base st' s' ∧ Ps false lay (FZ A Sys) st s st' s') ?_ n ⟨st, hn, F, Ps.refl⟩)
 rintro n s' ⟨st', hw, F', p⟩
 cases n with
 | zero => exact hw.elim
 | succ n =>
  simp only [wn_zero, wn_succ] at hw
  refine ht F' _ _ _ _ hw (fun r s₁ q k => ?_) fun e s'' q => RzS.pass ((q.toS F').trans p.sh) F hX
  cases r
  ·simp only [Bool.false_eq_true, if_false] at q ⊢
   exact wpAny_execs_nil (hK .next .next st' s₁ q .next (F'.keeps k).toFx0 (p.trans (Ps.ofKp k)))
  ·simp only [if_true] at q ⊢
   refine hb (F'.keeps k) _ X _ _ q (fun f fl st'' s'' q' r' F'' p' => ?_) fun e s'' q => RzS.pass (q.trans (p.trans (Ps.ofKp k)).sh) F hX
   have pp := (p.trans (Ps.ofKp k)).trans (p'.weak nofun)
   cases r' with
   | next => exact ⟨n, Nat.lt_succ_self n, st'', q', (F'.keeps k).ps F'' p', pp⟩
   | cont => exact ⟨n, Nat.lt_succ_self n, st'', q', (F'.keeps k).ps F'' p', pp⟩
   | brk => exact hK .next .next st'' s'' q' .next F'' pp
   | ret r => exact hK (.ret _) (.ret _) st'' s'' q' (.ret r) F'' pp
theorem ss_raise {k : String} {e : E} {x : Stmt} : SS G d c (.raise k e) x := by
 intro A env lay Sys base st s F Q X K E hW hK hX
 simp only [ws_14, pk_ret, pk_next] at hW
theorem asg_plain {tg y : Expr} {pos : Pos} {K : Flow → Shared → Prop} {E : Value → Shared → Prop} (hs : swapsWithSole [tg] y pos.line env = pure false) (hw : swappedStores [tg] y env = pure none) (hst : noStar tg = true)
  (h : wpAny (model G.prog G.w) A (eval y env) (fun v s₁ => wpAny (model G.prog G.w) A (assign tg env v) (fun z' s₂ => K .next s₂) E s₁) E s) : wpAny (model G.prog G.w) A (exec (.Assign [tg] y pos) env) K E s := by
 refine wpAny_Assign_stores (wpAny_mono h (fun v s₁ h₁ => ?_) fun z' z' x => x) hs hw
 have e : (assignEach [tg] env).map (·.2) = [assign tg env] := by cases tg <;> first | rfl | exact ff hst
 rw [e]
 exact h₁
end
end Mine
end
section
set_option autoImplicit false
namespace Mine
open PySem
theorem Sim.gen {hsh : HFn} {T : Heap → Prop} {lay : Nat → Option Place} {Sys Z New : Addr → Prop} {base : Heap} {st : St} {H' : AH} {h h' : Heap} (S : Sim hsh T lay Sys Z base st h) (k : HW Z h h') (hn : ∀ b, New b → h.get? b = none) (hn' : ∀ b, New b → h'.get? b ≠ none) (hnh : ∀ b, New b → H' b = none)
  (hstay : ∀ b, st.H b ≠ none → H' b = st.H b) (hnew : ∀ b, H' b ≠ none → st.H b = none → h.get? b = none) (hro : ∀ b o, H' b = some o → st.H b = none → RO hsh (NN H' (fun a => Sys a ∨ New a)) h' b o) :
  Sim hsh T lay (fun a => Sys a ∨ New a) Z base { st with H := H' } h' := by
 have hN : ∀ b, NN H' (fun a => Sys a ∨ New a) b → NN st.H Sys b ∨ h.get? b = none := fun b q => by
  rcases q with q | q | q
  ·cases e : st.H b with
   | none => exact .inr (hnew b q e)
   | some o => exact .inl (.inl (by rw [e]; simp))
  ·exact .inl (.inr q)
  ·exact .inr (hn b q)
 have hd : ∀ a, Sys a → H' a = none := fun a q => by
  cases e : H' a with
  | none => rfl
  | some o => exact absurd (hnew a (by rw [e]; simp) (S.dis a q)) (S.live a q)
 refine ⟨S.keep.trans k, fun b q => .inl (S.zs b q), (S.enter k hn hn').top, fun i v p a b => ?_, fun i p a => (S.ok i p a).kz k, S.inj, fun i p a => ?_, fun a o e => ?_, fun a h1 h2 => ?_, fun a q e => ?_, S.ent, fun a q => q.elim (hd a) (hnh a)⟩
 ·obtain ⟨val, x, y⟩ := S.vals i v p a b
  exact ⟨val, x.kz k, y.gen hN fun b o nb e => (k b o e).1 fun q => nb (.inr (S.zs b q))⟩
 ·have hs := S.sys i p a
  exact ⟨.inl hs.1, hs.2.1, hd _ hs.1⟩
 ·cases e' : st.H a with
  | none => exact hro a o e e'
  | some o' =>
   have : H' a = some o := e
   rw [hstay a (by rw [e']; simp)] at this
   exact (S.objs a o this).gen hN (fun b o nb e => (k b o e).1 fun q => nb (.inr (S.zs b q))) fun o e => (k a o e).1 fun q => by rw [S.dis a (S.zs a q)] at e'; cases e'
 ·cases e : st.H a with
  | some o => exact S.own a (by rw [e]; simp) h2
  | none =>
   exact S.keep.ext (hnew a h1 e)
 ·rcases q with q | q
  ·exact S.live a q (k.ext e)
  ·exact hn' a q e
theorem Sim.leave {hsh : HFn} {T : Heap → Prop} {lay : Nat → Option Place} {Sys Z New : Addr → Prop} {base : Heap} {st : St} {h h' : Heap} (S : Sim hsh T lay (fun a => Sys a ∨ New a) Z base st h) (hz : ∀ b, Z b → Sys b) (hk : ∀ b o, ¬ New b → h.get? b = some o → h'.get? b = some o)
  (hlay : ∀ i p, lay i = some p → Sys p.addr) (hSN : ∀ a, Sys a → ¬ New a) (hH : ∀ b, st.H b ≠ none → ¬ New b) (hbase : ∀ b, New b → base.get? b = none) : Sim hsh T lay Sys Z base st h' := by
 have hN : ∀ b, NN st.H Sys b → NN st.H (fun a => Sys a ∨ New a) b ∨ h.get? b = none := fun b q => .inl (q.elim .inl fun q => .inr (.inl q))
 have hk' : ∀ b o, ¬ NN st.H (fun a => Sys a ∨ New a) b → h.get? b = some o → h'.get? b = some o := fun b o nb e => hk b o (fun q => nb (.inr (.inr q))) e
 have hpl : ∀ i p, lay i = some p → ∀ o, h.get? p.addr = some o → h'.get? p.addr = some o := fun i p hp o e => hk _ o (hSN _ (hlay i p hp)) e
 refine ⟨fun b o e => have nb : ¬ New b := fun q => by rw [hbase b q] at e; cases e
  ⟨fun n => hk b o nb ((S.keep b o e).1 n), let ⟨sl, e'⟩ := (S.keep b o e).2; ⟨sl, hk b _ nb e'⟩⟩, hz, let ⟨b0, t, k0, n⟩ := S.top; ⟨b0, t, k0, fun a q => n a (q.imp .inl id)⟩, fun i v p a b => ?_, fun i p a => ?_, S.inj, fun i p a => ⟨hlay i p a, (S.sys i p a).2⟩, fun a o e => ?_, S.own, fun a q e => ?_, S.ent, fun a q => S.dis a (.inl q)⟩
 ·obtain ⟨val, x, y⟩ := S.vals i v p a b
  refine ⟨val, ?_, y.gen hN hk'⟩
  have hp := hpl i p b
  cases p with
  | loc L z =>
   obtain ⟨m, ⟨o, es, ep, ho, r⟩, e⟩ := x
   exact ⟨m, ⟨o, es, ep, hp o ho, r⟩, e⟩
  | cell cc =>
   obtain ⟨o, ho, r⟩ := x
   exact ⟨o, hp o ho, r⟩
 ·have hp := hpl i p a
  have x := S.ok i p a
  cases p with
  | loc L z =>
   obtain ⟨m, o, es, ep, ho, r⟩ := x
   exact ⟨m, o, es, ep, hp o ho, r⟩
  | cell cc =>
   obtain ⟨v, o, ho, r⟩ := x
   exact ⟨v, o, hp o ho, r⟩
 ·refine (S.objs a o e).gen hN hk' fun o' e' => hk a o' (hH a (by rw [e]; simp)) e'
 ·cases q' : h.get? a with
  | none => exact S.live a (.inl q) q'
  | some o => rw [hk a o (hSN a q) q'] at e; cases e
theorem Sim.write {hsh : HFn} {T : Heap → Prop} {lay : Nat → Option Place} {Sys Z : Addr → Prop} {base : Heap} {st : St} {h h' : Heap} {ad : Addr} {o o' : AO} (S : Sim hsh T lay Sys Z base st h) (ho : st.H ad = some o) (hB : st.B ad = none)
  (hk : ∀ b ob, b ≠ ad → h.get? b = some ob → h'.get? b = some ob) (ro : RO hsh (NN (st.H.upd ad o') Sys) h' ad o') : Sim hsh T lay Sys Z base { st with H := st.H.upd ad o' } h' := by
 have hb : base.get? ad = none := S.own ad (by rw [ho]; simp) hB
 have hN : ∀ b, NN (st.H.upd ad o') Sys b → NN st.H Sys b ∨ h.get? b = none := fun b q => by
  rcases q with q | q
  ·by_cases e : b = ad
   ·subst e; exact .inl (.inl (by rw [ho]; simp))
   ·rw [upd_other _ _ e] at q; exact .inl (.inl q)
  ·exact .inl (.inr q)
 have hk' : ∀ b ob, ¬ NN st.H Sys b → h.get? b = some ob → h'.get? b = some ob := fun b ob nb e => hk b ob (fun q => nb (.inl (by rw [q, ho]; simp))) e
 have hpl : ∀ i p, lay i = some p → p.addr ≠ ad := fun i p hp e => by have := (S.sys i p hp).2.2; rw [e, ho] at this; cases this
 have hda : ¬ Sys ad := fun q => by rw [S.dis ad q] at ho; cases ho
 refine ⟨S.keep.ext1 hb hk, S.zs, S.top, fun i v p a b => ?_, fun i p a => ?_, S.inj, fun i p a => ?_, fun a ob e => ?_, fun a h1 h2 => ?_, fun a q e => ?_, S.ent, fun a q => (upd_other _ _ fun e : a = ad => hda (e ▸ q)).trans (S.dis a q)⟩
 ·obtain ⟨val, x, y⟩ := S.vals i v p a b
  refine ⟨val, ?_, y.gen hN hk'⟩
  have hp := hpl i p b
  cases p with
  | loc L z =>
   obtain ⟨m, ⟨o, es, ep, ho, r⟩, e⟩ := x
   exact ⟨m, ⟨o, es, ep, hk _ o hp ho, r⟩, e⟩
  | cell cc =>
   obtain ⟨o, ho, r⟩ := x
   exact ⟨o, hk _ o hp ho, r⟩
 ·have hp := hpl i p a
  have x := S.ok i p a
  cases p with
  | loc L z =>
   obtain ⟨m, o, es, ep, ho, r⟩ := x
   exact ⟨m, o, es, ep, hk _ o hp ho, r⟩
  | cell cc =>
   obtain ⟨v, o, ho, r⟩ := x
   exact ⟨v, o, hk _ o hp ho, r⟩
 ·have hs := S.sys i p a
  refine ⟨hs.1, hs.2.1, ?_⟩
  show st.H.upd ad o' p.addr = none
  rw [upd_other _ _ (hpl i p a)]; exact hs.2.2
 ·by_cases q : a = ad
  ·subst q
   have e : st.H.upd a o' a = some ob := e
   rw [upd_self] at e; cases e; exact ro
  ·have e : st.H.upd ad o' a = some ob := e
   rw [upd_other _ _ q] at e
   exact (S.objs a ob e).gen hN hk' fun o1 e1 => hk a o1 q e1
 ·by_cases q : a = ad
  ·subst q; exact hb
  ·have h1 : st.H.upd ad o' a ≠ none := h1
   rw [upd_other _ _ q] at h1; exact S.own a h1 h2
 ·by_cases q' : a = ad
  ·subst q'
   obtain ⟨ob, e'⟩ := ro.exists
   rw [e'] at e; cases e
  ·cases q2 : h.get? a with
   | none => exact S.live a q q2
   | some ob => rw [hk a ob q' q2] at e; cases e
theorem Ps.write {Z : Addr → Prop} {lay : Nat → Option Place} {st : St} {s : Shared} {h' : Heap} {tk : Nat} {ad : Addr} {o o' : AO} (ho : st.H ad = some o) (hk : ∀ b ob, b ≠ ad → s.heap.get? b = some ob → h'.get? b = some ob) (hx : h'.get? ad ≠ none) :
  Ps false lay Z st s { st with H := st.H.upd ad o' } { s with heap := h', toks := tk } where
 sh := ⟨h', tk, rfl⟩
 old := fun b ob hb z' e => have e' := hk b ob (fun q => by rw [q, ho] at hb; cases hb) e; ⟨fun z' => e', ob.slots, e'⟩
 new := fun b h e => by
  by_cases q : b = ad
  ·rw [q, ho] at e; cases e
  ·have h : st.H.upd ad o' b ≠ none := h
   rw [upd_other _ _ q] at h; exact absurd e h
 stay := fun b h => by
  show st.H.upd ad o' b ≠ none
  by_cases q : b = ad
  ·rw [q, upd_self]; simp
  ·rw [upd_other _ _ q]; exact h
 B := rfl
 len := rfl
 ext := fun b h e => by
  by_cases q : b = ad
  ·subst q; exact hx e
  ·cases q2 : s.heap.get? b with
   | none => exact h q2
   | some ob =>
    have := hk b ob q q2
    rw [show ({ s with heap := h', toks := tk } : Shared).heap = h' from rfl, this] at e; cases e
 qt := nofun
theorem RVs.upd {H : AH} {Sys : Addr → Prop} {h h' : Heap} {ad : Addr} {o o' : AO} {vs : List V} {xs : List Value} (r : RVs (NN H Sys) h vs xs) (ho : H ad = some o) (hk : ∀ b ob, b ≠ ad → h.get? b = some ob → h'.get? b = some ob) : RVs (NN (H.upd ad o') Sys) h' vs xs :=
 r.gen (fun b q => by
  rcases q with q | q
  ·by_cases e : b = ad
   ·subst e; exact .inl (.inl (by rw [ho]; simp))
   ·rw [upd_other _ _ e] at q; exact .inl (.inl q)
  ·exact .inl (.inr q)) fun b ob nb e => hk b ob (fun q => nb (.inl (by rw [q, ho]; simp))) e
theorem RV.upd {H : AH} {Sys : Addr → Prop} {h h' : Heap} {ad : Addr} {o o' : AO} {v : V} {x : Value} (r : RV (NN H Sys) h v x) (ho : H ad = some o) (hk : ∀ b ob, b ≠ ad → h.get? b = some ob → h'.get? b = some ob) : RV (NN (H.upd ad o') Sys) h' v x :=
 r.gen (fun b q => by
  rcases q with q | q
  ·by_cases e : b = ad
   ·subst e; exact .inl (.inl (by rw [ho]; simp))
   ·rw [upd_other _ _ e] at q; exact .inl (.inl q)
  ·exact .inl (.inr q)) fun b ob nb e => hk b ob (fun q => nb (.inl (by rw [q, ho]; simp))) e
end Mine
end
section
set_option autoImplicit false
namespace Mine
open PySem
section
variable {G : PG} {d : Nat} {c : Sc} {A : Around} {env : Env} {lay : Nat → Option Place} {Sys : Addr → Prop} {base : Heap} {st : St} {s : Shared}
theorem chkN_star {i : Nat} {tg : Expr} (h : chkN c i tg = true) : noStar tg = true := chkN_elim (P := fun tg => noStar tg = true) h fun z' z' z' => rfl
theorem chkN_swap {i : Nat} {tg y : Expr} (h : chkN c i tg = true) : swappedStores [tg] y env = pure none := chkN_elim (P := fun tg => swappedStores [tg] y env = pure none) h fun z' z' z' => rfl
theorem ss_own {i : Nat} {a : Mine.A} {tg y : Expr} {pos : Pos} {Q : Fl → St → Prop} {X : String → St → Prop} {K : Flow → Shared → Prop} {E : Value → Shared → Prop} (F : Fx G d c A env lay Sys base st s) (ha : SA G d c a y) (ht : chkN c i tg = true) (hs : swapsWithSole [tg] y pos.line env = pure false)
  (hW : WS (G.cx d) (.own i a) st Q X) (hK : ∀ f fl st' s', Q f st' → FlR (NN st'.H Sys) s'.heap f fl → Fx0 G d c A env lay Sys base st' s' → Ps true lay (FZ A Sys) st s st' s' → K fl s') (hX : ∀ e s', RzS G.mg A Sys base s X e s' → E e s') : wpAny (model G.prog G.w) A (exec (.Assign [tg] y pos) env) K E s := by
 simp only [ws_2, pk_ret, pk_next] at hW
 refine asg_plain hs (chkN_swap ht) (chkN_star ht) (ha F _ _ _ E hW (fun v H' val s₁ q F₁ r k g => ?_) fun e s' q => hX e s' (q.toS F))
 replace q := putV_inv (P := fun ρ' => Q .next { st with ρ := ρ', H := H' }) q
 refine st_one F₁.eo F₁.sim ht q.1 r fun h' tk S' tc => ?_
 exact hK .next .next _ _ q.2 .next ⟨F.rm, F.eo, F.us, S', F.own, F.cold⟩ ((Ps.ofK k g).trans (Ps.ofTc (st := { st with H := H' }) S' tc (by simp)))
theorem own_swap {f : V → (Option V → Prop) → Prop} {t : Tg} {tg tg' iter elt : Expr} {ifs : List Expr} {sc : Scope} {pos pos' : Pos} {xs : List Str} {it : It} {i : Nat} {QQ : List V → Prop} {X' : String → Prop} {Q : Fl → St → Prop} {K : Flow → Shared → Prop} {E : Value → Shared → Prop}
  (F : Fx G d c A env lay Sys base st s) (hi : SI G d c it iter) (hset : isSetX iter = false) (hez : isEZ it = true → isTupX tg' = true) (ht : TableOk c xs sc) (hti : tgIs c.used t xs = true) (htg : chkTg (inner c xs sc.names) t tg' = true)
  (hstep : CStep G d c A st base xs sc t ifs elt f) (htn : chkN c i tg = true) (hsw : swapsWithSole [tg] (.ListComp elt [⟨tg', iter, ifs, 0⟩] sc pos') pos.line env = pure true) (hW : WI (G.cx d) it st (fun xs z' => xs.length ≤ sizeLine ∧ compL f xs QQ) X')
  (hmk : ∀ ys D, QQ ys → freshAt st D → ∃ v H', i < st.ρ.length ∧ Q .next { st with ρ := st.ρ.set i (some v), H := H' } ∧ ((v = .lst ys ∧ H' = st.H) ∨ (v = .ref D ∧ H' = st.H.upd D (.list ys))))
  (hK : ∀ f fl st' s', Q f st' → FlR (NN st'.H Sys) s'.heap f fl → Fx0 G d c A env lay Sys base st' s' → Ps true lay (FZ A Sys) st s st' s' → K fl s') (hX : ∀ e s', Rz G.mg A Sys s X' e s' → E e s') :
  wpAny (model G.prog G.w) A (exec (.Assign [tg] (.ListComp elt [⟨tg', iter, ifs, 0⟩] sc pos') pos) env) K E s := by
 have etg : (assignEach [tg] env).map (·.2) = [assign tg env] := chkN_elim (P := fun tg => (assignEach [tg] env).map (·.2) = [assign tg env]) htn fun z' z' z' => rfl
 rw [exec_Assign_arm]
 refine wpAny_bind (wpAny_standAt ?_)
 rw [hsw]
 refine wpAny_bind (wpAny_pure ?_)
 rw [if_pos rfl, etg]
 obtain ⟨cl, e1, e2⟩ := closure_ok (free_cells F.eo ht)
 refine wpAny_bind ?_
 show wpAny _ A (do let _ ← comprehension (.ListComp elt [⟨tg', iter, ifs, 0⟩] sc pos') sc env _ (newList []) false (eval iter env) (some fun v => assignAll v [assign tg env])) _ _ s
 refine wpAny_bind (wpAny_mono (wpAny_comprehension_free (use := some fun v => assignAll v [assign tg env]) (Q := fun z' s' => K .next s') rfl (folded_plain hset env) e1 ht.kind (fun x hx hl => by rw [← hl]; exact nodup_lookup ht.nodup hx) ?_) (fun z' s' hq => wpAny_pure (wpAny_pure hq)) fun z' z' e => e)
 refine hi F _ X' _ E hW (fun vs ds I s₂ hq k io => ?_) hX
 refine comp_block (RR := fun acc C => compPost (model G.prog G.w) A E (some fun v => assignAll v [assign tg env]) (fun z' s' => K .next s') acc C) F k io hez hq.1 ht hti htg e2 hstep hq.2 ?_
 intro D C h' tk m' ys zs nn hQ hD hC hDC hm hl hz hr hk
 obtain ⟨h2, t2, rfl, k2⟩ := k
 show wpAny _ A (assign tg env (.ref D)) _ _ _
 have hbC : base.get? C = none := F.sim.keep.ext hC
 have hbD : base.get? D = none := F.sim.keep.ext hD
 obtain ⟨v, H', hil, hq2, hcase⟩ := hmk ys D hQ ⟨F.sim.fresh hD, F.sim.freshB hD⟩
 have hHC : H' C = none := by
  rcases hcase with ⟨_, rfl⟩ | ⟨_, rfl⟩
  ·exact F.sim.fresh hC
  ·rw [upd_other _ _ (Ne.symm hDC)]; exact F.sim.fresh hC
 have hHD : st.H D = none := F.sim.fresh hD
 have hCex : h'.get? C ≠ none := by
  obtain ⟨o, es, ep, ho, _⟩ := hm
  rw [ho]; simp
 have hgr : Gr st.H H' s := by
  rcases hcase with ⟨_, rfl⟩ | ⟨_, rfl⟩
  ·exact Gr.refl _ _
  ·refine ⟨fun b h => upd_other _ _ (fun e => h (e ▸ hHD)), fun b h e => ?_⟩
   by_cases q : b = D
   ·rw [q]; exact hD
   ·rw [upd_other _ _ q] at h; exact absurd e h
 have S1 : Sim G.hf (TT G) lay (fun a => Sys a ∨ a = C) (FZ A Sys) base { st with H := H' } h' := by
  refine F.sim.gen (New := fun a => a = C) hk (fun b q => by rw [q]; exact hC) (fun b q => by rw [q]; exact hCex) (fun b q => by rw [q]; exact hHC) hgr.stay hgr.new fun b o e e' => ?_
  rcases hcase with ⟨_, rfl⟩ | ⟨_, rfl⟩
  ·rw [e'] at e; cases e
  ·by_cases q : b = D
   ·subst q
    rw [upd_self] at e; cases e
    refine .list hl hz (hr.less fun b' q => ?_)
    rcases q with q | q | q
    ·by_cases e : b' = b
     ·exact .inr (.inr (.inr e))
     ·rw [upd_other _ _ e] at q; exact .inl q
    ·exact .inr (.inl q)
    ·exact .inr (.inr (.inl q))
   ·rw [upd_other _ _ q, e'] at e; cases e
 have hrv : RV (NN H' (fun a => Sys a ∨ a = C)) h' v (.ref D) := by
  rcases hcase with ⟨rfl, rfl⟩ | ⟨rfl, rfl⟩
  ·refine .lst (fun q => ?_) hl hz (hr.less fun b' q => ?_)
   ·rcases q with q | q | q
    ·exact q hHD
    ·exact F.sim.live _ q hD
    ·exact hDC q
   ·rcases q with q | q | q
    ·exact .inl q
    ·exact .inr (.inl q)
    ·exact .inr (.inr (.inl q))
  ·exact .ref D
 refine st_one (st := { st with H := H' }) (s := { s with heap := h', toks := tk }) F.eo S1 htn hil hrv fun h3 tk3 S3 tc => ?_
 have hplC : ∀ i p, lay i = some p → C ≠ p.addr := fun i p hp e => F.sim.live _ (F.sim.sys i p hp).1 (e ▸ hC)
 refine ⟨m', hm.at' fun o e => tc C o (fun i z' p hp => hplC i p hp) e, fun h4 hs => ?_⟩
 have S4 : Sim G.hf (TT G) lay Sys (FZ A Sys) base { st with H := H', ρ := st.ρ.set i (some v) } h4 :=
  Sim.leave (New := fun a => a = C) S3 (fun z' q => q.2) (fun b o nb e => hs.extBut b o nb e) (fun i p hp => (F.sim.sys i p hp).1) (fun a q e => F.sim.live _ q (e ▸ hC)) (fun b h e => h (e ▸ hHC)) fun b q => by rw [q]; exact hbC
 refine hK .next .next _ _ hq2 .next ⟨F.rm, F.eo, F.us, S4, F.own, F.cold⟩ ⟨⟨h4, tk3, rfl⟩, fun b o hb hp e => ?_, fun b h e => hgr.new b h e, fun b h => ?_, rfl, by simp, fun b h e => ?_, fun z' b o hp e n => hs.extBut b o (fun q => by rw [q, hC] at e; cases e) (tc b o (fun i z' p hi => hp i p hi) ((hk b o e).1 n))⟩
 ·have nb : b ≠ C := fun q => by rw [q, hC] at e; cases e
  refine ⟨fun n => hs.extBut b o nb (tc b o (fun i z' p hi => hp i p hi) ((hk b o e).1 n)), ?_⟩
  obtain ⟨sl, e'⟩ := (hk b o e).2
  exact ⟨sl, hs.extBut b _ nb (tc b _ (fun i z' p hi => hp i p hi) e')⟩
 ·show H' b ≠ none; rw [hgr.stay b h]; exact h
 ·cases q : s.heap.get? b with
  | none => exact h q
  | some o =>
   have hbC' : b ≠ C := fun q' => by rw [q', hC] at q; cases q
   have e4 : h4.get? b = none := e
   rw [hs.2 b hbC'] at e4
   by_cases hp : ∃ i p, lay i = some p ∧ b = p.addr
   ·obtain ⟨i, p, hi, rfl⟩ := hp
    exact S3.live _ (.inl (F.sim.sys i p hi).1) e4
   ·obtain ⟨sl, q'⟩ := (hk b o q).2
    have := tc b _ (fun i z' p hi hb => hp ⟨i, p, hi, hb⟩) q'
    rw [this] at e4; cases e4
end
end Mine
end
section
set_option autoImplicit false
namespace Mine
open PySem
section
variable {G : PG} {d : Nat} {c : Sc} {A : Around} {env : Env} {lay : Nat → Option Place} {Sys : Addr → Prop} {base : Heap} {st : St} {s : Shared}
theorem sole_none {tg y : Expr} {l : Nat} (h : isComp y = false) : swapsWithSole [tg] y l env = pure false := swaps_none h
theorem sole_case {i : Nat} {tg elt : Expr} {gens : List Comprehension} {sc : Scope} {p : Pos} {l : Nat} (h : chkN c i tg = true) : swapsWithSole [tg] (.ListComp elt gens sc p) l env = pure false ∨ swapsWithSole [tg] (.ListComp elt gens sc p) l env = pure true := by
 apply chkN_elim h; intro x pos _
 have e : swapsWithSole [.Name x pos] (.ListComp elt gens sc p) l env = pure (env.blockKind == .function && env.kindOf x == some .local && pos.line == (Expr.ListComp elt gens sc p).pos.line
   && !(sc.names.any fun (n, k) => n == x && (k == .local || k == .cell))) := rfl
 rw [e]
 cases (env.blockKind == .function && env.kindOf x == some .local && pos.line == (Expr.ListComp elt gens sc p).pos.line && !(sc.names.any fun (n, k) => n == x && (k == .local || k == .cell)))
 ·exact .inl rfl
 ·exact .inr rfl
set_option tactic.hygienic true in
theorem snd_own (hc : CallSnd G d) {i : Nat} {a : Mine.A} {tg y : Expr} {pos : Pos} (hf : c.fns = G.tbl.map (·.1) ∧ c.xs = G.xs ∧ c.hots = G.hots) (ht : chkN c i tg = true) (ha : chkA c a y = true) (hn : okOwn a = true) : SS G d c (.own i a) (.Assign [tg] y pos) := by
 intro A env lay Sys base st s F Q X K E hW hK hX
 by_cases hcp : isComp y = true
 ·-- a comprehension
  have key : ∀ e, chkE c e y = true → (a = .pure e ∨ (a = .thaw e)) → wpAny (model G.prog G.w) A (exec (.Assign [tg] y pos) env) K E s := by
   intro e he hae
   cases e with
   | comp elt t it =>
    replace he := onLC_inv he; obtain ⟨y0, gs, sc, p', rfl, he⟩ := he
    replace he := one_inv he; obtain ⟨g, rfl, he⟩ := he
    apply and2_elim he; clear he; intro h0 he
    apply and2_elim h0; clear h0; intro hz h0
    obtain ⟨tg', iter, ifs, ias⟩ := g
    have e0 := of_decide_eq_true h0
    simp only at hz e0 he
    cases ifs with
    | cons => exact ff hz
    | nil =>
    subst e0
    ·split at he
     ·rename_i xs hx
      apply and7_elim he; clear he; intro h1 h2 h3 h4 h00 h5 h6
      try simp only [Bool.not_eq_true'] at h1
      try simp only [Bool.not_eq_true'] at h2
      try simp only [Bool.not_eq_true'] at h3
      try simp only [Bool.not_eq_true'] at h4
      try simp only [Bool.not_eq_true'] at h00
      try simp only [Bool.not_eq_true'] at h5
      try simp only [Bool.not_eq_true'] at h6
      have hf' : (inner c xs sc.names).fns = G.tbl.map (·.1) ∧ (inner c xs sc.names).xs = G.xs ∧ (inner c xs sc.names).hots = G.hots := hf
      rcases sole_case (env := env) (elt := y0) (gens := [⟨tg', iter, [], 0⟩]) (sc := sc) (p := p') (l := pos.line) ht with hs | hs
      ·exact ss_own F (sndA hc a c _ hf ha) ht hs hW hK hX
      ·have hstep : CStep G d c A st base xs sc t [] y0 _ := cstep_plain (sndE hc elt _ _ hf' h6).1
       simp only [ws_2, pk_ret, pk_next] at hW
       rcases hae with rfl | rfl
       ·simp only [wa_0, wa_1, wa_2, we_12] at hW
        refine own_swap (QQ := fun ys => match putV i (.lst ys) st.ρ with
         | some ρ' => Q .next { st with ρ := ρ' }
         | none => False) F ((sndI hc it c _ hf h5).1 (ezOk_walk h00)) h4 (ezOk_inv h00) (tableOk_eq h2) h1 h3 hstep ht hs hW (fun ys D q z' => let q := putV_inv (P := fun ρ' => Q .next { st with ρ := ρ' }) q; ⟨_, _, q.1, q.2, .inl ⟨rfl, rfl⟩⟩) hK fun e s' q => hX e s' (q.toS F)
       ·simp only [wa_0, wa_1, wa_2, we_12] at hW
        refine own_swap (QQ := fun ys => ∀ a, freshAt st a → match putV i (.ref a) st.ρ with
         | some ρ' => Q .next { st with ρ := ρ', H := st.H.upd a (.list ys) }
         | none => False) F ((sndI hc it c _ hf h5).1 (ezOk_walk h00)) h4 (ezOk_inv h00) (tableOk_eq h2) h1 h3 hstep ht hs hW (fun ys D q fr => let q := putV_inv (P := fun ρ' => Q .next { st with ρ := ρ', H := st.H.upd D (.list ys) }) (q D fr); ⟨_, _, q.1, q.2, .inr ⟨rfl, rfl⟩⟩) hK fun e s' q => hX e s' (q.toS F)
     ·cases he
   | compIf elt t it cd =>
    replace he := onLC_inv he; obtain ⟨y0, gs, sc, p', rfl, he⟩ := he
    replace he := one_inv he; obtain ⟨g, rfl, he⟩ := he
    apply and2_elim he; clear he; intro h0 he
    replace he := one_inv he; obtain ⟨z, hz, he⟩ := he
    obtain ⟨tg', iter, ifs, ias⟩ := g
    have e0 := of_decide_eq_true h0
    simp only at hz e0 he
    subst hz e0
    ·split at he
     ·rename_i xs hx
      apply and8_elim he; clear he; intro h1 h2 h3 h4 h00 h5 h6 h7
      try simp only [Bool.not_eq_true'] at h1
      try simp only [Bool.not_eq_true'] at h2
      try simp only [Bool.not_eq_true'] at h3
      try simp only [Bool.not_eq_true'] at h4
      try simp only [Bool.not_eq_true'] at h00
      try simp only [Bool.not_eq_true'] at h5
      try simp only [Bool.not_eq_true'] at h6
      try simp only [Bool.not_eq_true'] at h7
      have hf' : (inner c xs sc.names).fns = G.tbl.map (·.1) ∧ (inner c xs sc.names).xs = G.xs ∧ (inner c xs sc.names).hots = G.hots := hf
      rcases sole_case (env := env) (elt := y0) (gens := [⟨tg', iter, [z], 0⟩]) (sc := sc) (p := p') (l := pos.line) ht with hs | hs
      ·exact ss_own F (sndA hc a c _ hf ha) ht hs hW hK hX
      ·have hstep : CStep G d c A st base xs sc t [z] y0 _ := cstep_if (sndE hc elt _ _ hf' h7).1 (sndE hc cd _ _ hf' h6).2
       simp only [ws_2, pk_ret, pk_next] at hW
       rcases hae with rfl | rfl
       ·simp only [wa_0, wa_1, wa_2, we_12] at hW
        refine own_swap (QQ := fun ys => match putV i (.lst ys) st.ρ with
         | some ρ' => Q .next { st with ρ := ρ' }
         | none => False) F ((sndI hc it c _ hf h5).1 (ezOk_walk h00)) h4 (ezOk_inv h00) (tableOk_eq h2) h1 h3 hstep ht hs hW (fun ys D q z' => let q := putV_inv (P := fun ρ' => Q .next { st with ρ := ρ' }) q; ⟨_, _, q.1, q.2, .inl ⟨rfl, rfl⟩⟩) hK fun e s' q => hX e s' (q.toS F)
       ·simp only [wa_0, wa_1, wa_2, we_12] at hW
        refine own_swap (QQ := fun ys => ∀ a, freshAt st a → match putV i (.ref a) st.ρ with
         | some ρ' => Q .next { st with ρ := ρ', H := st.H.upd a (.list ys) }
         | none => False) F ((sndI hc it c _ hf h5).1 (ezOk_walk h00)) h4 (ezOk_inv h00) (tableOk_eq h2) h1 h3 hstep ht hs hW (fun ys D q fr => let q := putV_inv (P := fun ρ' => Q .next { st with ρ := ρ', H := st.H.upd D (.list ys) }) (q D fr); ⟨_, _, q.1, q.2, .inr ⟨rfl, rfl⟩⟩) hK fun e s' q => hX e s' (q.toS F)
     ·cases he
   | _ => exact ff (comp_only he hcp)
  cases a with
  | pure e => exact key e ha (.inl rfl)
  | thaw e => exact key e ((Bool.and_eq_true _ _).mp ha).2 (.inr rfl)
  | list as => obtain ⟨xs, p, rfl, _⟩ := onList_inv ha; exact ff hcp
  | callO f es => exact ff ha
  | dict => obtain ⟨p, rfl⟩ := onDict0_inv ha; exact ff hcp
  | new f es => obtain ⟨y', p', xs', q', rfl, _⟩ := onCallN_inv ha; exact ff hcp
 ·exact ss_own F (sndA hc a c _ hf ha) ht (sole_none (by simpa using hcp)) hW hK hX
end
end Mine
end
section
set_option autoImplicit false
namespace Mine
open PySem
theorem fm2 {α β : Type} {g : α → Option β} {a b : α} {x y : β} (h1 : g a = some x ∨ g a = none) (h2 : g b = some y ∨ g b = none) (hl : ([a, b].filterMap g).length = 2) : [a, b].filterMap g = [x, y] := by
 rw [List.filterMap_cons, List.filterMap_cons] at hl ⊢
 rcases h1 with h1 | h1 <;> rcases h2 with h2 | h2 <;> rw [h1, h2] at hl ⊢ <;> cases hl
 rfl
theorem ite_or {α : Type} {x y : α} {c : Prop} [Decidable c] : (if c then x else y) = x ∨ (if c then x else y) = y := if h : c then .inl (if_pos h) else .inr (if_neg h)
theorem sw5 {α : Type} (x y u : α) (a b c d e : Bool) (h : (!e || d) = true) : (if a = true then x else if b = true then x else if c = true then x else if d = true then x else if e = true then u else y) = x ∨ c = false ∧ (if a = true then x else if b = true then x else if c = true then x else if d = true then x else if e = true then u else y) = y := by
 cases a
 ·cases b
  ·cases c
   ·cases d
    ·cases e
     ·exact .inr ⟨rfl, rfl⟩
     ·exact ff h
    ·exact .inl rfl
   ·exact .inl rfl
  ·exact .inl rfl
 ·exact .inl rfl
section
variable {G : PG} {d : Nat} {c : Sc} {A : Around} {env : Env} {lay : Nat → Option Place} {Sys : Addr → Prop} {base : Heap} {st : St} {s : Shared}
theorem chkTg_star {t : Tg} {tg : Expr} (h : chkTg c t tg = true) : noStar tg = true := by
 cases t with
 | var i => exact chkN_star h
 | tup is =>
  apply onTup_elim h; clear h; intro xs k p h
  rfl
theorem last_at {vs : List V} {W : V → Prop} {P : Prop} (h : match vs.getLast? with
  | some w => W w
  | none => False) (k : ∀ w, vs.getLast? = some w → W w → P) : P := by
 cases e : vs.getLast? with
 | none => rw [e] at h; exact False.elim h
 | some w => rw [e] at h; exact k w e h
theorem bound_at {o : Option (List (Option V))} {W : List (Option V) → Prop} {P : Prop} (h : match o with
  | some ρ' => W ρ'
  | none => False) (k : ∀ ρ', o = some ρ' → W ρ' → P) : P := by
 cases o with
 | none => exact False.elim h
 | some ρ' => exact k ρ' rfl h
theorem swapped_case {x x' : Str} {q q' : Pos} {k : Nat} {p : Pos} {y : Expr} (hy : tupOk y = true) : swappedStores [.Tuple [.Name x q, .Name x' q'] k p] y env = pure none ∨ swappedStores [.Tuple [.Name x q, .Name x' q'] k p] y env = pure (some [x, x']) := by
 cases y with
 | Tuple vs k' p' =>
  refine (sw5 (α := Sem (Option (List Str))) (pure none) (pure (some _)) _ _ _ _ _ _ hy).imp id fun h => h.2.trans (congrArg (fun n => pure (some n)) (fm2 ite_or ite_or ?_))
  have h3 := h.1
  simp only [Bool.or_eq_false_iff, bne_eq_false_iff_eq] at h3
  exact h3.1
 | _ => exact .inl rfl
theorem ss_tup {is : List Nat} {e : E} {ts : List Expr} {k : Nat} {p pos : Pos} {y : Expr} (he : SE G d c e y) (hn : chkNs c is ts = true) (hcold : c.hot = false) (hy : tupOk y = true) : SS G d c (.assign (.tup is) e) (.Assign [.Tuple ts k p] y pos) := by
 have htg : chkTg c (.tup is) (.Tuple ts k p) = true := (Bool.and_eq_true _ _).mpr ⟨hn, by rw [hcold]; rfl⟩
 revert htg
 apply chkNs_elim hn; intro i j x x' q q' n1 n2 hij htg
 intro A env lay Sys base st s F Q X K E hW hK hX
 have hsole : swapsWithSole [.Tuple [.Name x q, .Name x' q'] k p] y pos.line env = pure false := by cases y <;> rfl
 rcases swapped_case (env := env) (k := k) (p := p) (x := x) (x' := x') (q := q) (q' := q') hy with hw | hw
 ·refine asg_plain hsole hw rfl ((he F).weak _ _ _ E hW (fun v val s₁ q r k₁ z' => ?_) fun e s' q => hX e s' (q.toS F))
  apply bound_at q; clear q; intro ρ' hb q
  ·refine st_tg F.cold F.eo (F.keeps k₁).sim htg hb r fun h' tk S' tc => ?_
   exact hK .next .next _ _ q .next ⟨F.rm, F.eo, F.us, S', F.own, F.cold⟩ ((Ps.ofKp k₁).trans (Ps.ofTc S' tc (bindT_len hb)))
 ·refine PyProof.Rows.Assign_Tuple_swapped ((he F).weak _ _ _ E hW (fun v val s₁ q r k₁ z' => ?_) fun e s' q => hX e s' (q.toS F)) hsole hw
  apply bound_at q; clear q; intro ρ' hb q
  cases v with
  | tup vs =>
   revert r
   apply set_two hb; intro v w hi hj e r
   apply RV.elim r; clear r; intro ad ys n h1 h2 h3 h4
   rw [show [x, x'].length = ys.size from h4.size]
   refine wpAny_unpackItems_tuple (F.cold hcold) (IsT.isTuple h2) fun h' hext => ?_
   have hk : HK s₁.heap h' := fun b o e => hext b o (Nat.ne_of_lt (Heap.lt_size e)) e
   have kk : Kp (FZ A Sys) s₁ { s₁ with heap := h' } := Kp.ofH hk
   have F₂ := (F.keeps k₁).keeps kk
   revert h4; generalize ys.toList = zs; intro h4
   apply RVs.elim (h4.keeps hk); intro a as r1 r2
   apply RVs.elim r2; intro b bs r2 r3
   apply RVs.elim r3
   refine st_two (s := { s₁ with heap := h' }) wpAny_bindName wpAny_bindName F.eo F₂.sim n2 n1 hj hi r2 r1 fun h'' tk S' tc => ?_
   rw [List.set_comm _ _ (Ne.symm hij), e] at S'
   exact hK .next .next _ _ q .next ⟨F.rm, F.eo, F.us, S', F.own, F.cold⟩ (((Ps.ofKp k₁).trans (Ps.ofKp kk)).trans (Ps.ofTc S' tc (bindT_len hb)))
  | _ => exact no_some hb
theorem ref_val {N : Addr → Prop} {h : Heap} {v : V} {x : Value} {W : Nat → Prop} {P : Value → Prop} (hW : match v with
  | .ref a => W a
  | _ => False) (r : RV N h v x) (k : ∀ a, W a → P (.ref a)) : P x := by
 cases r with
 | ref a => exact k a hW
 | _ => exact False.elim hW
theorem list_at {o : Option AO} {W : List V → Prop} {P : Prop} (h : match o with
  | some (.list vs) => W vs
  | _ => False) (k : ∀ vs, o = some (.list vs) → W vs → P) : P := by
 rcases o with _ | o
 ·exact False.elim h
 ·cases o with
  | list vs => exact k vs rfl h
  | _ => exact False.elim h
theorem put_lst {ad : Nat} {xs : Array Value} {n : Nat} {vs vs' : List V} {f : Array Value → Array Value} {tk : Nat} (F : Fx0 G d c A env lay Sys base st s) (hH : st.H ad = some (.list vs)) (hB : st.B ad = none) (c1 : IsL s.heap ad xs n) (hz : (f xs).size ≤ sizeLine) (r : RVs (NN st.H Sys) s.heap vs' (f xs).toList) :
  Fx0 G d c A env lay Sys base { st with H := st.H.upd ad (.list vs') } { s with heap := s.heap.update ad (Obj.mapSeq f), toks := tk } ∧ Ps false lay (FZ A Sys) st s { st with H := st.H.upd ad (.list vs') } { s with heap := s.heap.update ad (Obj.mapSeq f), toks := tk } := by
 have hk : ∀ b ob, b ≠ ad → s.heap.get? b = some ob → (s.heap.update ad (Obj.mapSeq f)).get? b = some ob := fun b ob nb e => (Heap.get?_update_other _ _ (Ne.symm nb)).trans e
 have hl' := c1.update f
 exact ⟨⟨F.rm, F.eo, F.us, F.sim.write hH hB hk (.list hl' hz (r.upd hH hk)), F.own, F.cold⟩, Ps.write hH hk (by rw [hl']; exact nofun)⟩
theorem ss_append {e : E} {a : Mine.A} {o z : Expr} {ap cp pos : Pos} (he : SE G d c e o) (ha : SA G d c a z) (hb : baseX o = true) (hz : noStar z = true) (hl : (ap.endLine == cp.line) = true) :
  SS G d c (.append e a) (.Expr (.Call (.Attribute o (Str.ofString "append") ap) [z] [] cp) pos) := by
 intro A env lay Sys base st s F Q X K E hW hK hX
 refine wpAny_Expr_any ?_ (by simp [interactive, F.eo.kind]) rfl
 have hbase : attributeBase o (Str.ofString "append") env (eval o env) = eval o env := by cases o <;> first | rfl | exact ff hb
 refine wpAny_Call_method (T := "list") (id := "list.append") hbase (by rw [starEach_cons hz]; rfl) hl PySem.F.plainAttrs_list PySem.F.slot_list_append PySem.F.type_list_append ?_
 refine (he F).weak _ _ _ E hW (fun v va s₁ h₁ r₁ k₁ fr => ?_) fun e s' q => hX e s' (q.toS F)
 clear fr
 have F₁ := F.keeps k₁
 apply ref_val h₁ r₁; clear h₁ r₁; intro ad h₁
 apply list_at h₁; clear h₁; intro vs0 hH h₁
 cases F₁.sim.objs _ _ hH with
 | list b1 b2 b3 =>
  refine ⟨b1.isList.typeIs, by rintro a ⟨⟩; exact ⟨_, b1, rfl⟩, ?_⟩
  rw [starEach_cons hz]
  refine P.append_list (ha F₁ _ _ _ E h₁ (fun w H' val s₂ q F₂ r k g => ?_) fun e s' q => hX e s' ((Rz.trans k₁ q).toS F))
  apply list_at q; clear q; intro vs hH' q
  cases F₂.sim.objs _ _ hH' with
  | @list xs n _ c1 c2 c3 =>
   have hp := put_lst (f := fun xs => xs.push val) (tk := s₂.toks) F₂.toFx0 hH' q.1 c1 (by rw [Array.size_push, ← c3.size]; exact q.2.1) (by rw [Array.toList_push]; exact c3.append (.cons r .nil))
   exact ⟨xs, n, c2, c1, hK .next .next _ _ q.2.2 .next hp.1 (((Ps.ofKp k₁).trans (Ps.ofK k g)).trans hp.2)⟩
theorem RVs.split {N : Addr → Prop} {h : Heap} {vs : List V} : ∀ {xs : List Value} {w : V}, RVs N h vs xs → vs.getLast? = some w → ∃ ys x, xs = ys ++ [x] ∧ RVs N h vs.dropLast ys ∧ RV N h w x := by
 induction vs with
 | nil => intro xs w r e; cases e
 | cons v vs ih =>
  intro xs w r e
  cases r with
  | cons r1 r2 =>
   cases vs with
   | nil => cases r2; cases e; exact ⟨[], _, rfl, .nil, r1⟩
   | cons u vs =>
    rw [List.getLast?_cons_cons] at e
    obtain ⟨ys, x, rfl, h1, h2⟩ := ih r2 e
    exact ⟨_ :: ys, x, rfl, .cons r1 h1, h2⟩
theorem erase_last {zs : List Value} {x : Value} : (zs ++ [x]).toArray.eraseIdxIfInBounds ((zs ++ [x]).toArray.size - 1) = zs.toArray := by
 apply Array.ext'
 have hlt : (zs ++ [x]).toArray.size - 1 < (zs ++ [x]).toArray.size := by simp
 rw [Array.eraseIdxIfInBounds, dif_pos hlt, Array.toList_eraseIdx]
 simp [List.eraseIdx_append_of_length_le]
theorem ss_pop {t : Tg} {e : E} {y : Str} {p ap cp pos : Pos} {tg : Expr} (he : SE G d c e (.Name y p)) (ht : chkTg c t tg = true) (hl : (ap.endLine == cp.line) = true) :
  SS G d c (.pop t e) (.Assign [tg] (.Call (.Attribute (.Name y p) (Str.ofString "pop") ap) [] [] cp) pos) := by
 intro A env lay Sys base st s F Q X K E hW hK hX
 have hsw : swappedStores [tg] (.Call (.Attribute (.Name y p) (Str.ofString "pop") ap) [] [] cp) env = pure none := by cases tg <;> rfl
 refine asg_plain rfl hsw (chkTg_star ht) ?_
 refine wpAny_Call_method (T := "list") (id := "list.pop") rfl rfl hl PySem.F.plainAttrs_list PySem.F.slot_list_pop PySem.F.type_list_pop ?_
 refine (he F).weak _ _ _ E hW (fun v va s₁ h₁ r₁ k₁ fr => ?_) fun e s' q => hX e s' (q.toS F)
 clear fr
 have F₁ := F.keeps k₁
 apply ref_val h₁ r₁; clear h₁ r₁; intro ad h₁
 apply list_at h₁; clear h₁; intro vs hH h₁
 apply last_at h₁; clear h₁; intro w hw h₁
 cases F₁.sim.objs _ _ hH with
 | @list xs n _ b1 b2 b3 =>
  refine ⟨b1.isList.typeIs, by rintro a ⟨⟩; exact ⟨_, b1, rfl⟩, ?_⟩
  obtain ⟨zs, x, hxs, r1, r2⟩ := b3.split hw
  have hx' : xs = (zs ++ [x]).toArray := by rw [← hxs]
  subst hx'
  refine P.pop_list b1 (y := x) (by simp) ?_ b2
  have hp := put_lst (f := fun xs' => xs'.eraseIdxIfInBounds ((zs ++ [x]).toArray.size - 1)) (tk := s₁.toks) F₁.toFx0 hH h₁.1 b1 (by rw [erase_last]; simp at b2 ⊢; omega) (vs' := vs.dropLast) (by rw [erase_last]; exact r1)
  apply bound_at h₁.2; intro ρ' hb h₂
  refine st_tg F.cold F.eo hp.1.sim ht hb (r2.ps F₁.sim hp.2) fun h' tk S'' tc => ?_
  exact hK .next .next _ _ h₂ .next ⟨F.rm, F.eo, F.us, S'', F.own, F.cold⟩ (((Ps.ofKp k₁).trans hp.2).trans (Ps.ofTc S'' tc (bindT_len hb)))
theorem set_row {l : Addr} {items : Array Value} {n : Nat} {k : Int} {t : Tok} {v : Value} {Q : Unit → Shared → Prop} (hl : IsL s.heap l items n) (h0 : 0 ≤ k) (hn : k < items.size) (hz : items.size ≤ sizeLine)
  (h : Q () { s with heap := s.heap.update l (Obj.mapSeq (·.setIfInBounds k.toNat v)) }) {E : Value → Shared → Prop} : wpAny (model G.prog G.w) A (setItem (.ref l) (.int k t) v) Q E s := by
 have hz' : items.size ≤ 16777216 := hz
 have hil := hl.isList
 unfold setItem
 refine wpAny_holding ?_
 refine wpAny_bind (wpAny_sequenceKey hil.typeIs (by decide) ?_)
 refine wpAny_bind (wpAny_callSpecial?_slot (name := Str.ofString "__setitem__") hil.typeIs slot_list_setitem (wpAny_call_entry slot_list_setitem hil.typeIs entry_list_setitem ?_ (args_list_setitem _ _ _)))
 show wpAny _ _ (Builtin.List.listSubscript? (.int k t) >>= _) _ _ s
 refine wpAny_bind (wpAny_listSubscript_int (fitsIndex_of h0 (by omega)) ?_)
 obtain ⟨j, rfl⟩ := Int.eq_ofNat_of_zero_le h0
 have hj : j < items.size := by omega
 show wpAny _ _ ((seqItemAt l j >>= fun r => pure (r.map (j, ·))) >>= _) _ _ s
 refine wpAny_bind (wpAny_bind (wpAny_seqItemAt hl rfl (wpAny_pure ?_)))
 rw [Array.getElem?_eq_getElem hj]
 show wpAny _ _ (setSeqItemAt l j v >>= _) _ _ s
 refine wpAny_bind (wpAny_setSeqItemAt hl rfl ?_)
 exact wpAny_pure ⟨.none, rfl, wpAny_pure h⟩
theorem RVs.set {N : Addr → Prop} {h : Heap} {w : V} {x : Value} (r : RV N h w x) : ∀ {vs : List V} {xs : List Value} (n : Nat), RVs N h vs xs → RVs N h (vs.set n w) (xs.set n x)
 | _, _, _, .nil => .nil
 | _, _, 0, .cons _ b => .cons r b
 | _, _, n + 1, .cons a b => .cons a (b.set r n)
theorem ss_setitem {e k v : E} {o i y : Expr} {p pos : Pos} (he : SE G d c e o) (hk : SE G d c k i) (hv : SE G d c v y) (hcp : isComp y = false) : SS G d c (.setitem e k v) (.Assign [.Subscript o i p] y pos) := by
 intro A env lay Sys base st s F Q X K E hW hK hX
 refine asg_plain (sole_none hcp) rfl rfl ?_
 refine (hv F).weak _ _ _ E hW (fun w val s₁ q₁ r₁ k₁ z' => ?_) fun e s' q => hX e s' (q.toS F)
 have F₁ := F.keeps k₁
 rw [assign_Subscript]
 refine wpAny_bind (wpAny_holding ((he F₁).weak _ _ _ E q₁ (fun u ov s₂ q₂ r₂ k₂ z' => ?_) fun e s' q => hX e s' ((Rz.trans k₁ q).toS F)))
 have F₂ := F₁.keeps k₂
 refine wpAny_bind (wpAny_holding ((hk F₂).weak _ _ _ E q₂ (fun kk iv s₃ q₃ r₃ k₃ z' => ?_) fun e s' q => hX e s' ((Rz.trans (k₁.trans k₂) q).toS F)))
 have F₃ := F₂.keeps k₃
 refine wpAny_bind (wpAny_standAt ?_)
 apply ref_val q₃ r₂; clear q₃ r₂; intro ad q₃
 apply int_val q₃ r₃; clear q₃ r₃; intro n t q₃
 obtain ⟨hB, h0, vs, hH, hlt, hQ⟩ := q₃
 cases F₃.sim.objs _ _ hH with
 | @list xs nn _ c1 c2 c3 =>
  refine wpAny_bind (wpAny_holding (set_row c1 h0 (by rw [← c3.size]; exact hlt) c2 (wpAny_release ?_)))
  have hp := put_lst (f := (·.setIfInBounds n.toNat val)) (tk := s₃.toks) F₃.toFx0 hH hB c1 (by rw [Array.size_setIfInBounds]; exact c2) (vs' := vs.set n.toNat w) (by rw [Array.toList_setIfInBounds]; exact c3.set (r₁.kz (k₂.trans k₃).hw) _)
  exact hK .next .next _ _ hQ .next hp.1 ((Ps.ofKp (k₁.trans (k₂.trans k₃))).trans hp.2)
end
end Mine
end
section
set_option autoImplicit false
namespace Mine
open PySem
theorem dput_len (ks : List At) (v : V) : ∀ kvs : List (List At × V), (dput ks v kvs).length ≤ kvs.length + 1
 | [] => Nat.le_refl _
 | (k, w) :: r => by
  have := dput_len ks v r
  by_cases h : k = ks <;> simp [dput, h] <;> omega
theorem put_at {N : Addr → Prop} {h : Heap} {ks : List At} {v : V} {val : Value} {ka : Addr} (rk : RV N h (keyV ks) (.ref ka)) (rv : RV N h v val) : ∀ {kvs : List (List At × V)} {xs : List (List At × Addr × Value)}, RVs N h (kvs.map (·.2)) (xs.map (·.2.2)) → kvs.map (·.1) = xs.map (·.1) → (xs.map (·.1)).Nodup →
  RVs N h ((dput ks v kvs).map (·.2)) ((storedH xs ks ka val).map (·.2.2)) ∧ (dput ks v kvs).map (·.1) = (storedH xs ks ka val).map (·.1)
 | [], [], _, _, _ => ⟨.cons rv .nil, rfl⟩
 | [], _ :: _, _, e, _ => by cases e
 | _ :: _, [], _, e, _ => by cases e
 | (k, w) :: kvs, (k', b, x) :: xs, r, e, hn => by
  simp only [List.map_cons, List.cons.injEq] at e
  obtain ⟨rfl, e⟩ := e
  rw [List.map_cons, List.nodup_cons] at hn
  cases r with
  | cons r1 r2 =>
   by_cases hk : k = ks
   ·subst hk
    have e1 : dput k v ((k, w) :: kvs) = (k, v) :: kvs := by simp [dput]
    have e2 : storedH ((k, b, x) :: xs) k ka val = (k, b, val) :: xs := by
     have : xs.map (putAt k val) = xs := map_putAt_of_not_mem xs k val hn.1
     simp [storedH, atKey, putAt, this]
    rw [e1, e2]
    exact ⟨.cons rv r2, by simp [e]⟩
   ·obtain ⟨i1, i2⟩ := put_at rk rv r2 e hn.2
    have e1 : dput ks v ((k, w) :: kvs) = (k, w) :: dput ks v kvs := by simp [dput, hk]
    have e2 : storedH ((k, b, x) :: xs) ks ka val = (k, b, x) :: storedH xs ks ka val := by
     have : atKey ((k, b, x) :: xs) ks = atKey xs ks := by simp [atKey, hk]
     unfold storedH
     rw [this]
     split
     ·simp [putAt, hk]
     ·rfl
    rw [e1, e2]
    exact ⟨.cons r1 i1, by simp [i2]⟩
theorem stored_mem {ks : List At} {ka : Addr} {val : Value} {xs : List (List At × Addr × Value)} {y : List At × Addr × Value} (h : y ∈ storedH xs ks ka val) : (y.1 = ks ∧ y.2.1 = ka) ∨ ∃ x ∈ xs, x.1 = y.1 ∧ x.2.1 = y.2.1 := by
 unfold storedH at h
 split at h
 ·obtain ⟨x, hx, rfl⟩ := List.mem_map.mp h
  refine .inr ⟨x, hx, ?_⟩
  unfold putAt
  split <;> exact ⟨rfl, rfl⟩
 ·rcases List.mem_append.mp h with h | h
  ·exact .inr ⟨y, h, rfl, rfl⟩
  ·rw [List.mem_singleton.mp h]; exact .inl ⟨rfl, rfl⟩
section
variable {G : PG} {d : Nat} {c : Sc}
set_option tactic.hygienic true in
theorem ss_setkey {e k v : E} {o i y : Expr} {p pos : Pos} (he : SE G d c e o) (hk : SE G d c k i) (hv : SE G d c v y) (hcp : isComp y = false) : SS G d c (.setkey e k v) (.Assign [.Subscript o i p] y pos) := by
 intro A env lay Sys base st s F Q X K E hW hK hX
 refine asg_plain (sole_none hcp) rfl rfl ?_
 refine (hv F).weak _ _ _ E hW (fun w val s₁ q₁ r₁ k₁ z' => ?_) fun e s' q => hX e s' (q.toS F)
 have F₁ := F.keeps k₁
 rw [assign_Subscript]
 refine wpAny_bind (wpAny_holding ((he F₁).weak _ _ _ E q₁ (fun u ov s₂ q₂ r₂ k₂ z' => ?_) fun e s' q => hX e s' ((Rz.trans k₁ q).toS F)))
 have F₂ := F₁.keeps k₂
 refine wpAny_bind (wpAny_holding ((hk F₂).weak _ _ _ E q₂ (fun kk iv s₃ q₃ r₃ k₃ z' => ?_) fun e s' q => hX e s' ((Rz.trans (k₁.trans k₂) q).toS F)))
 have F₃ := F₂.keeps k₃
 obtain ⟨ad, kvs, e', hH, q₄⟩ := dictP_inv q₃
 subst e'
 obtain ⟨ks, hks, hB, hlt, hQ⟩ := keyP_inv q₄
 subst hks
 refine wpAny_bind (wpAny_standAt ?_)
 cases r₂
 obtain ⟨ka, rfl, hka⟩ := key_at (prog := G.prog) (w := G.w) r₃
 cases F₃.sim.objs ad _ hH with
 | dict a1 a2 a3 a4 a5 a6 a7 a8 =>
  rename_i es ep xs
  obtain ⟨xs', D⟩ : ∃ xs', DAt G.prog G.w (NN st.H Sys) s₃.heap ad kvs xs' ∧ xs' = xs := by
   refine ⟨xs, ⟨⟨_, es, ep, a1, ⟨rfl, rfl, rfl⟩, rfl, a2, fun x hx => ?_, a3⟩, a7, a5, a8, a4⟩, rfl⟩
   obtain ⟨kb, e, hk⟩ := key_at (prog := G.prog) (w := G.w) (a6 x hx)
   cases e; exact hk
  obtain ⟨D, rfl⟩ := D
  refine wpAny_bind (wpAny_holding (wpAny_setItem_heap (knd := tupleKind (mixKind G.prog G.w)) (dRoom F₃.rm) hka D.of (fun h' hd' hs' => wpAny_release ?_) a4))
  have hkk : ∀ b ob, b ≠ ad → s₃.heap.get? b = some ob → h'.get? b = some ob := fun b ob nb e => (hs'.2 b nb).trans e
  have r₃' : RV (NN (AH.upd st.H ad (.dict (dput ks w kvs))) Sys) h' (keyV ks) (.ref ka) := r₃.upd hH hkk
  have r₁' : RV (NN (AH.upd st.H ad (.dict (dput ks w kvs))) Sys) h' w val := (r₁.kz (k₂.trans k₃).hw).upd hH hkk
  obtain ⟨p1, p2⟩ := put_at r₃' r₁' (a7.upd hH hkk) a5 a3
  obtain ⟨o', es', ep', g1, g2, g3, g4, g5, g6⟩ := hd'
  have hro : RO G.hf (NN (AH.upd st.H ad (.dict (dput ks w kvs))) Sys) h' ad (.dict (dput ks w kvs)) := by
   refine .dict (es := es') (ep := ep') (xs := storedH xs' ks ka val) ?_ g4 g6 ?_ p2 (fun y hy => ?_) p1 a8
   ·obtain ⟨oc, od, odt, osl⟩ := o'
    obtain ⟨e1, e2, e3⟩ := g2
    cases e1; cases e2; cases e3
    have g3 : odt = .dict es' ep' := g3
    rw [← g3]; exact g1
   ·have := congrArg List.length p2
    simp only [List.length_map] at this
    rw [← this]
    exact Nat.le_trans (dput_len ks w kvs) hlt
   ·rcases stored_mem hy with ⟨e1, e2⟩ | ⟨x, hx, e1, e2⟩
    ·rw [e1, e2]; exact r₃'
    ·rw [← e1, ← e2]; exact (a6 x hx).upd hH hkk
  have S' := F₃.sim.write hH hB hkk hro
  exact hK .next .next _ _ hQ .next ⟨F.rm, F.eo, F.us, S', F.own, F.cold⟩ ((Ps.ofKp (k₁.trans (k₂.trans k₃))).trans (Ps.write hH hkk (by rw [g1]; exact nofun)))
end
end Mine
end
section
set_option autoImplicit false
namespace Mine
open PySem PyProof.Rows
section
variable {G : PG} {d : Nat} {c : Sc}
set_option tactic.hygienic true in
theorem ss_setattr {e v : E} {n : String} {o y : Expr} {p pos : Pos} (he : SE G d c e o) (hv : SE G d c v y) (hcp : isComp y = false) : SS G d c (.setattr e n v) (.Assign [.Attribute o (Str.ofString n) p] y pos) := by
 intro A env lay Sys base st s F Q X K E hW hK hX
 simp only [ws_2, ws_7, pk_ret, pk_next] at hW
 refine plainObj_wpAny_Assign_Attribute ?_ (swaps_none hcp)
 refine (hv F).weak _ _ _ E hW (fun w val s₁ q₁ r₁ k₁ f₁ => ?_) fun e s' q => hX e s' (q.toS F)
 have F₁ := F.keeps k₁
 refine (he F₁).weak _ _ _ E q₁ (fun u ov s₂ q₂ r₂ k₂ f₂ => ?_) fun e s' q => hX e s' ((Rz.trans k₁ q).toS F)
 have F₂ := F₁.keeps k₂
 split at q₂
 ·rename_i C ns ad
  obtain ⟨hB, q₂⟩ := q₂
  split at q₂
  ·rename_i C' ns' vs hH
   obtain ⟨hh, rfl, rfl, q₂⟩ := q₂
   split at q₂
   ·rename_i vs' hset
    cases r₂ with
    | iref n1 i =>
     rename_i x
     cases F₂.sim.objs _ _ hH with
     | inst o r =>
      rename_i xs
      obtain ⟨N0, mN, k, fs, R, hns⟩ := hasC_row F₂.top hh
      obtain ⟨z1, z2⟩ := R.name hns (set_mem hset)
      obtain ⟨nm, qn, bs, sn, sub, col, dd, k0, k1, k2, k3, k5, hC⟩ := R.cls.obj
      obtain ⟨ox, g1, g2, g3, g4, g5⟩ := id i
      have hxC : x ≠ C' := by
       rintro rfl
       rw [g1] at hC; cases hC
       exact g3 _ rfl
      refine store_attr (ns := ns'.map Str.ofString) PySem.F.store_object hC R.cls.ns R.sa z1 z2 hxC (i.inst o.2.2.2) (fun h' tk' I' hk' hsame => ?_) (fun y hy => ?_) (by rw [List.length_map, sizeLine_eq]; have := o.2.2.1; omega)
      ·obtain ⟨o₁, e₁, c₁, dt₁, sl₁, dk₁⟩ := hsame ox g1
       have eo : o₁ = ox := by
        obtain ⟨oc, od, odt, osl⟩ := ox
        obtain ⟨oc', od', odt', osl'⟩ := o₁
        cases c₁; cases dt₁; cases sl₁; cases g4
        cases dk₁ _ rfl; rfl
       have hkk : ∀ b ob, b ≠ ad → s₂.heap.get? b = some ob → h'.get? b = some ob := fun b ob nb e => by
        by_cases hb : b = x
        ·rw [hb, g1] at e; cases e; rw [hb, e₁, eo]
        ·exact hk' b ob hb (fun o₀ d' e₀ ed => by
          rw [g1] at e₀; cases e₀; rw [g4] at ed; cases ed; exact nb) e
       have r₁' : RV (NN (AH.upd st.H ad (.inst C' ns' vs')) Sys) h' w val := (r₁.kz k₂.hw).upd hH hkk
       obtain ⟨xs', p1, p2, p3⟩ := attr_set r₁' hset (r.upd hH hkk) o.2.1
       have hns' : NsOf h' ad ns' xs' := by
        refine ⟨o.1.trans p2.symm, o.2.1, o.2.2.1, ?_⟩
        obtain ⟨o', e', _, _, hd'⟩ := I'
        rw [e₁, eo] at e'; cases e'
        rcases hd' with ⟨hn0, _⟩ | ⟨d', hd', _, hns'⟩
        ·rw [g4] at hn0; cases hn0
        ·rw [g4] at hd'; cases hd'
         rw [← funext p3]; exact hns'
       have S' := F₂.sim.write hH hB hkk (.inst hns' p1)
       exact hK .next .next _ _ q₂ .next ⟨F.rm, F.eo, F.us, S', F.own, F.cold⟩ ((Ps.ofKp (k₁.trans k₂)).trans (Ps.write hH hkk (fun e => hns'.ne e)))
      ·have := lk_mem hy
       rwa [List.map_fst_zip (Nat.le_of_eq (by rw [List.length_map]; exact o.1))] at this
   ·exact q₂.elim
  ·exact q₂.elim
 ·exact q₂.elim
end
end Mine
end
section
set_option autoImplicit false
namespace Mine
open PySem
theorem Sim.turn {hsh : HFn} {T : Heap → Prop} {lay : Nat → Option Place} {Sys Z Mod : Addr → Prop} {base : Heap} {st : St} {h h' : Heap} (S : Sim hsh T lay Sys Z base st h) (hM : ∀ b, Mod b → Sys b) (hk : ∀ b o, ¬ Mod b → h.get? b = some o → h'.get? b = some o)
  (hlay : ∀ i p, lay i = some p → ¬ Mod p.addr) (hH : ∀ b, st.H b ≠ none → ¬ Mod b) (hbase : ∀ b, Mod b → base.get? b = none) (hlive : ∀ b, Mod b → h'.get? b ≠ none) : Sim hsh T lay Sys Z base st h' := by
 have hk' : ∀ b o, ¬ NN st.H Sys b → h.get? b = some o → h'.get? b = some o := fun b o nb e => hk b o (fun q => nb (.inr (hM b q))) e
 have hpl : ∀ i p, lay i = some p → ∀ o, h.get? p.addr = some o → h'.get? p.addr = some o := fun i p hp o e => hk _ o (hlay i p hp) e
 refine ⟨fun b o e => have nb : ¬ Mod b := fun q => by rw [hbase b q] at e; cases e
  ⟨fun n => hk b o nb ((S.keep b o e).1 n), let ⟨sl, e'⟩ := (S.keep b o e).2; ⟨sl, hk b _ nb e'⟩⟩, S.zs, S.top, fun i v p a b => ?_, fun i p a => ?_, S.inj, S.sys, fun a o e => ?_, S.own, fun a q e => ?_, S.ent, S.dis⟩
 ·obtain ⟨val, x, y⟩ := S.vals i v p a b
  refine ⟨val, ?_, y.gen (fun z' q => .inl q) hk'⟩
  have hp := hpl i p b
  cases p with
  | loc L z =>
   obtain ⟨m, ⟨o, es, ep, ho, r⟩, e⟩ := x
   exact ⟨m, ⟨o, es, ep, hp o ho, r⟩, e⟩
  | cell cc =>
   obtain ⟨o, ho, r⟩ := x
   exact ⟨o, hp o ho, r⟩
 ·have hp := hpl i p a
  have x := S.ok i p a
  cases p with
  | loc L z =>
   obtain ⟨m, o, es, ep, ho, r⟩ := x
   exact ⟨m, o, es, ep, hp o ho, r⟩
  | cell cc =>
   obtain ⟨v, o, ho, r⟩ := x
   exact ⟨v, o, hp o ho, r⟩
 ·exact (S.objs a o e).gen (fun z' q => .inl q) hk' fun o' e' => hk a o' (hH a (by rw [e]; simp)) e'
 ·by_cases hm : Mod a
  ·exact hlive a hm e
  ·cases q' : h.get? a with
   | none => exact S.live a q q'
   | some o => rw [hk a o hm q'] at e; cases e
theorem RzS.less {mg : Str → Option Value} {A : Around} {Sys Sys' : Addr → Prop} {base : Heap} {s s' : Shared} {X : String → St → Prop} {e : Value} (r : RzS mg A Sys' base s X e s') (hs : ∀ a, Sys a → Sys' a) (ez : FZ A Sys' = FZ A Sys) (hf : ∀ h, FrOk A Sys' h → FrOk A Sys h) : RzS mg A Sys base s X e s' := by cases r
structure Lp (wr : List Addr) (lay : Nat → Option Place) (Z : Addr → Prop) (st : St) (h2 : Heap) (st' : St) (h : Heap) : Prop where
 old : ∀ b o, st.H b = none → (∀ i p, lay i = some p → b ≠ p.addr) → b ∉ wr → h2.get? b = some o → (¬ Z b → h.get? b = some o) ∧ ∃ sl, h.get? b = some { o with slots := sl }
 new : ∀ b, st'.H b ≠ none → st.H b = none → h2.get? b = none
 stay : ∀ b, st.H b ≠ none → st'.H b ≠ none
 B : st'.B = st.B
 len : st'.ρ.length = st.ρ.length
 ext : ∀ b, b ∉ wr → h2.get? b ≠ none → h.get? b ≠ none
section
variable {wr : List Addr} {lay : Nat → Option Place} {Z : Addr → Prop} {st st' : St} {h2 h : Heap}
theorem none_of {α : Type} {o : Option α} (h : ¬ o ≠ none) : o = none := by
 cases o with
 | none => rfl
 | some x => exact absurd nofun h
theorem Lp.refl : Lp wr lay Z st h2 st h2 := ⟨fun z' o z' z' z' e => ⟨fun z' => e, o.slots, e⟩, fun z' h e => absurd e h, fun z' h => h, rfl, rfl, fun z' z' h => h⟩
theorem Lp.e0 (x : Lp wr lay Z st h2 st' h) {b : Addr} {o : Obj} (e1 : st.H b = none) (e4 : h2.get? b = some o) : st'.H b = none := none_of fun q => by rw [x.new b q e1] at e4; cases e4
theorem Lp.turn {h3 : Heap} (x : Lp wr lay Z st h2 st' h) (hk : ∀ b o, b ∉ wr → h.get? b = some o → h3.get? b = some o) : Lp wr lay Z st h2 st' h3 :=
 ⟨fun b o e1 e2 e3 e4 => ⟨fun n => hk b o e3 ((x.old b o e1 e2 e3 e4).1 n), let ⟨sl, e⟩ := (x.old b o e1 e2 e3 e4).2; ⟨sl, hk b _ e3 e⟩⟩, x.new, x.stay, x.B, x.len, fun b w e q => x.ext b w e (none_of fun n => by
  obtain ⟨o, ho⟩ := Option.ne_none_iff_exists'.mp n
  rw [hk b o w ho] at q; cases q)⟩
theorem Lp.step {q : Bool} {st5 : St} {s s5 : Shared} (x : Lp wr lay Z st h2 st' s.heap) (hx : ∀ b ∈ wr, s.heap.get? b ≠ none) (p : Ps q lay Z st' s st5 s5) : Lp wr lay Z st h2 st5 s5.heap :=
 ⟨fun b o e1 e2 e3 e4 => ⟨fun n => (p.old b o (x.e0 e1 e4) e2 ((x.old b o e1 e2 e3 e4).1 n)).1 n, by
  obtain ⟨_, g1⟩ := (x.old b o e1 e2 e3 e4).2
  obtain ⟨sl, g2⟩ := (p.old b _ (x.e0 e1 e4) e2 g1).2
  exact ⟨sl, g2⟩⟩, fun b e1 e2 => none_of fun e => have n := p.new b e1 (none_of fun q => e (x.new b q e2)); x.ext b (fun w => hx b w n) e n, fun b e => p.stay b (x.stay b e), p.B.trans x.B, p.len.trans x.len, fun b w e => p.ext b (x.ext b w e)⟩
theorem Lp.ps {s : Shared} {tk : Nat} (x : Lp wr lay Z st h2 st' h) (k : HW Z s.heap h2) (hwr : ∀ b ∈ wr, s.heap.get? b = none) : Ps false lay Z st s st' { s with heap := h, toks := tk } :=
 ⟨⟨h, tk, rfl⟩, fun b o e1 e2 e => have nb : b ∉ wr := fun q => by rw [hwr b q] at e; cases e
  ⟨fun n => (x.old b o e1 e2 nb ((k b o e).1 n)).1 n, let ⟨_, g1⟩ := (k b o e).2; let ⟨sl, g2⟩ := (x.old b _ e1 e2 nb g1).2; ⟨sl, g2⟩⟩, fun b e1 e2 => k.ext (x.new b e1 e2), x.stay, x.B, x.len, fun b e => x.ext b (fun w => e (hwr b w)) fun q => e (k.ext q), nofun⟩
theorem Lp.trk {hsh : HFn} {N : AH} {s : Heap} (x : Lp wr lay Z st h2 st' h) (hw : ∀ b ∈ wr, h2.get? b ≠ none) (ho : ∀ b o, st.H b = some o → ∃ ob, s.get? b = some ob) (hwr : ∀ b ∈ wr, s.get? b = none) : ∀ b, st'.H b ≠ none → b ∉ wr := fun b hb w => hw b w (x.new b hb (none_of fun n => by
 obtain ⟨o, e⟩ := Option.ne_none_iff_exists'.mp n
 obtain ⟨ob, e'⟩ := ho b o e
 rw [hwr b w] at e'; cases e'))
end
section
variable {G : PG} {d : Nat} {c : Sc} {A : Around} {env : Env} {lay : Nat → Option Place} {Sys : Addr → Prop} {base : Heap} {st : St} {s : Shared}
theorem HdOk.hq {A : Around} {Sys : Addr → Prop} {h : Heap} (x : HdOk A Sys h) : Hq A h := x
inductive InvF (G : PG) (A : Around) (lay : Nat → Option Place) (Sys Sys' : Addr → Prop) (base : Heap) (st : St) (s : Shared) (vs : List V) (wr : List Addr) (Si : Nat → Heap → Prop) (h2 : Heap) (Fo : List V → St → Prop) (n : Nat) (s' : Shared) : Prop
 | mk (i st' h tk) : n = vs.length - i → i ≤ vs.length → s' = { s with heap := h, toks := tk } → Fo (vs.drop i) st' → Si i h → Sim G.hf (TT G) lay Sys' (FZ A Sys') base st' h → FrOk A Sys' h → Lp wr lay (FZ A Sys) st h2 st' h → InvF G A lay Sys Sys' base st s vs wr Si h2 Fo n s'
theorem HdOk.at {h2 : Heap} {wr : List Addr} {st' : St} {h h' : Heap} {Sys' : Addr → Prop} (x : HdOk A Sys s.heap) (S : Sim G.hf (TT G) lay Sys (FZ A Sys) base st s.heap) (k2 : HW (FZ A Sys) s.heap h2) (hwr : ∀ b ∈ wr, s.heap.get? b = none) (hS' : ∀ a, Sys' a → Sys a ∨ a ∈ wr) (p : Lp wr lay (FZ A Sys) st h2 st' h)
  (hk : ∀ b o, b ∉ wr → (∀ i p, lay i = some p → b ≠ p.addr) → h.get? b = some o → h'.get? b = some o) : HdOk A Sys' h' := x
theorem ss_for {t : Tg} {it : It} {b : Bl} {tg y : Expr} {bs : List Stmt} {pos : Pos} (hi : SI G d c it y) (ht : chkTg c t tg = true) (hset : isSetX y = false) (hez : isEZ it = true → isTupX tg = true) (hdead : c.dead = false) (hb : SB G d c b bs) : SS G d c (.for t it b) (.For tg y bs [] pos) := by
 intro A env lay Sys base st s F Q X K E hW hK hX
 refine wpAny_For (hi F _ _ _ E hW (fun vs ds I s₂ hq k io => ?_) fun e s' q => hX e s' (q.toS F)) (folded_plain hset env)
 obtain ⟨hds, hfor⟩ := hq
 generalize isEZ it = nw at io hez
 obtain ⟨fp, wr, P, Mi, Si, W, hsi, hwr, hfp, hdep, hitem⟩ := io
 obtain ⟨h2, t2, rfl, k2⟩ := id k
 generalize hSy : (fun a => Sys a ∨ a ∈ wr) = Sys'
 have hS' : ∀ a, Sys' a → Sys a ∨ a ∈ wr := fun a q => by rw [← hSy] at q; exact q
 have hS1 : ∀ a, Sys a → Sys' a := fun a q => hSy ▸ Or.inl q
 have hS2 : ∀ a, a ∈ wr → Sys' a := fun a q => hSy ▸ Or.inr q
 have hSw : ∀ a, Sys a → a ∉ wr := fun a q e => F.sim.live a q (hwr a e)
 have hbw : ∀ a, a ∈ wr → base.get? a = none := fun a q => F.sim.keep.ext (hwr a q)
 have ez : FZ A Sys' = FZ A Sys := funext fun b => propext ⟨fun q => ⟨q.1, F.za q.1⟩, fun q => ⟨q.1, hS1 _ q.2⟩⟩
 have hfz : ∀ b ∈ fp, ¬ ZA A b := fun b hb z => by
  by_cases hbw : b ∈ wr
  ·exact F.nz (hwr b hbw) z
  ·rcases hdep b hb hbw with q | q
   ·exact q (.inr (F.za z))
   ·exact q.2 (F.sim.dis b (F.za z))
 have frl : ∀ h, FrOk A Sys' h → FrOk A Sys h := fun h ⟨lv, l, e, f⟩ => ⟨fun a q => lv a (hS1 a q), l, e, fun v hv => let ⟨g1, L, o, g2, g3, g4⟩ := f v hv; ⟨g1, L, o, g2, F.za ⟨l, v, e, hv, g2⟩, g4⟩⟩
 have hpw : ∀ i p, lay i = some p → p.addr ∉ wr := fun i p hp => hSw _ (F.sim.sys i p hp).1
 have trk : ∀ {st' : St} {h : Heap}, Lp wr lay (FZ A Sys) st h2 st' h → ∀ b, st'.H b ≠ none → b ∉ wr := fun p => p.trk (hsh := G.hf) (N := st.H) (W.ex 0 h2 hsi) (fun b o e => (F.sim.objs b o e).exists) hwr
 have fin : ∀ (f : Fl) (fl : Flow) (st' : St) (h h1 : Heap) (tk : Nat), Q f st' → FlR (NN st'.H Sys') h1 f fl → Sim G.hf (TT G) lay Sys' (FZ A Sys') base st' h → Lp wr lay (FZ A Sys) st h2 st' h1 → (∀ b o, b ∉ wr → h.get? b = some o → h1.get? b = some o) → K fl { s with heap := h1, toks := tk } := by
  intro f fl st' h h1 tk hq hfl hS p hk
  refine hK f fl st' _ hq ?_ ⟨F.rm, F.eo, F.us, ez ▸ Sim.leave (New := fun a => a ∈ wr) (hSy ▸ hS) (fun b q => F.za q.1) hk (fun i p hp => (F.sim.sys i p hp).1) hSw (trk p) hbw, F.own, F.cold⟩ (p.ps k2 hwr)
  cases hfl with
  | next => exact .next
  | brk => exact .brk
  | cont => exact .cont
  | ret r => exact .ret (r.less fun b q => q.elim .inl fun q => .inr (hS1 b q))
 have S0 : Sim G.hf (TT G) lay Sys' (FZ A Sys') base st h2 := by rw [ez, ← hSy]; exact F.sim.enter (New := fun a => a ∈ wr) k2 hwr (W.ex 0 h2 hsi)
 have f0 : FrOk A Sys' h2 := let ⟨_, l, e, f⟩ := F.fr.kz k2; ⟨S0.live, l, e, fun v hv => let ⟨g1, L, o, g2, g3, g4⟩ := f v hv; ⟨g1, L, o, g2, hS1 L g3, g4⟩⟩
 refine codeAny_forLoop_any (InvF G A lay Sys Sys' base st s vs wr Si h2 (forL t (fun st' K => WB (G.cx d) b st' K X) Q)) ?_ vs.length ⟨0, st, h2, t2, rfl, Nat.zero_le _, rfl, hfor, hsi, S0, f0, Lp.refl⟩
 rintro n s' ⟨i, st', h, tk, hn, hil, rfl, hfl, hs_i, hS, hfo, lp⟩
 have hyw : ∀ y, A.handled = some (.ref y) → y ∉ wr := fun y e hb => by
  rw [show A.handled = none from F.hdo hdead] at e; cases e
 rcases Nat.lt_or_ge i vs.length with hlt | hge
 ·have hx : vs[i]? = some vs[i] := List.getElem?_eq_getElem hlt
  rw [List.drop_eq_getElem_cons hlt] at hfl
  apply bound_at hfl; clear hfl; intro ρ' hbd hfl
  refine W.item i _ _ _ hlt hs_i fun val h1 tk1 hMi hfr hk1 => ?_
  refine W.own i { s with heap := h1, toks := tk1 } val tg _ _ hMi hez fun h3 hs3 hP3 hk3 => ?_
  have hk03 : ∀ b o, b ∉ wr → h.get? b = some o → h3.get? b = some o := fun b o nb e => hk3 b o nb (hk1 b o nb e)
  have S3 : Sim G.hf (TT G) lay Sys' (FZ A Sys') base st' h3 := hS.turn (Mod := fun a => a ∈ wr) hS2 hk03 hpw (trk lp) hbw (W.ex _ _ hs3)
  have hval : RV (NN st'.H Sys') h3 vs[i] val := by
   have hgenN : ∀ b, NN st'.H Sys' b → NN st.H (fun a => Sys a ∨ a ∈ wr) b ∨ h2.get? b = none := fun b q => q.elim (fun q => by
    cases e : st.H b with
    | none => exact .inr (lp.new b q e)
    | some o => exact .inl (.inl (by rw [e]; exact nofun))) fun q => .inl (.inr (hS' b q))
   have hgenK : ∀ b o, ¬ NN st.H (fun a => Sys a ∨ a ∈ wr) b → h2.get? b = some o → h3.get? b = some o := fun b o nb e => hk03 b o (fun q => nb (.inr (.inr q))) ((lp.old b o (none_of fun q => nb (.inl q)) (fun i p hp hbp => nb (.inr (.inl (hbp ▸ (F.sim.sys i p hp).1)))) (fun q => nb (.inr (.inr q))) e).1 fun q => nb (.inr (.inl q.2)))
   have := hitem i vs[i] val h3 hx hP3
   cases nw with
   | false => exact RV.gen hgenN hgenK this
   | true =>
    obtain ⟨t', xs', n', ws, e1, rfl, e3, e4, e5⟩ := this
    rw [e1]
    have hft : h.get? t' = none := hfr rfl t' rfl
    exact .tup (fun q => q.elim (fun q => q (hS.fresh hft)) fun q => hS.live _ q hft) e3 e4 (RVs.gen hgenN hgenK e5)
  refine st_tg (s := { s with heap := h3, toks := tk1 }) F.cold F.eo S3 ht hbd hval fun h4 tk4 S4 tc => ?_
  have P4 : ∀ q, Ps q lay (FZ A Sys') st' { s with heap := h3, toks := tk1 } { st' with ρ := ρ' } { s with heap := h4, toks := tk4 } := fun q => Ps.ofTc (s := { s with heap := h3, toks := tk1 }) (tk := tk4) S4 tc (bindT_len hbd)
  have f3 : FrOk A Sys' h3 := by
   obtain ⟨lv, l, e, f⟩ := hfo
   refine ⟨S3.live, l, e, fun v hv => ?_⟩
   obtain ⟨g1, L, o, g2, g3, g4, g5⟩ := f v hv
   exact ⟨g1, L, o, g2, g3, hk03 L o (hSw L (F.za ⟨l, v, e, hv, g2⟩)) g4, g5⟩
  have F4 : Fx G d c A env lay Sys' base { st' with ρ := ρ' } { s with heap := h4, toks := tk4 } := ⟨⟨F.rm, F.eo, F.us, S4, F.own, F.cold⟩, FrOk.ps (s := { s with heap := h3, toks := tk1 }) f3 S3 S4 (P4 true), .inr ((F.hdo hdead).at F.sim k2 hwr hS' lp fun b o nw nl e => tc b o (fun i z' => nl i) (hk03 b o nw e))⟩
  refine hb F4 _ X _ _ hfl (fun f fl st5 s5 q5 r5 F5 p5 => ?_) fun e s' q => RzS.pass ((q.less hS1 ez frl).trans ⟨h4, tk4, rfl⟩) F hX
  obtain ⟨h5, t5, rfl⟩ := p5.sh
  have f5 := FrOk.ps F4.fr F4.sim F5.sim p5
  have P5 := (P4 _).trans p5
  have lp5 : Lp wr lay (FZ A Sys) st h2 st5 h5 := Lp.step (s := { s with heap := h3, toks := tk1 }) (lp.turn hk03) (W.ex _ _ hs3) (ez ▸ P5)
  have hsi5 : Si (i + 1) h5 := W.frame _ _ _ hs3 fun b hbf o e => by
   by_cases q : b ∈ wr
   ·exact (P5.old b o (none_of fun n => trk lp b n q) (fun i p hp hbp => hpw i p hp (hbp ▸ q)) e).1 fun z => hfz b hbf z.1
   ·rcases hdep b hbf q with q' | ⟨q1, q2⟩
    ·refine (P5.old b o (none_of fun n => ?_) (fun i p hp hbp => q' (.inr (hbp ▸ (F.sim.sys i p hp).1))) e).1 fun z => hfz b hbf z.1
     obtain ⟨o2, ho2⟩ := hfp b hbf
     have := lp.new b n (none_of fun m => q' (.inl m))
     rw [show ({ s with heap := h2, toks := t2 } : Shared).heap = h2 from rfl, this] at ho2; cases ho2
    ·rcases hds with hqt | hds
     ·exact P5.qt hqt b o (fun i p hp hbp => q2 (hbp ▸ (F.sim.sys i p hp).2.2)) e fun z => hfz b hbf z.1
     ·obtain ⟨ob, hob⟩ := F.sim.ent b (hds b q1)
      have h3b : h3.get? b = some ob := (S3.keep _ _ hob).1 fun z => hfz b hbf z.1
      rw [h3b] at e; cases e
      exact (F5.sim.keep _ _ hob).1 fun z => hfz b hbf z.1
  have go : forL t (fun st' K => WB (G.cx d) b st' K X) Q (vs.drop (i + 1)) st5 → ∃ m, m < n ∧ InvF G A lay Sys Sys' base st s vs wr Si h2 (forL t (fun st' K => WB (G.cx d) b st' K X) Q) m { s with heap := h5, toks := t5 } := fun q5 => ⟨vs.length - (i + 1), by omega, i + 1, st5, h5, t5, rfl, hlt, rfl, q5, hsi5, F5.sim, f5, lp5⟩
  cases r5 with
  | next => exact go q5
  | cont => exact go q5
  | brk => exact fin .next .next st5 h5 h5 t5 q5 .next F5.sim lp5 fun z' z' z' e => e
  | ret r => exact fin (.ret _) (.ret _) st5 h5 h5 t5 q5 (.ret r) F5.sim lp5 fun z' z' z' e => e
 ·have hi' : i = vs.length := Nat.le_antisymm hil hge
  subst hi'
  rw [List.drop_length] at hfl
  refine W.done _ _ _ (HdOk.hq ((F.hdo hdead).at (Sys' := Sys') F.sim k2 hwr hS' lp fun b o z' z' e => e)) hyw hs_i fun h1 tk1 hk1 => wpAny_execs_nil ?_
  exact fin .next .next st' h h1 tk1 hfl .next hS (lp.turn hk1) hk1
end
end Mine
end
section
set_option autoImplicit false
set_option maxRecDepth 100000
namespace Mine
open PySem
end Mine
end
section
set_option autoImplicit false
namespace Mine
open PySem
section
variable {G : PG} {d : Nat}
theorem WS_var {C : Cx} {i : Nat} {e : E} {st : St} {Q : Fl → St → Prop} {X : String → St → Prop} (h : WS C (.assign (.var i) e) st Q X) : WS C (.own i (.pure e)) st Q X := h
mutual
theorem sndS (hc : CallSnd G d) : ∀ (m : S) (c : Sc) (x : Stmt), c.fns = G.tbl.map (·.1) ∧ c.xs = G.xs ∧ c.hots = G.hots → chkS c m x = true → SS G d c m x
 | .expr e, c, x, hf, h => by
  apply onExpr_elim h; clear h; intro y p h
  simp only [Bool.and_eq_true, Bool.not_eq_true'] at h
  exact ss_expr (sndE hc e c _ hf h.1).1 h.2
 | .assign t e, c, x, hf, h => by
  apply onAssign_elim h; clear h; intro tg y p h
  ·apply and5_elim h; clear h; intro h1 h2 h3 h4 h5
   cases t with
   | var i =>
    intro F Q X K E hW hK hX
    exact snd_own hc hf h1 (a := .pure e) h3 h4 F Q X K E (WS_var hW) hK hX
   | tup is =>
    apply onTup_elim h1; clear h1; intro xs k p' h1
    obtain ⟨h1, h5⟩ := (Bool.and_eq_true _ _).mp h1
    exact ss_tup (sndE hc e c _ hf h3).1 h1 ((Bool.not_eq_true' _).mp h5) h2
 | .own i a, c, x, hf, h => by
  apply onAssign_elim h; clear h; intro tg y p h
  simp only [Bool.and_eq_true] at h
  exact snd_own hc hf h.1.1 h.1.2 h.2
 | .append e a, c, x, hf, h => by
  apply onExpr_elim h; clear h; intro y p h
  apply onCall_elim h; clear h; intro g xs ks cp h
  apply and2_elim h; clear h; intro hk h
  apply one_elim h; clear h; intro z h
  apply onAttr_elim h; clear h; intro o n ap h
  cases ks with
  | cons => exact ff hk
  | nil =>
   apply and6_elim h; clear h; intro e0_ h2 h3 h4 h5 h6
   try simp only [decide_eq_true_eq] at e0_
   try simp only [decide_eq_true_eq] at h2
   try simp only [decide_eq_true_eq] at h3
   try simp only [decide_eq_true_eq] at h4
   try simp only [decide_eq_true_eq] at h5
   try simp only [decide_eq_true_eq] at h6
   subst e0_
   exact ss_append (sndE hc e c _ hf h5).1 (sndA hc a c _ hf h6) h3 h4 h2
 | .pop t e, c, x, hf, h => by
  apply onAssign_elim h; clear h; intro tg y p h
  apply onCall_elim h; clear h; intro g xs ks cp h
  apply and2_elim h; clear h; intro hk h
  apply onAttr_elim h; clear h; intro o n ap h
  apply and2_elim hk; clear hk; intro hk hx
  cases ks with
  | cons => exact ff hk
  | nil =>
   cases xs with
   | cons => exact ff hx
   | nil =>
    apply and5_elim h; clear h; intro h1 e1_ h3 h0 h4
    try simp only [decide_eq_true_eq] at h1
    try simp only [decide_eq_true_eq] at e1_
    try simp only [decide_eq_true_eq] at h3
    try simp only [decide_eq_true_eq] at h0
    try simp only [decide_eq_true_eq] at h4
    subst e1_
    obtain ⟨y', p', rfl⟩ := isNameX_inv h0
    exact ss_pop (sndE hc e c _ hf h4).1 h1 h3
 | .setitem a b e, c, x, hf, h => by
  apply onAssign_elim h; clear h; intro tg y p h
  apply onSub_elim h; clear h; intro o i p' h
  apply and4_elim h; clear h; intro h1 h2 h3 h4
  try simp only [Bool.not_eq_true'] at h1
  try simp only [Bool.not_eq_true'] at h2
  try simp only [Bool.not_eq_true'] at h3
  try simp only [Bool.not_eq_true'] at h4
  exact ss_setitem (sndE hc a c _ hf h1).1 (sndE hc b c _ hf h2).1 (sndE hc e c _ hf h3).1 h4
 | .setkey a b e, c, x, hf, h => by
  apply onAssign_elim h; clear h; intro tg y p h
  apply onSub_elim h; clear h; intro o i p' h
  apply and4_elim h; clear h; intro h1 h2 h3 h4
  try simp only [Bool.not_eq_true'] at h1
  try simp only [Bool.not_eq_true'] at h2
  try simp only [Bool.not_eq_true'] at h3
  try simp only [Bool.not_eq_true'] at h4
  exact ss_setkey (sndE hc a c _ hf h1).1 (sndE hc b c _ hf h2).1 (sndE hc e c _ hf h3).1 h4
 | .setlast a e, c, x, hf, h => ff h
 | .setattr e n v, c, x, hf, h => by
  apply onAssign_elim h; clear h; intro tg y p h
  apply onAttr_elim h; clear h; intro o m ap h
  apply and5_elim h; clear h; intro e0_ _ h1 h2 h3
  try simp only [Bool.not_eq_true', decide_eq_true_eq] at e0_
  try simp only [Bool.not_eq_true', decide_eq_true_eq] at h1
  try simp only [Bool.not_eq_true', decide_eq_true_eq] at h2
  try simp only [Bool.not_eq_true', decide_eq_true_eq] at h3
  subst e0_
  exact ss_setattr (sndE hc e c _ hf h1).1 (sndE hc v c _ hf h2).1 h3
 | .ite t a b, c, x, hf, h => by
  apply onIfS_elim h; clear h; intro y bs os p h
  apply and3_elim h; clear h; intro h1 h2 h3
  exact ss_ite (sndE hc t c _ hf h1).2 (sndB hc a c _ hf h2) (sndB hc b c _ hf h3)
 | .while t b, c, x, hf, h => by
  apply onWhile_elim h; clear h; intro y bs p h
  simp only [Bool.and_eq_true] at h
  exact ss_while (sndE hc t c _ hf h.1).2 (sndB hc b c _ hf h.2)
 | .for t it b, c, x, hf, h => by
  apply onFor_elim h; clear h; intro tg y bs p h
  apply and6_elim h; clear h; intro h1 h2 h3 h5 h4 h6
  try simp only [Bool.not_eq_true'] at h1
  try simp only [Bool.not_eq_true'] at h2
  try simp only [Bool.not_eq_true'] at h3
  try simp only [Bool.not_eq_true'] at h5
  try simp only [Bool.not_eq_true'] at h4
  try simp only [Bool.not_eq_true'] at h6
  exact ss_for ((sndI hc it c _ hf h2).1 (ezOk_walk h5)) h1 h3 (ezOk_inv h5) h6 (sndB hc b c _ hf h4)
 | .ret e, c, x, hf, h => by
  apply onRet_elim h; clear h; intro y p h
  exact ss_ret (sndE hc e c _ hf h).1
 | .retO e, c, x, hf, h => ff h
 | .raise k e, c, x, hf, h => ss_raise
 | .rz k m, c, x, hf, h => ff h
 | .tryEx e k i b, c, x, hf, h => ff h
theorem sndB (hc : CallSnd G d) : ∀ (b : Bl) (c : Sc) (xs : List Stmt), c.fns = G.tbl.map (·.1) ∧ c.xs = G.xs ∧ c.hots = G.hots → chkB c b xs = true → SB G d c b xs
 | .nil, c, xs, hf, h => by
  cases xs with
  | nil => exact sb_nil
  | cons => exact ff h
 | .cons m b, c, xs, hf, h => by
  cases xs with
  | nil => exact ff h
  | cons x r =>
   replace h := (Bool.and_eq_true _ _).mp h
   exact sb_cons (sndS hc m c _ hf h.1) (sndB hc b c _ hf h.2)
end
end
end Mine
end
section
set_option autoImplicit false
namespace Mine
open PySem
set_option tactic.hygienic true in
theorem cells_some : ∀ {names : List (Str × NameKind)} {n : Nat} {acc : List (Str × Addr)} {x : Str}, (names.lookup x = some .cell ∧ (names.map (·.1)).Nodup) ∨ (acc.lookup x).isSome → ((cellsFrom n names acc).lookup x).isSome
 | [], _, _, _, h => by
  rcases h with ⟨h, _⟩ | h
  ·simp at h
  ·exact h
 | (y, k) :: r, n, acc, x, h => by
  unfold cellsFrom
  split
  ·rename_i hk
   refine cells_some ?_
   rcases h with ⟨h, hn⟩ | h
   ·simp only [List.lookup_cons] at h
    cases hx : x == y with
    | true => right; simp only [List.lookup_cons, hx]; rfl
    | false => rw [hx] at h; simp only [List.map_cons, List.nodup_cons] at hn; exact .inl ⟨h, hn.2⟩
   ·right
    simp only [List.lookup_cons]
    split
    ·rfl
    ·exact h
  ·rename_i hk
   refine cells_some ?_
   rcases h with ⟨h, hn⟩ | h
   ·simp only [List.lookup_cons] at h
    cases hx : x == y with
    | true => rw [hx] at h; simp only at h; cases h; simp at hk
    | false => rw [hx] at h; simp only [List.map_cons, List.nodup_cons] at hn; exact .inl ⟨h, hn.2⟩
   ·exact .inr h
theorem bindL_get {k : Str → Option NameKind} : ∀ {names : List Str} {vals : List Value} {m : Str → Option Value} {x : Str}, names.Nodup → k x = some .local → bindL k (names.zip vals) m x = (((names.zip vals).lookup x).or (m x))
 | [], _, _, _, _, _ => by simp [bindL]
 | _ :: _, [], _, _, _, _ => by simp [bindL]
 | n :: ns, v :: vs, m, x, hn, hk => by
  rw [List.nodup_cons] at hn
  simp only [List.zip_cons_cons, bindL]
  rw [bindL_get hn.2 hk]
  simp only [List.lookup_cons]
  cases hx : x == n with
  | true =>
   have : x = n := by simpa using hx
   subst this
   have hnone : (ns.zip vs).lookup x = none := by
    cases e : (ns.zip vs).lookup x with
    | none => rfl
    | some w => exact absurd (List.of_mem_zip (mem_lookup e)).1 hn.1
   simp [hnone, hk]
  | false =>
   have hne : x ≠ n := by simpa using hx
   simp only
   congr 1
   split
   ·simp [hne]
   ·rfl
theorem bindC_get {k : Str → Option NameKind} : ∀ {names : List Str} {vals : List Value} {m : Str → Option Value} {x : Str}, names.Nodup → k x ≠ some .local → bindC k (names.zip vals) m x = (((names.zip vals).lookup x).or (m x))
 | [], _, _, _, _, _ => by simp [bindC]
 | _ :: _, [], _, _, _, _ => by simp [bindC]
 | n :: ns, v :: vs, m, x, hn, hk => by
  rw [List.nodup_cons] at hn
  simp only [List.zip_cons_cons, bindC]
  rw [bindC_get hn.2 hk]
  simp only [List.lookup_cons]
  cases hx : x == n with
  | true =>
   have : x = n := by simpa using hx
   subst this
   have hnone : (ns.zip vs).lookup x = none := by
    cases e : (ns.zip vs).lookup x with
    | none => rfl
    | some w => exact absurd (List.of_mem_zip (mem_lookup e)).1 hn.1
   simp [hnone, hk]
  | false =>
   have hne : x ≠ n := by simpa using hx
   simp only
   congr 1
   split
   ·rfl
   ·simp [hne]
theorem lookup_zip_at {β : Type} : ∀ {names : List Str} {vals : List β} {i : Nat} {x : Str} {v : β}, names.Nodup → names[i]? = some x → vals[i]? = some v → (names.zip vals).lookup x = some v
 | [], _, _, _, _, _, h, _ => by simp at h
 | _ :: _, [], _, _, _, _, _, h => by simp at h
 | n :: ns, w :: ws, 0, x, v, _, h1, h2 => by simp at h1 h2; subst h1 h2; simp
 | n :: ns, w :: ws, i + 1, x, v, hn, h1, h2 => by
  rw [List.nodup_cons] at hn
  simp only [List.getElem?_cons_succ] at h1 h2
  have hne : x ≠ n := fun e => hn.1 (e ▸ List.mem_of_getElem? h1)
  simp only [List.zip_cons_cons, List.lookup_cons]
  rw [show (x == n) = false from by simpa using hne]
  exact lookup_zip_at hn.2 h1 h2
theorem lookup_range {xs : List Str} {x : Str} {i : Nat} (h : (xs.zip (List.range xs.length)).lookup x = some i) : xs[i]? = some x := by
 rw [List.range_eq_range'] at h
 obtain ⟨j, h1, h2⟩ := lookup_zip h
 rw [h2, Nat.zero_add]; exact h1
structure FnOk (fns xs : List String) (hot : Bool) (hots : List String) (fn : Fn) (dr : DefRec) : Prop where
 pos : dr.params.posonlyargs = []
 kwo : dr.params.kwonlyargs = []
 va : dr.params.vararg = none
 kw : dr.params.kwarg = none
 args : dr.params.args.map (·.arg) = (fn.vars.map Str.ofString).take fn.np
 le : fn.np ≤ fn.vars.length
 nd : (fn.vars.map Str.ofString).Nodup
 st : ∀ x ∈ fn.vars.map Str.ofString, (dr.scope.names.lookup x = some .local ∨ dr.scope.names.lookup x = some .cell) ∧ (x == ("__classdict__" : Str)) = false
 kind : dr.scope.kind = .function
 gen : dr.scope.isGenerator = false
 cor : dr.scope.isCoroutine = false
 names : (dr.scope.names.map (·.1)).Nodup
 nv : fn.vars.length ≤ fn.nv
 body : chkB (fnSc fns xs hot hots fn dr) fn.body dr.body = true
theorem fnOk {fns xs : List String} {hot : Bool} {hots : List String} {fn : Fn} {dr : DefRec} (h : chkFn fns xs hot hots fn dr = true) : FnOk fns xs hot hots fn dr := by
 unfold chkFn plainParams at h
 simp only [Bool.and_eq_true, decide_eq_true_eq, List.all_eq_true, Bool.not_eq_true'] at h
 obtain ⟨⟨⟨⟨⟨⟨⟨⟨⟨⟨⟨⟨h1, h2⟩, h3⟩, h4⟩, h5⟩, h6⟩, h7⟩, h8⟩, h9⟩, h10⟩, h11⟩, h12⟩, h13⟩ := h
 obtain ⟨⟨⟨⟨⟨a1, a2⟩, a3⟩, a4⟩, a5⟩, a6⟩ := h1
 refine ⟨by simpa using a1, by simpa using a3, by simpa using a2, by simpa using a4, h2, h3, h5, fun x hx => ?_, h7, h8, h9, h11, h12, h13⟩
 obtain ⟨q1, q2⟩ := h6 x hx
 simp only [canStore, Bool.or_eq_true, decide_eq_true_eq] at q1
 exact ⟨q1, q2⟩
noncomputable def layF (names : List (Str × NameKind)) (cells : List (Str × Addr)) (L : Addr) (xs : List Str) : Nat → Option Place := fun i => match xs[i]? with
 | none => none
 | some x => if names.lookup x = some .local then some (.loc L x) else (cells.lookup x).map .cell
theorem le3 (a d : Nat) : a + 3 + 20 * d ≤ a + 20 * (d + 1) := by omega
theorem RmC.deeper {d : Nat} {A : Around} {env : Env} (R : RmC (d + 1) A) (h1 : env.scope.isGenerator = false) (h2 : env.scope.isCoroutine = false) (h3 : env.builtins = builtinsNs) (h4 : env.globals = mainGlobals) : RmF d (A.deeper env) := by
 obtain ⟨l, hf⟩ := R.fr
 refine ⟨⟨Nat.lt_of_le_of_lt (Nat.le_of_eq (congrArg (· + 150) (Nat.add_right_comm A.depth 1 d))) R.depth, Nat.lt_of_le_of_lt (Nat.add_le_add_right (le3 A.units d) 200) R.units⟩, env, l, ?_, h1, h2, h3, h4⟩
 show A.frames.map (env :: ·) = _
 rw [hf]; rfl
set_option tactic.hygienic true in
theorem call_step {G : PG} {d : Nat} (hc : CallSnd G d) : CallSnd G (d + 1) := by
 intro A H Sys s f fa vs vals R T hO hlive hdis hfr hhd hcold hmg hrv Q X K E hW hK hX
 obtain ⟨b0, T0, k0, n0⟩ := T
 have T := T0.keeps k0
 have ho := hO
 apply run_elim hW; clear hW; intro fn hfn hW
 ·obtain ⟨hnp, hnv, hW⟩ := hW
  obtain ⟨dr, a, o, pm, code, doc, h1, h2, h3, h4, h5⟩ := T.fn f fn hfn
  rw [hmg] at h1; cases h1
  have O := fnOk h5
  have hlen := hrv.length
  let xs := fn.vars.map Str.ofString
  have hxl : xs.length = fn.vars.length := by simp [xs]
  have htake : (xs.take fn.np).length = vals.length := by rw [List.length_take, hxl]; have := O.le; omega
  have hndt : (xs.take fn.np).Nodup := List.Nodup.sublist (List.take_sublist _ _) O.nd
  have hkind : ∀ x ∈ (xs.take fn.np).zip vals, dr.scope.names.lookup x.1 = some .local ∨ (dr.scope.names.lookup x.1 = some .cell ∧ ((cellsFrom (s.heap.objs.size + 1) dr.scope.names []).lookup x.1).isSome = true) := by
   intro x hx
   have hm : x.1 ∈ xs := List.mem_of_mem_take (List.of_mem_zip hx).1
   rcases (O.st x.1 hm).1 with q | q
   ·exact .inl q
   ·exact .inr ⟨q, cells_some (.inl ⟨q, O.names⟩)⟩
  refine wpAny_call (codeAny_call_cells (fd := Calls.docDef dr.name dr.params dr.body dr.scope pm code doc) (binds := (xs.take fn.np).zip vals) (by have := R.depth; omega) h2 h3 T.nolimit h4 rfl (bind_plain O.pos O.args O.kwo O.va O.kw rfl htake hndt) rfl hkind (fun s₁ x => ?_) O.cor O.gen O.kind)
  generalize hEnv : callEnvC (Calls.docDef dr.name dr.params dr.body dr.scope pm code doc) s.heap.objs.size fa = env at x ⊢
  have e1 : env.locals = s.heap.objs.size := by rw [← hEnv]; rfl
  have e2 : env.cells = cellsFrom (s.heap.objs.size + 1) dr.scope.names [] := by rw [← hEnv]; rfl
  have e3 : env.scope = dr.scope := by rw [← hEnv]; rfl
  have e4 : env.globals = mainGlobals := by rw [← hEnv]; rfl
  have e5 : env.builtins = builtinsNs := by rw [← hEnv]; rfl
  have e6 : ∀ y, env.kindOf y = dr.scope.names.lookup y := fun y => by unfold Env.kindOf; rw [e3]
  let lay : Nat → Option Place := layF dr.scope.names env.cells env.locals xs
  let New : Addr → Prop := fun b => b = env.locals ∨ ∃ y, env.cells.lookup y = some b
  let Sys' : Addr → Prop := fun a => Sys a ∨ New a
  have hLf : s.heap.get? env.locals = none := by rw [e1]; exact fresh_size _
  have hcf : ∀ y b, env.cells.lookup y = some b → s.heap.get? b = none := fun y b q => by
   have h' : env.locals < b := x.above y b (mem_of_lookup q)
   rw [e1] at h'
   exact Heap.get?_none_of_le (Nat.le_of_lt h')
  have hNf : ∀ b, New b → s.heap.get? b = none := by
   rintro b (rfl | ⟨y, q⟩)
   ·exact hLf
   ·exact hcf y b q
  have hNl : ∀ b, New b → s₁.heap.get? b ≠ none := by
   rintro b (rfl | ⟨y, q⟩) e
   ·obtain ⟨o, es, ep, ho', _⟩ := x.toInCall.ns
    rw [ho'] at e; cases e
   ·obtain ⟨o, ho', _⟩ := x.cell y b q
    rw [ho'] at e; cases e
  have hk : HK s.heap s₁.heap := x.toInCall.keep
  have hHf : ∀ b, s.heap.get? b = none → H b = none := fun b e => by
   cases q : H b with
   | none => rfl
   | some o =>
    obtain ⟨ob, e'⟩ := (ho b o q).exists
    rw [e] at e'; cases e'
  have hlay : ∀ i p, lay i = some p → ∃ y, xs[i]? = some y ∧ ((dr.scope.names.lookup y = some .local ∧ p = .loc env.locals y) ∨ (dr.scope.names.lookup y = some .cell ∧ ∃ b, env.cells.lookup y = some b ∧ p = .cell b)) := by
   intro i p hp
   simp only [lay, layF] at hp
   split at hp
   ·cases hp
   ·rename_i y hy
    refine ⟨y, hy, ?_⟩
    split at hp
    ·rename_i hl; cases hp; exact .inl ⟨hl, rfl⟩
    ·rename_i hl
     simp only [Option.map_eq_some_iff] at hp
     obtain ⟨b, hb, rfl⟩ := hp
     exact .inr ⟨((O.st y (List.mem_of_getElem? hy)).1).resolve_left hl, b, hb, rfl⟩
  have hplN : ∀ i p, lay i = some p → New p.addr := by
   intro i p hp
   obtain ⟨y, _, ⟨_, rfl⟩ | ⟨_, b, hb, rfl⟩⟩ := hlay i p hp
   ·exact .inl rfl
   ·exact .inr ⟨y, hb⟩
  have hN : ∀ b, NN H Sys' b → NN H Sys b ∨ s.heap.get? b = none := by
   rintro b (q | q | q)
   ·exact .inl (.inl q)
   ·exact .inl (.inr q)
   ·exact .inr (hNf b q)
  have hrv' : RVs (NN H Sys') s₁.heap vs vals := hrv.gen hN fun b o z' e => hk b o e
  have S : Sim G.hf (TT G) lay Sys' (FZ (A.deeper env) Sys') s.heap ⟨vs.map some ++ List.replicate (fn.nv - fn.np) none, H, H⟩ s₁.heap := by
   refine ⟨.of hk, fun z' q => q.2, ⟨b0, T0, k0, fun a q => q.elim (fun q => q.elim (fun q => n0 a (.inr q)) fun q => (HW.of (Z := Sys) k0).ext (hNf a q)) fun q => n0 a (.inl q)⟩, fun i v p hv hp => ?_, fun i p hp => ?_, fun i j p hi hj => ?_, fun i p hp => ⟨.inr (hplN i p hp), hNf _ (hplN i p hp), hHf _ (hNf _ (hplN i p hp))⟩, fun a o e => ?_, fun a h1 h2 => absurd h2 h1, fun a q e => ?_, fun a q => ?_, fun a q => q.elim (hdis a) fun q => hHf _ (hNf a q)⟩
   ·have hv' : vs[i]? = some v := by
     have hv : (vs.map some ++ List.replicate (fn.nv - fn.np) none)[i]? = some (some v) := hv
     rw [List.getElem?_append] at hv
     split at hv
     ·simpa using hv
     ·rw [List.getElem?_replicate] at hv
      split at hv <;> simp at hv
    obtain ⟨val, hval, r⟩ := hrv'.get i hv'
    refine ⟨val, ?_, r⟩
    have hi : i < fn.np := by
     obtain ⟨q, _⟩ := List.getElem?_eq_some_iff.mp hv'
     omega
    obtain ⟨y, hy, hc'⟩ := hlay i p hp
    have hyt : (xs.take fn.np)[i]? = some y := by rw [List.getElem?_take, if_pos hi]; exact hy
    have hlk := lookup_zip_at hndt hyt hval
    rcases hc' with ⟨hl, rfl⟩ | ⟨hl, b, hb, rfl⟩
    ·refine ⟨_, x.toInCall.ns, ?_⟩
     rw [bindL_get hndt (by rw [e6]; exact hl), hlk]; rfl
    ·have := x.cell y b hb
     rw [bindC_get hndt (by rw [e6, hl]; simp), hlk] at this
     exact this
   ·obtain ⟨y, hy, ⟨_, rfl⟩ | ⟨_, b, hb, rfl⟩⟩ := hlay i p hp
    ·exact ⟨_, x.toInCall.ns⟩
    ·exact ⟨_, x.cell y b hb⟩
   ·obtain ⟨y, hy, hc1⟩ := hlay i p hi
    obtain ⟨z, hz, hc2⟩ := hlay j p hj
    have hyz : y = z := by
     rcases hc1 with ⟨_, rfl⟩ | ⟨_, b, hb, rfl⟩
     ·rcases hc2 with ⟨_, e⟩ | ⟨_, b, hb, e⟩
      ·cases e; rfl
      ·cases e
     ·rcases hc2 with ⟨_, e⟩ | ⟨_, b', hb', e⟩
      ·cases e
      ·cases e
       exact name_of_addr x.apart (mem_of_lookup hb) (mem_of_lookup hb')
    subst hyz
    obtain ⟨l1, q1⟩ := List.getElem?_eq_some_iff.mp hy
    obtain ⟨l2, q2⟩ := List.getElem?_eq_some_iff.mp hz
    exact nodup_inj O.nd l1 l2 (q1.trans q2.symm)
   ·exact (ho a o e).gen hN (fun b o z' e => hk b o e) fun o e => hk a o e
   ·rcases q with q | q
    ·cases e' : s.heap.get? a with
     | none => exact hlive a q e'
     | some ob => rw [hk _ _ e'] at e; cases e
    ·exact hNl a q e
   ·cases e' : H a with
    | none => exact absurd e' q
    | some ob => exact (ho a ob e').exists
  have EO : EnvOk env (fnSc (G.tbl.map (·.1)) G.xs (G.hots.contains f) G.hots fn dr).names (fnSc (G.tbl.map (·.1)) G.xs (G.hots.contains f) G.hots fn dr).σ lay := by
   refine ⟨by rw [e3]; exact O.kind, e4, e5, fun y q => by rw [e6]; exact q, fun y q => by rw [e6]; exact q, fun y q => by rw [e6]; exact q, fun y q => .inr (by rw [e6]; exact q), fun y i q => ?_⟩
   have q' : xs[i]? = some y := by
    refine lookup_range ?_
    rw [hxl]; exact q
   obtain ⟨hst, hcd⟩ := O.st y (List.mem_of_getElem? q')
   rcases hst with hl | hl
   ·refine ⟨.loc env.locals y, ?_, .inl ⟨by rw [e6]; exact hl, rfl⟩⟩
    simp only [lay, layF, q', hl, if_true]
   ·have hcs : (env.cells.lookup y).isSome := by rw [e2]; exact cells_some (.inl ⟨hl, O.names⟩)
    obtain ⟨b, hb⟩ := Option.isSome_iff_exists.mp hcs
    refine ⟨.cell b, ?_, .inr ⟨.inl (by rw [e6]; exact hl), hcd, b, hb, rfl⟩⟩
    simp only [lay, layF, q', hl, hb]
    rfl
  have eF : env.frame = some env.locals := by rw [← hEnv]; rfl
  obtain ⟨lv, l₀, hl₀, hfs⟩ := hfr
  have hA' : (A.deeper env).frames = some (env :: l₀) := by show A.frames.map (env :: ·) = _; rw [hl₀]; rfl
  have ez : ∀ b, FZ (A.deeper env) Sys' b → FZ A Sys b ∨ s.heap.get? b = none := by
   rintro b ⟨⟨l, e, h1, h2, h3⟩, _⟩
   rw [hA'] at h1; cases h1
   rcases List.mem_cons.mp h2 with rfl | h2
   ·rw [eF] at h3; cases h3; exact .inr hLf
   ·obtain ⟨_, L, _, g1, g2, _⟩ := hfs e h2
    rw [h3] at g1; cases g1
    exact .inl ⟨⟨l₀, e, hl₀, h2, h3⟩, g2⟩
  have hfr' : FrOk (A.deeper env) Sys' s₁.heap := by
   refine ⟨S.live, _, hA', fun e he => ?_⟩
   rcases List.mem_cons.mp he with q | he
   ·rw [q]
    obtain ⟨o, es, ep, ho', d', _⟩ := x.toInCall.ns
    exact ⟨by rw [e3, O.kind]; decide, env.locals, o, eF, .inr (.inl rfl), ho', fun vs q => by rw [d'] at q; cases q⟩
   ·obtain ⟨g1, L, o, g2, g3, g4, g5⟩ := hfs e he
    exact ⟨g1, L, o, g2, .inl g3, hk _ _ g4, g5⟩
  have Fr : Fx G d (fnSc (G.tbl.map (·.1)) G.xs (G.hots.contains f) G.hots fn dr) (A.deeper env) env lay Sys' s.heap ⟨vs.map some ++ List.replicate (fn.nv - fn.np) none, H, H⟩ s₁ := by
   refine ⟨⟨R.deeper (by rw [e3]; exact O.gen) (by rw [e3]; exact O.cor) e5 e4, EO, fun i p hp => ?_, S, ⟨_, eF, env, l₀, hA', eF⟩, fun e => hcold e⟩, hfr', .inr hhd⟩
   obtain ⟨y, hy, _⟩ := hlay i p hp
   obtain ⟨l, _⟩ := List.getElem?_eq_some_iff.mp hy
   show i < fn.vars.length
   omega
  have raised : ∀ e s', RzS G.mg (A.deeper env) Sys' s.heap s₁ (fun x z' => X x) e s' → wpAny (model G.prog G.w) (A.deeper env) (leaving env e) (fun z' s'' => E e s'') (fun e' s'' => E e' s'') s' := by
   intro e s' q; cases q
  refine sndB hc fn.body (fnSc (G.tbl.map (·.1)) G.xs (G.hots.contains f) G.hots fn dr) dr.body ⟨rfl, rfl, rfl⟩ O.body Fr _ _ _ _ hW (fun fl f' st' s' q r F' p => ?_) raised
  have hsh : ∃ h' tk, s' = { s with heap := h', toks := tk } := by
   obtain ⟨h1, t1, e⟩ := p.sh
   obtain ⟨h2, t2, e'⟩ := x.toInCall.same
   exact ⟨h1, t1, by rw [e, e']⟩
  have kp : Kp (FZ A Sys) s s' := by
   obtain ⟨h', tk, e⟩ := hsh
   have := F'.sim.keep
   subst e
   exact Kp.ofW (this.less ez)
  have hBst : st'.B = H := p.B
  have g : Given G.hf H st'.H Sys Sys' s s' := ⟨F'.sim.objs, fun a q => .inl q, fun a q => p.stay a q, fun a q q' => F'.sim.own a q (by rw [hBst]; exact q'), F'.sim.dis⟩
  cases r with
  | next => exact hK .none .none st'.H Sys' s' q g .none kp
  | brk => exact q.elim
  | cont => exact q.elim
  | ret r => exact hK _ _ st'.H Sys' s' q g r kp
theorem call_all {G : PG} : ∀ d, CallSnd G d
 | 0 => by
  intro R T ho hlive hdis hfr hhd hcold hmg hrv Q X K E hW
  exact hW.elim
 | d + 1 => call_step (call_all d)
end Mine
end
section
set_option autoImplicit false
namespace Mine
open PySem
noncomputable def strOkB (u : Str) : Bool := decide (u.length ≤ sizeLine) && u.cps.all (· < 0x110000)
noncomputable def freeN (p : Program) (loose : List Str) (n : String) : Bool := !(startupNames.contains (Str.ofString n)) && !(loose.contains (Str.ofString n)) && !(((PyProof.Rows.recsOf p).map (·.name)).contains (Str.ofString n)) &&
 !(((PyProof.Rows.litsOf p).map (·.1)).contains (Str.ofString n)) && !(((PyProof.Rows.clssOf p loose).map (·.name)).contains (Str.ofString n))
noncomputable def freeB (p : Program) (loose : List Str) : Bool := bnames.all (freeN p loose)
theorem free_of {p : Program} {loose : List Str} {mean : ExcName → Option Value} {mg mb : Str → Option Value} {h : Heap} (T : PyProof.Rows.Top p loose mean mg mb h) {n : String} (this : freeN p loose n = true) : mg (Str.ofString n) = none := by
 simp only [freeN, Bool.and_eq_true, Bool.not_eq_true', List.contains_eq_mem, decide_eq_false_iff_not] at this
 obtain ⟨⟨⟨⟨h1, h2⟩, h3⟩, h4⟩, h5⟩ := this
 exact T.free _ h1 h2 h3 h4 h5
noncomputable def isI (o : Option PyData) (i : Int) : Bool := by
 cases o with
 | none => exact false
 | some d => cases d with
  | int j => exact i == j
  | _ => exact false
noncomputable def isS (o : Option PyData) (u : Str) : Bool := by
 cases o with
 | none => exact false
 | some d => cases d with
  | str j => exact u == j
  | _ => exact false
theorem isI_eq {o : Option PyData} {i : Int} (h : isI o i = true) : o = some (.int i) := by
 cases o with
 | none => exact ff h
 | some d => cases d with
  | int j => rw [show i = j from eq_of_beq h]
  | _ => exact ff h
theorem isS_eq {o : Option PyData} {i : Str} (h : isS o i = true) : o = some (.str i) := by
 cases o with
 | none => exact ff h
 | some d => cases d with
  | str j => rw [show i = j from eq_of_beq h]
  | _ => exact ff h
noncomputable def constV (v : V) (o : Option PyData) : Bool := by cases v with
 | int i => exact isI o i
 | str u => exact isS o u && strOkB u
 | _ => exact false
noncomputable def constB (p : Program) (gtab : List (String × V)) : Bool := gtab.all fun q => constV q.2 (PyProof.Rows.valOf p (Str.ofString q.1))
theorem any_some {α : Type} {o : Option α} {f : α → Bool} (h : o.any f = true) : ∃ a, o = some a ∧ f a = true := by cases o with
 | none => exact ff h
 | some a => exact ⟨a, rfl, h⟩
theorem lookup_mem {β : Type} {l : List (String × β)} {x : String} {v : β} (h : l.lookup x = some v) : (x, v) ∈ l := by
 obtain ⟨l₁, l₂, rfl, _⟩ := List.lookup_eq_some_iff.mp h
 exact List.mem_append_right _ (List.mem_cons_self ..)
noncomputable def recAt (p : Program) (f : String) : Option DefRec := (PyProof.Rows.recsOf p).find? (·.name == Str.ofString f)
noncomputable def fnB (p : Program) (fns xs hots : List String) (q : String × Fn) : Bool := (recAt p q.1).any (chkFn fns xs (hots.contains q.1) hots q.2)
theorem boot_ok (n : String) (hn : n ∈ bnames) : Str.ofString n ≠ "__name__" ∧ bootBuiltins (Str.ofString n) = some (bval n) :=
 ⟨of_decide_eq_true (List.all_eq_true.mp (show (bnames.all fun n => decide (Str.ofString n ≠ "__name__")) = true by decide) n hn), List.map_inj_left.mp (show bnames.map (fun n => bootBuiltins (Str.ofString n)) = bnames.map fun n => some (bval n) by kernel_rfl) n hn⟩
noncomputable def clsB (c : ClsRec) (n : Nat) (fs : List (String × Ini)) : Bool := fs.all (fun f => c.quiet.contains (Str.ofString f.1)) && c.meths.any fun m => decide (m.name = Str.ofString "__init__") && chkIni n fs m.params m.body m.scope
theorem crow_of {h : Heap} {c : ClsRec} {C N : Addr} {mN : Str → Option Value} {n : Nat} {fs : List (String × Ini)} (P : PyProof.Rows.PlainAt h c C N mN) (hb : clsB c n fs = true) (ht : ∀ f ∈ fs, typeLookup (.type "object") (Str.ofString f.1) = pure none) : CRow h C N mN n fs := by
 obtain ⟨h1, h2⟩ := (Bool.and_eq_true _ _).mp hb
 obtain ⟨m, hm, h2⟩ := List.any_eq_true.mp h2
 obtain ⟨h2, h3⟩ := (Bool.and_eq_true _ _).mp h2
 have hn := of_decide_eq_true h2
 obtain ⟨f, o, pm, cd, doc, g1, g2, g3, g4, g5⟩ := P.meths m hm
 rw [hn] at g1 g4 g5
 exact ⟨P.cls, P.quiet _ (List.mem_append_left _ (.tail _ (.head _))), P.quiet _ (List.mem_append_left _ (.head _)), fun f hf => ⟨P.quiet _ (List.contains_iff_mem.mp (List.all_eq_true.mp h1 f hf)), ht f hf⟩, f, o, pm, cd, doc, _, _, _, _, g1, g2, g3, g4, g5, h3⟩
theorem cls_of {p : Program} {loose : List Str} {mg : Str → Option Value} {h : Heap} {x : String} {n : Nat} {fs : List (String × Ini)} (TE : PyProof.Rows.TopE p loose mg h) (hb : ((PyProof.Rows.plainsOf p loose).any fun c => decide (c.name = Str.ofString x) && clsB c.withCmp n fs) = true) (ht : ∀ f ∈ fs, typeLookup (.type "object") (Str.ofString f.1) = pure none) :
  ∃ C, mg (Str.ofString x) = some (.ref C) ∧ ∃ N0 mN, CRow h C N0 mN n fs := by
 obtain ⟨c, hc, hb⟩ := List.any_eq_true.mp hb
 obtain ⟨h1, h2⟩ := (Bool.and_eq_true _ _).mp hb
 obtain ⟨C, N, mN, e, P⟩ := TE c hc
 rw [of_decide_eq_true h1] at e
 exact ⟨C, e, N, mN, crow_of P h2 ht⟩
theorem tt_of {prog : Program} {w : World} {p : Program} {loose : List Str} {mean : ExcName → Option Value} {mg mb : Str → Option Value} {h : Heap} {tbl : Tbl} {gtab : List (String × V)} {ctab : Clss} {xs hots : List String} (T : PyProof.Rows.Top p loose mean mg mb h)
  (htree : prog.given.tree = none) (himp : PyProof.Rows.importsNone p = true) (hfree : freeB p loose = true) (hconst : constB p gtab = true) (hfn : ∀ q ∈ tbl, fnB p (tbl.map (·.1)) xs hots q = true)
  (hcl : ∀ r ∈ ctab, mg (Str.ofString r.1) = some (.ref r.2.1) ∧ ∃ N0 mN, CRow h r.2.1 N0 mN r.2.2.1 r.2.2.2)
  : TT ⟨prog, w, mg, mb, tbl, gtab, ctab, xs, hots⟩ h := by
 refine ⟨⟨T.g, T.b, T.nolimit, T.seer himp, htree⟩, fun n hn => ⟨?_, ?_⟩, fun f fn hf => ?_, fun x v hx => ?_
  , hcl
  ⟩
 ·exact free_of T (List.all_eq_true.mp hfree n hn)
 ·exact (T.builtins _ (boot_ok n hn).1).trans (boot_ok n hn).2
 ·obtain ⟨dr, hdr, hq⟩ := any_some (hfn _ (lookup_mem hf))
  have hnm : dr.name = Str.ofString f := eq_of_beq (List.find?_some (p := fun r : DefRec => r.name == Str.ofString f) hdr)
  obtain ⟨a, o, pm, code, doc, h1, h2, h3, h4⟩ := T.fn dr (List.mem_of_find?_eq_some hdr)
  exact ⟨dr, a, o, pm, code, doc, hnm ▸ h1, h2, h3, h4, hq⟩
 ·have hq : constV v (PyProof.Rows.valOf p (Str.ofString x)) = true := List.all_eq_true.mp hconst _ (lookup_mem hx)
  cases v with
  | int i =>
   obtain ⟨val, h1, h2⟩ := T.const _ _ (isI_eq hq)
   cases h2 h
   exact .inl ⟨_, _, rfl, h1⟩
  | str u =>
   obtain ⟨hq, hs⟩ := (Bool.and_eq_true _ _).mp hq
   obtain ⟨val, h1, h2⟩ := T.const _ _ (isS_eq hq)
   cases h2 h
   obtain ⟨hs, ht⟩ := (Bool.and_eq_true _ _).mp hs
   rw [← Array.all_toList, List.all_eq_true] at ht
   exact .inr ⟨_, _, rfl, ⟨of_decide_eq_true hs, fun c hc => of_decide_eq_true (ht c hc)⟩, h1⟩
  | _ => exact ff hq
theorem ints_rv {N : Addr → Prop} {h : Heap} {vs : List Value} {ns : List Int} (hi : PyProof.Rows.IntsAre vs ns) : RVs N h (ns.map V.int) vs :=
 PyProof.Rows.IntsAre.rec (motive := fun vs ns z' => RVs N h (ns.map V.int) vs) .nil (fun n t z' z' z' ih => .cons (.int n t) ih) hi
theorem law_top {G : PG} {d : Nat} {s : Shared} {fa a : Addr} {vs : List Value} {ns : List Int} {n : Nat} {f : String} {K E : Value → Shared → Prop} (T : TT G s.heap) (hmg : G.mg (Str.ofString f) = some (.ref fa)) (hl : IsL s.heap a vs.toArray n) (hi : PyProof.Rows.IntsAre vs ns) (hz : ns.length ≤ 63)
  (hd : d ≤ 300) (hW : (G.cx d).call f [.lst (ns.map V.int)] (fun z' => none) (fun v => v = .bool true) (fun z' => False)) (hK : ∀ s', (∃ h' tk, s' = { s with heap := h', toks := tk } ∧ HK s.heap h') → K (.bool true) s') : wpAny (model G.prog G.w) callerA (call (.ref fa) [.ref a]) K E s := by
 have hlen : vs.length = ns.length := (ints_rv (N := fun z' => False) (h := s.heap) hi).length.symm.trans (List.length_map ..)
 have hd0 : HdOk callerA (fun z' => False) s.heap := rfl
 refine call_all d (A := callerA) (H := fun z' => none) (Sys := fun z' => False) (vs := [.lst (ns.map V.int)]) (vals := [.ref a]) ⟨⟨?_, ?_⟩, [], rfl⟩ ⟨_, T, HK.refl _, fun z' q => q.elim (fun q => absurd rfl q) fun q => q.elim⟩ (fun z' z' e => by cases e) (fun z' q => q.elim) (fun z' q => q.elim) ⟨fun z' q => q.elim, [], rfl, fun z' q => by cases q⟩ hd0 (fun z' => rfl) hmg (.cons (.lst (fun q => ?_) hl ?_ (ints_rv hi)) .nil) _ (fun z' => False) K E hW (fun v val H' Sys' s' q g r k => ?_) fun e s' q => q.no.elim
 ·exact Nat.lt_of_le_of_lt (m := 1 + claimMargin + 300 + 150) (Nat.add_le_add_right (Nat.add_le_add_left hd _) _) (by decide)
 ·exact Nat.lt_of_le_of_lt (m := 4 + 20 * 300 + 200) (Nat.add_le_add_right (Nat.add_le_add_left (Nat.mul_le_mul_left 20 hd) 4) 200) (by decide)
 ·rcases q with q | q
  ·exact q rfl
  ·exact q
 ·exact Nat.le_trans (Nat.le_trans (Nat.le_of_eq hlen) hz) (by decide)
 ·have hfz := frz_ok (H := H') (B := fun z' => none) (Sys := fun z' => False) (Sys' := Sys') (h := s'.heap) g.ho g.sub g.stay fun z' z' z' hs => hs
  cases hv' : frz H' (fun z' => none) 8 v with
  | none => rw [hv'] at q; exact q.elim
  | some v' =>
   rw [hv'] at q
   subst q
   cases (hfz 8).1 _ _ _ hv' r
   obtain ⟨h', tk, e, k⟩ := k
   exact hK s' ⟨h', tk, e, fun b o e => (k b o e).1 fun q => q.2⟩
end Mine
end
section
set_option autoImplicit false
namespace Mine
open PySem
end Mine
end
section
set_option maxRecDepth 100000
set_option maxHeartbeats 8000000
open PySem PySem.W PyProof.Rows Mine Mine.L12
set_option tactic.hygienic true in
theorem PySem.Challenge.cw_uf020039_12_holds : PySem.Challenge.rw_uf020039_12.Holds := by
 w_on
 refine PySem.W.holds_law Mine.saidX fun said => ?_
 refine holds_open (q := Mine.viewX) (loose := []) (Xt := fun s => xlAt Mine.viewX [] s && recOk (RowW.records PySem.Challenge.rw_uf020039_12.row.toRowW) s) (XP := XL Mine.viewX []) (Yf := Hook.obs Hook.none) (Ya := Hook.val Hook.none) (YP := Hook.says Hook.none) (N := 5414) Mine.leftX (Hook.of Hook.none) (Hook.keeps Hook.none) (fun s e => xl_of s (Bool.and_eq_true_iff.mp e).1) XL.keeps (by rfl) (by rfl) (by rfl) (fun s e => recFacts_of (Bool.and_eq_true_iff.mp e).2) (by rfl) said (by decide +kernel) ⟨rfl, rfl, rfl, rfl, rfl, by decide +kernel⟩ ?hw ?hc
 case hw => w_witness2
 clear said
 intro w s₀ s₁ mg mb G Y fa o pm cd doc dV kV ho hd hcd hD hmg hg args vals as hpre hlay hrd hwl hlo
 refine Ground.open G ?_
 intro T B D TE TW
 have hmg' : mg (Str.ofString "law") = some (.ref fa) := hmg
 clear hD hcd hd ho hmg Y G B D TW
 wrow_args hpre hlay hrd hwl hlo
 rename_i ns hs hlay0 hL0 hr1 hl2 as2 as3 a vs as4 hL ra w1 r0 hI hr0 hc1 hc2
 have hlist : IsL s₁.heap a vs.toArray 0 := by
  cases w1 with
  | list h1 h2 =>
   obtain ⟨o, ho, _, n, hd⟩ := hL
   rw [h1] at ho; cases ho
   have e : vs.toArray = _ := (Data.seq.inj hd).1.symm
   rw [e]; exact h1
 obtain ⟨C, hC, hrow⟩ := cls_of (x := "Piece") (n := 3) (fs := [("size", .arg 0), ("head", .arg 1), ("tail", .arg 2), ("times", .val (.int 0)), ("first", .val .none)]) TE (by decide +kernel) (by
  intro f hf
  simp only [List.mem_cons, List.not_mem_nil, or_false] at hf
  rcases hf with rfl | rfl | rfl | rfl | rfl <;> (rw [typeLookup_type, builtinLookup_eq_fast]; kernel_rfl))
 have TT1 : TT ⟨PySem.Challenge.rw_uf020039_12.row.prog, w, mg, mb, tbl, gtab, ctab C, [], []⟩ s₁.heap := tt_of T rfl (by decide +kernel) (by decide +kernel) (by decide +kernel) (by decide +kernel) (by intro r hr; rw [List.mem_singleton.mp hr]; exact ⟨hC, hrow⟩)
 refine law_top (G := ⟨PySem.Challenge.rw_uf020039_12.row.prog, w, mg, mb, tbl, gtab, ctab C, [], []⟩) (d := 30) TT1 hmg' hlist hI (by omega) (by decide) (Mine.L12.main C ns (by omega)) fun s' k => ?_
 obtain ⟨h', tk, rfl, hk⟩ := k
 refine ⟨.inl ⟨.bool true, .bool true, [], rfl, ?_, .bool true, ?_, ?_⟩, ?_, rfl, ?_⟩
 ·intro cls; rfl
 ·wrow_post
 ·intro _; exact ⟨List.nodup_nil, by simp⟩
 ·exact .of_keep hk
 ·exact .of_eq hg
end
import PyProof.Rows.All
import PyProof.P3Statements
import PyProof.TableCode
import PyProof.StrCalls2
import KE.IntText
import PyProof.Rows.Top
import PyProof.Rows.TupIn
import PyProof.RangeIter
import PyProof.DictKinds
import PyProof.Cells
import PyProof.CompFree
import OpenK.KWalk
import OpenK.KOwn
import OpenK.KMake
import PyProof.DictStraight
import KE.KIsAll
import KE.KIntText
import PyProof.RangeFor
import PyProof.Rows.Range3
import PyProof.ListCopy
import PyProof.ListRange
import KE.LcSums
import PyProof.StrLoop
import PyProof.SliceMore
import PyProof.CallRoads
import PyProof.AutoListH
import PyProof.AutoSeq1
import PyProof.DictRoads
import PyProof.CompMap
import PyProof.WalksMore
import PyProof.Rows.FStr
import PyProof.TupleIter
import PyProof.Rows.TupAssign
import PyProof.ForAny
import PyProof.WalksPairs
import KE.KUnpack
import PyProof.ZipIter
import PyProof.AssignAttr
import OpenK.KLine
import Wide.All
import OpenK.AllK
import Wide.FinOn
import PyProof.StrLawsTight
import Lean
import PySem.Challenge.RW_uf040004_12
set_option Elab.async false
set_option autoImplicit false
set_option linter.all false
set_option genSizeOf false
/-! JEv -/
namespace Mine
open PySem
noncomputable section

inductive V where
  | none
  | bool (b : Bool)
  | int (i : Int)
  | str (s : Str)
  | tup (vs : List V)
  | ref (n : Nat)
  | rng (b : Int)
  | scr (ns : List Int)
  | lst (vs : List V)

noncomputable instance : DecidableEq V := fun a b => Classical.propDecidable (a = b)

inductive O where
  | list (vs : List V)
  | inst (c : String) (d : Nat)
  | ns (fs : List (String × V))
  /-- the pair that a zip keeps for itself -/
  | own

noncomputable abbrev Hp := List O
noncomputable abbrev Rho := List (String × V)

inductive R (α : Type) where
  | ok (a : α) (H : Hp)
  | stuck

noncomputable def R.bind {α β : Type} : R α → (α → Hp → R β) → R β
  | .ok a H, f => f a H
  | .stuck, _ => .stuck
@[simp] theorem R.bind_ok {α β : Type} (a : α) (H : Hp) (f : α → Hp → R β) : (R.ok a H).bind f = f a H := rfl
@[simp] theorem R.bind_stuck {α β : Type} (f : α → Hp → R β) : (R.stuck : R α).bind f = .stuck := rfl

inductive RS where
  | next (r : Rho) (H : Hp)
  | ret (v : V) (H : Hp)
  | stuck

inductive Op | add | sub | mul | fdiv | mod | pow
  deriving DecidableEq
inductive Cm | eq | ne | lt | le | gt | isIn | notIn | is
  deriving DecidableEq

set_option genInjectivity false in
inductive E where
  | var (x : String)
  | glob (x : String)
  | none
  | bool (b : Bool)
  | int (i : Int)
  | str (s : String)
  | bin (op : Op) (l r : E)
  | not (e : E)
  | and (es : List E)
  | or (es : List E)
  | cmp (l : E) (op : Cm) (r : E)
  | cmp2 (l : E) (op : Cm) (m : E) (op' : Cm) (r : E)
  | call (f : String) (args : List E)
  | isinst (e : E) (T : String)
  | meth (o : E) (m : String) (args : List E)
  | attr (o : E) (a : String)
  | idx (o i : E)
  | slice (o lo hi : E)
  | list (es : List E)
  | tup (es : List E)
  | menu (es : List E) (i : E)
  | comp (elt : E) (x : String) (it : E)
  /-- a field of an f-string -/
  | fmt (e : E)
  | fstr (es : List E)

set_option genInjectivity false in
inductive S where
  | asg (x : String) (e : E)
  | unpack (xs : List String) (e : E)
  | setattr (o : E) (a : String) (e : E)
  | ret (e : E)
  | iff (t : E) (a b : List S)
  | for1 (x : String) (e : E) (b : List S)
  | forT (xs : List String) (e : E) (b : List S)
  | forZ (xs : List String) (es : List E) (b : List S)
  | whil (t : E) (b : List S)
  | expr (e : E)
  /-- a statement that is never reached -/
  | stop

/-! primitive operations -/
noncomputable def line : Nat := 1048576

noncomputable def new (o : O) (H : Hp) : R V := .ok (.ref H.length) (H ++ [o])

noncomputable def place (i : Int) (n : Nat) : Option Nat :=
  if 0 ≤ i then (if i < n then some i.toNat else none) else (if -(n : Int) ≤ i then some (i + n).toNat else none)

noncomputable def listAt (v : V) (H : Hp) : Option (List V) := match v with
  | .ref n => (match H[n]? with | some (.list xs) => some xs | _ => Option.none)
  | _ => Option.none
noncomputable def flatD : V → Option PyData
  | .none => some .none
  | .bool b => some (.bool b)
  | .int i => some (.int i)
  | .str s => some (.str s)
  | _ => Option.none
noncomputable def snap : Nat → Hp → V → Option PyData
  | 0, _, v => flatD v
  | n + 1, H, v => match v with
    | .tup vs => (vs.mapM (snap n H)).map .tuple
    | .ref k => (listAt (.ref k) H).bind fun vs => (vs.mapM (snap n H)).map .list
    | v => flatD v

noncomputable def eqData (H : Hp) (a b : V) : Option Bool := do
  let x ← snap 8 H a
  let y ← snap 8 H b
  return PyData.eqv x y

noncomputable def eqV (H : Hp) (a b : V) : Option Bool := eqData H a b

noncomputable def intOp (op : Op) (x y : Int) : Option Int := match op with
  | .add => some (x + y)
  | .sub => some (x - y)
  | .mul => if x.natAbs < 2 ^ 64 ∨ y.natAbs < 2 ^ 64 then some (x * y) else Option.none
  | .fdiv => if y ≠ 0 ∧ y.natAbs < 1073741824 then some (x.fdiv y) else Option.none
  | .mod => if y ≠ 0 then some (x.fmod y) else Option.none
  | .pow => if 0 ≤ x ∧ x ≤ 10 ∧ 0 ≤ y ∧ y ≤ 100 then some (x ^ y.toNat) else Option.none
noncomputable def intAt : V → Option Int
  | .int i => some i
  | _ => Option.none
noncomputable def strAt : V → Option Str
  | .str s => some s
  | _ => Option.none
noncomputable def addS (a b : V) (H : Hp) : R V := match strAt a with
  | some x => (match strAt b with
    | some y => if x.length + y.length ≤ line then .ok (.str (x ++ y)) H else .stuck
    | Option.none => .stuck)
  | Option.none => .stuck
noncomputable def bin (op : Op) (a b : V) (H : Hp) : R V := match intAt a with
  | some x => (match intAt b with
    | some y => (match intOp op x y with | some z => .ok (.int z) H | Option.none => .stuck)
    | Option.none => .stuck)
  | Option.none => if op = .add then addS a b H else .stuck

noncomputable def inTup (H : Hp) (x : V) (vs : List V) : Option Bool := (snap 8 H x).bind fun d => (vs.mapM (snap 8 H)).map fun ys => ys.any fun y => PyData.eqv y d
noncomputable def isIn (H : Hp) (a b : V) : Option Bool :=
  match b with
  | .tup vs => inTup H a vs
  | .str y => (strAt a).map fun x => !(Builtin.Str.occurrences y x 0 y.length 1).isEmpty
  | _ => Option.none

noncomputable def isNoneV : V → Bool
  | .none => true
  | _ => false
noncomputable def cmpI (op : Cm) (x y : Int) : Option Bool := match op with
  | .lt => some (decide (x < y))
  | .le => some (decide (x ≤ y))
  | .gt => some (decide (y < x))
  | _ => Option.none
noncomputable def cmp (op : Cm) (a b : V) (H : Hp) : Option Bool :=
  match op with
  | .eq => eqV H a b
  | .ne => (eqV H a b).map (!·)
  | .isIn => isIn H a b
  | .notIn => (isIn H a b).map (!·)
  | .is => if isNoneV b then some (isNoneV a) else Option.none
  | op => match intAt a with
    | some x => (match intAt b with | some y => cmpI op x y | Option.none => Option.none)
    | Option.none => Option.none

noncomputable def truth (v : V) : Option Bool :=
  match v with
  | .bool b => some b
  | _ => Option.none

noncomputable def ofO {α : Type} (H : Hp) : Option α → R α
  | some a => .ok a H
  | Option.none => .stuck

noncomputable def rangeL (b : Int) : List Int := (List.range b.toNat).map fun (k : Nat) => (k : Int)

noncomputable def signs (x : Str) : List V := x.cps.toList.map fun c => .str ⟨#[c]⟩
noncomputable def items (H : Hp) : V → Option (List V)
  | .tup vs => some vs
  | .rng b => if -500000 ≤ b ∧ b ≤ 500000 then some ((rangeL b).map .int) else Option.none
  | .str x => if x.cps.all (· < 128) && decide (x.length ≤ line) then some (signs x) else Option.none
  | v => listAt v H

noncomputable def biLen (vs : List V) (H : Hp) : R V := match vs with
  | [v] => (match v with
    | .scr xs => .ok (.int xs.length) H
    | .tup xs => .ok (.int xs.length) H
    | .str x => if x.length ≤ line then .ok (.int x.length) H else .stuck
    | v => (match listAt v H with | some xs => .ok (.int xs.length) H | Option.none => .stuck))
  | _ => .stuck
noncomputable def two' (vs : List V) : Option (Int × Int) := match vs with
  | [a, b] => (match intAt a with | some x => (match intAt b with | some y => some (x, y) | Option.none => Option.none) | Option.none => Option.none)
  | _ => Option.none
noncomputable def biMin (vs : List V) (H : Hp) : R V := match two' vs with
  | some p => .ok (.int (if p.2 < p.1 then p.2 else p.1)) H
  | Option.none => .stuck
noncomputable def biMax (vs : List V) (H : Hp) : R V := match two' vs with
  | some p => .ok (.int (if p.1 < p.2 then p.2 else p.1)) H
  | Option.none => .stuck
noncomputable def biRange (vs : List V) (H : Hp) : R V := match vs with
  | [v] => (match intAt v with
    | some a => .ok (.rng a) H
    | Option.none => .stuck)
  | _ => .stuck
noncomputable def biList (vs : List V) (H : Hp) : R V := match vs with
  | [v] => (match listAt v H with | some xs => new (.list xs) H | Option.none => .stuck)
  | _ => .stuck
noncomputable def biInt (vs : List V) (H : Hp) : R V := match vs with
  | [v] => (match strAt v with
    | some x => if x.length ≤ 640 then (match intText? x with | some n => .ok (.int n) H | Option.none => .stuck) else .stuck
    | Option.none => .stuck)
  | _ => .stuck
noncomputable def bools (vs : List V) : Option (List Bool) := vs.mapM truth
noncomputable def biAll (vs : List V) (H : Hp) : R V := match vs with
  | [v] => (match (listAt v H).bind bools with
    | some bs => .ok (.bool (bs.all id)) H
    | Option.none => .stuck)
  | _ => .stuck
noncomputable def builtin (f : String) (vs : List V) (H : Hp) : R V :=
  if f = "len" then biLen vs H else if f = "all" then biAll vs H else if f = "min" then biMin vs H else if f = "max" then biMax vs H
  else if f = "range" then biRange vs H else if f = "list" then biList vs H else if f = "int" then biInt vs H else .stuck

noncomputable def kindV (v : V) (H : Hp) : Option String :=
  match v with
  | .bool _ => some "bool"
  | .int _ => some "int"
  | .tup _ => some "tuple"
  | .str _ => some "str"
  | v => (match listAt v H with | some _ => some "list" | Option.none => Option.none)
noncomputable def mAppend (o : V) (vs : List V) (H : Hp) : R V := match o with
  | .ref n => (match listAt (.ref n) H with
    | some xs => (match vs with | [v] => if xs.length < line then .ok .none (H.set n (.list (xs ++ [v]))) else .stuck | _ => .stuck)
    | Option.none => .stuck)
  | _ => .stuck
noncomputable def textsV (vs : List V) : Option (List Str) := vs.mapM strAt
noncomputable def mSplit (o : V) (vs : List V) (H : Hp) : R V := match strAt o with
  | some x => (match vs with
    | [v] => (match strAt v with
      | some y => if x.length ≤ 100000 ∧ y.length ≠ 0 ∧ (Txt.split x y).length ≤ line ∧ (Txt.split x y).all PyData.strOk = true then new (.list ((Txt.split x y).map .str)) H else .stuck
      | Option.none => .stuck)
    | _ => .stuck)
  | Option.none => .stuck
noncomputable def mJoin (o : V) (vs : List V) (H : Hp) : R V := match strAt o with
  | some x => (match vs with
    | [v] => (match (listAt v H).bind textsV with
      | some ys => if JoinOk x ys = true ∧ PyData.strOk (Txt.join x ys) = true then .ok (.str (Txt.join x ys)) H else .stuck
      | Option.none => .stuck)
    | _ => .stuck)
  | Option.none => .stuck
noncomputable def mName (m : String) : Bool := m == "append" || m == "split" || m == "join"
noncomputable def meth (T : String) (o : V) (m : String) (vs : List V) (H : Hp) : R V :=
  if m = "append" then (if T = "list" then mAppend o vs H else .stuck) else if m = "split" then (if T = "str" then mSplit o vs H else .stuck) else if m = "join" then (if T = "str" then mJoin o vs H else .stuck) else .stuck

noncomputable def itemAt (xs : List V) (k : Int) (H : Hp) : R V := ofO H ((place k xs.length).bind (xs[·]?))
noncomputable def index (o i : V) (H : Hp) : R V :=
  match intAt i with
  | some k => (match o with
    | .tup xs => itemAt xs k H
    | .scr xs => itemAt (xs.map .int) k H
    | .lst xs => itemAt xs k H
    | .str x => if x.length ≤ line then itemAt (signs x) k H else .stuck
    | o => (match listAt o H with
      | some xs => itemAt xs k H
      | Option.none => .stuck))
  | Option.none => .stuck

noncomputable def sliceV (o l u : V) (H : Hp) : R V := match listAt o H with
  | some xs => (match intAt l with
    | some a => (match intAt u with
      | some b => if 0 ≤ a ∧ a ≤ b ∧ b ≤ xs.length then new (.list ((xs.drop a.toNat).take (b - a).toNat)) H else .stuck
      | Option.none => .stuck)
    | Option.none => .stuck)
  | Option.none => .stuck

noncomputable def attrName (a : String) : Bool := a == "road" || a == "home" || a == "start" || a == "stops"
noncomputable def attrV (o : V) (a : String) (H : Hp) : R V :=
  match o with
  | .ref n => match H[n]? with
    | some (.inst _ d) => match H[d]? with
      | some (.ns fs) => ofO H (fs.lookup a)
      | _ => .stuck
    | _ => .stuck
  | _ => .stuck

noncomputable def setL (x : String) (v : V) : Rho → Rho
  | [] => [(x, v)]
  | (y, w) :: r => if y = x then (y, v) :: r else (y, w) :: setL x v r

noncomputable def setA (o : V) (a : String) (v : V) (H : Hp) : R Unit :=
  match o with
  | .ref n => match H[n]? with
    | some (.inst _ d) => match H[d]? with
      | some (.ns fs) => if fs.length ≤ 20 then .ok () (H.set d (.ns (setL a v fs))) else .stuck
      | _ => .stuck
    | _ => .stuck
  | _ => .stuck

noncomputable def fmtV (v : V) (H : Hp) : R V := match v with
  | .int i => if i.natAbs < 10 ^ 30 then .ok (.str (Str.ofString (toString i))) H else .stuck
  | .str x => if x.length ≤ line then .ok (.str x) H else .stuck
  | _ => .stuck
noncomputable def catS : List V → Str → Option Str
  | [], x => some x
  | v :: vs, x => match strAt v with
    | some y => if (x ++ y).length ≤ line then catS vs (x ++ y) else Option.none
    | Option.none => Option.none

noncomputable def bTypes : List String := ["int", "bool", "tuple", "list", "str"]

noncomputable def isinst (v : V) (T : String) (H : Hp) : Option Bool :=
  if bTypes.contains T then (kindV v H).map fun k => k == T || (k == "bool" && T == "int")
  else match v with
    | .ref n => match H[n]? with
      | some (.inst c _) => if c = T then some true else Option.none
      | _ => Option.none
    | _ => Option.none

set_option genInjectivity false in
structure Fn where
  call : String → List V → Hp → R V
  const : String → Option V

noncomputable def turns (f : V → Hp → R V) (chk : Hp → Bool) (k : Nat) : List V → Hp → R Unit
  | [], H => if chk H then .ok () H else .stuck
  | v :: vs, H => if chk H then match f v H with
      | .ok w H1 => match H1[k]? with
        | some (.list ys) => if ys.length < line then turns f chk k vs (H1.set k (.list (ys ++ [w]))) else .stuck
        | _ => .stuck
      | _ => .stuck
    else .stuck

noncomputable def sameO (o : V) (H : Hp) (H' : Hp) : Bool :=
  match o with
  | .ref n => match H[n]?, H'[n]? with
    | some (.list xs), some (.list ys) => decide (xs = ys)
    | _, _ => false
  | _ => true

noncomputable def truthR (x : R V) : R Bool := x.bind fun v H => ofO H (truth v)

noncomputable def compV (f : V → Hp → R V) (v : V) (H1 : Hp) : R V := match items H1 v with
  | some xs => (turns f (sameO v H1) H1.length xs (H1 ++ [.list []])).bind fun _ H5 => .ok (.ref H1.length) H5
  | Option.none => .stuck
noncomputable def callF (Γ : Fn) (f : String) (vs : List V) (H : Hp) : R V := match builtin f vs H with
  | .stuck => Γ.call f vs H
  | r => r

mutual
noncomputable def evE (Γ : Fn) (ρ : Rho) : E → Hp → R V
  | .var x, H => ofO H (ρ.lookup x)
  | .glob x, H => ofO H (Γ.const x)
  | .none, H => .ok .none H
  | .bool b, H => .ok (.bool b) H
  | .int i, H => .ok (.int i) H
  | .str s, H => .ok (.str (Str.ofString s)) H
  | .bin op l r, H => (evE Γ ρ l H).bind fun a H1 => (evE Γ ρ r H1).bind fun b H2 => bin op a b H2
  | .not e, H => (truthR (evE Γ ρ e H)).bind fun b H1 => .ok (.bool (!b)) H1
  | .and es, H => evAnd Γ ρ es H
  | .or es, H => evOr Γ ρ es H
  | .cmp l op r, H => (evE Γ ρ l H).bind fun a H1 => (evE Γ ρ r H1).bind fun b H2 => ofO H2 ((cmp op a b H2).map .bool)
  | .cmp2 l op m op' r, H => (evE Γ ρ l H).bind fun a H1 => (evE Γ ρ m H1).bind fun b H2 => (ofO H2 (cmp op a b H2)).bind fun t H3 =>
      if t then (evE Γ ρ r H3).bind fun c H4 => ofO H4 ((cmp op' b c H4).map .bool) else .ok (.bool false) H3
  | .call f args, H => (evEs Γ ρ args H).bind fun vs H1 => callF Γ f vs H1
  | .isinst e T, H => (evE Γ ρ e H).bind fun v H1 => ofO H1 ((isinst v T H1).map .bool)
  | .meth o m args, H => (evE Γ ρ o H).bind fun v H1 => (ofO H1 (kindV v H1)).bind fun T H1 => (evEs Γ ρ args H1).bind fun vs H2 => meth T v m vs H2
  | .attr o a, H => (evE Γ ρ o H).bind fun v H1 => attrV v a H1
  | .idx o i, H => (evE Γ ρ o H).bind fun v H1 => (evE Γ ρ i H1).bind fun k H2 => index v k H2
  | .slice o lo hi, H => (evE Γ ρ o H).bind fun v H1 => (evE Γ ρ lo H1).bind fun l H2 => (evE Γ ρ hi H2).bind fun u H3 => sliceV v l u H3
  | .list es, H => (evEs Γ ρ es H).bind fun vs H1 => new (.list vs) H1
  | .tup es, H => (evEs Γ ρ es H).bind fun vs H1 => .ok (.tup vs) H1
  | .menu es i, H => (evEs Γ ρ es H).bind fun vs H1 => (evE Γ ρ i H1).bind fun k H2 => index (.lst vs) k H2
  | .comp elt x it, H => (evE Γ ρ it H).bind fun v H1 => compV (fun y H2 => evE Γ ((x, y) :: ρ) elt H2) v H1
  | .fmt e, H => (evE Γ ρ e H).bind fun v H1 => fmtV v H1
  | .fstr es, H => (evEs Γ ρ es H).bind fun vs H1 => ofO H1 ((catS vs Str.empty).map .str)
noncomputable def evAnd (Γ : Fn) (ρ : Rho) : List E → Hp → R V
  | [], _ => .stuck
  | [e], H => evE Γ ρ e H
  | e :: es, H => (truthR (evE Γ ρ e H)).bind fun t H2 => if t then evAnd Γ ρ es H2 else .ok (.bool false) H2
noncomputable def evOr (Γ : Fn) (ρ : Rho) : List E → Hp → R V
  | [], _ => .stuck
  | [e], H => evE Γ ρ e H
  | e :: es, H => (truthR (evE Γ ρ e H)).bind fun t H2 => if t then .ok (.bool true) H2 else evOr Γ ρ es H2
noncomputable def evEs (Γ : Fn) (ρ : Rho) : List E → Hp → R (List V)
  | [], H => .ok [] H
  | e :: es, H => (evE Γ ρ e H).bind fun v H1 => (evEs Γ ρ es H1).bind fun vs H2 => .ok (v :: vs) H2
end
@[simp] theorem evE_var (Γ : Fn) (ρ : Rho) (x : String) (H : Hp) : evE Γ ρ (.var x) H = (ofO H (ρ.lookup x)) := rfl
@[simp] theorem evE_glob (Γ : Fn) (ρ : Rho) (x : String) (H : Hp) : evE Γ ρ (.glob x) H = (ofO H (Γ.const x)) := rfl
@[simp] theorem evE_none (Γ : Fn) (ρ : Rho)  (H : Hp) : evE Γ ρ (.none) H = (.ok .none H) := rfl
@[simp] theorem evE_bool (Γ : Fn) (ρ : Rho) (b : Bool) (H : Hp) : evE Γ ρ (.bool b) H = (.ok (.bool b) H) := rfl
@[simp] theorem evE_int (Γ : Fn) (ρ : Rho) (i : Int) (H : Hp) : evE Γ ρ (.int i) H = (.ok (.int i) H) := rfl
@[simp] theorem evE_str (Γ : Fn) (ρ : Rho) (s : String) (H : Hp) : evE Γ ρ (.str s) H = (.ok (.str (Str.ofString s)) H) := rfl
@[simp] theorem evE_bin (Γ : Fn) (ρ : Rho) (op : Op) (l r : E) (H : Hp) : evE Γ ρ (.bin op l r) H = ((evE Γ ρ l H).bind fun a H1 => (evE Γ ρ r H1).bind fun b H2 => bin op a b H2) := rfl
@[simp] theorem evE_not (Γ : Fn) (ρ : Rho) (e : E) (H : Hp) : evE Γ ρ (.not e) H = ((truthR (evE Γ ρ e H)).bind fun b H1 => .ok (.bool (!b)) H1) := rfl
@[simp] theorem evE_and (Γ : Fn) (ρ : Rho) (es : List E) (H : Hp) : evE Γ ρ (.and es) H = (evAnd Γ ρ es H) := rfl
@[simp] theorem evE_or (Γ : Fn) (ρ : Rho) (es : List E) (H : Hp) : evE Γ ρ (.or es) H = (evOr Γ ρ es H) := rfl
@[simp] theorem evE_cmp (Γ : Fn) (ρ : Rho) (l : E) (op : Cm) (r : E) (H : Hp) : evE Γ ρ (.cmp l op r) H = ((evE Γ ρ l H).bind fun a H1 => (evE Γ ρ r H1).bind fun b H2 => ofO H2 ((cmp op a b H2).map .bool)) := rfl
@[simp] theorem evE_cmp2 (Γ : Fn) (ρ : Rho) (l : E) (op : Cm) (m : E) (op' : Cm) (r : E) (H : Hp) : evE Γ ρ (.cmp2 l op m op' r) H = ((evE Γ ρ l H).bind fun a H1 => (evE Γ ρ m H1).bind fun b H2 => (ofO H2 (cmp op a b H2)).bind fun t H3 =>
      if t then (evE Γ ρ r H3).bind fun c H4 => ofO H4 ((cmp op' b c H4).map .bool) else .ok (.bool false) H3) := rfl
@[simp] theorem evE_call (Γ : Fn) (ρ : Rho) (f : String) (args : List E) (H : Hp) : evE Γ ρ (.call f args) H = ((evEs Γ ρ args H).bind fun vs H1 => callF Γ f vs H1) := rfl
@[simp] theorem evE_isinst (Γ : Fn) (ρ : Rho) (e : E) (T : String) (H : Hp) : evE Γ ρ (.isinst e T) H = ((evE Γ ρ e H).bind fun v H1 => ofO H1 ((isinst v T H1).map .bool)) := rfl
@[simp] theorem evE_meth (Γ : Fn) (ρ : Rho) (o : E) (m : String) (args : List E) (H : Hp) : evE Γ ρ (.meth o m args) H = ((evE Γ ρ o H).bind fun v H1 => (ofO H1 (kindV v H1)).bind fun T H1 => (evEs Γ ρ args H1).bind fun vs H2 => meth T v m vs H2) := rfl
@[simp] theorem evE_attr (Γ : Fn) (ρ : Rho) (o : E) (a : String) (H : Hp) : evE Γ ρ (.attr o a) H = ((evE Γ ρ o H).bind fun v H1 => attrV v a H1) := rfl
@[simp] theorem evE_idx (Γ : Fn) (ρ : Rho) (o i : E) (H : Hp) : evE Γ ρ (.idx o i) H = ((evE Γ ρ o H).bind fun v H1 => (evE Γ ρ i H1).bind fun k H2 => index v k H2) := rfl
@[simp] theorem evE_slice (Γ : Fn) (ρ : Rho) (o lo hi : E) (H : Hp) : evE Γ ρ (.slice o lo hi) H = ((evE Γ ρ o H).bind fun v H1 => (evE Γ ρ lo H1).bind fun l H2 => (evE Γ ρ hi H2).bind fun u H3 => sliceV v l u H3) := rfl
@[simp] theorem evE_list (Γ : Fn) (ρ : Rho) (es : List E) (H : Hp) : evE Γ ρ (.list es) H = ((evEs Γ ρ es H).bind fun vs H1 => new (.list vs) H1) := rfl
@[simp] theorem evE_tup (Γ : Fn) (ρ : Rho) (es : List E) (H : Hp) : evE Γ ρ (.tup es) H = ((evEs Γ ρ es H).bind fun vs H1 => .ok (.tup vs) H1) := rfl
@[simp] theorem evE_menu (Γ : Fn) (ρ : Rho) (es : List E) (i : E) (H : Hp) : evE Γ ρ (.menu es i) H = ((evEs Γ ρ es H).bind fun vs H1 => (evE Γ ρ i H1).bind fun k H2 => index (.lst vs) k H2) := rfl
@[simp] theorem evE_comp (Γ : Fn) (ρ : Rho) (elt : E) (x : String) (it : E) (H : Hp) : evE Γ ρ (.comp elt x it) H = ((evE Γ ρ it H).bind fun v H1 => compV (fun y H2 => evE Γ ((x, y) :: ρ) elt H2) v H1) := rfl
@[simp] theorem evE_fmt (Γ : Fn) (ρ : Rho) (e : E) (H : Hp) : evE Γ ρ (.fmt e) H = ((evE Γ ρ e H).bind fun v H1 => fmtV v H1) := rfl
@[simp] theorem evE_fstr (Γ : Fn) (ρ : Rho) (es : List E) (H : Hp) : evE Γ ρ (.fstr es) H = ((evEs Γ ρ es H).bind fun vs H1 => ofO H1 ((catS vs Str.empty).map .str)) := rfl
@[simp] theorem evAnd_one (Γ : Fn) (ρ : Rho) (e : E) (H : Hp) : evAnd Γ ρ [e] H = evE Γ ρ e H := rfl
@[simp] theorem evOr_one (Γ : Fn) (ρ : Rho) (e : E) (H : Hp) : evOr Γ ρ [e] H = evE Γ ρ e H := rfl
@[simp] theorem evAnd_cons (Γ : Fn) (ρ : Rho) (e e2 : E) (es : List E) (H : Hp) : evAnd Γ ρ (e :: e2 :: es) H = (truthR (evE Γ ρ e H)).bind fun t H2 => if t then evAnd Γ ρ (e2 :: es) H2 else .ok (.bool false) H2 := rfl
@[simp] theorem evOr_cons (Γ : Fn) (ρ : Rho) (e e2 : E) (es : List E) (H : Hp) : evOr Γ ρ (e :: e2 :: es) H = (truthR (evE Γ ρ e H)).bind fun t H2 => if t then .ok (.bool true) H2 else evOr Γ ρ (e2 :: es) H2 := rfl
@[simp] theorem evEs_nil (Γ : Fn) (ρ : Rho) (H : Hp) : evEs Γ ρ [] H = .ok [] H := rfl
@[simp] theorem evEs_cons (Γ : Fn) (ρ : Rho) (e : E) (es : List E) (H : Hp) : evEs Γ ρ (e :: es) H = (evE Γ ρ e H).bind fun v H1 => (evEs Γ ρ es H1).bind fun vs H2 => .ok (v :: vs) H2 := rfl
noncomputable def evT (Γ : Fn) (ρ : Rho) (e : E) (H : Hp) : R Bool := truthR (evE Γ ρ e H)
noncomputable def setAll : List String → List V → Rho → Option Rho
  | [], [], ρ => some ρ
  | x :: xs, v :: vs, ρ => setAll xs vs (setL x v ρ)
  | _, _, _ => Option.none

noncomputable def RS.bind (r : RS) (k : Rho → Hp → RS) : RS := match r with
  | .next ρ H => k ρ H
  | .ret v H => .ret v H
  | .stuck => .stuck
noncomputable def forL (body : V → Rho → Hp → RS) (chk : Hp → Bool) : List V → Rho → Hp → RS
  | [], ρ, H => if chk H then .next ρ H else .stuck
  | v :: vs, ρ, H => if chk H then (body v ρ H).bind fun ρ1 H1 => forL body chk vs ρ1 H1 else .stuck
noncomputable def forV (body : V → Rho → Hp → RS) (v : V) (ρ : Rho) (H : Hp) : RS := match items H v with
  | some xs => forL body (sameO v H) xs ρ H
  | Option.none => .stuck
noncomputable def forVL (body : V → Rho → Hp → RS) (v : V) (ρ : Rho) (H : Hp) : RS := match listAt v H with
  | some _ => forV body v ρ H
  | Option.none => .stuck
noncomputable def isOwn : Option O → Bool
  | some .own => true
  | _ => false
noncomputable def pairsZ (xs ys : List V) : List V := (xs.zip ys).map fun p => .tup [p.1, p.2]
noncomputable def forZ (body : V → Rho → Hp → RS) (vs : List V) (ρ : Rho) (H : Hp) : RS := match vs with
  | [v, w] => (match listAt v H with
    | some xs => (match w with
      | .tup ys => if xs.length = ys.length then forL body (fun H' => sameO v H H' && isOwn H'[H.length]?) (pairsZ xs ys) ρ (H ++ [.own]) else .stuck
      | _ => .stuck)
    | Option.none => .stuck)
  | _ => .stuck
noncomputable def ofR {α : Type} (x : R α) (k : α → Hp → RS) : RS :=
  match x with
  | .ok a H => k a H
  | .stuck => .stuck
noncomputable def whileL (t : Rho → Hp → R Bool) (b : Rho → Hp → RS) : Nat → Rho → Hp → RS
  | 0, _, _ => .stuck
  | n + 1, ρ, H => ofR (t ρ H) fun c H1 => if c then (b ρ H1).bind fun ρ1 H2 => whileL t b n ρ1 H2 else .next ρ H1
noncomputable def partsV (v : V) (H : Hp) : Option (List V) := match v with
  | .tup vs => some vs
  | v => listAt v H
noncomputable def unpackV (xs : List String) (v : V) (ρ : Rho) (H : Hp) (k : Rho → RS) : RS := match partsV v H with
  | some vs => (match setAll xs vs ρ with
    | some ρ1 => k ρ1
    | Option.none => .stuck)
  | Option.none => .stuck

mutual
noncomputable def exS (Γ : Fn) : S → Rho → Hp → RS
  | .asg x e, ρ, H => ofR (evE Γ ρ e H) fun v H1 => .next (setL x v ρ) H1
  | .unpack xs e, ρ, H => ofR (evE Γ ρ e H) fun v H1 => unpackV xs v ρ H1 fun ρ1 => .next ρ1 H1
  | .setattr o a e, ρ, H => ofR (evE Γ ρ e H) fun v H1 => ofR (evE Γ ρ o H1) fun w H2 => ofR (setA w a v H2) fun _ H3 => .next ρ H3
  | .ret e, ρ, H => ofR (evE Γ ρ e H) fun v H1 => .ret v H1
  | .iff t a b, ρ, H => ofR (evT Γ ρ t H) fun c H1 => if c then exSs Γ a ρ H1 else exSs Γ b ρ H1
  | .for1 x e b, ρ, H => ofR (evE Γ ρ e H) fun v H1 => forV (fun v ρ1 H2 => exSs Γ b (setL x v ρ1) H2) v ρ H1
  | .forT xs e b, ρ, H => ofR (evE Γ ρ e H) fun v H1 => forVL (fun v ρ1 H2 => unpackV xs v ρ1 H2 fun ρ2 => exSs Γ b ρ2 H2) v ρ H1
  | .forZ xs es b, ρ, H => ofR (evEs Γ ρ es H) fun vs H1 => forZ (fun v ρ1 H2 => unpackV xs v ρ1 H2 fun ρ2 => exSs Γ b ρ2 H2) vs ρ H1
  | .whil t b, ρ, H => whileL (fun ρ H => evT Γ ρ t H) (fun ρ H => exSs Γ b ρ H) 64 ρ H
  | .expr e, ρ, H => ofR (evE Γ ρ e H) fun _ H1 => .next ρ H1
  | .stop, _, _ => .stuck
noncomputable def exSs (Γ : Fn) : List S → Rho → Hp → RS
  | [], ρ, H => .next ρ H
  | s :: ss, ρ, H => (exS Γ s ρ H).bind fun ρ1 H1 => exSs Γ ss ρ1 H1
end
@[simp] theorem exS_asg (Γ : Fn) (x : String) (e : E) (ρ : Rho) (H : Hp) : exS Γ (.asg x e) ρ H = (ofR (evE Γ ρ e H) fun v H1 => .next (setL x v ρ) H1) := rfl
@[simp] theorem exS_unpack (Γ : Fn) (xs : List String) (e : E) (ρ : Rho) (H : Hp) : exS Γ (.unpack xs e) ρ H = (ofR (evE Γ ρ e H) fun v H1 => unpackV xs v ρ H1 fun ρ1 => .next ρ1 H1) := rfl
@[simp] theorem exS_setattr (Γ : Fn) (o : E) (a : String) (e : E) (ρ : Rho) (H : Hp) : exS Γ (.setattr o a e) ρ H = (ofR (evE Γ ρ e H) fun v H1 => ofR (evE Γ ρ o H1) fun w H2 => ofR (setA w a v H2) fun _ H3 => .next ρ H3) := rfl
@[simp] theorem exS_ret (Γ : Fn) (e : E) (ρ : Rho) (H : Hp) : exS Γ (.ret e) ρ H = (ofR (evE Γ ρ e H) fun v H1 => .ret v H1) := rfl
@[simp] theorem exS_iff (Γ : Fn) (t : E) (a b : List S) (ρ : Rho) (H : Hp) : exS Γ (.iff t a b) ρ H = (ofR (evT Γ ρ t H) fun c H1 => if c then exSs Γ a ρ H1 else exSs Γ b ρ H1) := rfl
@[simp] theorem exS_for1 (Γ : Fn) (x : String) (e : E) (b : List S) (ρ : Rho) (H : Hp) : exS Γ (.for1 x e b) ρ H = (ofR (evE Γ ρ e H) fun v H1 => forV (fun v ρ1 H2 => exSs Γ b (setL x v ρ1) H2) v ρ H1) := rfl
@[simp] theorem exS_forT (Γ : Fn) (xs : List String) (e : E) (b : List S) (ρ : Rho) (H : Hp) : exS Γ (.forT xs e b) ρ H = (ofR (evE Γ ρ e H) fun v H1 => forVL (fun v ρ1 H2 => unpackV xs v ρ1 H2 fun ρ2 => exSs Γ b ρ2 H2) v ρ H1) := rfl
@[simp] theorem exS_forZ (Γ : Fn) (xs : List String) (es : List E) (b : List S) (ρ : Rho) (H : Hp) : exS Γ (.forZ xs es b) ρ H = (ofR (evEs Γ ρ es H) fun vs H1 => forZ (fun v ρ1 H2 => unpackV xs v ρ1 H2 fun ρ2 => exSs Γ b ρ2 H2) vs ρ H1) := rfl
@[simp] theorem exS_whil (Γ : Fn) (t : E) (b : List S) (ρ : Rho) (H : Hp) : exS Γ (.whil t b) ρ H = (whileL (fun ρ H => evT Γ ρ t H) (fun ρ H => exSs Γ b ρ H) 64 ρ H) := rfl
@[simp] theorem exS_expr (Γ : Fn) (e : E) (ρ : Rho) (H : Hp) : exS Γ (.expr e) ρ H = (ofR (evE Γ ρ e H) fun _ H1 => .next ρ H1) := rfl
@[simp] theorem exS_stop (Γ : Fn)  (ρ : Rho) (H : Hp) : exS Γ (.stop) ρ H = (.stuck) := rfl
@[simp] theorem exSs_nil (Γ : Fn) (ρ : Rho) (H : Hp) : exSs Γ [] ρ H = .next ρ H := rfl
@[simp] theorem exSs_cons (Γ : Fn) (s : S) (ss : List S) (ρ : Rho) (H : Hp) : exSs Γ (s :: ss) ρ H = (exS Γ s ρ H).bind fun ρ1 H1 => exSs Γ ss ρ1 H1 := rfl

set_option genInjectivity false in
structure Def where
  name : String
  params : List String
  body : List S

noncomputable def runDef (Γ : Fn) (d : Def) (vs : List V) (H : Hp) : R V :=
  match setAll d.params vs [] with
  | some ρ => match exSs Γ d.body ρ H with
    | .next _ H1 => .ok .none H1
    | .ret v H1 => .ok v H1
    | _ => .stuck
  | Option.none => .stuck

noncomputable def runClass (Γ : Fn) (c : String) (d : Def) (vs : List V) (H : Hp) : R V :=
  (runDef Γ d (.ref (H.length + 1) :: vs) (H ++ [.ns [], .inst c H.length])).bind fun v H1 => match v with | .none => .ok (.ref (H.length + 1)) H1 | _ => .stuck

noncomputable def lk (defs : List Def) (cls : List (String × Def)) (const : String → Option V) : Nat → Fn
  | 0 => { call := fun _ _ _ => .stuck, const }
  | n + 1 => { const, call := fun f vs H => match defs.find? (fun d => d.name == f) with
      | some d => runDef (lk defs cls const n) d vs H
      | Option.none => match cls.lookup f with
        | some d => runClass (lk defs cls const n) f d vs H
        | Option.none => .stuck }
end
end Mine

/-! J1 -/
namespace Mine
open PySem PyProof.Rows

theorem ofString_inj {a b : String} (h : Str.ofString a = Str.ofString b) : a = b := by
  rw [Str.ofString_eq_toList, Str.ofString_eq_toList] at h
  have h1 := congrArg (fun s : Str => s.cps.toList) h
  simp only at h1
  have inj : ∀ l l' : List Char, l.map Char.toNat = l'.map Char.toNat → l = l' := by
    intro l
    induction l with
    | nil => intro l' h; cases l' with | nil => rfl | cons => cases h
    | cons c l ih =>
      intro l' h
      cases l' with
      | nil => cases h
      | cons d l' =>
        simp only [List.map_cons, List.cons.injEq] at h
        rw [ih l' h.2]
        have : c = d := by
          have h3 : c.val.toNat = d.val.toNat := h.1
          exact Char.ext (UInt32.toNat_inj.mp h3)
        rw [this]
  exact String.toList_inj.mp (inj _ _ h1)

noncomputable def biTable : List (String × Value) := [("len", .builtin "len"), ("all", .builtin "all"), ("tuple", .type "tuple"), ("str", .type "str"), ("zip", .type "zip"), ("min", .builtin "min"), ("max", .builtin "max"), ("isinstance", .builtin "isinstance"), ("range", .type "range"), ("list", .type "list"), ("int", .type "int"), ("bool", .type "bool")]
noncomputable def biVal (f : String) : Option Value := biTable.lookup f
theorem biVal_noRef {f : String} {v : Value} (h : biVal f = some v) (a : Addr) : v ≠ .ref a := by
  have key : ∀ (l : List (String × Value)), (l.all fun p => match p.2 with | .ref _ => false | _ => true) = true → l.lookup f = some v → v ≠ .ref a := by
    intro l
    induction l with
    | nil => intro _ e; cases e
    | cons p l ih =>
      intro ha e
      rw [List.all_cons, Bool.and_eq_true] at ha
      rw [List.lookup_cons] at e
      cases hb : f == p.1 with
      | true => rw [hb] at e; cases e; intro q; rw [q] at ha; exact nomatch ha.1
      | false => rw [hb] at e; exact ih ha.2 e
  exact key biTable (by decide) h

noncomputable def Loads (mg mb : Str → Option Value) (f : String) (v : Value) : Prop := mg (Str.ofString f) = some v ∨ (mg (Str.ofString f) = Option.none ∧ mb (Str.ofString f) = some v)

structure ClsOk (K : PySem.W.Frag) (C fI : Addr) : Prop where
  makes : PySem.W.makesIn K C = true
  init : PySem.W.findIn K (.ref C) "__init__" = some (some (.ref fI))
  fn : PySem.W.typeIn K (.ref fI) = some (.type "function")
  get : PySem.W.findIn K (.ref C) "__getattribute__" = some (some (.builtin "object.__getattribute__"))
  set : PySem.W.findIn K (.ref C) "__setattr__" = some (some (.builtin "object.__setattr__"))
  over : PySem.W.plainOver K C = true
  dict : (PySem.W.clsIn K C).any (·.hasDict) = true
  names : ∀ a, attrName a = true → PySem.W.findIn K (.ref C) (Str.ofString a) = some Option.none

set_option genInjectivity false in
structure Cx where
  prog : Program
  w : World
  base : Heap
  mg : Str → Option Value
  mb : Str → Option Value
  g : base.Ns mainGlobals mg
  b : base.Ns builtinsNs mb
  nolimit : base.NoLimit
  /-- the names that the text's defs name out of themselves -/
  kn : String → Bool
  known : ∀ f, kn f = true → ∃ v, Loads mg mb f v
  bi : ∀ f v, biVal f = some v → kn f = true → mg (Str.ofString f) = Option.none ∧ mb (Str.ofString f) = some v
  /-- the text's own plain classes, and the names of their attributes -/
  K : PySem.W.Frag
  kin : K.In base
  cl : String → Bool
  cls : ∀ c, cl c = true → ∃ C fI, mg (Str.ofString c) = some (.ref C) ∧ ClsOk K C fI
  /-- each of them may be called plainly -/
  kp : ∀ f v, kn f = true → Loads mg mb f v → ∀ h : Heap, (∀ b o, base.get? b = some o → h.get? b = some o) →
    ∃ k, (k = Keeper.frame ∨ k = Keeper.machine ∨ k = Keeper.boundFrame) ∧ PySem.W.Looks (model prog w) h (keeperOf v) k

noncomputable abbrev Cx.M (X : Cx) : Model := model X.prog X.w

mutual
inductive VR (X : Cx) (η : List Addr) (h : Heap) : V → Value → Prop
  | none : VR X η h .none .none
  | bool (b : Bool) : VR X η h (.bool b) (.bool b)
  | int (i : Int) (t : Tok) : VR X η h (.int i) (.int i t)
  | str (s : Str) (t : Tok) : PyData.strOk s = true → VR X η h (.str s) (.str s t)
  | tup {a : Addr} {items : Array Value} {n : Nat} {vs : List V} : h.get? a = some { cls := .type "tuple", data := .seq items n } → a ∉ η → VRs X η h vs items.toList → vs.length ≤ line → VR X η h (.tup vs) (.ref a)
  | ref {n : Nat} {a : Addr} : η[n]? = some a → VR X η h (.ref n) (.ref a)
  | rng {b : Int} {t u v : Tok} {r : Addr} : IsRange h r 0 b 1 t u v → r ∉ η → VR X η h (.rng b) (.ref r)
  | lst {a : Addr} {items : Array Value} {n : Nat} {vs : List V} : h.get? a = some { cls := .type "list", data := .seq items n } → a ∉ η → VRs X η h vs items.toList → vs.length ≤ line → VR X η h (.lst vs) (.ref a)
  | scr {a : Addr} {items : Array Value} {ns : List Int} : X.base.IsList a items → IntsAre items.toList ns → ns.length ≤ line → VR X η h (.scr ns) (.ref a)
inductive VRs (X : Cx) (η : List Addr) (h : Heap) : List V → List Value → Prop
  | nil : VRs X η h [] []
  | cons {v : V} {vs : List V} {m : Value} {ms : List Value} : VR X η h v m → VRs X η h vs ms → VRs X η h (v :: vs) (m :: ms)
end

structure Step (own η : List Addr) (h : Heap) (η' : List Addr) (h' : Heap) : Prop where
  pre : ∃ l, η' = η ++ l ∧ ∀ a ∈ l, h.get? a = Option.none
  alive : ∀ b o, h.get? b = some o → ∃ o', h'.get? b = some o'
  same : ∀ b o, h.get? b = some o → b ∉ η → b ∉ own → h'.get? b = some o
  dicts : ∀ b o, h.get? b = some o → b ∉ η → ∀ es n, o.data = .dict es n → ∃ o' es' n', h'.get? b = some o' ∧ o'.data = .dict es' n'
  cells : ∀ b o, h.get? b = some o → b ∉ η → ∀ v, o.data = .cell v → ∃ o' v', h'.get? b = some o' ∧ o'.data = .cell v'

theorem Step.mem {own η η' : List Addr} {h h' : Heap} (x : Step own η h η' h') {b : Addr} {o : Obj} (e : h.get? b = some o) (hb : b ∉ η) : b ∉ η' := by
  obtain ⟨l, rfl, hl⟩ := x.pre
  intro hm
  rcases List.mem_append.mp hm with hm | hm
  · exact hb hm
  · rw [hl b hm] at e; cases e
theorem Step.old {own η η' : List Addr} {h h' : Heap} (x : Step own η h η' h') {b : Addr} (e : h'.get? b = Option.none) : h.get? b = Option.none := by
  cases q : h.get? b with
  | none => rfl
  | some o => obtain ⟨o', e'⟩ := x.alive b o q; rw [e] at e'; cases e'

theorem Step.trans {own η η1 η2 : List Addr} {h h1 h2 : Heap} (x : Step own η h η1 h1) (y : Step own η1 h1 η2 h2) : Step own η h η2 h2 := by
  refine ⟨?_, fun b o e => let ⟨o1, e1⟩ := x.alive b o e; y.alive b o1 e1, fun b o e hb ho => y.same b o (x.same b o e hb ho) (x.mem e hb) ho,
    fun b o e hb es k d => let ⟨o1, es1, n1, e1, d1⟩ := x.dicts b o e hb es k d; y.dicts b o1 e1 (x.mem e hb) es1 n1 d1, fun b o e hb v d => let ⟨o1, v1, e1, d1⟩ := x.cells b o e hb v d; y.cells b o1 e1 (x.mem e hb) v1 d1⟩
  obtain ⟨l1, rfl, h1'⟩ := x.pre
  obtain ⟨l2, rfl, h2'⟩ := y.pre
  refine ⟨l1 ++ l2, List.append_assoc .., fun a ha => ?_⟩
  rcases List.mem_append.mp ha with ha | ha
  · exact h1' a ha
  · exact x.old (h2' a ha)

theorem Step.weak {own own' η η' : List Addr} {h h' : Heap} (x : Step own η h η' h') (ho : ∀ a ∈ own, a ∈ own') : Step own' η h η' h' :=
  ⟨x.pre, x.alive, fun b o e hb hb' => x.same b o e hb (fun q => hb' (ho b q)), x.dicts, x.cells⟩

theorem Step.grow (own η : List Addr) {l : List Addr} {h h' : Heap} (hl : ∀ a ∈ l, h.get? a = Option.none) (k : ∀ b o, h.get? b = some o → h'.get? b = some o) : Step own η h (η ++ l) h' :=
  ⟨⟨l, rfl, hl⟩, fun b o e => ⟨o, k b o e⟩, fun b o e _ _ => k b o e, fun b o e _ es n d => ⟨o, es, n, k b o e, d⟩, fun b o e _ v d => ⟨o, v, k b o e, d⟩⟩
theorem Step.ext (own η : List Addr) {h h' : Heap} (k : ∀ b o, h.get? b = some o → h'.get? b = some o) : Step own η h η h' := by
  have := Step.grow own η (l := []) (fun _ q => nomatch q) k
  rwa [List.append_nil] at this
theorem Step.refl (own η : List Addr) (h : Heap) : Step own η h η h := Step.ext own η fun _ _ e => e
theorem Step.make (own η : List Addr) {h h' : Heap} {a : Addr} (k : ∀ b o, h.get? b = some o → h'.get? b = some o) (ha : h.get? a = Option.none) : Step own η h (η ++ [a]) h' :=
  Step.grow own η (fun _ hb => List.mem_singleton.mp hb ▸ ha) k

noncomputable def Frm (h : Heap) (l : List Addr) : Prop := ∀ b ∈ l, ∃ o, h.get? b = some o ∧ ((∃ es n, o.data = .dict es n) ∨ ∃ v, o.data = .cell v)

theorem Frm.not {h : Heap} {l : List Addr} (x : Frm h l) {b : Addr} {o : Obj} (e : h.get? b = some o) (hd : (∀ es n, o.data ≠ .dict es n) ∧ ∀ v, o.data ≠ .cell v) : b ∉ l := by
  intro hm
  obtain ⟨o', e', hq⟩ := x b hm
  rw [e] at e'; cases e'
  rcases hq with ⟨es, n, q⟩ | ⟨v, q⟩
  · exact hd.1 es n q
  · exact hd.2 v q

theorem getElem?_pre {η l : List Addr} {n : Nat} {a : Addr} (e : η[n]? = some a) : (η ++ l)[n]? = some a := by
  rw [List.getElem?_append_left (List.getElem?_eq_some_iff.mp e).1]; exact e

noncomputable def Holds (η : List Addr) (h : Heap) (η' : List Addr) (h' : Heap) : Prop := ∀ a o, h.get? a = some o → a ∉ η → ((∃ xs n, o.data = .seq xs n) ∨ o.cls = .type "range" ∧ ∃ fs, o.data = .fields fs) → h'.get? a = some o ∧ a ∉ η'
section
variable {X : Cx} {own η η' : List Addr} {h h' : Heap}
theorem VR.map (hp : ∃ l, η' = η ++ l) (x : Holds η h η' h') {v : V} {m : Value} (r : VR X η h v m) : VR X η' h' v m := by
  refine VR.rec (motive_1 := fun v m _ => VR X η' h' v m) (motive_2 := fun v m _ => VRs X η' h' v m) .none .bool .int .str (fun e hn _ l ih => ?_) (fun e => ?_) (fun e hn => ?_) (fun e hn _ l ih => ?_) (fun e i l => .scr e i l) .nil (fun _ _ a b => .cons a b) r
  · exact .tup (x _ _ e hn (.inl ⟨_, _, rfl⟩)).1 (x _ _ e hn (.inl ⟨_, _, rfl⟩)).2 ih l
  · obtain ⟨l, rfl⟩ := hp
    exact .ref (getElem?_pre e)
  · exact .rng (x _ _ e hn (.inr ⟨rfl, _, rfl⟩)).1 (x _ _ e hn (.inr ⟨rfl, _, rfl⟩)).2
  · exact .lst (x _ _ e hn (.inl ⟨_, _, rfl⟩)).1 (x _ _ e hn (.inl ⟨_, _, rfl⟩)).2 ih l
theorem VRs.map (hp : ∃ l, η' = η ++ l) (x : Holds η h η' h') : ∀ {v : List V} {m : List Value}, VRs X η h v m → VRs X η' h' v m
  | _, _, .nil => .nil
  | _, _, .cons a b => .cons (a.map hp x) (b.map hp x)
theorem Step.holds (x : Step own η h η' h') (f : Frm h own) : Holds η h η' h' := fun a o e hn hs =>
  ⟨x.same a o e hn (f.not e (by rcases hs with ⟨xs, n, d⟩ | ⟨_, fs, d⟩ <;> rw [d] <;> exact ⟨fun _ _ q => (nomatch q), fun _ q => (nomatch q)⟩)), x.mem e hn⟩
theorem Step.pre' (x : Step own η h η' h') : ∃ l, η' = η ++ l := let ⟨l, e, _⟩ := x.pre; ⟨l, e⟩
theorem Frm.nil (h : Heap) : Frm h [] := fun _ q => nomatch q
theorem VR.step (x : Step own η h η' h') (f : Frm h own) {v : V} {m : Value} (r : VR X η h v m) : VR X η' h' v m := r.map x.pre' (x.holds f)
theorem VRs.step (x : Step own η h η' h') (f : Frm h own) {v : List V} {m : List Value} (r : VRs X η h v m) : VRs X η' h' v m := r.map x.pre' (x.holds f)
theorem VR.up (x : Step [] η h η' h') {v : V} {m : Value} (r : VR X η h v m) : VR X η' h' v m := r.step x (Frm.nil h)
theorem VRs.up (x : Step [] η h η' h') {v : List V} {m : List Value} (r : VRs X η h v m) : VRs X η' h' v m := r.step x (Frm.nil h)
end

inductive NRs (X : Cx) (η : List Addr) (h : Heap) : List (String × V) → List DictEntry → Prop
  | nil : NRs X η h [] []
  | cons {k : String} {v : V} {t : Tok} {es : List (String × V)} {e : DictEntry} {ds : List DictEntry} : e.key = .str (Str.ofString k) t → VR X η h v e.val → NRs X η h es ds → NRs X η h ((k, v) :: es) (e :: ds)

inductive OR (X : Cx) (η : List Addr) (h : Heap) : O → Obj → Prop
  | list {vs : List V} {items : Array Value} {n : Nat} : VRs X η h vs items.toList → vs.length ≤ line → OR X η h (.list vs) { cls := .type "list", data := .seq items n }
  | inst {c : String} {d : Nat} {C dx : Addr} : X.cl c = true → X.mg (Str.ofString c) = some (.ref C) → η[d]? = some dx → OR X η h (.inst c d) { cls := .ref C, dict := some dx, data := .plain }
  | ns {fs : List (String × V)} {ds : Array DictEntry} {n : Nat} : NRs X η h fs ds.toList → fs.length ≤ 21 → OR X η h (.ns fs) { cls := .type "dict", data := .dict ds n }
  | own {a b : Value} : OR X η h .own { cls := .type "tuple", data := .seq #[a, b] }

structure Inv (X : Cx) (η : List Addr) (H : Hp) (h : Heap) : Prop where
  keep : ∀ b o, X.base.get? b = some o → h.get? b = some o
  len : η.length = H.length
  fresh : ∀ a ∈ η, X.base.get? a = Option.none
  nodup : η.Nodup
  objs : ∀ (n : Nat) (a : Addr) (o : O), η[n]? = some a → H[n]? = some o → ∃ ob, h.get? a = some ob ∧ OR X η h o ob

section
variable {X : Cx} {own η η' : List Addr} {h h' : Heap} {H : Hp}
theorem NRs.map (hp : ∃ l, η' = η ++ l) (x : Holds η h η' h') {es : List (String × V)} {ds : List DictEntry} (r : NRs X η h es ds) : NRs X η' h' es ds := by
  induction r with
  | nil => exact .nil
  | cons a c _ ih => exact .cons a (c.map hp x) ih
theorem OR.map (hp : ∃ l, η' = η ++ l) (x : Holds η h η' h') {o : O} {ob : Obj} (r : OR X η h o ob) : OR X η' h' o ob := by
  cases r with
  | list d e => exact .list (d.map hp x) e
  | inst a a' b =>
    obtain ⟨l, rfl⟩ := hp
    exact .inst a a' (getElem?_pre b)
  | ns d e => exact .ns (d.map hp x) e
  | own => exact .own

theorem Inv.still (i : Inv X η H h) (x : Step own η h η h') (f : Frm h own) (hm : ∀ a ∈ η, ∀ o, h.get? a = some o → h'.get? a = some o) (hf : ∀ b ∈ own, X.base.get? b = Option.none) : Inv X η H h' := by
  refine ⟨fun b o e => ?_, i.len, i.fresh, i.nodup, fun n a o ha ho => ?_⟩
  · refine x.same b o (i.keep b o e) (fun q => ?_) (fun q => ?_)
    · rw [i.fresh b q] at e; cases e
    · rw [hf b q] at e; cases e
  · obtain ⟨ob, e, r⟩ := i.objs n a o ha ho
    exact ⟨ob, hm a (List.mem_of_getElem? ha) ob e, r.map x.pre' (x.holds f)⟩

theorem Inv.ext (i : Inv X η H h) (k : ∀ b o, h.get? b = some o → h'.get? b = some o) : Inv X η H h' :=
  i.still (own := []) (Step.ext _ _ k) (Frm.nil h) (fun _ _ o e => k _ o e) fun _ q => nomatch q
end

theorem Inv.alive {X : Cx} {η : List Addr} {H : Hp} {h : Heap} (i : Inv X η H h) {a : Addr} (ha : a ∈ η) : ∃ ob, h.get? a = some ob := by
  obtain ⟨n, hn, e⟩ := List.getElem_of_mem ha
  have hH : n < H.length := i.len ▸ hn
  obtain ⟨ob, e', _⟩ := i.objs n a H[n] (by rw [List.getElem?_eq_getElem hn, e]) (List.getElem?_eq_getElem hH)
  exact ⟨ob, e'⟩

theorem push_keeps (h : Heap) (ob : Obj) : ∀ b o, h.get? b = some o → (h.push ob).get? b = some o := fun _ _ e => Heap.get?_push_of_some ob e
theorem size_none (h : Heap) : h.get? h.objs.size = Option.none := by
  cases e : h.get? h.objs.size with
  | none => rfl
  | some o => exact absurd (Heap.lt_size e) (Nat.lt_irrefl _)

theorem Inv.size_off {X : Cx} {η : List Addr} {H : Hp} {h : Heap} (i : Inv X η H h) : h.objs.size ∉ η := fun q => by
  obtain ⟨ob, e⟩ := i.alive q
  rw [size_none] at e; cases e

theorem Inv.make {X : Cx} {η : List Addr} {h h' : Heap} {H : Hp} {a : Addr} {o : O} {ob : Obj} (i : Inv X η H h) (k : ∀ b o, h.get? b = some o → h'.get? b = some o) (ha : h.get? a = Option.none) (e : h'.get? a = some ob) (r : OR X (η ++ [a]) h' o ob) : Inv X (η ++ [a]) (H ++ [o]) h' := by
  have an : a ∉ η := fun q => by obtain ⟨ob', z⟩ := i.alive q; rw [ha] at z; cases z
  refine ⟨fun b o e => k b o (i.keep b o e), by simp [i.len], fun b hb => ?_, ?_, fun n b o' hb ho => ?_⟩
  · rcases List.mem_append.mp hb with hb | hb
    · exact i.fresh b hb
    · rw [List.mem_singleton] at hb; subst hb
      cases g : X.base.get? b with
      | none => rfl
      | some o => have := i.keep _ _ g; rw [ha] at this; cases this
  · rw [List.nodup_append]
    refine ⟨i.nodup, List.nodup_cons.mpr ⟨(fun q => nomatch q), List.nodup_nil⟩, fun b hb c hc => ?_⟩
    rw [List.mem_singleton] at hc; subst hc
    rintro rfl
    exact an hb
  · by_cases hn : n < η.length
    · rw [List.getElem?_append_left hn] at hb
      rw [List.getElem?_append_left (i.len ▸ hn)] at ho
      obtain ⟨ob', e', r'⟩ := i.objs n b o' hb ho
      exact ⟨ob', k _ _ e', r'.map ⟨_, rfl⟩ ((Step.make [] η k ha).holds (Frm.nil h))⟩
    · have hn' := Nat.le_of_not_lt hn
      rw [List.getElem?_append_right hn'] at hb
      rw [List.getElem?_append_right (i.len ▸ hn')] at ho
      have e0 : n - η.length = 0 := by
        cases q : n - η.length with
        | zero => rfl
        | succ j => rw [q] at hb; cases hb
      rw [e0] at hb
      rw [← i.len, e0] at ho
      cases hb; cases ho
      exact ⟨ob, e, r⟩
theorem Step.push (own η : List Addr) (h : Heap) (ob : Obj) : Step own η h (η ++ [h.objs.size]) (h.push ob) := Step.make own η (push_keeps h ob) (size_none h)
theorem Inv.alloc {X : Cx} {η : List Addr} {h : Heap} {H : Hp} (i : Inv X η H h) {o : O} {ob : Obj} (r : OR X (η ++ [h.objs.size]) (h.push ob) o ob) (hfree : ob.isFreed = false) : Inv X (η ++ [h.objs.size]) (H ++ [o]) (h.push ob) :=
  i.make (push_keeps h ob) (size_none h) (Heap.get?_push_size _ hfree) r
end Mine

/-! J2 -/
namespace Mine
open PySem PyProof.Rows

theorem Frm.step {own η η' : List Addr} {h h' : Heap} {l : List Addr} (x : Step own η h η' h') (f : Frm h l) (hl : ∀ b ∈ l, b ∉ η) : Frm h' l := by
  intro b hb
  obtain ⟨o, e, q⟩ := f b hb
  rcases q with ⟨es, n, d⟩ | ⟨v, d⟩
  · obtain ⟨o', es', n', e', d'⟩ := x.dicts b o e (hl b hb) es n d
    exact ⟨o', e', .inl ⟨es', n', d'⟩⟩
  · obtain ⟨o', v', e', d'⟩ := x.cells b o e (hl b hb) v d
    exact ⟨o', e', .inr ⟨v', d'⟩⟩

noncomputable def frs (st : List Env) : List Addr := st.filterMap (·.frame)

structure Stk (X : Cx) (η : List Addr) (A : Around) (st : List Env) (h : Heap) : Prop where
  frames : A.frames = some st
  ok : h.FunFrames X.base st
  off : ∀ a ∈ frs st, a ∉ η
  frm : Frm h (frs st)

noncomputable def ownOf (env : Env) : List Addr := env.locals :: env.cells.map (·.2)

noncomputable def isVar (sc : Scope) (x : Str) : Bool := !(x == (".0" : Str)) && match sc.names.lookup x with
  | some .local | some .cell | some .free => true
  | _ => false

noncomputable def Held (h : Heap) (env : Env) (x : Str) (mv : Value) : Prop :=
  (env.kindOf x = some .local ∧ ∃ m, h.Ns env.locals m ∧ m x = some mv) ∨
  ((env.kindOf x = some .cell ∨ env.kindOf x = some .free) ∧ ∃ c o, env.cells.lookup x = some c ∧ h.get? c = some o ∧ o.data = .cell (some mv))

structure FrameOK (X : Cx) (η : List Addr) (h : Heap) (env : Env) : Prop where
  kind : env.scope.kind = .function
  glob : env.globals = mainGlobals
  blt : env.builtins = builtinsNs
  ns : ∃ m, h.Ns env.locals m
  cell : ∀ p ∈ env.cells, ∃ o v, h.get? p.2 = some o ∧ o.data = .cell v
  cells : ∀ x, env.kindOf x = some .cell → ∃ c, env.cells.lookup x = some c
  inj : ∀ x y c, env.cells.lookup x = some c → env.cells.lookup y = some c → x = y
  off : ∀ a ∈ ownOf env, a ∉ η ∧ X.base.get? a = Option.none

structure Room (n : Nat) (A : Around) : Prop where
  depth : A.depth + 2 * n < recursionLimit
  units : A.units + 8 * n + 300 < cLine

noncomputable def RhoR (X : Cx) (η : List Addr) (h : Heap) (env : Env) (ρ : Rho) : Prop := ∀ x v, ρ.lookup x = some v → isVar env.scope (Str.ofString x) = true → ∃ mv, Held h env (Str.ofString x) mv ∧ VR X η h v mv

set_option genInjectivity false in
structure Ct where
  X : Cx
  n : Nat
  A : Around
  env : Env
  st : List Env
  Γ : Fn

noncomputable abbrev Ct.inn (κ : Ct) (e : Env) : Ct := { κ with env := e }

structure At (κ : Ct) (η : List Addr) (ρ : Rho) (H : Hp) (s : Shared) : Prop where
  inv : Inv κ.X η H s.heap
  fok : FrameOK κ.X η s.heap κ.env
  rho : RhoR κ.X η s.heap κ.env ρ
  stk : Stk κ.X η κ.A κ.st s.heap
  room : Room κ.n κ.A
  hand : κ.A.handled = Option.none

theorem lookup_mem {α β : Type} [BEq α] [LawfulBEq α] {l : List (α × β)} {a : α} {b : β} (e : l.lookup a = some b) : (a, b) ∈ l := by
  induction l with
  | nil => cases e
  | cons p l ih =>
    obtain ⟨x, y⟩ := p
    rw [List.lookup_cons] at e
    by_cases h : (a == x) = true
    · simp only [h] at e
      cases e
      rw [eq_of_beq h]; exact List.Mem.head _
    · simp only [h] at e
      exact List.Mem.tail _ (ih e)

section
variable {X : Cx} {A : Around} {env : Env} {st : List Env} {κ : Ct} {η η' : List Addr} {ρ : Rho} {H H' : Hp} {s : Shared} {h' : Heap}

theorem FrameOK.frm (x : FrameOK X η s.heap env) : Frm s.heap (ownOf env) := by
  intro b hb
  rcases List.mem_cons.mp hb with rfl | hb
  · obtain ⟨m, o, es, ep, e, d, _⟩ := x.ns
    exact ⟨o, e, .inl ⟨es, ep, d⟩⟩
  · obtain ⟨p, hp, rfl⟩ := List.mem_map.mp hb
    obtain ⟨o, v, e, d⟩ := x.cell p hp
    exact ⟨o, e, .inr ⟨v, d⟩⟩

theorem Ns.step {a : Addr} {m : Str → Option Value} (x : Step [] η s.heap η' h') (hn : s.heap.Ns a m) (ha : a ∉ η) : h'.Ns a m := by
  obtain ⟨o, es, ep, e, d, r⟩ := hn
  exact ⟨_, es, ep, x.same _ _ e ha (fun q => nomatch q), d, r⟩

theorem Held.step {x : Str} {mv : Value} (st' : Step [] η s.heap η' h') (f : FrameOK X η s.heap env) (hh : Held s.heap env x mv) : Held h' env x mv := by
  rcases hh with ⟨hk, m, hn, hm⟩ | ⟨hk, c, o, hc, e, d⟩
  · exact .inl ⟨hk, m, Ns.step st' hn (f.off _ (List.Mem.head _)).1, hm⟩
  · exact .inr ⟨hk, c, _, hc, st'.same _ _ e (f.off c (List.mem_cons.mpr (.inr (List.mem_map.mpr ⟨(x, c), lookup_mem hc, rfl⟩)))).1 (fun q => nomatch q), d⟩


theorem FrameOK.step (st' : Step [] η s.heap η' h') (f : FrameOK X η s.heap env) : FrameOK X η' h' env := by
  have al : ∀ a ∈ ownOf env, ∃ o, s.heap.get? a = some o := fun a ha => let ⟨o, e, _⟩ := f.frm a ha; ⟨o, e⟩
  refine ⟨f.kind, f.glob, f.blt, ?_, fun p hp => ?_, f.cells, f.inj, fun a ha => ⟨?_, (f.off a ha).2⟩⟩
  · obtain ⟨m, hn⟩ := f.ns
    exact ⟨m, Ns.step st' hn (f.off _ (List.Mem.head _)).1⟩
  · obtain ⟨o, v, e, d⟩ := f.cell p hp
    exact ⟨_, v, st'.same _ _ e (f.off p.2 (List.mem_cons.mpr (.inr (List.mem_map.mpr ⟨p, hp, rfl⟩)))).1 (fun q => nomatch q), d⟩
  · obtain ⟨o, e⟩ := al a ha
    exact st'.mem e (f.off a ha).1

theorem Stk.step {own : List Addr} (x : Step own η s.heap η' h') (k : Stk X η A st s.heap) : Stk X η' A st h' := by
  refine ⟨k.frames, ?_, fun a ha => ?_, k.frm.step x k.off⟩
  · have : ∀ l : List Env, (∀ a ∈ frs l, a ∉ η) → Frm s.heap (frs l) → s.heap.FunFrames X.base l → h'.FunFrames X.base l := by
      intro l
      induction l with
      | nil => intro _ _ _; trivial
      | cons e l ih =>
        intro ho hf ⟨hk, ⟨L, o, hfr, hn, hg, hd⟩, hr⟩
        have hL : L ∈ frs (e :: l) := by unfold frs; rw [List.filterMap_cons, hfr]; exact List.Mem.head _
        have sub : ∀ a ∈ frs l, a ∈ frs (e :: l) := by intro a ha; unfold frs at *; rw [List.filterMap_cons, hfr]; exact List.Mem.tail _ ha
        refine ⟨hk, ?_, ih (fun a ha => ho a (sub a ha)) (fun a ha => hf a (sub a ha)) hr⟩
        obtain ⟨o', e', q⟩ := (Frm.step x hf ho) L hL
        refine ⟨L, o', hfr, hn, e', fun vs z => ?_⟩
        rcases q with ⟨_, _, q⟩ | ⟨_, q⟩ <;> (rw [z] at q; cases q)
    exact this st k.off k.frm k.ok
  · obtain ⟨o, e, _⟩ := k.frm a ha
    exact x.mem e (k.off a ha)

theorem Stk.fresh (k : Stk X η A st s.heap) : ∀ a ∈ frs st, X.base.get? a = Option.none := fun _ ha => (k.ok.mem ha).1

theorem At.step (a : At κ η ρ H s) (x : Step [] η s.heap η' h') (i : Inv κ.X η' H' h') (tk : Nat) : At κ η' ρ H' { s with heap := h', toks := tk } :=
  ⟨i, a.fok.step x, fun y v e hv => let ⟨mv, hh, r⟩ := a.rho y v e hv; ⟨mv, hh.step x a.fok, r.up x⟩, a.stk.step x, a.room, a.hand⟩
end

inductive Post (X : Cx) (own η : List Addr) (s : Shared) (H' : Hp) (P : List Addr → Heap → Prop) (s' : Shared) : Prop
  | mk (η' : List Addr) (h' : Heap) (tk : Nat) (e : s' = { s with heap := h', toks := tk }) (i : Inv X η' H' h') (x : Step own η s.heap η' h') (p : P η' h') : Post X own η s H' P s'

noncomputable abbrev noE : Value → Shared → Prop := fun _ _ => False
theorem monoN {M : Model} {A : Around} {α : Type} {m : Sem α} {Q Q' : α → Shared → Prop} {E : Value → Shared → Prop} {s : Shared} (h : wpAny M A m Q noE s) (hq : ∀ a s, Q a s → Q' a s) : wpAny M A m Q' E s := wpAny_mono h hq fun _ _ q => q.elim

inductive OkAt (X : Cx) {α β : Type} (rel : β → α → Prop × List (V × Value)) (η : List Addr) (s : Shared) (r : R β) (a : α) (s' : Shared) : Prop
  | mk (b : β) (H' : Hp) (e : r = .ok b H') (q : (rel b a).1) (p : Post X [] η s H' (fun η' h' => ∀ p ∈ (rel b a).2, VR X η' h' p.1 p.2) s') : OkAt X rel η s r a s'

noncomputable def Tri (κ : Ct) (ρ : Rho) {α β : Type} (vs : List (V × Value)) (m : Sem α) (H : Hp) (r : R β) (rel : β → α → Prop × List (V × Value)) : Prop :=
  r ≠ .stuck → ∀ η s, At κ η ρ H s → (∀ p ∈ vs, VR κ.X η s.heap p.1 p.2) → wpAny κ.X.M κ.A m (OkAt κ.X rel η s r) noE s

section
variable {X : Cx} {κ : Ct} {ρ : Rho} {α β γ δ : Type} {vs : List (V × Value)} {H : Hp}

theorem Post.trans {own η η1 : List Addr} {s : Shared} {h1 : Heap} {tk : Nat} {H' : Hp} {P P' : List Addr → Heap → Prop} {s' : Shared} (x : Step own η s.heap η1 h1)
    (y : Post X own η1 { s with heap := h1, toks := tk } H' P s') (hp : ∀ η' h', P η' h' → P' η' h') : Post X own η s H' P' s' := by
  obtain ⟨η', h', tk', rfl, i, st, p⟩ := y
  exact ⟨η', h', tk', rfl, i, x.trans st, hp _ _ p⟩
theorem OkAt.after {rel : β → α → Prop × List (V × Value)} {η η1 : List Addr} {s : Shared} {h1 : Heap} {tk : Nat} {r : R β} {a : α} {s' : Shared} (x : Step [] η s.heap η1 h1) (y : OkAt X rel η1 { s with heap := h1, toks := tk } r a s') : OkAt X rel η s r a s' := by
  obtain ⟨b, H', e, q, p⟩ := y
  exact ⟨b, H', e, q, p.trans x fun _ _ q => q⟩

theorem Tri.via {m : Sem α} {m' : Sem γ} {W : α → (γ → Shared → Prop) → Shared → Prop} {r : R β} {f : β → Hp → R δ} {rel : β → α → Prop × List (V × Value)} {rel' : δ → γ → Prop × List (V × Value)}
    (hw : ∀ Q s, wpAny κ.X.M κ.A m (fun a s1 => W a Q s1) noE s → wpAny κ.X.M κ.A m' Q noE s) (h1 : Tri κ ρ vs m H r rel)
    (h2 : ∀ b H1 a, r = .ok b H1 → (rel b a).1 → f b H1 ≠ .stuck → ∀ η s Q, At κ η ρ H1 s → (∀ p ∈ vs ++ (rel b a).2, VR κ.X η s.heap p.1 p.2) → (∀ d s', OkAt κ.X rel' η s (f b H1) d s' → Q d s') → W a Q s) :
    Tri κ ρ vs m' H (r.bind f) rel' := by
  intro hs η s a hv
  have hr : r ≠ .stuck := by rintro rfl; exact hs rfl
  refine hw _ _ (monoN (h1 hr η s a hv) fun x s1 hx => ?_)
  obtain ⟨b, H1, rfl, hrel, η1, h', tk, rfl, i, stp, hp⟩ := hx
  refine h2 b H1 x rfl hrel hs η1 _ _ (a.step stp i tk) (fun p hm => ?_) fun d s' o => o.after stp
  rcases List.mem_append.mp hm with hm | hm
  · exact (hv p hm).up stp
  · exact hp p hm

theorem Tri.bind {m : Sem α} {k : α → Sem γ} {r : R β} {f : β → Hp → R δ} {rel : β → α → Prop × List (V × Value)} {rel' : δ → γ → Prop × List (V × Value)}
    (h1 : Tri κ ρ vs m H r rel) (h2 : ∀ b H1 a, r = .ok b H1 → (rel b a).1 → Tri κ ρ (vs ++ (rel b a).2) (k a) H1 (f b H1) rel') :
    Tri κ ρ vs (m >>= k) H (r.bind f) rel' :=
  Tri.via (W := fun a Q s => wpAny κ.X.M κ.A (k a) Q noE s) (fun _ _ q => wpAny_bind q) h1 fun b H1 a e q hs η s Q at' hv hq => monoN (h2 b H1 a e q hs η s at' hv) hq

theorem Tri.skip {m : Sem α} {k : α → Sem γ} {r : R δ} {rel' : δ → γ → Prop × List (V × Value)} {a₀ : α}
    (hm : ∀ (Q : α → Shared → Prop) (E : Value → Shared → Prop) (s : Shared), Q a₀ s → wpAny κ.X.M κ.A m Q E s) (h : Tri κ ρ vs (k a₀) H r rel') : Tri κ ρ vs (m >>= k) H r rel' :=
  fun hs η s a hv => wpAny_bind (hm _ _ _ (h hs η s a hv))

theorem Tri.holding {m : Sem α} {l : List Value} {r : R β} {rel : β → α → Prop × List (V × Value)} (h : Tri κ ρ vs m H r rel) : Tri κ ρ vs (PySem.holding l m) H r rel :=
  fun hs η s a hv => wpAny_holding (h hs η s a hv)

theorem Tri.stand {pos : Pos} {k : Unit → Sem γ} {r : R δ} {rel' : δ → γ → Prop × List (V × Value)} (h : Tri κ ρ vs (k ()) H r rel') : Tri κ ρ vs (standAt pos >>= k) H r rel' :=
  Tri.skip (a₀ := ()) (fun _ _ _ q => wpAny_standAt q) h

theorem Tri.pure {a : α} {b : β} {rel : β → α → Prop × List (V × Value)} (h1 : (rel b a).1) (h2 : ∀ p ∈ (rel b a).2, p ∈ vs) : Tri κ ρ vs (Pure.pure a) H (.ok b H) rel :=
  fun _ η s at' hv => wpAny_pure ⟨b, H, rfl, h1, η, s.heap, s.toks, rfl, at'.inv, Step.refl _ _ _, fun p hp => hv p (h2 p hp)⟩

theorem Tri.fewer {m : Sem α} {r : R β} {rel : β → α → Prop × List (V × Value)} {vs' : List (V × Value)} (h : Tri κ ρ vs' m H r rel) (h1 : ∀ p ∈ vs', p ∈ vs) : Tri κ ρ vs m H r rel :=
  fun hs η s a hv => h hs η s a fun p hp => hv p (h1 p hp)
theorem Tri.any {m : Sem α} {r : R β} {rel : β → α → Prop × List (V × Value)} (h : Tri κ ρ [] m H r rel) : Tri κ ρ vs m H r rel := h.fewer fun _ q => nomatch q
theorem Tri.rel_of {m : Sem α} {r r' : R β} {rel : β → α → Prop × List (V × Value)} (h : Tri κ ρ vs m H r rel) (e : r = r') : Tri κ ρ vs m H r' rel := e ▸ h
theorem Tri.stuck {m : Sem α} {rel : β → α → Prop × List (V × Value)} : Tri κ ρ vs m H .stuck rel := fun h => absurd rfl h
theorem Tri.operate {m : Sem Value} {l : List Value} {r : R β} {rel : β → Value → Prop × List (V × Value)} (h : Tri κ ρ vs m H r rel) : Tri κ ρ vs (PySem.operate l m) H r rel :=
  fun hs η s a hv => wpAny_operating (h hs η s a hv)

theorem Tri.reads {m : Sem α} {b : β} {rel : β → α → Prop × List (V × Value)}
    (h : ∀ (η : List Addr) (s : Shared) (Q : α → Shared → Prop) (E : Value → Shared → Prop), At κ η ρ H s → (∀ p ∈ vs, VR κ.X η s.heap p.1 p.2) →
      (∀ a h' tk, (∀ b o, s.heap.get? b = some o → h'.get? b = some o) → (rel b a).1 → (∀ p ∈ (rel b a).2, VR κ.X η h' p.1 p.2) → Q a { s with heap := h', toks := tk }) → wpAny κ.X.M κ.A m Q E s) :
    Tri κ ρ vs m H (.ok b H) rel :=
  fun _ η s at' hv => h η s _ _ at' hv fun a h' tk k h1 h2 => ⟨b, H, rfl, h1, η, h', tk, rfl, at'.inv.ext k, Step.ext _ _ k, h2⟩
end

noncomputable def rV (v : V) (m : Value) : Prop × List (V × Value) := (True, [(v, m)])
theorem rV1 {X : Cx} {η : List Addr} {h : Heap} {v : V} {m : Value} {p : V × Value} (hp : p ∈ (rV v m).2) (r : VR X η h v m) : VR X η h p.1 p.2 := List.mem_singleton.mp hp ▸ r
theorem m0 {α : Type} {a : α} {l : List α} : a ∈ l ++ [a] := List.mem_append.mpr (.inr (List.Mem.head _))
theorem m1 {α : Type} {a : α} {l k : List α} (h : a ∈ l) : a ∈ l ++ k := List.mem_append.mpr (.inl h)
noncomputable def rL (vs : List V) (ms : List Value) : Prop × List (V × Value) := (vs.length = ms.length, vs.zip ms)
noncomputable def rB (b : Bool) (a : Bool) : Prop × List (V × Value) := (a = b, [])

theorem VRs.of_zip {X : Cx} {η : List Addr} {h : Heap} : ∀ {vs : List V} {ms : List Value}, vs.length = ms.length → (∀ p ∈ vs.zip ms, VR X η h p.1 p.2) → VRs X η h vs ms
  | [], [], _, _ => .nil
  | _ :: _, _ :: _, e, hp => .cons (hp (_, _) (List.Mem.head _)) (VRs.of_zip (Nat.succ.inj e) fun p hm => hp p (List.Mem.tail _ hm))
  | [], _ :: _, e, _ => nomatch e
  | _ :: _, [], e, _ => nomatch e
theorem VRs.length {X : Cx} {η : List Addr} {h : Heap} : ∀ {vs : List V} {ms : List Value}, VRs X η h vs ms → vs.length = ms.length
  | _, _, .nil => rfl
  | _, _, .cons _ r => congrArg Nat.succ r.length
theorem VRs.zip {X : Cx} {η : List Addr} {h : Heap} : ∀ {vs : List V} {ms : List Value}, VRs X η h vs ms → ∀ p ∈ vs.zip ms, VR X η h p.1 p.2
  | _, _, .nil, _, hp => nomatch hp
  | _, _, .cons a r, p, hp => by
    rcases List.mem_cons.mp hp with rfl | hp
    · exact a
    · exact r.zip p hp
noncomputable def Ends (X : Cx) (env : Env) (ρ : Rho) (η : List Addr) (h : Heap) : Prop := FrameOK X η h env ∧ RhoR X η h env ρ
end Mine

/-! J3 -/
namespace Mine
open PySem PyProof.Rows

/-! data read off -/
inductive Rd (h : Heap) (n : Nat) (m : Value) (d : PyData) : Prop
  | mk (as : List Addr) (r : Reads h m d as) (c : d.canLay0 = true) (e : d.depth ≤ n) : Rd h n m d
inductive Rds (h : Heap) (n : Nat) (ms : List Value) (ds : List PyData) : Prop
  | mk (as : List Addr) (r : ReadsAll h ms ds as) (c : PyData.canLayAll0 ds = true) (e : PyData.depthAll ds ≤ n) : Rds h n ms ds

section
variable {X : Cx} {η : List Addr} {H : Hp} {h : Heap}
theorem flat_reads {n : Nat} {v : V} {m : Value} {d : PyData} (r : VR X η h v m) (e : flatD v = some d) : Rd h n m d := by
  cases r with
  | none => cases e; exact ⟨_, .none, by simp [PyData.canLay0], by simp [PyData.depth]⟩
  | bool b => cases e; exact ⟨_, .bool b, by simp [PyData.canLay0], by simp [PyData.depth]⟩
  | int b t => cases e; exact ⟨_, .int b t, by simp [PyData.canLay0], by simp [PyData.depth]⟩
  | str b t q => cases e; exact ⟨_, .str b t, by simp [PyData.canLay0, q], by simp [PyData.depth]⟩
  | _ => cases e
theorem mapM_reads {n : Nat} {f : V → Option PyData} (ih : ∀ {v : V} {m : Value} {d : PyData}, VR X η h v m → f v = some d → Rd h n m d) : ∀ {vs : List V} {ms : List Value} {ds : List PyData}, VRs X η h vs ms → vs.mapM f = some ds → Rds h n ms ds
  | [], _, ds, .nil, e => by
    cases e
    exact ⟨_, .nil, by simp [PyData.canLayAll0], by simp [PyData.depthAll]⟩
  | v :: vs, _, ds, .cons a r, e => by
    rw [List.mapM_cons] at e
    obtain ⟨d, e1, e⟩ := Option.bind_eq_some_iff.mp e
    obtain ⟨es, e2, e⟩ := Option.bind_eq_some_iff.mp e
    cases e
    obtain ⟨as, q, c, dd⟩ := ih a e1
    obtain ⟨bs, p, c', dd'⟩ := mapM_reads ih r e2
    exact ⟨_, .cons q p, by simp [PyData.canLayAll0, c, c'], by simp only [PyData.depthAll]; omega⟩
theorem line_lt : line ≤ sizeLine := by unfold line sizeLine; decide

theorem list_of_H {k : Nat} {a : Addr} {xs : List V} (i : Inv X η H h) (ha : η[k]? = some a) (hk : H[k]? = some (.list xs)) :
    ∃ items n, h.get? a = some { cls := .type "list", data := .seq items n } ∧ VRs X η h xs items.toList ∧ xs.length ≤ line := by
  obtain ⟨ob, g, o⟩ := i.objs k a _ ha hk
  cases o with
  | list r l => exact ⟨_, _, g, r, l⟩
theorem listAt_inv {v : V} {xs : List V} (e : listAt v H = some xs) : ∃ k, v = .ref k ∧ H[k]? = some (.list xs) := by
  cases v with
  | ref k =>
    cases hk : H[k]? with
    | none => rw [listAt, hk] at e; cases e
    | some o =>
      cases o with
      | list ys => rw [listAt, hk] at e; cases e; exact ⟨k, rfl, hk⟩
      | _ => rw [listAt, hk] at e; cases e
  | _ => cases e
theorem vr_list {v : V} {m : Value} {xs : List V} (i : Inv X η H h) (r : VR X η h v m) (e : listAt v H = some xs) : ∃ a items c, m = .ref a ∧ h.get? a = some { cls := .type "list", data := .seq items c } ∧ VRs X η h xs items.toList ∧ xs.length ≤ line := by
  obtain ⟨k, rfl, hk⟩ := listAt_inv e
  cases r with
  | ref ea =>
    obtain ⟨items, c, g, r, l⟩ := list_of_H i ea hk
    exact ⟨_, items, c, rfl, g, r, l⟩
theorem vr_int {v : V} {m : Value} {i : Int} (r : VR X η h v m) (e : intAt v = some i) : ∃ t, m = .int i t := by
  cases r with
  | int j t => cases e; exact ⟨t, rfl⟩
  | _ => cases e
theorem vr_str {v : V} {m : Value} {x : Str} (r : VR X η h v m) (e : strAt v = some x) : ∃ t, m = .str x t ∧ PyData.strOk x = true := by
  cases r with
  | str j t q => cases e; exact ⟨t, rfl, q⟩
  | _ => cases e
theorem snap_reads (i : Inv X η H h) : ∀ (n : Nat) {v : V} {m : Value} {d : PyData}, VR X η h v m → snap n H v = some d → Rd h n m d
  | 0, _, _, _, r, e => flat_reads r e
  | n + 1, v, m, d, r, e => by
    cases v with
    | tup vs =>
      cases r with
      | tup g hn r _ =>
        obtain ⟨ds, e2, rfl⟩ := Option.map_eq_some_iff.mp e
        obtain ⟨as, q, c, dd⟩ := mapM_reads (snap_reads i n) r e2
        exact ⟨as, .tuple g rfl rfl q, by simpa [PyData.canLay0] using c, by simp only [PyData.depth]; omega⟩
    | ref k =>
      obtain ⟨vs, e1, e⟩ := Option.bind_eq_some_iff.mp e
      obtain ⟨ds, e2, rfl⟩ := Option.map_eq_some_iff.mp e
      obtain ⟨a, items, c0, rfl, g, r, _⟩ := vr_list i r e1
      obtain ⟨as, q, c, dd⟩ := mapM_reads (snap_reads i n) r e2
      exact ⟨_, .list g rfl rfl q, by simpa [PyData.canLay0] using c, by simp only [PyData.depth]; omega⟩
    | _ => exact flat_reads r e

theorem shaped_of {d : PyData} {n : Nat} (c : d.canLay0 = true) (e : d.depth ≤ n) (hn : n ≤ 64) : SeqAt.shaped d = true := by
  unfold SeqAt.shaped
  rw [c, Bool.true_and]
  exact decide_eq_true (Nat.le_trans e hn)
theorem VRs.append : ∀ {xs ys : List V} {ms ns : List Value}, VRs X η h xs ms → VRs X η h ys ns → VRs X η h (xs ++ ys) (ms ++ ns)
  | _, _, _, _, .nil, r => r
  | _, _, _, _, .cons a l, r => .cons a (l.append r)
theorem VRs.size {xs : List V} {ms : Array Value} (r : VRs X η h xs ms.toList) : ms.size = xs.length := by rw [r.length]; simp
theorem strOk_append {x y : Str} (a : PyData.strOk x = true) (b : PyData.strOk y = true) : PyData.strOk (x ++ y) = true := by
  unfold PyData.strOk at *
  show (x.cps ++ y.cps).all _ = true
  rw [Array.all_append, a, b]; rfl
end

section
variable {κ : Ct} {X : Cx} {A : Around} {ρ : Rho} {vs : List (V × Value)} {H : Hp}

theorem Tri.plain {m : Sem Value} {v : V} (h : ∀ (η : List Addr) (s : Shared) (Q : Value → Shared → Prop) (E : Value → Shared → Prop), At κ η ρ H s → (∀ p ∈ vs, VR κ.X η s.heap p.1 p.2) →
      (∀ a tk, VR κ.X η s.heap v a → Q a { s with toks := tk }) → wpAny κ.X.M κ.A m Q E s) : Tri κ ρ vs m H (.ok v H) rV :=
  Tri.reads fun η s Q E at' hv hq => h η s Q E at' hv fun a tk r => hq a s.heap tk (fun _ _ e => e) trivial fun p hp => rV1 hp r

noncomputable def opOf : Op → Operator
  | .add => .Add
  | .sub => .Sub
  | .mul => .Mult
  | .fdiv => .FloorDiv
  | .mod => .Mod
  | .pow => .Pow

theorem Tri.made {m : Sem Value} {o : O}
    (h : ∀ (η : List Addr) (s : Shared) (Q : Value → Shared → Prop) (E : Value → Shared → Prop), At κ η ρ H s → (∀ p ∈ vs, VR κ.X η s.heap p.1 p.2) →
      (∀ a h' ob tk, s.heap.get? a = Option.none → (∀ b o, s.heap.get? b = some o → h'.get? b = some o) → h'.get? a = some ob → OR κ.X (η ++ [a]) h' o ob → Q (.ref a) { s with heap := h', toks := tk }) → wpAny κ.X.M κ.A m Q E s) :
    Tri κ ρ vs m H (new o H) rV := by
  intro _ η s a hv
  refine h η s _ _ a hv fun b h' ob tk hb k e r => ⟨_, _, rfl, trivial, η ++ [b], h', tk, rfl, a.inv.make k hb e r, Step.make _ _ k hb, fun p hp => rV1 hp (.ref ?_)⟩
  rw [← a.inv.len, List.getElem?_append_right (Nat.le_refl _), Nat.sub_self]; rfl
theorem Tri.madeL {m : Sem Value} {ws : List V} (hl : ws.length ≤ line)
    (h : ∀ (η : List Addr) (s : Shared) (Q : Value → Shared → Prop) (E : Value → Shared → Prop), At κ η ρ H s → (∀ p ∈ vs, VR κ.X η s.heap p.1 p.2) →
      (∀ a h' items c tk, s.heap.get? a = Option.none → (∀ b o, s.heap.get? b = some o → h'.get? b = some o) → h'.get? a = some { cls := .type "list", data := .seq items c } → VRs κ.X η s.heap ws items.toList → Q (.ref a) { s with heap := h', toks := tk }) → wpAny κ.X.M κ.A m Q E s) :
    Tri κ ρ vs m H (new (.list ws) H) rV :=
  Tri.made fun η s Q E at' hv hq => h η s Q E at' hv fun a h' items c tk ha k e r => hq a h' _ tk ha k e (.list (r.up (Step.make [] η k ha)) hl)

theorem intOp_ok {op : Op} {x y z : Int} {t u : Tok} {s : Shared} {Q : Value → Shared → Prop} {E : Value → Shared → Prop} (e : intOp op x y = some z) (hq : ∀ tk w, Q (.int z w) { s with toks := tk }) : wpAny X.M A (binaryOp (opOf op) (.int x t) (.int y u)) Q E s := by
  cases op with
  | add => cases e; exact PyProof.Rows.add_int (hq _ _)
  | sub => cases e; exact PyProof.Rows.sub_int (hq _ _)
  | mul =>
    have e : (if x.natAbs < 2 ^ 64 ∨ y.natAbs < 2 ^ 64 then some (x * y) else Option.none) = some z := e
    split at e
    · rename_i hm
      cases e
      refine PyProof.Rows.mul_int (hq _ _) ?_
      rcases hm with hm | hm
      · exact .of_left (intBits_le_64 (by omega) (by omega))
      · exact .of_right (intBits_le_64 (by omega) (by omega))
    · cases e
  | fdiv =>
    have e : (if y ≠ 0 ∧ y.natAbs < 1073741824 then some (x.fdiv y) else Option.none) = some z := e
    split at e
    · rename_i hm
      cases e
      refine PyProof.Rows.floordiv_int hm.1 (hq _ _) (Or.inl (PyProof.noPylong_small ?_))
      omega
    · cases e
  | mod =>
    have e : (if y ≠ 0 then some (x.fmod y) else Option.none) = some z := e
    split at e
    · rename_i hm
      cases e
      exact PyProof.Rows.mod_int' hm (hq _ _)
    · cases e
  | pow =>
    have e : (if 0 ≤ x ∧ x ≤ 10 ∧ 0 ≤ y ∧ y ≤ 100 then some (x ^ y.toNat) else Option.none) = some z := e
    split at e
    · rename_i hm
      cases e
      exact PyProof.Rows.pow_int_small hm.2.2.1 (by omega) (by omega) (hq _ _)
    · cases e
theorem addS_ok {a b : V} {ma mb : Value} (ha : (a, ma) ∈ vs) (hb : (b, mb) ∈ vs) : Tri κ ρ vs (binaryOp .Add ma mb) H (addS a b H) rV := by
  unfold addS
  cases hx : strAt a with
  | none => exact Tri.stuck
  | some x =>
    cases hy : strAt b with
    | none => exact Tri.stuck
    | some y =>
      dsimp only
      split
      · rename_i hm
        refine Tri.plain fun η s Q E at' hv hq => ?_
        obtain ⟨t, rfl, o1⟩ := vr_str (hv _ ha) hx
        obtain ⟨u, rfl, o2⟩ := vr_str (hv _ hb) hy
        exact PyProof.Rows.add_str (fun t' tk => hq _ _ (.str _ _ (strOk_append o1 o2))) (Nat.le_trans hm line_lt)
      · exact Tri.stuck
theorem bin_ok {op : Op} {a b : V} {ma mb : Value} (ha : (a, ma) ∈ vs) (hb : (b, mb) ∈ vs) : Tri κ ρ vs (binaryOp (opOf op) ma mb) H (bin op a b H) rV := by
  unfold bin
  cases hx : intAt a with
  | some x =>
    cases hy : intAt b with
    | none => exact Tri.stuck
    | some y =>
      dsimp only
      cases hz : intOp op x y with
      | none => exact Tri.stuck
      | some z =>
        refine Tri.plain fun η s Q E at' hv hq => ?_
        obtain ⟨t, rfl⟩ := vr_int (hv _ ha) hx
        obtain ⟨u, rfl⟩ := vr_int (hv _ hb) hy
        exact intOp_ok hz fun tk w => hq _ tk (.int _ _)
  | none =>
    dsimp only
    by_cases ho : op = .add
    · rw [if_pos ho]; subst ho; exact addS_ok ha hb
    · rw [if_neg ho]; exact Tri.stuck
end
end Mine

/-! J4 -/
namespace Mine
open PySem PyProof.Rows
section
variable {κ : Ct} {ρ : Rho} {vs : List (V × Value)} {H : Hp}

noncomputable def cmOf : Cm → CmpOp
  | .eq => .Eq
  | .ne => .NotEq
  | .lt => .Lt
  | .le => .LtE
  | .gt => .Gt
  | .isIn => .In
  | .notIn => .NotIn
  | .is => .Is

theorem At.units {η : List Addr} {s : Shared} (a : At κ η ρ H s) : κ.A.units + 64 < cLine := by
  have := a.room.units
  omega

theorem eqV_ok {op : Cm} {a b : V} {ma mb : Value} {r : Bool} (hop : op = .eq ∨ op = .ne) (ha : (a, ma) ∈ vs) (hb : (b, mb) ∈ vs) (he : eqV H a b = some r) :
    Tri κ ρ vs (compareOp (cmOf op) ma mb) H (.ok (.bool (if op = .eq then r else !r)) H) rV := by
  refine Tri.plain fun η s Q E at' hv hq => ?_
  obtain ⟨x, e1, he⟩ := Option.bind_eq_some_iff.mp (show (snap 8 H a).bind (fun x => (snap 8 H b).bind fun y => some (PyData.eqv x y)) = some r from he)
  obtain ⟨y, e2, he⟩ := Option.bind_eq_some_iff.mp he
  cases he
  obtain ⟨as, ra, c1, d1⟩ := snap_reads at'.inv 8 (hv _ ha) e1
  obtain ⟨bs, rb, c2, d2⟩ := snap_reads at'.inv 8 (hv _ hb) e2
  rcases hop with rfl | rfl
  · exact PySem.SeqAt.compareEq_shaped ra rb (shaped_of c1 d1 (by decide)) (shaped_of c2 d2 (by decide)) at'.units (hq _ s.toks (.bool _))
  · exact PySem.SeqAt.compareNe_shaped ra rb (shaped_of c1 d1 (by decide)) (shaped_of c2 d2 (by decide)) at'.units (hq _ s.toks (.bool _))

theorem isIn_ok {op : Cm} {a b : V} {ma mb : Value} {r : Bool} (hop : op = .isIn ∨ op = .notIn) (ha : (a, ma) ∈ vs) (hb : (b, mb) ∈ vs) (he : isIn H a b = some r) : Tri κ ρ vs (compareOp (cmOf op) ma mb) H (.ok (.bool (if op = .isIn then r else !r)) H) rV := by
  refine Tri.plain fun η s Q E at' hv hq => ?_
  have vb := hv _ hb
  cases b with
  | tup ws =>
    cases vb with
    | tup g nn r _ =>
      obtain ⟨x, e1, he⟩ := Option.bind_eq_some_iff.mp (show inTup H a ws = some _ from he)
      obtain ⟨ys, e2, rfl⟩ := Option.map_eq_some_iff.mp he
      obtain ⟨as, ra, c1, d1⟩ := snap_reads at'.inv 8 (hv _ ha) e1
      obtain ⟨bs, rb, c2, d2⟩ := mapM_reads (snap_reads at'.inv 8) r e2
      have hu : κ.A.units + 1 + min (PyData.depthAll ys) x.depth < cLine := by have := at'.units; have := Nat.min_le_right (PyData.depthAll ys) x.depth; omega
      rcases hop with rfl | rfl
      · exact PySem.SeqAt.in_tuple_reads (.tuple g rfl rfl rb) ra c2 c1 hu (hq _ s.toks (.bool _))
      · exact PySem.SeqAt.notIn_tuple_reads (.tuple g rfl rfl rb) ra c2 c1 hu (hq _ s.toks (.bool _))
  | str y =>
    obtain ⟨x, e1, rfl⟩ := Option.map_eq_some_iff.mp (show (strAt a).map _ = some _ from he)
    obtain ⟨t, rfl, _⟩ := vr_str (hv _ ha) e1
    cases vb
    rcases hop with rfl | rfl
    · exact PyProof.Rows.in_str (hq _ s.toks (.bool _))
    · exact PyProof.Rows.notIn_str (hq _ s.toks (.bool _))
  | _ => cases he

theorem cmpI_ok {op : Cm} {a b : V} {ma mb : Value} {r : Bool} (ho : op = .lt ∨ op = .le ∨ op = .gt) (ha : (a, ma) ∈ vs) (hb : (b, mb) ∈ vs) (he : (match intAt a with | some x => (match intAt b with | some y => cmpI op x y | Option.none => Option.none) | Option.none => Option.none) = some r) :
    Tri κ ρ vs (compareOp (cmOf op) ma mb) H (.ok (.bool r) H) rV := by
  cases hx : intAt a with
  | none => rw [hx] at he; cases he
  | some x =>
    cases hy : intAt b with
    | none => rw [hx, hy] at he; cases he
    | some y =>
      rw [hx, hy] at he
      refine Tri.plain fun η s Q E at' hv hq => ?_
      obtain ⟨t, rfl⟩ := vr_int (hv _ ha) hx
      obtain ⟨u, rfl⟩ := vr_int (hv _ hb) hy
      rcases ho with rfl | rfl | rfl
      · cases he; exact PyProof.Rows.lt_int (hq _ s.toks (.bool _))
      · cases he; exact PyProof.Rows.le_int (hq _ s.toks (.bool _))
      · cases he; exact PyProof.Rows.gt_int (hq _ s.toks (.bool _))
theorem cmp_ok {op : Cm} {a b : V} {ma mb : Value} {r : Bool} (ha : (a, ma) ∈ vs) (hb : (b, mb) ∈ vs) (he : cmp op a b H = some r) :
    Tri κ ρ vs (compareOp (cmOf op) ma mb) H (.ok (.bool r) H) rV := by
  cases op with
  | eq => exact eqV_ok (.inl rfl) ha hb he
  | ne =>
    obtain ⟨q, he', rfl⟩ := Option.map_eq_some_iff.mp he
    exact eqV_ok (op := .ne) (.inr rfl) ha hb he'
  | isIn => exact isIn_ok (.inl rfl) ha hb he
  | notIn =>
    obtain ⟨q, he', rfl⟩ := Option.map_eq_some_iff.mp he
    exact isIn_ok (op := .notIn) (.inr rfl) ha hb he'
  | is =>
    refine Tri.plain fun η s Q E at' hv hq => ?_
    have va := hv _ ha; have vb := hv _ hb
    cases b with
    | none =>
      cases vb
      cases he
      cases va
      · exact wpAny_is_self rfl (hq _ s.toks (.bool _))
      all_goals exact PyProof.Rows.is_none_ne (by intro q; cases q) (hq _ s.toks (.bool _))
    | _ => cases he
  | lt => exact cmpI_ok (.inl rfl) ha hb he
  | le => exact cmpI_ok (.inr (.inl rfl)) ha hb he
  | gt => exact cmpI_ok (.inr (.inr rfl)) ha hb he
end
end Mine

/-! J5 -/
namespace Mine
open PySem PyProof.Rows PySem.W

theorem Loads.det {mg mb : Str → Option Value} {f : String} {v w : Value} (a : Loads mg mb f v) (b : Loads mg mb f w) : v = w := by
  rcases a with a | a <;> rcases b with b | b
  · rw [a] at b; exact Option.some.inj b
  · rw [a] at b; cases b.1
  · rw [a.1] at b; cases b
  · exact Option.some.inj (a.2.symm.trans b.2)

noncomputable def Keepable (X : Cx) (f : Value) : Prop := ∀ h : Heap, (∀ b o, X.base.get? b = some o → h.get? b = some o) → ∃ k, (k = Keeper.frame ∨ k = Keeper.machine ∨ k = Keeper.boundFrame) ∧ Looks X.M h (keeperOf f) k

theorem keepable_builtin (X : Cx) (id : String) : Keepable X (.builtin id) := fun _ _ => ⟨.machine, .inr (.inl rfl), Looks.now⟩
theorem keepable_func {X : Cx} {a : Addr} {o : Obj} {fd : FuncData} (e : X.base.get? a = some o) (d : o.data = .func fd) : Keepable X (.ref a) := fun h k => by
  refine ⟨.frame, .inl rfl, (Looks.ld (part := none) (k _ _ e)).andThen ?_⟩
  simp only [d]
  exact Looks.now

noncomputable def isGlob (sc : Scope) (x : Str) : Bool := sc.names.lookup x == some .globalImplicit

section
variable {κ : Ct} {X : Cx} {n : Nat} {hd : Bool} {A : Around} {env : Env} {st : List Env} {ρ : Rho} {vs : List (V × Value)} {H : Hp}

noncomputable def rEq (v : Value) (m : Value) : Prop × List (V × Value) := (m = v, [])

theorem Tri.name {x : String} {id : Str} {pos : Pos} (hi : id = Str.ofString x) (hv : isVar κ.env.scope id = true) (hd1 : (id == ("__debug__" : Str)) = false) (hd2 : (id == ("__classdict__" : Str)) = false) :
    Tri κ ρ vs (eval (.Name id pos) κ.env) H (ofO H (ρ.lookup x)) rV := by
  cases e : ρ.lookup x with
  | none => exact Tri.stuck
  | some v =>
    refine Tri.plain fun η s Q E at' _ hq => wpAny_Name ?_ hd1
    subst hi
    obtain ⟨mv, hh, r⟩ := at'.rho x v e hv
    rcases hh with ⟨hk, m, hn, hm⟩ | ⟨hk | hk, c, o, hc, g, d⟩
    · exact wpAny_loadName_local at'.fok.kind hk hn hm (hq mv s.toks r)
    · exact wpAny_loadName_cell at'.fok.kind hk hc ⟨o, g, d⟩ (hq mv s.toks r)
    · exact wpAny_loadName_free at'.fok.kind hk hc ⟨o, g, d⟩ (hq mv s.toks r) hd2

theorem wpAny_glob {id : Str} {pos : Pos} {x : String} {v : Value} {η : List Addr} {s : Shared} {Q : Value → Shared → Prop} {E : Value → Shared → Prop} (at' : At κ η ρ H s) (hi : id = Str.ofString x) (hg : isGlob κ.env.scope id = true)
    (hd1 : (id == ("__debug__" : Str)) = false) (hl : Loads κ.X.mg κ.X.mb x v) (hq : Q v s) : wpAny κ.X.M κ.A (eval (.Name id pos) κ.env) Q E s := by
  subst hi
  refine PySem.Calls.Name_function_global at'.fok.kind (by unfold isGlob at hg; exact beq_iff_eq.mp hg) ?_ hd1
  have g1 : s.heap.Ns κ.env.globals κ.X.mg := by rw [at'.fok.glob]; exact κ.X.g.keeps at'.inv.keep
  have b1 : s.heap.Ns κ.env.builtins κ.X.mb := by rw [at'.fok.blt]; exact κ.X.b.keeps at'.inv.keep
  rcases hl with hl | ⟨hl, hl2⟩
  · exact PySem.Calls.loadGlobal_global g1 hl hq
  · exact PySem.Calls.loadGlobal_builtin g1 hl b1 hl2 hq

theorem Tri.glob {x : String} {id : Str} {pos : Pos} {v : Value} (hi : id = Str.ofString x) (hg : isGlob κ.env.scope id = true) (hd1 : (id == ("__debug__" : Str)) = false) (hl : Loads κ.X.mg κ.X.mb x v) :
    Tri κ ρ vs (eval (.Name id pos) κ.env) H (.ok v H) rEq :=
  Tri.reads fun _ s _ _ at' _ hq => wpAny_glob at' hi hg hd1 hl (hq v s.heap s.toks (fun _ _ e => e) rfl fun _ hp => nomatch hp)

theorem Tri.const_int {i : Int} {k : Nat} {pos : Pos} : Tri κ ρ vs (eval (.Constant (.int i) k pos) κ.env) H (.ok (.int i) H) rV :=
  Tri.plain fun _ _ _ _ _ _ hq => wpAny_Constant_int (hq _ _ (.int _ _))
theorem Tri.const_str {x : Str} {k : Nat} {pos : Pos} (ok : PyData.strOk x = true) : Tri κ ρ vs (eval (.Constant (.str x) k pos) κ.env) H (.ok (.str x) H) rV :=
  Tri.plain fun _ _ _ _ _ _ hq => PySem.Calls.Constant_str (hq _ _ (.str _ _ ok))
theorem Tri.const_none {k : Nat} {pos : Pos} : Tri κ ρ vs (eval (.Constant .none k pos) κ.env) H (.ok .none H) rV :=
  Tri.plain fun _ s _ _ _ _ hq => wpAny_pure (hq _ s.toks .none)
theorem Tri.const_bool {b : Bool} {k : Nat} {pos : Pos} : Tri κ ρ vs (eval (.Constant (.bool b) k pos) κ.env) H (.ok (.bool b) H) rV :=
  Tri.plain fun _ s _ _ _ _ hq => wpAny_pure (hq _ s.toks (.bool b))

theorem Tri.truthy {v : V} {m : Value} (hm : (v, m) ∈ vs) : Tri κ ρ vs (PySem.truthy m) H (ofO H (truth v)) rB := by
  cases v with
  | bool b =>
    refine Tri.reads fun _ s _ _ _ hv hq => ?_
    have r := hv _ hm
    cases r
    exact wpAny_truthy_bool (hq _ s.heap s.toks (fun _ _ e => e) rfl fun _ hp => nomatch hp)
  | _ => exact Tri.stuck

theorem Tri.spliced_nil : Tri κ ρ vs (spliced []) H (.ok ([] : List V) H) rL := Tri.pure rfl (fun _ hp => nomatch hp)

theorem Tri.spliced_cons {t : Sem Value} {rest : List (Bool × Sem Value)} {r1 : R V} {f : V → Hp → R (List V)}
    (h1 : Tri κ ρ vs t H r1 rV) (h2 : ∀ v H1 m, r1 = .ok v H1 → Tri κ ρ (vs ++ [(v, m)]) (spliced rest) H1 (f v H1) rL) :
    Tri κ ρ vs (spliced ((false, t) :: rest)) H (r1.bind fun v H1 => (f v H1).bind fun ws H2 => .ok (v :: ws) H2) rL := by
  rw [spliced]
  refine Tri.bind h1 fun v H1 m e _ => ?_
  simp only [Bool.false_eq_true, if_false]
  show Tri _ _ _ (Pure.pure [m] >>= _) _ _ _
  refine Tri.skip (a₀ := [m]) (fun _ _ _ q => wpAny_pure q) ?_
  refine Tri.bind (Tri.holding (h2 v H1 m e)) fun ws H2 ms _ hl => ?_
  refine Tri.pure ?_ ?_
  · show (v :: ws).length = ([m] ++ ms).length
    have : ws.length = ms.length := hl
    simp [this]
  · intro p hp
    rcases List.mem_cons.mp hp with rfl | hp
    · exact m1 m0
    · exact List.mem_append.mpr (.inr hp)

theorem backTo_cons {pos : Pos} {t : Sem Value} {rest : List (Bool × Sem Value)} : backTo pos ((false, t) :: rest) = (false, t) :: backTo pos rest := rfl

theorem Tri.args {fv : Value} {args : List (Bool × Sem Value)} {r1 : R (List V)} (hp : args.any (·.1) = false) (h1 : Tri κ ρ vs (spliced args) H r1 rL) :
    Tri κ ρ vs (evalArgs fv true args []) H r1 (fun ws (a : Args) => (ws.length = a.pos.length ∧ a.kw = [], ws.zip a.pos)) := by
  intro hs1 η s a hv
  have hm := h1 hs1 η s a hv
  cases args with
  | nil =>
    unfold evalArgs
    show wpAny κ.X.M κ.A (spliced [] >>= _) _ _ s
    refine wpAny_bind (monoN hm fun ms s' ⟨ws, H', e, hl, P⟩ => ?_)
    refine wpAny_holding ?_
    exact wpAny_bind (wpAny_pure (wpAny_bind (wpAny_pure (wpAny_pure ⟨ws, H', e, ⟨hl, rfl⟩, P⟩))))
  | cons x rest =>
    obtain ⟨b, t⟩ := x
    have hb : b = false := by simp only [List.any_cons, Bool.or_eq_false_iff] at hp; exact hp.1
    subst hb
    exact PySem.Calls.evalArgs_plain (monoN hm fun ms s' ⟨ws, H', e, hl, P⟩ => ⟨ws, H', e, ⟨hl, rfl⟩, P⟩)
theorem Tri.callWith {pos : Pos} {fv : Value} {first : List Value} {args : List (Bool × Sem Value)} {r1 : R (List V)} {f : List V → Hp → R V} (hk : Keepable κ.X fv) (hp : args.any (·.1) = false)
    (h1 : Tri κ ρ vs (spliced args) H r1 rL) (h2 : ∀ ws H1 ms, r1 = .ok ws H1 → ws.length = ms.length → Tri κ ρ (vs ++ ws.zip ms) (PySem.call fv (first ++ ms)) H1 (f ws H1) rV) :
    Tri κ ρ vs (PySem.callWith pos fv first args []) H (r1.bind f) rV := by
  refine Tri.via (fun Q s q => callWith_of (P := fun h => ∀ b o, κ.X.base.get? b = some o → h.get? b = some o) (by rw [hp]; rfl) hk q) (Tri.args hp h1) fun ws H1 ar e hl hs η s Q at' hv hq => ⟨at'.inv.keep, ?_⟩
  rw [hl.2]
  exact monoN (h2 ws H1 ar.pos e hl.1 hs η s at' hv) hq
end
end Mine

/-! J6 -/
namespace Mine
open PySem PyProof.Rows PySem.W

theorem rangeL_len (b : Int) : (rangeL b).length = b.toNat := by unfold rangeL; simp
theorem rng_facts {b : Int} (h : -500000 ≤ b ∧ b ≤ 500000) : Builtin.Range.rangeSize 0 b 1 = ((rangeL b).length : Int) ∧ Builtin.Range.small 0 b 1 = true := by
  have e1 : Builtin.Range.rangeSize 0 b 1 = ((rangeL b).length : Int) := by
    rw [rangeL_len]
    unfold Builtin.Range.rangeSize
    rw [if_pos (by decide)]
    by_cases hab : 0 < b
    · rw [if_pos hab]; omega
    · rw [if_neg hab]; omega
  refine ⟨e1, ?_⟩
  unfold Builtin.Range.small
  rw [e1, rangeL_len]
  unfold Builtin.Range.rangeFitsLong
  rw [if_pos (by decide)]
  simp only [Bool.and_eq_true, Bool.or_eq_true, decide_eq_true_eq]
  refine ⟨⟨⟨⟨?_, ?_⟩, ?_⟩, ?_⟩, .inr ?_⟩ <;> (constructor <;> omega)

theorem rangeL_get {b : Int} {i : Nat} (h : i < (rangeL b).length) : (rangeL b)[i] = i := by
  simp [rangeL]

section
variable {κ : Ct} {X : Cx} {ρ : Rho} {vs : List (V × Value)} {H : Hp}

theorem line_63 : (line : Int) < 2 ^ 63 := by decide

theorem one_of {α : Type} {v : V} {ms : List α} (h : [v].length = ms.length) : ∃ m, ms = [m] := match ms, h with | [m], _ => ⟨m, rfl⟩
theorem two_of {α : Type} {v w : V} {ms : List α} (h : [v, w].length = ms.length) : ∃ m k, ms = [m, k] := match ms, h with | [m, k], _ => ⟨m, k, rfl⟩
theorem two'_inv {vs : List V} {p : Int × Int} (h : two' vs = some p) : ∃ a b, vs = [a, b] ∧ intAt a = some p.1 ∧ intAt b = some p.2 := by
  cases vs with
  | nil => cases h
  | cons a r =>
    cases r with
    | nil => cases h
    | cons b r =>
      cases r with
      | cons => cases h
      | nil =>
        cases ha : intAt a with
        | none => rw [two', ha] at h; cases h
        | some x =>
          cases hb : intAt b with
          | none => rw [two', ha, hb] at h; cases h
          | some y => rw [two', ha, hb] at h; cases h; exact ⟨a, b, rfl, ha, hb⟩
theorem two'_vr {ws : List V} {ms : List Value} {p : Int × Int} {η : List Addr} {h : Heap} (e : two' ws = some p) (hl : ws.length = ms.length) (hw : ∀ q ∈ ws.zip ms, VR X η h q.1 q.2) : ∃ t u, ms = [.int p.1 t, .int p.2 u] := by
  obtain ⟨a, b, rfl, ha, hb⟩ := two'_inv e
  obtain ⟨m, k, rfl⟩ := two_of hl
  obtain ⟨t, rfl⟩ := vr_int (hw _ (List.Mem.head _)) ha
  obtain ⟨u, rfl⟩ := vr_int (hw _ (List.Mem.tail _ (List.Mem.head _))) hb
  exact ⟨t, u, rfl⟩


theorem len_ok {ws : List V} {ms : List Value} (hl : ws.length = ms.length) (hw : ∀ p ∈ ws.zip ms, p ∈ vs) : Tri κ ρ vs (PySem.call (.builtin "len") ms) H (biLen ws H) rV := by
  unfold biLen
  split
  · rename_i v
    obtain ⟨m, rfl⟩ := one_of hl
    have key : Tri κ ρ vs (PySem.call (.builtin "len") [m]) H (match listAt v H with | some xs => .ok (.int xs.length) H | Option.none => .stuck) rV := by
      cases hx : listAt v H with
      | none => exact Tri.stuck
      | some xs =>
        refine Tri.plain fun η s Q E at' hv hq => ?_
        obtain ⟨a, items, c, rfl, g, r, l⟩ := vr_list at'.inv (hv _ (hw _ (List.Mem.head _))) hx
        have e := r.size
        refine PySem.Calls.call_len_list ⟨_, g, rfl, c, rfl⟩ (by rw [e]; have := line_63; omega) ?_
        rw [e]
        exact hq _ _ (.int _ _)
    cases v with
    | scr ns =>
      refine Tri.plain fun η s Q E at' hv hq => ?_
      have r := hv _ (hw _ (List.Mem.head _))
      cases r with
      | @scr a items ns hb hi hln =>
        have e := (Array.length_toList (xs := items)).symm.trans hi.length
        have hl' : s.heap.IsList a items := let ⟨o, ho, q⟩ := hb; ⟨o, at'.inv.keep _ _ ho, q⟩
        refine PySem.Calls.call_len_list hl' (by rw [e]; have := line_63; omega) ?_
        rw [e]
        exact hq _ _ (.int _ _)
    | tup xs =>
      refine Tri.plain fun η s Q E at' hv hq => ?_
      have r := hv _ (hw _ (List.Mem.head _))
      cases r with
      | tup g hn r l =>
        have e := r.size
        refine PyProof.Rows.len_tuple ⟨_, g, rfl, _, rfl⟩ (by rw [e]; have := line_63; omega) ?_
        rw [e]
        exact hq _ _ (.int _ _)
    | str x =>
      dsimp only
      split
      · rename_i hle
        refine Tri.plain fun η s Q E at' hv hq => ?_
        have r := hv _ (hw _ (List.Mem.head _))
        cases r
        exact PyProof.Rows.len_str (by have := line_63; omega) (hq _ _ (.int _ _))
      · exact Tri.stuck
    | _ => exact key
  · exact Tri.stuck

theorem bools_get {η : List Addr} {h : Heap} : ∀ {xs : List V} {ms : List Value} {bs : List Bool}, VRs X η h xs ms → bools xs = some bs → ms.length = bs.length ∧ ∀ (i : Nat) (v : Value), ms[i]? = some v → ∃ b : Bool, bs[i]? = some b ∧ v = Value.bool b
  | _, _, _, .nil, e => by cases e; exact ⟨rfl, fun i v q => by simp at q⟩
  | _, _, _, .cons a r, e => by
    unfold bools at e
    rw [List.mapM_cons] at e
    obtain ⟨b, e1, e⟩ := Option.bind_eq_some_iff.mp e
    obtain ⟨cs, e2, e⟩ := Option.bind_eq_some_iff.mp e
    cases e
    obtain ⟨l, ih⟩ := bools_get r e2
    refine ⟨congrArg Nat.succ l, fun i v q => ?_⟩
    cases i with
    | zero =>
      cases q
      cases a with
      | bool c => cases e1; exact ⟨_, rfl, rfl⟩
      | _ => cases e1
    | succ i => exact ih i v q

theorem all_ok {ws : List V} {ms : List Value} (hl : ws.length = ms.length) (hw : ∀ p ∈ ws.zip ms, p ∈ vs) : Tri κ ρ vs (PySem.call (.builtin "all") ms) H (biAll ws H) rV := by
  unfold biAll
  split
  · rename_i v
    obtain ⟨m, rfl⟩ := one_of hl
    cases hx : (listAt v H).bind bools with
    | none => exact Tri.stuck
    | some bs =>
      obtain ⟨xs, e1, e2⟩ := Option.bind_eq_some_iff.mp hx
      refine Tri.reads fun η s Q E at' hv hq => ?_
      obtain ⟨a, items, c, rfl, g, r, l⟩ := vr_list at'.inv (hv _ (hw _ (List.Mem.head _))) e1
      obtain ⟨hn, hb⟩ := bools_get r e2
      have hL : s.heap.IsList a items := ⟨_, g, rfl, c, rfl⟩
      refine call_all_walk (wpAny_pyIter_list hL ⟨s.heap.objs.size, [s.heap.objs.size, a], [s.heap.objs.size], items.size, _, _, fun i => (bs[i]?).getD true, rfl, Walks.list (A := κ.A.in1) at'.hand _ a (Nat.ne_of_lt (Heap.lt_size g)) items,
        ⟨⟨_, Heap.get?_push_size _ rfl, rfl, rfl⟩, hL.push _⟩, fun i v s' Q' E' hP hQ => ?_, fun h' tk hk => ?_⟩)
      · obtain ⟨b, e, rfl⟩ := hb i v (by simpa using hP)
        simp only [e, Option.getD_some] at hQ
        exact wpAny_truthy_bool hQ
      · have e : ((List.range items.size).all fun i => (bs[i]?).getD true) = bs.all id := by
          rw [← Array.length_toList, hn]; exact LSm.range_all bs
        rw [e]
        exact hq _ h' tk (LSm.kept_iter hk) trivial fun p hp => rV1 hp (.bool _)
  · exact Tri.stuck

theorem min_ok {ws : List V} {ms : List Value} (hl : ws.length = ms.length) (hw : ∀ p ∈ ws.zip ms, p ∈ vs) : Tri κ ρ vs (PySem.call (.builtin "min") ms) H (biMin ws H) rV := by
  unfold biMin
  cases hp : two' ws with
  | none => exact Tri.stuck
  | some p =>
    refine Tri.reads fun η s Q E at' hv hq => ?_
    obtain ⟨t, u, rfl⟩ := two'_vr hp hl fun q hq => hv _ (hw _ hq)
    exact min_two_ints at'.hand fun h' tk hk => hq _ h' tk hk trivial fun q hq => rV1 hq (by split <;> exact .int _ _)

theorem max_ok {ws : List V} {ms : List Value} (hl : ws.length = ms.length) (hw : ∀ p ∈ ws.zip ms, p ∈ vs) : Tri κ ρ vs (PySem.call (.builtin "max") ms) H (biMax ws H) rV := by
  unfold biMax
  cases hp : two' ws with
  | none => exact Tri.stuck
  | some p =>
    refine Tri.reads fun η s Q E at' hv hq => ?_
    obtain ⟨t, u, rfl⟩ := two'_vr hp hl fun q hq => hv _ (hw _ hq)
    exact max_two_ints at'.hand fun h' tk hk => hq _ h' tk hk trivial fun q hq => rV1 hq (by split <;> exact .int _ _)

theorem range_ok {ws : List V} {ms : List Value} (hl : ws.length = ms.length) (hw : ∀ p ∈ ws.zip ms, p ∈ vs) : Tri κ ρ vs (PySem.call (.type "range") ms) H (biRange ws H) rV := by
  unfold biRange
  split
  · rename_i v
    obtain ⟨m, rfl⟩ := one_of hl
    cases hx : intAt v with
    | none => exact Tri.stuck
    | some a =>
      refine Tri.reads fun η s Q E at' hv hq => ?_
      obtain ⟨t, rfl⟩ := vr_int (hv _ (hw _ (List.Mem.head _))) hx
      exact call_range_1 (hq _ _ _ (push_keeps _ _) trivial fun p hp => rV1 hp (.rng (Heap.get?_push_size _ rfl) at'.inv.size_off))
  · exact Tri.stuck

theorem int_ok {ws : List V} {ms : List Value} (hl : ws.length = ms.length) (hw : ∀ p ∈ ws.zip ms, p ∈ vs) : Tri κ ρ vs (PySem.call (.type "int") ms) H (biInt ws H) rV := by
  unfold biInt
  split
  · rename_i v
    obtain ⟨m, rfl⟩ := one_of hl
    cases hx : strAt v with
    | none => exact Tri.stuck
    | some x =>
      dsimp only
      split
      · rename_i hle
        cases hn : PySem.intText? x with
        | none => exact Tri.stuck
        | some n =>
          refine Tri.plain fun η s Q E at' hv hq => ?_
          obtain ⟨t, rfl, _⟩ := vr_str (hv _ (hw _ (List.Mem.head _))) hx
          exact KIN.call_text hn hle (hq _ _ (.int _ _))
      · exact Tri.stuck
  · exact Tri.stuck

theorem list_ok {ws : List V} {ms : List Value} (hl : ws.length = ms.length) (hw : ∀ p ∈ ws.zip ms, p ∈ vs) : Tri κ ρ vs (PySem.call (.type "list") ms) H (biList ws H) rV := by
  unfold biList
  split
  · rename_i v
    obtain ⟨m, rfl⟩ := one_of hl
    cases hx : listAt v H with
    | none => exact Tri.stuck
    | some xs =>
      by_cases hle : xs.length ≤ line
      · refine Tri.madeL hle fun η s Q E at' hv hq => ?_
        obtain ⟨a, items, c, rfl, g, r, l⟩ := vr_list at'.inv (hv _ (hw _ (List.Mem.head _))) hx
        exact call_list_seq _ (.inl rfl) g rfl rfl (fun h' c' k e => hq _ h' _ _ s.toks (size_none _) k e r) (by rw [r.size]; unfold sizeLine; unfold line at l; omega)
      · intro _ η s at' hv
        obtain ⟨a, items, c, rfl, g, r, l⟩ := vr_list at'.inv (hv _ (hw _ (List.Mem.head _))) hx
        exact absurd l hle
  · exact Tri.stuck

theorem builtin_ok {f : String} {fv : Value} {ws : List V} {ms : List Value} (hf : biVal f = some fv) (hl : ws.length = ms.length) (hw : ∀ p ∈ ws.zip ms, p ∈ vs) :
    Tri κ ρ vs (PySem.call fv ms) H (builtin f ws H) rV := by
  unfold builtin
  by_cases h1 : f = "len"
  · subst h1; cases hf; rw [if_pos rfl]; exact len_ok hl hw
  rw [if_neg h1]
  by_cases h2 : f = "all"
  · subst h2; cases hf; rw [if_pos rfl]; exact all_ok hl hw
  rw [if_neg h2]
  by_cases h3 : f = "min"
  · subst h3; cases hf; rw [if_pos rfl]; exact min_ok hl hw
  rw [if_neg h3]
  by_cases h4 : f = "max"
  · subst h4; cases hf; rw [if_pos rfl]; exact max_ok hl hw
  rw [if_neg h4]
  by_cases h5 : f = "range"
  · subst h5; cases hf; rw [if_pos rfl]; exact range_ok hl hw
  rw [if_neg h5]
  by_cases h6 : f = "list"
  · subst h6; cases hf; rw [if_pos rfl]; exact list_ok hl hw
  rw [if_neg h6]
  by_cases h7 : f = "int"
  · subst h7; cases hf; rw [if_pos rfl]; exact int_ok hl hw
  rw [if_neg h7]
  exact Tri.stuck
end
end Mine

/-! J7 -/
namespace Mine
open PySem PyProof.Rows PySem.W

theorem place_eq (k : Int) (n : Nat) : place k n = seqIndex? k n := by
  unfold place seqIndex?
  by_cases h0 : 0 ≤ k
  · have h1 : ¬ k < 0 := by omega
    simp only [h0, h1, if_true, if_false, decide_true, Bool.true_and, decide_eq_true_eq]
  · have h1 : k < 0 := by omega
    simp only [h0, h1, if_true, if_false]
    by_cases h2 : -(n : Int) ≤ k
    · rw [if_pos h2, if_pos (by simp only [Bool.and_eq_true, decide_eq_true_eq]; omega)]
    · rw [if_neg h2, if_neg (by simp only [Bool.and_eq_true, decide_eq_true_eq]; omega)]

theorem place_lt {k : Int} {n j : Nat} (h : place k n = some j) : j < n ∧ -(n : Int) ≤ k ∧ k < n := by
  unfold place at h
  split at h <;> split at h <;> first | (cases h; omega) | cases h

theorem VRs.get {X : Cx} {η : List Addr} {h : Heap} : ∀ {vs : List V} {ms : List Value} (_ : VRs X η h vs ms) {j : Nat} {v : V}, vs[j]? = some v → ∃ m, ms[j]? = some m ∧ VR X η h v m
  | _, _, .nil, j, v, e => by simp at e
  | _, _, .cons a r, 0, v, e => by cases e; exact ⟨_, rfl, a⟩
  | _, _, .cons a r, j + 1, v, e => VRs.get r e

theorem IntsAre.get' : ∀ {vs : List Value} {ns : List Int} (_ : IntsAre vs ns) {j : Nat} {n : Int}, ns[j]? = some n → ∃ t, vs[j]? = some (.int n t)
  | _, _, .nil, j, v, e => by simp at e
  | _, _, .cons a t r, 0, v, e => by cases e; exact ⟨_, rfl⟩
  | _, _, .cons a t r, j + 1, v, e => IntsAre.get' r e

section
variable {κ : Ct} {ρ : Rho} {vs : List (V × Value)} {H : Hp}

theorem wpAny_item_list {X : Cx} {A : Around} {s : Shared} {a : Addr} {items : Array Value} {k : Int} {u : Tok} {j : Nat} {m : Value} {value slice : Expr} {Q : Value → Shared → Prop} {E : Value → Shared → Prop}
    (hl : s.heap.IsList a items) (hn : items.size ≤ line) (hj : place k items.size = some j) (hm : items[j]? = some m) (hs : subscripted slice false (.ref a) (.int k u) = operate [.ref a, .int k u] (getItem (.ref a) (.int k u))) (hq : Q m s) :
    wpAny X.M A (subscriptTail value slice (.ref a) (.int k u)) Q E s := by
  have hlt := place_lt hj
  have hln : (items.size : Int) ≤ 1048576 := by unfold line at hn; omega
  refine tail_any hl.typeIs slot_list_getitem.lookup ?_ hs
  unfold place at hj
  split at hj
  · rename_i h0
    rw [if_pos hlt.2.2] at hj
    cases hj
    exact wpAny_getItem_list hl h0 (by omega) hm hq
  · rename_i h0
    rw [if_pos hlt.2.1] at hj
    cases hj
    exact wpAny_getItem_list_neg hl (by omega) hlt.2.1 (by omega) hm hq


theorem itemAt_ok {xs : List V} {k : Int} {m : Sem Value} (h : ∀ (j : Nat) (v : V), place k xs.length = some j → xs[j]? = some v → Tri κ ρ vs m H (.ok v H) rV) : Tri κ ρ vs m H (itemAt xs k H) rV := by
  unfold itemAt
  cases e : (place k xs.length).bind (xs[·]?) with
  | none => exact Tri.stuck
  | some v =>
    obtain ⟨j, e1, e2⟩ := Option.bind_eq_some_iff.mp e
    exact h j v e1 e2
theorem strOk_one {x : Str} {j c : Nat} (o : PyData.strOk x = true) (e : x.cps[j]? = some c) : PyData.strOk ⟨#[c]⟩ = true := by
  unfold PyData.strOk at *
  obtain ⟨hj, rfl⟩ := Array.getElem?_eq_some_iff.mp e
  simpa using (Array.all_eq_true.mp o) j hj

theorem index_ok {o i : V} {mo mi : Value} {value slice : Expr} (ho : (o, mo) ∈ vs) (hi : (i, mi) ∈ vs) (hs : ∀ a b, subscripted slice false a b = operate [a, b] (getItem a b)) :
    Tri κ ρ vs (subscriptTail value slice mo mi) H (index o i H) rV := by
  unfold index
  cases hk : intAt i with
  | none => exact Tri.stuck
  | some k =>
    have key : Tri κ ρ vs (subscriptTail value slice mo mi) H (match listAt o H with | some xs => itemAt xs k H | Option.none => .stuck) rV := by
      cases hx : listAt o H with
      | none => exact Tri.stuck
      | some xs =>
        refine itemAt_ok fun j v e1 e2 => Tri.plain fun η s Q E at' hv hq => ?_
        obtain ⟨u, rfl⟩ := vr_int (hv _ hi) hk
        obtain ⟨a, items, c, rfl, g, r, l⟩ := vr_list at'.inv (hv _ ho) hx
        obtain ⟨m, e3, rm⟩ := r.get e2
        exact wpAny_item_list ⟨_, g, rfl, c, rfl⟩ (by rw [r.size]; exact l) (by rw [r.size]; exact e1) (by simpa using e3) (hs _ _) (hq _ s.toks rm)
    cases o with
    | tup xs =>
      refine itemAt_ok fun j v e1 e2 => Tri.plain fun η s Q E at' hv hq => ?_
      obtain ⟨u, rfl⟩ := vr_int (hv _ hi) hk
      have vo := hv _ ho
      cases vo with
      | tup g nn r l =>
        obtain ⟨m, e3, rm⟩ := r.get e2
        have hlt := place_lt e1
        have hln : (xs.length : Int) ≤ 1048576 := by unfold line at l; omega
        refine tail_any (T := "tuple") ⟨_, g, rfl⟩ F.slot_tuple_getitem.lookup (P.getItem_tuple g (by omega) (by omega) (by rw [← place_eq, r.size]; exact e1) (by simpa using e3) (hq _ s.toks rm)) (hs _ _)
    | scr ns =>
      refine itemAt_ok fun j v e1 e2 => Tri.plain fun η s Q E at' hv hq => ?_
      obtain ⟨u, rfl⟩ := vr_int (hv _ hi) hk
      rw [List.length_map] at e1
      rw [List.getElem?_map] at e2
      obtain ⟨z, e4, rfl⟩ := Option.map_eq_some_iff.mp e2
      have vo := hv _ ho
      cases vo with
      | scr hb hi' hln =>
        rename_i a items
        have es := (Array.length_toList (xs := items)).symm.trans hi'.length
        obtain ⟨t, e3⟩ := IntsAre.get' hi' e4
        have hl' : s.heap.IsList a items := let ⟨o, ho, q⟩ := hb; ⟨o, at'.inv.keep _ _ ho, q⟩
        exact wpAny_item_list hl' (by rw [es]; exact hln) (by rw [es]; exact e1) (by simpa using e3) (hs _ _) (hq _ s.toks (.int _ _))
    | lst xs =>
      refine itemAt_ok fun j v e1 e2 => Tri.plain fun η s Q E at' hv hq => ?_
      obtain ⟨u, rfl⟩ := vr_int (hv _ hi) hk
      have vo := hv _ ho
      cases vo with
      | lst g nn r l =>
        obtain ⟨m, e3, rm⟩ := r.get e2
        exact wpAny_item_list ⟨_, g, rfl, _, rfl⟩ (by rw [r.size]; exact l) (by rw [r.size]; exact e1) (by simpa using e3) (hs _ _) (hq _ s.toks rm)
    | str x =>
      dsimp only
      split
      · rename_i hle
        refine itemAt_ok fun j v e1 e2 => Tri.plain fun η s Q E at' hv hq => ?_
        obtain ⟨u, rfl⟩ := vr_int (hv _ hi) hk
        unfold signs at e1 e2
        rw [List.length_map, Array.length_toList] at e1
        rw [List.getElem?_map, Array.getElem?_toList] at e2
        obtain ⟨c, e3, rfl⟩ := Option.map_eq_some_iff.mp e2
        obtain ⟨t, rfl, ok⟩ := vr_str (hv _ ho) rfl
        have hlt := place_lt e1
        have hln : (x.cps.size : Int) ≤ 1048576 := by unfold line at hle; exact Int.ofNat_le.mpr hle
        rw [place_eq] at e1
        refine tail_any (T := "str") (typeIs_str _ _ _) F.slot_str_getitem.lookup (PyProof.Rows.getItem_str ?_ (by show (seqIndex? k x.cps.size).bind _ = _; rw [e1]; exact e3) (hq _ _ (.str _ _ (strOk_one ok e3)))) (hs _ _)
        rw [Bool.or_eq_false_iff, decide_eq_false_iff_not, decide_eq_false_iff_not]
        omega
      · exact Tri.stuck
    | _ => exact key

theorem Tri.newTuple {ws : List V} {ms : List Value} (hl : ws.length = ms.length) (hw : ∀ p ∈ ws.zip ms, p ∈ vs) (hln : ws.length ≤ line) : Tri κ ρ vs (PySem.newTuple ms) H (.ok (.tup ws) H) rV :=
  Tri.reads fun η s Q E at' hv hq => wpAny_newTuple (hq _ _ s.toks (push_keeps _ _) trivial fun p hp => rV1 hp (.tup (Heap.get?_push_size _ rfl) at'.inv.size_off ((VRs.of_zip hl fun p hp => hv p (hw p hp)).up (Step.ext [] η (push_keeps _ _))) hln)) (by rw [← hl]; exact Nat.le_trans hln line_lt)

theorem Tri.newList {ws : List V} {ms : List Value} (hl : ws.length = ms.length) (hw : ∀ p ∈ ws.zip ms, p ∈ vs) (hln : ws.length ≤ line) : Tri κ ρ vs (PySem.newList ms) H (new (.list ws) H) rV :=
  Tri.madeL hln fun η s Q E at' hv hq => wpAny_newList (hq _ _ _ _ s.toks (size_none _) (push_keeps _ _) (Heap.get?_push_size _ rfl) (VRs.of_zip hl fun p hp => hv p (hw p hp))) (by rw [← hl]; exact Nat.le_trans hln line_lt)

theorem Tri.hidden {ws : List V} {ms : List Value} (hl : ws.length = ms.length) (hw : ∀ p ∈ ws.zip ms, p ∈ vs) (hln : ws.length ≤ line) : Tri κ ρ vs (PySem.newList ms) H (.ok (.lst ws) H) rV :=
  Tri.reads fun η s Q E at' hv hq => wpAny_newList (hq _ _ s.toks (push_keeps _ _) trivial fun p hp => rV1 hp (.lst (Heap.get?_push_size _ rfl) at'.inv.size_off ((VRs.of_zip hl fun p hp => hv p (hw p hp)).up (Step.ext [] η (push_keeps _ _))) hln)) (by rw [← hl]; exact Nat.le_trans hln line_lt)
end
end Mine

/-! J18 -/
namespace Mine
open PySem PyProof.Rows PySem.W

noncomputable def Mach (h : Heap) (b : Addr) : Prop := ∃ o, h.get? b = some o ∧ ((∃ T fs, o.cls = .type T ∧ o.data = .fields fs ∧ T ≠ "range") ∨ ∃ es n, o.data = .dict es n)

structure Turn (its η : List Addr) (H : Hp) (h h' : Heap) : Prop where
  keep : ∀ b o, b ∉ its → h.get? b = some o → h'.get? b = some o
  was : ∀ b ∈ its, (b ∉ η ∧ Mach h b) ∨ ∃ (n : Nat) (x y : Value), η[n]? = some b ∧ H[n]? = some O.own ∧ h'.get? b = some { cls := .type "tuple", data := .seq #[x, y] }

section
variable {X : Cx} {η : List Addr} {h h' : Heap} {H : Hp} {it : Addr} {its : List Addr}
theorem Turn.one (hη : it ∉ η) (hm : Mach h it) (k : ∀ b o, b ≠ it → h.get? b = some o → h'.get? b = some o) : Turn [it] η H h h' :=
  ⟨fun b o hb => k b o fun q => hb (List.mem_singleton.mpr q), fun b hb => by rw [List.mem_singleton] at hb; subst hb; exact .inl ⟨hη, hm⟩⟩
theorem Turn.holds (x : Turn its η H h h') : Holds η h η h' := fun a o e hn hs => by
  refine ⟨x.keep a o (fun q => ?_) e, hn⟩
  rcases x.was a q with ⟨_, o', e', m⟩ | ⟨n, _, _, e1, _⟩
  · rw [e] at e'; cases e'
    rcases m with ⟨T, fs, c, d, hT⟩ | ⟨es, n, d⟩ <;> rcases hs with ⟨xs, k, d'⟩ | ⟨c', fs', d'⟩
    · rw [d] at d'; cases d'
    · rw [c] at c'; cases c'; exact hT rfl
    · rw [d] at d'; cases d'
    · rw [d] at d'; cases d'
  · exact hn (List.mem_of_getElem? e1)
theorem Turn.vr (x : Turn its η H h h') {v : V} {m : Value} (r : VR X η h v m) : VR X η h' v m := r.map ⟨[], (List.append_nil _).symm⟩ x.holds
theorem Turn.vrs (x : Turn its η H h h') {v : List V} {m : List Value} (r : VRs X η h v m) : VRs X η h' v m := r.map ⟨[], (List.append_nil _).symm⟩ x.holds
theorem Turn.inv (x : Turn its η H h h') (i : Inv X η H h) (hb : ∀ b ∈ its, X.base.get? b = Option.none) : Inv X η H h' := by
  refine ⟨fun b o e => x.keep b o (fun q => by rw [hb b q] at e; cases e) (i.keep b o e), i.len, i.fresh, i.nodup, fun n a o ha ho => ?_⟩
  by_cases hi : a ∈ its
  · rcases x.was a hi with ⟨hn, _⟩ | ⟨k, y, z, e1, e2, e3⟩
    · exact absurd (List.mem_of_getElem? ha) hn
    · have : n = k := by
        obtain ⟨h1, q1⟩ := List.getElem?_eq_some_iff.mp ha
        obtain ⟨h2, q2⟩ := List.getElem?_eq_some_iff.mp e1
        exact (List.getElem_inj i.nodup (h₀ := h1) (h₁ := h2)).mp (q1.trans q2.symm)
      subst this
      rw [e2] at ho; cases ho
      exact ⟨_, e3, .own⟩
  · obtain ⟨ob, e, r⟩ := i.objs n a o ha ho
    exact ⟨ob, x.keep a ob hi e, r.map ⟨[], (List.append_nil _).symm⟩ x.holds⟩
theorem Turn.step {own η0 : List Addr} {h0 : Heap} (x : Turn its η H h h') (s : Step own η0 h0 η h) (h0n : ∀ b ∈ its, h0.get? b = Option.none) : Step own η0 h0 η h' := by
  have ne : ∀ b o, h0.get? b = some o → b ∉ its := fun b o e q => by rw [h0n b q] at e; cases e
  refine ⟨s.pre, fun b o e => let ⟨o1, e1⟩ := s.alive b o e; ⟨o1, x.keep b o1 (ne b o e) e1⟩, fun b o e hb ho => x.keep b o (ne b o e) (s.same b o e hb ho), fun b o e hb es' k d => ?_, fun b o e hb v d => ?_⟩
  · obtain ⟨o1, es1, k1, e1, d1⟩ := s.dicts b o e hb es' k d
    exact ⟨o1, es1, k1, x.keep b _ (ne b o e) e1, d1⟩
  · obtain ⟨o1, v1, e1, d1⟩ := s.cells b o e hb v d
    exact ⟨o1, v1, x.keep b _ (ne b o e) e1, d1⟩
theorem Turn.ends {env : Env} {ρ : Rho} (x : Turn its η H h h') (e : Ends X env ρ η h) (hn : ∀ b ∈ ownOf env, b ∉ its) : Ends X env ρ η h' := by
  obtain ⟨fo, ro⟩ := e
  have ns : ∀ {m : Str → Option Value}, h.Ns env.locals m → h'.Ns env.locals m := fun {m} ⟨o, es, ep, e, d, r⟩ =>
    ⟨o, es, ep, x.keep _ _ (hn _ (List.Mem.head _)) e, d, r⟩
  have cl : ∀ {y : Str} {c : Addr} {o : Obj}, (y, c) ∈ env.cells → h.get? c = some o → h'.get? c = some o := fun {y c o} m e => x.keep _ _ (hn c (List.mem_cons.mpr (.inr (List.mem_map.mpr ⟨(y, c), m, rfl⟩)))) e
  refine ⟨⟨fo.kind, fo.glob, fo.blt, let ⟨m, hn⟩ := fo.ns; ⟨m, ns hn⟩, fun p hp => let ⟨o, v, e, d⟩ := fo.cell p hp; ⟨o, v, cl (y := p.1) hp e, d⟩, fo.cells, fo.inj, fo.off⟩, fun y v ey hy => ?_⟩
  obtain ⟨mv, hh, r⟩ := ro y v ey hy
  refine ⟨mv, ?_, x.vr r⟩
  rcases hh with ⟨hk, m, hn, hm⟩ | ⟨hk, c, o, hc, g, d⟩
  · exact .inl ⟨hk, m, ns hn, hm⟩
  · exact .inr ⟨hk, c, o, hc, cl (lookup_mem hc) g, d⟩
noncomputable def Recs (its η : List Addr) (h : Heap) : Prop := ∀ b ∈ its, b ∈ η ∨ ∃ o fs, h.get? b = some o ∧ o.data = .fields fs
theorem Recs.off {l : List Addr} (x : Recs its η h) (f : Frm h l) (hl : ∀ b ∈ l, b ∉ η) : ∀ b ∈ l, b ∉ its := fun b hb q => by
  rcases x b q with z | ⟨o, fs, e, d⟩
  · exact hl b hb z
  · exact f.not e ⟨fun es n z => (by rw [d] at z; cases z), fun v z => (by rw [d] at z; cases z)⟩ hb
theorem Turn.at {κ : Ct} {ρ : Rho} {s : Shared} {tk : Nat} (x : Turn its η H s.heap h') (a : At κ η ρ H s) (hb : ∀ b ∈ its, κ.X.base.get? b = Option.none) (hr : Recs its η s.heap) : At κ η ρ H { s with heap := h', toks := tk } := by
  have en := x.ends ⟨a.fok, a.rho⟩ (hr.off a.fok.frm fun b q => (a.fok.off b q).1)
  have of := hr.off a.stk.frm a.stk.off
  refine ⟨x.inv a.inv hb, en.1, en.2, ⟨a.stk.frames, ?_, a.stk.off, fun b hb => let ⟨o, e, q⟩ := a.stk.frm b hb; ⟨o, x.keep b o (of b hb) e, q⟩⟩, a.room, a.hand⟩
  have key : ∀ l : List Env, (∀ b ∈ frs l, b ∉ its) → s.heap.FunFrames κ.X.base l → h'.FunFrames κ.X.base l := by
    intro l
    induction l with
    | nil => intro _ _; trivial
    | cons e l ih =>
      intro ho ⟨hk, ⟨L, o, hfr, hn, hg, hd⟩, hr⟩
      have hL : L ∈ frs (e :: l) := by unfold frs; rw [List.filterMap_cons, hfr]; exact List.Mem.head _
      have sub : ∀ a ∈ frs l, a ∈ frs (e :: l) := by intro a ha; unfold frs at *; rw [List.filterMap_cons, hfr]; exact List.Mem.tail _ ha
      exact ⟨hk, ⟨L, o, hfr, hn, x.keep L o (ho L hL) hg, hd⟩, ih (fun a ha => ho a (sub a ha)) hr⟩
  exact key _ of a.stk.ok
end

inductive ItR (X : Cx) (η : List Addr) (h : Heap) (it : Addr) : V → List V → Nat → Prop
  | list {n i : Nat} {l : Addr} {xs : List V} : η[n]? = some l → h.IsListIter it l i → ItR X η h it (.ref n) xs i
  | tup {t : Addr} {i k : Nat} {items : Array Value} {xs : List V} : h.get? t = some { cls := .type "tuple", data := .seq items k } → t ∉ η → VRs X η h xs items.toList → h.IsTupleIter it t i → ItR X η h it (.tup xs) xs i
  | rng {b : Int} {i : Nat} : IsRangeIter h it (i : Int) ((rangeL b).length - i) 1 → ItR X η h it (.rng b) ((rangeL b).map .int) i
  | str {x : Str} {t : Tok} {i : Nat} : PyData.strOk x = true → h.IsStrIter it "str_ascii_iterator" x t i → ItR X η h it (.str x) (signs x) i

section
variable {X : Cx} {η η' : List Addr} {h h' : Heap} {it : Addr} {src : V} {xs : List V} {i : Nat}
theorem ItR.obj (r : ItR X η h it src xs i) : ∃ o T fs, h.get? it = some o ∧ o.cls = .type T ∧ o.data = .fields fs ∧ T ≠ "range" := by
  cases r with
  | list _ q => obtain ⟨o, a, b, c⟩ := q; exact ⟨o, _, _, a, b, c, by decide⟩
  | tup _ _ _ q => obtain ⟨o, a, b, c⟩ := q; exact ⟨o, _, _, a, b, c, by decide⟩
  | rng q => exact ⟨_, _, _, q, rfl, rfl, by decide⟩
  | str _ q => obtain ⟨o, a, b, c⟩ := q; exact ⟨o, _, _, a, b, c, by decide⟩
theorem ItR.mach (r : ItR X η h it src xs i) : Mach h it := let ⟨o, T, fs, e, c, d, q⟩ := r.obj; ⟨o, e, .inl ⟨T, fs, c, d, q⟩⟩
theorem ItR.recs (r : ItR X η h it src xs i) : Recs [it] η h := fun b hb => let ⟨o, _, fs, e, _, d, _⟩ := r.obj; .inr ⟨o, fs, by rw [List.mem_singleton.mp hb]; exact e, d⟩
theorem ItR.move (r : ItR X η h it src xs i) (hp : ∃ l, η' = η ++ l) (x : Holds η h η' h') (same : ∀ o, h.get? it = some o → h'.get? it = some o) : ItR X η' h' it src xs i := by
  cases r with
  | list e1 q1 =>
    obtain ⟨o, a, b, c⟩ := q1
    obtain ⟨l', rfl⟩ := hp
    exact .list (getElem?_pre e1) ⟨o, same o a, b, c⟩
  | tup e1 e2 e3 q1 =>
    obtain ⟨o, a, b, c⟩ := q1
    exact .tup (x _ _ e1 e2 (.inl ⟨_, _, rfl⟩)).1 (x _ _ e1 e2 (.inl ⟨_, _, rfl⟩)).2 (e3.map hp x) ⟨o, same o a, b, c⟩
  | rng q1 => exact .rng (same _ q1)
  | str ok q1 =>
    obtain ⟨o, a, b, c⟩ := q1
    exact .str ok ⟨o, same o a, b, c⟩
theorem ItR.keep {own : List Addr} (r : ItR X η h it src xs i) (x : Step own η h η' h') (f : Frm h own) (hη : it ∉ η) : ItR X η' h' it src xs i := by
  obtain ⟨o0, T, fs, e0, c0, d0, _⟩ := r.obj
  exact r.move x.pre' (x.holds f) fun o e => x.same it o e hη (f.not e0 ⟨fun es n q => (by rw [d0] at q; cases q), fun v q => (by rw [d0] at q; cases q)⟩)

theorem next_ok {A : Around} {H : Hp} {s : Shared} {Q : Option Value → Shared → Prop} {E : Value → Shared → Prop} (r : ItR X η s.heap it src xs i) (iv : Inv X η H s.heap) (hη : it ∉ η) (hh : A.handled = Option.none) (hsrc : ∀ n, src = .ref n → H[n]? = some (.list xs))
    (h1 : ∀ v mv h' tk, xs[i]? = some v → Turn [it] η H s.heap h' → VR X η h' v mv → ItR X η h' it src xs (i + 1) → Q (some mv) { s with heap := h', toks := tk })
    (h2 : ∀ h', xs[i]? = Option.none → Turn [it] η H s.heap h' → Q Option.none { s with heap := h' }) : wpAny X.M A (pyNext (.ref it)) Q E s := by
  have sb : ∀ {h'}, Heap.SameBut it s.heap h' → Turn [it] η H s.heap h' := fun {h'} q => Turn.one hη r.mach fun b o hb e => (q.2 b hb).trans e
  have eb : ∀ {h'}, Heap.ExtBut it s.heap h' → Turn [it] η H s.heap h' := fun {h'} q => Turn.one hη r.mach fun b o hb e => q b o hb e
  cases r with
  | list e1 q1 =>
    rename_i n l
    obtain ⟨items, k, g, vr, le⟩ := list_of_H iv e1 (hsrc n rfl)
    have hl : s.heap.IsList l items := ⟨_, g, rfl, k, rfl⟩
    cases e : xs[i]? with
    | none =>
      refine wpAny_pyNext_list_end hh q1 hl ?_ fun h' k => h2 h' e (eb k)
      rw [List.getElem?_eq_none_iff] at e
      rw [Array.getElem?_eq_none_iff, ← Array.length_toList, ← vr.length]; exact e
    | some v =>
      obtain ⟨mv, em, rv⟩ := vr.get e
      rw [Array.getElem?_toList] at em
      exact wpAny_pyNext_list_item q1 hl em fun h' k1 k2 => h1 v mv h' s.toks e (sb k2) ((sb k2).vr rv) (.list e1 k1)
  | tup e1 e2 e3 q1 =>
    rename_i t k items
    have ht : s.heap.IsTuple t items := ⟨_, e1, rfl, k, rfl⟩
    cases e : xs[i]? with
    | none =>
      refine wpAny_pyNext_tuple_end hh q1 ht ?_ fun h' k => h2 h' e (eb k)
      rw [List.getElem?_eq_none_iff] at e
      rw [Array.getElem?_eq_none_iff, ← Array.length_toList, ← e3.length]; exact e
    | some v =>
      obtain ⟨mv, em, rv⟩ := e3.get e
      rw [Array.getElem?_toList] at em
      exact wpAny_pyNext_tuple_item q1 ht em fun h' k1 k2 => h1 v mv h' s.toks e (sb k2) ((sb k2).vr rv) (.tup ((sb k2).holds _ _ e1 e2 (.inl ⟨_, _, rfl⟩)).1 e2 ((sb k2).vrs e3) k1)
  | rng q1 =>
    rename_i b
    by_cases hi : i < (rangeL b).length
    · refine wpAny_pyNext_range_item q1 (by omega) fun h' k1 k2 => h1 (.int i) _ h' _ ?_ (sb k2) (.int _ _) (.rng ?_)
      · rw [List.getElem?_map, List.getElem?_eq_getElem hi, Option.map_some, rangeL_get]
      · have e1 : ((i + 1 : Nat) : Int) = (i : Int) + 1 := by omega
        have e2 : ((rangeL b).length : Int) - ((i + 1 : Nat) : Int) = (rangeL b).length - i - 1 := by omega
        rw [e2, e1]; exact k1
    · refine wpAny_pyNext_range_end hh q1 (by omega) fun h' k => h2 h' ?_ (eb k)
      rw [List.getElem?_eq_none_iff, List.length_map]; omega
  | str ok q1 =>
    rename_i x t
    cases e : x.cps[i]? with
    | none =>
      refine wpAny_pyNext_ascii_end hh q1 e fun h' k => h2 h' ?_ (eb k)
      unfold signs
      rw [List.getElem?_map, Array.getElem?_toList, e]; rfl
    | some c =>
      refine wpAny_pyNext_ascii_item q1 e fun h' k1 k2 => h1 (.str ⟨#[c]⟩) _ h' _ ?_ (sb k2) (.str _ _ (strOk_one ok e)) (.str ok k1)
      unfold signs
      rw [List.getElem?_map, Array.getElem?_toList, e]; rfl
end

section
variable {X : Cx} {A : Around} {η : List Addr} {H : Hp} {s : Shared}
theorem items_ref {H : Hp} {n : Nat} {xs : List V} (h : items H (.ref n) = some xs) : H[n]? = some (.list xs) := by
  obtain ⟨k, e, q⟩ := listAt_inv (show listAt (.ref n) H = some xs from h)
  cases e; exact q
theorem iter_ok {v : V} {mv : Value} {xs : List V} {Q : Value → Shared → Prop} {E : Value → Shared → Prop} (i : Inv X η H s.heap) (r : VR X η s.heap v mv) (e : items H v = some xs)
    (hq : ∀ ob, ItR X η (s.heap.push ob) s.heap.objs.size v xs 0 → Q (.ref s.heap.objs.size) { s with heap := s.heap.push ob }) : wpAny X.M A (pyIter mv) Q E s := by
  cases r with
  | tup g hn r l =>
    cases e
    exact wpAny_pyIter_tuple ⟨_, g, rfl, _, rfl⟩ (hq _ (.tup (push_keeps _ _ _ _ g) hn (r.up (Step.ext _ _ (push_keeps _ _))) ⟨_, Heap.get?_push_size _ rfl, rfl, rfl⟩))
  | ref e1 =>
    obtain ⟨it, c, g, vr, le⟩ := list_of_H i e1 (items_ref e)
    exact wpAny_pyIter_list ⟨_, g, rfl, _, rfl⟩ (hq _ (.list e1 ⟨_, Heap.get?_push_size _ rfl, rfl, rfl⟩))
  | rng hr hn =>
    rename_i b t u w r
    have e' : (if -500000 ≤ b ∧ b ≤ 500000 then some ((rangeL b).map V.int) else Option.none) = some xs := e
    split at e'
    · rename_i ok
      cases e'
      obtain ⟨f1, f2⟩ := rng_facts ok
      refine wpAny_pyIter_range hr f2 (hq _ (.rng ?_))
      rw [f1]
      have z2 : ((rangeL b).length : Int) - ((0 : Nat) : Int) = (rangeL b).length := by simp
      rw [z2]
      exact Heap.get?_push_size _ rfl
    · cases e'
  | str x t ok =>
    have e' : (if (x.cps.all (· < 128) && decide (x.length ≤ line)) = true then some (signs x) else Option.none) = some xs := e
    split at e'
    · rename_i hc
      cases e'
      rw [Bool.and_eq_true] at hc
      exact wpAny_pyIter_ascii hc.1 (hq _ (.str ok ⟨_, Heap.get?_push_size _ rfl, rfl, rfl⟩))
    · cases e'
  | _ => cases e
end
end Mine

/-! JA -/
namespace Mine
open PySem PyProof.Rows PySem.W
section
variable {X : Cx} {η : List Addr} {h : Heap}
theorem VRs.drop : ∀ {xs : List V} {ms : List Value}, VRs X η h xs ms → ∀ k, VRs X η h (xs.drop k) (ms.drop k)
  | _, _, r, 0 => r
  | _, _, .nil, k + 1 => .nil
  | _, _, .cons _ r, k + 1 => r.drop k
theorem VRs.take : ∀ {xs : List V} {ms : List Value}, VRs X η h xs ms → ∀ k, VRs X η h (xs.take k) (ms.take k)
  | _, _, _, 0 => .nil
  | _, _, .nil, k + 1 => .nil
  | _, _, .cons a r, k + 1 => .cons a (r.take k)
end
section
variable {κ : Ct} {ρ : Rho} {vs : List (V × Value)} {H : Hp}

theorem sliceV_ok {o l u : V} {a b : Int} {xs : List V} {mo ml mu : Value} {η : List Addr} {s : Shared} {Q : Value → Shared → Prop} (at' : At κ η ρ H s) (vo : VR κ.X η s.heap o mo) (vl : VR κ.X η s.heap l ml) (vu : VR κ.X η s.heap u mu) (hx : listAt o H = some xs) (hl : intAt l = some a) (hu : intAt u = some b) (hab : 0 ≤ a ∧ a ≤ b ∧ b ≤ xs.length)
    (hq : ∀ d s', OkAt κ.X rV η s (new (.list ((xs.drop a.toNat).take (b - a).toNat)) H) d s' → Q d s') :
    ∃ l items lo hi, mo = .ref l ∧ s.heap.IsList l items ∧ items.size ≤ sizeLine ∧ IsPart ml lo ∧ IsPart mu hi ∧
        Q (.ref (s.heap.objs.size + 1)) { s with heap := (s.heap.push { cls := .type "slice", data := .fields #[ml, mu, .none] }).push { cls := .type "list", data := .seq (slicePick items lo hi Option.none) } } := by
  obtain ⟨t, rfl⟩ := vr_int vl hl
  obtain ⟨w, rfl⟩ := vr_int vu hu
  obtain ⟨x, items, c, rfl, g, r, le⟩ := vr_list at'.inv vo hx
  refine ⟨x, items, some a, some b, rfl, ⟨_, g, rfl, c, rfl⟩, by rw [r.size]; exact Nat.le_trans le line_lt, .int _ _, .int _ _, hq _ _ ?_⟩
  have ez : (s.heap.push { cls := .type "slice", data := .fields #[.int a t, .int b w, .none] }).objs.size = s.heap.objs.size + 1 := Heap.size_push ..
  generalize hh : (s.heap.push { cls := .type "slice", data := .fields #[.int a t, .int b w, .none] }) = h1 at ez ⊢
  have kp : ∀ z o, s.heap.get? z = some o → (h1.push { cls := .type "list", data := .seq (slicePick items (some a) (some b) Option.none) }).get? z = some o := fun z o e => push_keeps _ _ _ _ (by rw [← hh]; exact push_keeps _ _ _ _ e)
  have nw : s.heap.get? (s.heap.objs.size + 1) = Option.none := by
    cases e : s.heap.get? (s.heap.objs.size + 1) with
    | none => rfl
    | some o => exact absurd (Heap.lt_size e) (Nat.not_lt.mpr (Nat.le_succ _))
  rw [← ez] at nw ⊢
  have ep : (slicePick items (some a) (some b) Option.none).toList = (items.toList.drop a.toNat).take (b - a).toNat := by
    have q := slicePick_run items a.toNat b.toNat (by rw [r.size]; omega) (by omega)
    rw [Int.toNat_of_nonneg hab.1, Int.toNat_of_nonneg (by omega)] at q
    rw [q, show b.toNat - a.toNat = (b - a).toNat by omega]
  refine ⟨_, _, rfl, trivial, η ++ [h1.objs.size], _, s.toks, rfl, at'.inv.make kp nw (Heap.get?_push_size _ rfl) (.list ?_ ?_), Step.make _ _ kp nw, fun p hp => rV1 hp (.ref ?_)⟩
  · rw [ep]
    exact ((r.drop _).take _).up (Step.make [] η kp nw)
  · rw [List.length_take, List.length_drop]; omega
  · rw [← at'.inv.len]; simp

theorem slice_ok {value lower upper : Expr} {p pos : Pos} {r1 : R V} {lo hi : Hp → R V} (h1 : Tri κ ρ vs (eval value κ.env) H r1 rV)
    (h2 : ∀ H1, Tri κ ρ [] (eval lower κ.env) H1 (lo H1) rV) (h3 : ∀ H1, Tri κ ρ [] (eval upper κ.env) H1 (hi H1) rV) (ht : ∀ o r, letTemporaryGo value o r = pure ()) :
    Tri κ ρ vs (eval (.Subscript value (.Slice (some lower) (some upper) Option.none p) pos) κ.env) H (r1.bind fun v H1 => (lo H1).bind fun l H2 => (hi H2).bind fun u H3 => sliceV v l u H3) rV := by
  refine Tri.via (fun Q s q => wpAny_Subscript_list_slice q ht) h1 fun v H1 mo _ _ hs η s Q a hv hq => ?_
  have hr2 : lo H1 ≠ .stuck := fun q => by rw [q] at hs; exact hs rfl
  rw [evalPart_some]
  refine monoN (h2 H1 hr2 η s a fun _ q => nomatch q) fun ml s2 hx2 => ?_
  obtain ⟨l, H2, e2, _, η2, h2', tk2, rfl, i2, st2, p2⟩ := hx2
  have a2 := a.step st2 i2 tk2
  rw [e2, R.bind_ok] at hs hq
  have hr3 : hi H2 ≠ .stuck := fun q => by rw [q] at hs; exact hs rfl
  rw [evalPart_some]
  refine monoN (h3 H2 hr3 η2 _ a2 fun _ q => nomatch q) fun mu s3 hx3 => ?_
  obtain ⟨u, H3, e3, _, η3, h3', tk3, rfl, i3, st3, p3⟩ := hx3
  have a3 := a2.step st3 i3 tk3
  rw [e3, R.bind_ok] at hs hq
  unfold sliceV at hs hq
  cases hx : listAt v H3 with
  | none => rw [hx] at hs; exact absurd rfl hs
  | some xs =>
    cases hl : intAt l with
    | none => rw [hx, hl] at hs; exact absurd rfl hs
    | some x =>
      cases hu : intAt u with
      | none => rw [hx, hl, hu] at hs; exact absurd rfl hs
      | some y =>
        rw [hx, hl, hu] at hs hq
        dsimp only at hs hq
        by_cases hab : 0 ≤ x ∧ x ≤ y ∧ y ≤ xs.length
        · rw [if_pos hab] at hq
          exact sliceV_ok a3 (((hv _ m0).up st2).up st3) ((p2 _ (List.Mem.head _)).up st3) (p3 _ (List.Mem.head _)) hx hl hu hab fun d s' ok => hq d s' ((ok.after st3).after st2)
        · rw [if_neg hab] at hs; exact absurd rfl hs
end
end Mine

/-! J22 -/
namespace Mine
open PySem PyProof.Rows PySem.W

section
variable {X : Cx} {own η : List Addr} {h h' : Heap} {H : Hp}
theorem Step.put (own : List Addr) {a : Addr} {ob : Obj} (ha : a ∈ η) (sb : Heap.SameBut a h h') (g : h'.get? a = some ob) : Step own η h η h' := by
  have ne : ∀ b, b ∉ η → b ≠ a := fun b hb q => hb (q ▸ ha)
  refine ⟨⟨[], by simp, fun _ q => nomatch q⟩, fun b o e => ?_, fun b o e hb _ => (sb.2 b (ne b hb)).trans e, fun b o e hb es k d => ⟨o, es, k, (sb.2 b (ne b hb)).trans e, d⟩, fun b o e hb v d => ⟨o, v, (sb.2 b (ne b hb)).trans e, d⟩⟩
  by_cases hb : b = a
  · exact ⟨ob, hb ▸ g⟩
  · exact ⟨o, (sb.2 b hb).trans e⟩

theorem Inv.put (i : Inv X η H h) {n : Nat} {a : Addr} {o : O} {ob : Obj} (e : η[n]? = some a) (sb : Heap.SameBut a h h') (g : h'.get? a = some ob) (r : OR X η h' o ob) : Inv X η (H.set n o) h' := by
  have ha : a ∈ η := List.mem_of_getElem? e
  have x : Step [] η h η h' := Step.put [] ha sb g
  refine ⟨fun b o e => (sb.2 b (fun q => by rw [q, i.fresh a ha] at e; cases e)).trans (i.keep b o e), by rw [List.length_set]; exact i.len, i.fresh, i.nodup, fun m b o' hb ho => ?_⟩
  by_cases hm : m = n
  · subst hm
    rw [e] at hb; cases hb
    have hlt : m < H.length := i.len ▸ (List.getElem?_eq_some_iff.mp e).1
    rw [List.getElem?_set_self hlt] at ho
    cases ho
    exact ⟨ob, g, r⟩
  · rw [List.getElem?_set_ne (Ne.symm hm)] at ho
    obtain ⟨ob', e', r'⟩ := i.objs m b o' hb ho
    have hba : b ≠ a := fun q => by
      subst q
      obtain ⟨h1, q1⟩ := List.getElem?_eq_some_iff.mp e
      obtain ⟨h2, q2⟩ := List.getElem?_eq_some_iff.mp hb
      exact hm (by
        have := (List.getElem_inj i.nodup (h₀ := h2) (h₁ := h1)).mp (q2.trans q1.symm)
        exact this)
    exact ⟨ob', (sb.2 b hba).trans e', r'.map x.pre' (x.holds (Frm.nil h))⟩
end

section
variable {κ : Ct} {ρ : Rho} {vs : List (V × Value)} {H : Hp}
theorem append_ok {k : Nat} {xs : List V} {v : V} {ov mv : Value} (hm : (V.ref k, ov) ∈ vs) (hx : (v, mv) ∈ vs) (hk : H[k]? = some (.list xs)) (hlt : xs.length < line) :
    Tri κ ρ vs (PySem.call (.builtin "list.append") [ov, mv]) H (.ok .none (H.set k (.list (xs ++ [v])))) rV := by
  intro _ η s at' hv
  have r := hv _ hm
  cases r with
  | ref e =>
    rename_i l
    obtain ⟨items, c, g, vr, le⟩ := list_of_H at'.inv e hk
    refine call_meets F.slot_list_append ⟨_, g, rfl⟩ F.entry_list_append (F.args_list_append_2 _ _) (PySem.AutoListH.list_append_list_val_0 l items c mv (by rw [vr.size]; unfold sizeLine; unfold line at le; omega)) ⟨g, ?_⟩
    have sb : Heap.SameBut l s.heap (s.heap.update l (Obj.mapSeq fun x => x.push mv)) := Heap.SameBut.update ..
    have g' : (s.heap.update l (Obj.mapSeq fun x => x.push mv)).get? l = some _ := Heap.get?_update_self _ g rfl
    have st := Step.put [] (List.mem_of_getElem? e) sb g'
    refine ⟨_, _, rfl, trivial, η, _, s.toks, rfl, at'.inv.put e sb g' (.list ?_ (by rw [List.length_append]; exact hlt)), st, fun p hp => rV1 hp .none⟩
    rw [Array.toList_push]
    exact (vr.up st).append (.cons ((hv _ hx).up st) .nil)
end
end Mine

/-! JC -/
namespace Mine
open PySem PyProof.Rows PySem.W

theorem isStr_iff {v : Value} {x : Str} : v.isStr x = true ↔ ∃ t, v = .str x t := by
  cases v with
  | str s t =>
    constructor
    · intro h
      have : s = x := by simpa [Value.isStr] using h
      exact ⟨t, by rw [this]⟩
    · rintro ⟨t', e⟩
      cases e
      simp [Value.isStr]
  | _ => simp [Value.isStr]

section
variable {X : Cx} {η : List Addr} {h : Heap}
theorem NRs.find {a : String} {v : V} : ∀ {fs : List (String × V)} {ds : List DictEntry}, NRs X η h fs ds → fs.lookup a = some v → ∃ e, ds.find? (·.key.isStr (Str.ofString a)) = some e ∧ VR X η h v e.val
  | _, _, .nil, e => by cases e
  | (k, w) :: fs, e :: ds, .cons ek r rs, el => by
    rw [List.lookup_cons] at el
    by_cases hk : a = k
    · subst hk
      simp only [beq_self_eq_true] at el
      cases el
      refine ⟨e, ?_, r⟩
      rw [List.find?_cons, isStr_iff.mpr ⟨_, ek⟩]
    · have hb : (a == k) = false := by simpa using hk
      rw [hb] at el
      obtain ⟨e', h1, h2⟩ := NRs.find rs el
      refine ⟨e', ?_, h2⟩
      have : e.key.isStr (Str.ofString a) = false := Bool.eq_false_iff.mpr fun q => by
        obtain ⟨t, q⟩ := isStr_iff.mp q
        rw [ek] at q
        exact hk (ofString_inj (Value.str.inj q).1).symm
      rw [List.find?_cons, this]; exact h1
theorem NRs.noRef : ∀ {fs : List (String × V)} {ds : List DictEntry}, NRs X η h fs ds → ds.any (·.refKey) = false
  | _, _, .nil => rfl
  | _, e :: ds, .cons ek r rs => by
    rw [List.any_cons, NRs.noRef rs]
    unfold DictEntry.refKey
    rw [ek]; rfl
theorem NRs.len : ∀ {fs : List (String × V)} {ds : List DictEntry}, NRs X η h fs ds → fs.length = ds.length
  | _, _, .nil => rfl
  | _, e :: ds, .cons ek r rs => congrArg Nat.succ rs.len

theorem inst_of_H {H : Hp} {n d : Nat} {x : Addr} {c : String} {fs : List (String × V)} (i : Inv X η H h) (e : η[n]? = some x) (h1 : H[n]? = some (.inst c d)) (h2 : H[d]? = some (.ns fs)) :
    ∃ C dx fI ds k, X.mg (Str.ofString c) = some (.ref C) ∧ ClsOk X.K C fI ∧ η[d]? = some dx ∧ h.get? x = some { cls := .ref C, dict := some dx, data := .plain } ∧ h.get? dx = some { cls := .type "dict", data := .dict ds k } ∧ NRs X η h fs ds.toList ∧ fs.length ≤ 21 ∧ X.cl c = true := by
  obtain ⟨ob, g, r⟩ := i.objs n x _ e h1
  cases r with
  | inst hc hm hd =>
    rename_i C dx
    obtain ⟨od, g2, r2⟩ := i.objs d dx _ hd h2
    cases r2 with
    | ns nr le =>
      obtain ⟨C', fI, e1, ok⟩ := X.cls c hc
      rw [hm] at e1; cases e1
      exact ⟨_, _, fI, _, _, hm, ok, hd, g, g2, nr, le, hc⟩
end

section
variable {κ : Ct} {X : Cx} {ρ : Rho} {vs : List (V × Value)} {H : Hp}
theorem handed_vr {η : List Addr} {h : Heap} {v : V} {m : Value} (r : VR X η h v m) : handedIn m = true := by cases r <;> rfl

theorem attr_ok {o : V} {a : String} {m : Value} (hm : (o, m) ∈ vs) (ha : attrName a = true) : Tri κ ρ vs (getAttr m (Str.ofString a) true) H (attrV o a H) rV := by
  unfold attrV
  split
  · rename_i k
    split
    · rename_i c d hk
      split
      · rename_i fs hd2
        cases hl : fs.lookup a with
        | none => exact Tri.stuck
        | some v =>
          refine Tri.plain fun η s Q E at' hv hq => ?_
          have r := hv _ hm
          cases r with
          | ref e =>
            rename_i x
            obtain ⟨C, dx, fI, ds, k2, hmg, ok, ed, g1, g2, nr, le, _⟩ := inst_of_H at'.inv e hk hd2
            obtain ⟨en, ef, rv⟩ := nr.find hl
            refine get_value (K := κ.X.K) (C := C) (od := some _) (κ.X.kin.keeps at'.inv.keep) ⟨g1, rfl, rfl, g2⟩ ok.get ?_ (handed_vr rv) (hq _ _ rv)
            obtain ⟨cd, hcd, hdd⟩ := any_some ok.dict
            have hlk : lookIn (Str.ofString a) { cls := .type "dict", data := .dict ds k2 } = some (some en.val) := by unfold lookIn; simp only [ef]
            unfold findObj
            rw [hcd, Option.bind_some, ok.names a ha]
            simp only [Option.bind_some, PySem.W.ownOf, hdd, if_true, hlk]
      · exact Tri.stuck
    · exact Tri.stuck
  · exact Tri.stuck

noncomputable def rU (_ : Unit) (_ : Unit) : Prop × List (V × Value) := (True, [])

theorem NRs.put {η : List Addr} {h : Heap} {a : String} {v : V} {mv : Value} {hsh : Int} {t : Tok} (rv : VR X η h v mv) : ∀ {fs : List (String × V)} {ds : List DictEntry}, NRs X η h fs ds → NRs X η h (setL a v fs) (putL (Str.ofString a) hsh (.str (Str.ofString a) t) mv ds)
  | _, _, .nil => .cons rfl rv .nil
  | (k, w) :: fs, e :: ds, .cons ek r rs => by
    unfold setL putL
    by_cases hk : k = a
    · subst hk
      rw [if_pos rfl, if_pos (isStr_iff.mpr ⟨_, ek⟩)]
      exact .cons ek rv rs
    · have : ¬ e.key.isStr (Str.ofString a) = true := fun q => by
        obtain ⟨t, q⟩ := isStr_iff.mp q
        rw [ek] at q
        exact hk (ofString_inj (Value.str.inj q).1)
      rw [if_neg hk, if_neg this]
      exact .cons ek r (rs.put rv)
theorem setL_len (x : String) (v : V) : ∀ ρ : List (String × V), (setL x v ρ).length ≤ ρ.length + 1
  | [] => by simp [setL]
  | (y, w) :: r => by
    unfold setL
    split
    · simp
    · have := setL_len x v r
      simp; omega

theorem set_ok {o v : V} {a : String} {mo mv : Value} (ho : (o, mo) ∈ vs) (hv : (v, mv) ∈ vs) (ha : attrName a = true) : Tri κ ρ vs (setAttr mo (Str.ofString a) mv) H (setA o a v H) rU := by
  unfold setA
  split
  · rename_i k
    split
    · rename_i c d hk
      split
      · rename_i fs hd2
        split
        · rename_i hlen
          intro _ η s at' hvs
          have r := hvs _ ho
          have rv : VR κ.X η s.heap v mv := hvs _ hv
          cases r with
          | ref e =>
            rename_i x
            obtain ⟨C, dx, fI, ds, k2, hmg, ok, ed, g1, g2, nr, le, _⟩ := inst_of_H at'.inv e hk hd2
            have hK := κ.X.kin.keeps at'.inv.keep
            have I : InstAt s.heap x { cls := .ref C, dict := some dx, data := .plain } C (some { cls := .type "dict", data := .dict ds k2 }) := ⟨g1, rfl, rfl, g2⟩
            refine set_plain (K := κ.X.K) hK I ok.set ?_
            have ht : takerIn κ.X.K C (Str.ofString a) = some Option.none := by unfold takerIn; rw [ok.names a ha]; rfl
            refine osa_open (s := { s with toks := s.toks + 1 }) hK I ok.over ht fun b => ?_
            obtain ⟨cd, hcd, hdd⟩ := any_some ok.dict
            have sz : ds.size ≤ 21 := by rw [← Array.length_toList, ← nr.len]; exact le
            have ep : ∀ hsh key, Obj.putName (Str.ofString a) hsh key mv { cls := .type "dict", data := .dict ds k2 } = { cls := .type "dict", data := .dict (putL (Str.ofString a) hsh key mv ds.toList).toArray (putN (Str.ofString a) ds.toList k2) } := fun hsh key => by
              have := putName_dict (Str.ofString a) hsh key mv ds.toList k2
              unfold dictOf at this
              rw [Array.toArray_toList] at this
              exact this
            have fin : ∀ hsh t tk, ∃ od', (s.heap.update dx (Obj.putName (Str.ofString a) hsh (.str (Str.ofString a) t) mv)).get? dx = some od' ∧ od'.data.pastItsLine = Option.none ∧
                OkAt κ.X rU η s (R.ok () (H.set d (O.ns (setL a v fs)))) () { s with heap := s.heap.update dx (Obj.putName (Str.ofString a) hsh (.str (Str.ofString a) t) mv), toks := tk } := fun hsh t tk => by
              have g3 : (s.heap.update dx (Obj.putName (Str.ofString a) hsh (.str (Str.ofString a) t) mv)).get? dx = some { cls := .type "dict", data := .dict (putL (Str.ofString a) hsh (.str (Str.ofString a) t) mv ds.toList).toArray (putN (Str.ofString a) ds.toList k2) } := by
                rw [Heap.get?_update_self _ g2 (by rw [ep]; rfl), ep]
              have sb : Heap.SameBut dx s.heap (s.heap.update dx (Obj.putName (Str.ofString a) hsh (.str (Str.ofString a) t) mv)) := Heap.SameBut.update ..
              have xs := Step.put [] (List.mem_of_getElem? ed) sb g3
              have nr' := (nr.map xs.pre' (xs.holds (Frm.nil _))).put (a := a) (hsh := hsh) (t := t) (rv.up xs)
              have ln := setL_len a v fs
              refine ⟨_, g3, pastItsLine_dict ?_, (), _, rfl, trivial, η, _, tk, rfl, at'.inv.put ed sb g3 (.ns (by simpa using nr') (by omega)), xs, fun _ q => nomatch q⟩
              rw [List.size_toArray, ← nr'.len, sizeLine_eq]; omega
            refine wpAny_bind (wpAny_pure (wpAny_bind (wpAny_bind (wpAny_loadPart g1 (wpAny_bind (looks_clsIn hK hcd _ _ _ _ (fun _ _ e => e) ?_))))))
            rw [hdd]
            refine wpAny_pure (a := some dx) (wpAny_bind (wpAny_pure (wpAny_bind ?_)))
            unfold nsSet
            refine wpAny_bind (wpAny_bind (wpAny_askSetting (wpAny_pure (wpAny_bind (wpAny_mkText (wpAny_bind (wpAny_loadPart g2 ?_)))))))
            dsimp only
            rw [aRefKeyMayBeTheName_at, show ds.any (·.refKey) = false by rw [← Array.any_toList]; exact nr.noRef, Bool.and_false]
            simp only [Bool.false_eq_true, if_false]
            obtain ⟨od', g3, hp, out⟩ := fin _ _ _
            exact wpAny_updatePart g2 (wpAny_bind (wpAny_lookBehind g3 hp (wpAny_pure out)))
        · exact Tri.stuck
      · exact Tri.stuck
    · exact Tri.stuck
  · exact Tri.stuck
end
end Mine

/-! JD -/
namespace Mine
open PySem PyProof.Rows PySem.W PySem.Calls PySem.Builtin PySem.Builtin.Str

section
variable {prog : Program} {w : World} {A : Around} {E : Value → Shared → Prop} {s : Shared}
theorem isi_same {c : Value} {xv : Value} {Q : Value → Shared → Prop} (LT : ∀ M, Looks M s.heap (typeOf xv) c) (hx : xv ≠ .builtin "__main__.__loader__#opaque") (hq : Q (.bool true) s) : wpAny (model prog w) A (PySem.call (.builtin "isinstance") [xv, c]) Q E s := by
  refine call_isinstance (S := fun _ R s' => (∀ b o, s.heap.get? b = some o → s'.heap.get? b = some o) ∧ R (.ok (.ret (.bool true))) s') (fun prog w A R s' hs => isinstance_outer ?_ hx) ⟨fun _ _ e => e, hq⟩
  obtain ⟨h0, g, d, tt, os⟩ := s'
  obtain ⟨kp, hq⟩ := hs
  unfold Builtin.«isinstance.nested»
  refine wpAny_bind (LT _ _ _ _ _ kp ?_)
  rw [if_pos (beq_self_eq_true c)]
  first
    | exact wpAny_bind (wpAny_rule hq)
    | exact wpAny_bind (wpAny_rule (wpAny_pure hq))
theorem call_split {x y : Str} {t u : Tok} {Q : Value → Shared → Prop} (hx : x.length ≤ sizeLine) (hy : y.length ≠ 0) (hn : (Txt.split x y).length ≤ sizeLine)
    (hq : ∀ l tk, l.map (·.1) = Txt.split x y → Q (.ref s.heap.objs.size) { s with heap := s.heap.push { cls := .type "list", data := .seq (strValues l).toArray }, toks := tk }) :
    wpAny (model prog w) A (call (.builtin "str.split") [.str x t, .str y u]) Q E s := by
  have hy' : (y.length == 0) = false := by simpa using hy
  cases h1 : (decide (x.length < y.length) || decide (strKind x < strKind y))
  · cases hf : (occurrences x y 0 x.length (x.length + 1)).isEmpty
    · have es : Txt.split x y = partsBetween x (occurrences x y 0 x.length (x.length + 1)) y.length := (if_neg (ne_true_of_eq_false h1)).trans (if_neg (ne_true_of_eq_false hf))
      refine call_meets F.slot_str_split (typeIs_str _ _ _) F.entry_str_split (F.args_str_split_2 _ _) (meets_str_split_sep x y t u h1 hy' hf hx (es ▸ hn)) ?_
      have q := hq (numbered s.toks (partsBetween x (occurrences x y 0 x.length (x.length + 1)) y.length)) (s.toks + (partsBetween x (occurrences x y 0 x.length (x.length + 1)) y.length).length) ((numbered_texts _ _).trans es.symm)
      rw [← strsFrom_eq] at q
      exact q
    · exact call_meets F.slot_str_split (typeIs_str _ _ _) F.entry_str_split (F.args_str_split_2 _ _) (meets_str_split_not_found x y t u h1 hy' hf)
        (hq [(x, t)] s.toks ((if_neg (ne_true_of_eq_false h1)).trans (if_pos hf)).symm)
  · exact call_meets F.slot_str_split (typeIs_str _ _ _) F.entry_str_split (F.args_str_split_2 _ _) (meets_str_split_cannot_occur x y t u h1) (hq [(x, t)] s.toks (if_pos h1).symm)
end

section
variable {κ : Ct} {X : Cx} {ρ : Rho} {vs : List (V × Value)} {H : Hp}
theorem VRs.texts {η : List Addr} {h : Heap} : ∀ (l : List (Str × Tok)), (l.map (·.1)).all PyData.strOk = true → VRs X η h ((l.map (·.1)).map .str) (strValues l)
  | [], _ => .nil
  | p :: l, e => by
    rw [List.map_cons, List.all_cons, Bool.and_eq_true] at e
    exact .cons (.str _ _ e.1) (VRs.texts l e.2)
theorem strs_values {η : List Addr} {h : Heap} : ∀ {xs : List V} {ms : List Value} {ys : List Str}, VRs X η h xs ms → textsV xs = some ys → ∃ l, strValues l = ms ∧ l.map (·.1) = ys
  | _, _, _, .nil, e => by cases e; exact ⟨[], rfl, rfl⟩
  | _, _, _, .cons a r, e => by
    unfold textsV at e
    rw [List.mapM_cons] at e
    obtain ⟨b, e1, e⟩ := Option.bind_eq_some_iff.mp e
    obtain ⟨cs, e2, e⟩ := Option.bind_eq_some_iff.mp e
    cases e
    obtain ⟨l, rfl, rfl⟩ := strs_values r e2
    obtain ⟨t, rfl, _⟩ := vr_str a e1
    exact ⟨(b, t) :: l, rfl, rfl⟩

noncomputable def methId (m : String) : String × String := if m = "append" then ("list", "list.append") else if m = "split" then ("str", "str.split") else ("str", "str.join")

theorem meth_ok {T m : String} {o : V} {ov : Value} {ws : List V} {ms : List Value} (hm : mName m = true) (ho : (o, ov) ∈ vs) (hl : ws.length = ms.length) (hw : ∀ p ∈ ws.zip ms, p ∈ vs) :
    Tri κ ρ vs (PySem.call (.builtin (methId m).2) (ov :: ms)) H (meth T o m ws H) rV := by
  unfold meth methId
  by_cases h1 : m = "append"
  · rw [if_pos h1, if_pos h1]
    by_cases hT : T = "list"
    · rw [if_pos hT]
      unfold mAppend
      cases o with
      | ref n =>
        dsimp only
        cases hx : listAt (.ref n) H with
        | none => exact Tri.stuck
        | some xs =>
          dsimp only
          split
          · rename_i v
            obtain ⟨m, rfl⟩ := one_of hl
            split
            · rename_i hlt
              obtain ⟨k, e, hk⟩ := listAt_inv hx
              cases e
              exact append_ok ho (hw _ (List.Mem.head _)) hk hlt
            · exact Tri.stuck
          · exact Tri.stuck
      | _ => exact Tri.stuck
    · rw [if_neg hT]; exact Tri.stuck
  rw [if_neg h1, if_neg h1]
  by_cases h2 : m = "split"
  · rw [if_pos h2, if_pos h2]
    by_cases hT : T = "str"
    · rw [if_pos hT]
      unfold mSplit
      cases hx : strAt o with
      | none => exact Tri.stuck
      | some x =>
        dsimp only
        split
        · rename_i v
          obtain ⟨m, rfl⟩ := one_of hl
          cases hy : strAt v with
          | none => exact Tri.stuck
          | some y =>
            dsimp only
            split
            · rename_i hc
              refine Tri.madeL (by rw [List.length_map]; exact hc.2.2.1) fun η s Q E at' hv hq => ?_
              obtain ⟨t, rfl, _⟩ := vr_str (hv _ ho) hx
              obtain ⟨u, rfl, _⟩ := vr_str (hv _ (hw _ (List.Mem.head _))) hy
              refine call_split (Nat.le_trans hc.1 (by unfold sizeLine; decide)) hc.2.1 (Nat.le_trans hc.2.2.1 line_lt) fun l tk e => hq _ _ _ _ tk (size_none _) (push_keeps _ _) (Heap.get?_push_size _ rfl) ?_
              have q := VRs.texts (X := κ.X) (η := η) (h := s.heap) l (by rw [e]; exact hc.2.2.2)
              rw [e] at q
              exact q
            · exact Tri.stuck
        · exact Tri.stuck
    · rw [if_neg hT]; exact Tri.stuck
  rw [if_neg h2, if_neg h2]
  by_cases h3 : m = "join"
  · rw [if_pos h3]
    by_cases hT : T = "str"
    · rw [if_pos hT]
      unfold mJoin
      cases hx : strAt o with
      | none => exact Tri.stuck
      | some x =>
        dsimp only
        split
        · rename_i v
          obtain ⟨m, rfl⟩ := one_of hl
          cases hy : (listAt v H).bind textsV with
          | none => exact Tri.stuck
          | some ys =>
            dsimp only
            split
            · rename_i hc
              obtain ⟨xs, e1, e2⟩ := Option.bind_eq_some_iff.mp hy
              refine Tri.plain fun η s Q E at' hv hq => ?_
              obtain ⟨t, rfl, _⟩ := vr_str (hv _ ho) hx
              obtain ⟨a, items, c, rfl, g, r, l⟩ := vr_list at'.inv (hv _ (hw _ (List.Mem.head _))) e1
              obtain ⟨l, e3, e4⟩ := strs_values r e2
              exact SC.join (l := l) ⟨_, g, rfl, c, by rw [e3]⟩ e4 hc.1 fun t' k => hq _ k (.str _ _ hc.2)
            · exact Tri.stuck
        · exact Tri.stuck
    · rw [if_neg hT]; exact Tri.stuck
  rw [if_neg h3]
  exact Tri.stuck

theorem isinst_own {v : V} {m tv : Value} {T : String} {b : Bool} (hm : (v, m) ∈ vs) (hT : ¬ bTypes.contains T = true) (hl : Loads κ.X.mg κ.X.mb T tv) (he : isinst v T H = some b) :
    Tri κ ρ vs (PySem.call (.builtin "isinstance") [m, tv]) H (.ok (.bool b) H) rV := by
  unfold isinst at he
  rw [if_neg hT] at he
  refine Tri.plain fun η s Q E at' hv hq => ?_
  have r := hv _ hm
  cases v with
  | ref k =>
    simp only at he
    split at he
    · rename_i c d hk2
      split at he
      · rename_i hcT
        cases he
        subst hcT
        cases r with
        | ref e =>
          rename_i x
          obtain ⟨ob, g, r2⟩ := at'.inv.objs k x _ e hk2
          cases r2 with
          | inst hc hmg hd2 =>
            have : tv = .ref _ := hl.det (.inl hmg)
            subst this
            exact isi_same (fun M => (Looks.ld g).andThen .now) (by intro q; cases q) (hq _ s.toks (.bool _))
      · cases he
    · cases he
  | _ => cases he

theorem isinst_ok {v : V} {m : Value} {T : String} {b : Bool} (hm : (v, m) ∈ vs) (hT : bTypes.contains T = true) (he : isinst v T H = some b) :
    Tri κ ρ vs (PySem.call (.builtin "isinstance") [m, .type T]) H (.ok (.bool b) H) rV := by
  unfold isinst at he
  rw [if_pos hT] at he
  obtain ⟨k, hk2, rfl⟩ := Option.map_eq_some_iff.mp he
  clear he
  refine Tri.plain fun η s Q E at' hv hq => ?_
  have r := hv _ hm
  have hT' : T = "int" ∨ T = "bool" ∨ T = "tuple" ∨ T = "list" ∨ T = "str" := by simpa [bTypes] using hT
  have lst : (match listAt v H with | some _ => some "list" | Option.none => Option.none) = some k → wpAny κ.X.M κ.A (PySem.call (.builtin "isinstance") [m, .type T]) Q E s := fun hk => by
    cases hx : listAt v H with
    | none => rw [hx] at hk; cases hk
    | some xs =>
      rw [hx] at hk
      cases hk
      obtain ⟨a, items, c, rfl, g, r, l⟩ := vr_list at'.inv r hx
      rcases hT' with rfl | rfl | rfl | rfl | rfl
      · exact IsiPair.list_int g rfl (hq _ _ (.bool _))
      · exact IsiPair.list_bool g rfl (hq _ _ (.bool _))
      · exact IsiPair.list_tuple g rfl (hq _ _ (.bool _))
      · exact IsiPair.list_list g rfl (hq _ s.toks (.bool _))
      · exact IsiPair.list_str g rfl (hq _ _ (.bool _))
  cases v with
  | bool c =>
    cases hk2
    cases r
    rcases hT' with rfl | rfl | rfl | rfl | rfl
    · exact IsiPair.bool_int (hq _ s.toks (.bool _))
    · exact IsiPair.bool_bool (hq _ s.toks (.bool _))
    · exact IsiPair.bool_tuple (hq _ _ (.bool _))
    · exact IsiPair.bool_list (hq _ _ (.bool _))
    · exact IsiPair.bool_str (hq _ _ (.bool _))
  | int c =>
    cases hk2
    cases r
    rcases hT' with rfl | rfl | rfl | rfl | rfl
    · exact IsiPair.int_int (hq _ s.toks (.bool _))
    · exact IsiPair.int_bool (hq _ _ (.bool _))
    · exact IsiPair.int_tuple (hq _ _ (.bool _))
    · exact IsiPair.int_list (hq _ _ (.bool _))
    · exact IsiPair.int_str (hq _ _ (.bool _))
  | tup ws =>
    cases hk2
    cases r with
    | tup g nn r l =>
      rcases hT' with rfl | rfl | rfl | rfl | rfl
      · exact IsiPair.tuple_int g rfl (hq _ _ (.bool _))
      · exact IsiPair.tuple_bool g rfl (hq _ _ (.bool _))
      · exact IsiPair.tuple_tuple g rfl (hq _ s.toks (.bool _))
      · exact IsiPair.tuple_list g rfl (hq _ _ (.bool _))
      · exact IsiPair.tuple_str g rfl (hq _ _ (.bool _))
  | str x =>
    cases hk2
    cases r
    rcases hT' with rfl | rfl | rfl | rfl | rfl
    · exact IsiPair.str_int (hq _ _ (.bool _))
    · exact IsiPair.str_bool (hq _ _ (.bool _))
    · exact IsiPair.str_tuple (hq _ _ (.bool _))
    · exact IsiPair.str_list (hq _ _ (.bool _))
    · exact IsiPair.str_str (hq _ s.toks (.bool _))
  | _ => exact lst hk2
end
end Mine

/-! JF -/
namespace Mine
open PySem PyProof.Rows PySem.W

noncomputable def relabelS (scope sc : Scope) : Scope :=
  { scope with names := scope.names.map fun (n, k) => if (k == .free && sc.kind == .function && sc.names.lookup n == some .cell) then (n, .cell) else (n, k) }

noncomputable def compName (sc scope : Scope) (x : Str) (p : Str × NameKind) : Bool := match p.2 with
  | .cell => false
  | .local => (p.1 == x || p.1 == (".0" : Str)) && scope.names.lookup p.1 == some .local
  | .free => sc.names.lookup p.1 == some .cell
  | _ => true
noncomputable def compOk (sc scope : Scope) (x : Str) : Bool := scope.kind == .function && sc.kind == .function && scope.names.lookup x == some .local && scope.names.all (compName sc scope x)

theorem forIn_cells {env : Env} : ∀ (names : List (Str × NameKind)) (cs : List (Str × Addr)), (∀ p ∈ names, p.2 = .free → ∃ c, env.cells.lookup p.1 = some c) → (∀ p ∈ cs, env.cells.lookup p.1 = some p.2) →
    ∃ cl, (forIn names cs (fun x __s => if (x.2 == NameKind.free) = true then do let __do_lift ← cellOf env x.1; pure (ForInStep.yield ((x.1, __do_lift) :: __s)) else pure (ForInStep.yield __s)) : Sem _) = pure cl ∧
      (∀ p ∈ cl, env.cells.lookup p.1 = some p.2) ∧ (∀ y, (∃ c, cs.lookup y = some c) ∨ (y, NameKind.free) ∈ names → ∃ c, cl.lookup y = some c)
  | [], cs, _, hc => ⟨cs, by simp, hc, fun y h => h.elim (fun h => h) (fun h => nomatch h)⟩
  | (n, k) :: names, cs, h, hc => by
    by_cases hk : k = .free
    · subst hk
      obtain ⟨c, e⟩ := h (n, .free) (List.Mem.head _) rfl
      obtain ⟨cl, e1, h1, h2⟩ := forIn_cells names ((n, c) :: cs) (fun p hp => h p (List.Mem.tail _ hp)) (fun p hp => by
        rcases List.mem_cons.mp hp with rfl | hp
        · exact e
        · exact hc p hp)
      refine ⟨cl, ?_, h1, fun y hy => h2 y ?_⟩
      · rw [List.forIn_cons]
        have : cellOf env n = pure c := by unfold cellOf; rw [e]
        simp only [beq_self_eq_true, if_true, this, pure_bind]
        exact e1
      · rcases hy with ⟨c', hy⟩ | hy
        · by_cases hyn : y = n
          · exact .inl ⟨c, by rw [hyn]; simp⟩
          · have hb : (y == n) = false := by simpa using hyn
            exact .inl ⟨c', by rw [List.lookup_cons, hb]; exact hy⟩
        · rcases List.mem_cons.mp hy with hy | hy
          · cases hy; exact .inl ⟨c, by simp⟩
          · exact .inr hy
    · obtain ⟨cl, e1, h1, h2⟩ := forIn_cells names cs (fun p hp => h p (List.Mem.tail _ hp)) hc
      refine ⟨cl, ?_, h1, fun y hy => h2 y ?_⟩
      · rw [List.forIn_cons]
        have : (k == NameKind.free) = false := by simpa using hk
        simp only [this, Bool.false_eq_true, if_false, pure_bind]
        exact e1
      · rcases hy with hy | hy
        · exact .inl hy
        · rcases List.mem_cons.mp hy with hy | hy
          · cases hy; exact absurd rfl hk
          · exact .inr hy

theorem relabel_lookup {sc : Scope} {y : Str} : ∀ {names : List (Str × NameKind)}, (∀ p ∈ names, p.2 = .free → sc.names.lookup p.1 = some .cell) → sc.kind = .function →
    (names.map fun (n, k) => if (k == NameKind.free && sc.kind == .function && sc.names.lookup n == some .cell) then (n, NameKind.cell) else (n, k)).lookup y = (names.lookup y).map fun k => if k = .free then .cell else k
  | [], _, _ => rfl
  | (n, k) :: names, h, hs => by
    have ih := relabel_lookup (sc := sc) (y := y) (names := names) (fun p hp => h p (List.Mem.tail _ hp)) hs
    show List.lookup y ((if (k == NameKind.free && sc.kind == .function && sc.names.lookup n == some .cell) = true then (n, NameKind.cell) else (n, k)) :: _) = _
    by_cases hk : k = .free
    · subst hk
      have := h (n, .free) (List.Mem.head _) rfl
      rw [if_pos (by rw [hs, this]; rfl), List.lookup_cons, List.lookup_cons]
      cases y == n
      · exact ih
      · rfl
    · have hb : (k == NameKind.free) = false := by simpa using hk
      rw [if_neg (by rw [hb]; simp), List.lookup_cons, List.lookup_cons]
      cases y == n
      · exact ih
      · simp [hk]

section
variable {κ : Ct} {X : Cx} {A : Around} {ρ : Rho} {H : Hp} {η : List Addr} {s : Shared}

theorem comp_at {scope : Scope} {x : String} {cl : List (Str × Addr)} {C : Addr} {m : Str → Option Value} {v : V} {mv : Value} (hc : compOk κ.env.scope scope (Str.ofString x) = true) (a : At κ η ρ H s) (hcl : ∀ p ∈ cl, κ.env.cells.lookup p.1 = some p.2)
    (hfr : ∀ y, scope.names.lookup y = some .free → ∃ c, cl.lookup y = some c) (hC : s.heap.Ns C m) (hm : m (Str.ofString x) = some mv) (hv : VR κ.X η s.heap v mv) (hCη : C ∉ η) (hCb : κ.X.base.get? C = Option.none) :
    At (κ.inn (compEnvC scope cl C κ.env)) η ((x, v) :: ρ) H s := by
  unfold compOk at hc
  simp only [Bool.and_eq_true, beq_iff_eq] at hc
  obtain ⟨⟨⟨hk, hsk⟩, hx⟩, hall⟩ := hc
  have hfree : ∀ p ∈ scope.names, p.2 = .free → κ.env.scope.names.lookup p.1 = some .cell := fun p hp e => by
    have := List.all_eq_true.mp hall p hp
    unfold compName at this
    rw [e] at this
    exact beq_iff_eq.mp this
  have kd : ∀ y, (compEnvC scope cl C κ.env).kindOf y = (scope.names.lookup y).map fun k => if k = .free then .cell else k := fun y => relabel_lookup (sc := κ.env.scope) hfree hsk
  have cell : ∀ y, (compEnvC scope cl C κ.env).kindOf y = some .cell → scope.names.lookup y = some .free := fun y hy => by
    rw [kd] at hy
    obtain ⟨k, e, q⟩ := Option.map_eq_some_iff.mp hy
    by_cases hkf : k = .free
    · rw [e, hkf]
    · rw [if_neg hkf] at q
      have := List.all_eq_true.mp hall (y, k) (lookup_mem e)
      unfold compName at this
      rw [q] at this; cases this
  refine ⟨a.inv, ⟨?_, a.fok.glob, a.fok.blt, ⟨m, hC⟩, fun p hp => a.fok.cell p (lookup_mem (hcl p hp)), fun y hy => hfr y (cell y hy), fun y z c h1 h2 => ?_, fun b hb => ?_⟩, fun y w ey hy => ?_, a.stk, a.room, a.hand⟩
  · show (relabel scope κ.env).kind = _
    exact hk
  · exact a.fok.inj y z c (hcl _ (lookup_mem h1)) (hcl _ (lookup_mem h2))
  · rcases List.mem_cons.mp hb with rfl | hb
    · exact ⟨hCη, hCb⟩
    · obtain ⟨p, hp, rfl⟩ := List.mem_map.mp hb
      exact a.fok.off _ (List.mem_cons.mpr (.inr (List.mem_map.mpr ⟨p, lookup_mem (hcl p hp), rfl⟩)))
  · by_cases hyx : y = x
    · subst hyx
      rw [List.lookup_cons, beq_self_eq_true] at ey
      cases ey
      exact ⟨mv, .inl ⟨by rw [kd, hx]; rfl, m, hC, hm⟩, hv⟩
    · have hb : (y == x) = false := by simpa using hyx
      rw [List.lookup_cons, hb] at ey
      unfold isVar at hy
      rw [Bool.and_eq_true, Bool.not_eq_true'] at hy
      obtain ⟨hy0, hy⟩ := hy
      have hkd : (compEnvC scope cl C κ.env).scope.names.lookup (Str.ofString y) = _ := kd (Str.ofString y)
      rw [hkd] at hy
      have : scope.names.lookup (Str.ofString y) = some .free := by
        cases e : scope.names.lookup (Str.ofString y) with
        | none => rw [e] at hy; cases hy
        | some k =>
          rw [e] at hy
          have q := List.all_eq_true.mp hall (Str.ofString y, k) (lookup_mem e)
          unfold compName at q
          cases k with
          | free => rfl
          | «local» =>
            simp only [Bool.and_eq_true, Bool.or_eq_true, beq_iff_eq] at q
            rcases q.1 with q | q
            · exact absurd (ofString_inj q) hyx
            · rw [q] at hy0; cases hy0
          | cell => cases q
          | _ => cases hy
      have hoc := hfree _ (lookup_mem this) rfl
      obtain ⟨mw, hh, rw'⟩ := a.rho y w ey (by unfold isVar; rw [hy0, hoc]; rfl)
      obtain ⟨c, hcc⟩ := hfr _ this
      refine ⟨mw, .inr ⟨.inl (by rw [kd, this]; rfl), c, ?_⟩, rw'⟩
      rcases hh with ⟨hk', _⟩ | ⟨_, c', o, hc', g, d⟩
      · unfold Env.kindOf at hk'; rw [hoc] at hk'; cases hk'
      · have e1 := hcl _ (lookup_mem hcc)
        rw [hc'] at e1; cases e1
        exact ⟨o, hcc, g, d⟩

theorem iter_self {it : Addr} {src : V} {xs : List V} {i : Nat} {Q : Value → Shared → Prop} {E : Value → Shared → Prop} (r : ItR X η s.heap it src xs i) (h : Q (.ref it) s) : wpAny X.M A (pyIter (.ref it)) Q E s := by
  cases r with
  | list _ q => exact wpAny_pyIter_listiter q h
  | tup _ _ _ q => exact wpAny_pyIter_tupleiter q h
  | rng q => exact wpAny_pyIter_rangeiter q h
  | str _ q => exact wpAny_pyIter_striter_ascii q h

inductive CompEnd (X : Cx) (η0 : List Addr) (s0 : Shared) (k : Nat) (D C : Addr) (H' : Hp) (s' : Shared) : Prop
  | mk (η' : List Addr) (h' : Heap) (tk : Nat) (e : s' = { s0 with heap := h', toks := tk }) (i : Inv X η' H' h') (x : Step [] η0 s0.heap η' h') (d : η'[k]? = some D) (c : C ∉ η') (n : s0.heap.get? C = Option.none) (m : Str → Option Value) (ns : h'.Ns C m) : CompEnd X η0 s0 k D C H' s'

inductive CompI (X : Cx) (η0 : List Addr) (s0 : Shared) (it D C : Addr) (src : V) (xs : List V) (k : Nat) (F : Nat → Hp → Prop) (mm : Nat) (s : Shared) : Prop
  | mk (i : Nat) (H : Hp) (η : List Addr) (m : Str → Option Value) (e : mm = xs.length - i) (iv : Inv X η H s.heap) (es : s = { s0 with heap := s.heap, toks := s.toks }) (x : Step [] η0 s0.heap η s.heap) (r : ItR X η s.heap it src xs i) (ni : it ∉ η) (dk : η[k]? = some D) (cn : C ∉ η) (ns : s.heap.Ns C m) (hf : F i H) : CompI X η0 s0 it D C src xs k F mm s
theorem turns_chk {f : V → Hp → R V} {chk : Hp → Bool} {k : Nat} {xs : List V} {H : Hp} (h : turns f chk k xs H ≠ .stuck) : chk H = true := by
  cases xs <;> rw [turns] at h <;> exact Classical.byContradiction fun q => h (if_neg q)
theorem turns_cons {f : V → Hp → R V} {chk : Hp → Bool} {k : Nat} {v : V} {xs : List V} {H : Hp} (h : turns f chk k (v :: xs) H ≠ .stuck) :
    ∃ w H1 ys, f v H = .ok w H1 ∧ H1[k]? = some (.list ys) ∧ ys.length < line ∧ turns f chk k (v :: xs) H = turns f chk k xs (H1.set k (.list (ys ++ [w]))) := by
  have ck := turns_chk h
  rw [turns, if_pos ck] at h ⊢
  cases e : f v H with
  | stuck => rw [e] at h; exact absurd rfl h
  | ok w H1 =>
    rw [e] at h
    dsimp only at h
    cases hk : H1[k]? with
    | none => rw [hk] at h; exact absurd rfl h
    | some o =>
      cases o with
      | list ys =>
        rw [hk] at h
        dsimp only at h
        by_cases hl : ys.length < line
        · refine ⟨w, H1, ys, rfl, hk, hl, ?_⟩
          dsimp only; rw [hk]; exact if_pos hl
        · rw [if_neg hl] at h; exact absurd rfl h
      | _ => rw [hk] at h; exact absurd rfl h
theorem drop_at {α : Type} {xs : List α} {i : Nat} {v : α} (hv : xs[i]? = some v) : xs.drop i = v :: xs.drop (i + 1) := by
  obtain ⟨hlt, e⟩ := List.getElem?_eq_some_iff.mp hv
  rw [List.drop_eq_getElem_cons hlt, e]
theorem drop_end {α : Type} {xs : List α} {i : Nat} (hv : xs[i]? = Option.none) : xs.drop i = [] := List.drop_eq_nil_of_le (List.getElem?_eq_none_iff.mp hv)
theorem At.new (a : At κ η ρ H s) {b : Addr} (q : s.heap.get? b = Option.none) : κ.X.base.get? b = Option.none := by
  cases g : κ.X.base.get? b with
  | none => rfl
  | some o => have := a.inv.keep b o g; rw [q] at this; cases this
theorem Ns.mach {h : Heap} {C : Addr} {m : Str → Option Value} (ns : h.Ns C m) : Mach h C := let ⟨o, es', ep, g, d, _⟩ := ns; ⟨o, g, .inr ⟨es', ep, d⟩⟩
theorem one_none {h : Heap} {b : Addr} (e : h.get? b = Option.none) : ∀ c ∈ [b], h.get? c = Option.none := fun _ hc => List.mem_singleton.mp hc ▸ e

theorem comp_loop {elt iter : Expr} {x : String} {px pos : Pos} {scope : Scope} {cl : List (Str × Addr)} {f : V → Hp → R V} {src : V} {xs : List V} {chk : Hp → Bool} {k : Nat} {it D C : Addr} {RR : Result → Shared → Prop} {η0 : List Addr} {s0 : Shared}
    (hc : compOk κ.env.scope scope (Str.ofString x) = true) (hcl : ∀ p ∈ cl, κ.env.cells.lookup p.1 = some p.2) (hfr : ∀ y, scope.names.lookup y = some .free → ∃ c, cl.lookup y = some c)
    (helt : ∀ v C' H', Tri (κ.inn (compEnvC scope cl C' κ.env)) ((x, v) :: ρ) [] (eval elt (compEnvC scope cl C' κ.env)) H' (f v H') rV)
    (hchk : ∀ H, chk H = true → ∀ n, src = .ref n → H[n]? = some (.list xs)) (h0C : s0.heap.get? C = Option.none) (h0I : s0.heap.get? it = Option.none)
    {H1 : Hp} {η1 : List Addr} {s1 : Shared} {m1 : Str → Option Value} (a0 : At κ η0 ρ H s0) (i1 : Inv κ.X η1 H1 s1.heap) (e1 : s1 = { s0 with heap := s1.heap, toks := s1.toks }) (x1 : Step [] η0 s0.heap η1 s1.heap) (r1 : ItR κ.X η1 s1.heap it src xs 0) (n1 : it ∉ η1) (d1 : η1[k]? = some D) (c1 : C ∉ η1) (ns1 : s1.heap.Ns C m1)
    (hne : turns f chk k xs H1 ≠ .stuck) (hR : ∀ H' s', turns f chk k xs H1 = .ok () H' → CompEnd κ.X η0 s0 k D C H' s' → RR (.ok .next) s') :
    codeAny κ.X.M κ.A (.compLoop (.ListComp elt [⟨.Name (Str.ofString x) px, iter, [], 0⟩] scope pos) 0 (.ref it) (.ref D) (compEnvC scope cl C κ.env)) RR s1 := by
  generalize hres : turns f chk k xs H1 = res at hne hR
  have hc' := hc
  unfold compOk at hc'
  simp only [Bool.and_eq_true, beq_iff_eq] at hc'
  have hx : (compEnvC scope cl C κ.env).kindOf (Str.ofString x) = some .local := lookup_relabel_local hc'.1.2
  have hkind : (relabel scope κ.env).kind = .function := hc'.1.1.1
  refine codeAny_compLoop_tests (env := compEnvC scope cl C κ.env) (CompI κ.X η0 s0 it D C src xs k (fun i H => turns f chk k (xs.drop i) H = res))
    (fun mm s hI => ?_) xs.length ⟨0, H1, η1, m1, rfl, i1, e1, x1, r1, n1, d1, c1, ns1, hres⟩
  obtain ⟨i, H', η, m, rfl, iv, es, xx, r, ni, dk, cn, ns, hf⟩ := hI
  have ck : chk H' = true := turns_chk (by rw [hf]; exact hne)
  have nCit : C ≠ it := fun q => by
    obtain ⟨o, es', ep, g, d, _⟩ := ns
    obtain ⟨o', _, fs, g', _, d', _⟩ := r.obj
    rw [q, g'] at g; cases g; rw [d'] at d; cases d
  have nC : ∀ {b : Addr}, b = C → b ∉ [it] := fun q z => nCit (q.symm.trans (List.mem_singleton.mp z))
  refine next_ok r iv ni a0.hand (hchk H' ck) (fun v mv h' tk hv t rv r' => ?_) (fun h' hv t => ?_)
  · rw [drop_at hv] at hf
    obtain ⟨w0, H40, ys0, g1, g2, g3, g4⟩ := turns_cons (by rw [hf]; exact hne)
    rw [g4] at hf
    have iv2 : Inv κ.X η H' h' := t.inv iv (one_none (a0.new h0I))
    have xx2 : Step [] η0 s0.heap η h' := t.step xx (one_none h0I)
    have ns2 : h'.Ns C m := by
      obtain ⟨o, es', ep, g, d, q⟩ := ns
      exact ⟨o, es', ep, t.keep C o (nC rfl) g, d, q⟩
    show wpAny _ κ.A (assign (.Name (Str.ofString x) px) (compEnvC scope cl C κ.env) mv) _ _ _
    refine wpAny_assign_Name (wpAny_storeName_local hx ns2 (fun h2 hn2 hs2 => ?_) ?_)
    rotate_left
    · show ((relabel scope κ.env).kind == .class || ((relabel scope κ.env).kind == .module && _)) = false
      rw [hkind]; rfl
    have t2 : Turn [C] η H' h' h2 := Turn.one cn (Ns.mach ns2) fun b o hb e => (hs2.2 b hb).trans e
    have iv3 : Inv κ.X η H' h2 := t2.inv iv2 (one_none (a0.new h0C))
    have xx3 : Step [] η0 s0.heap η h2 := t2.step xx2 (one_none h0C)
    refine wpAny_pure ?_
    simp only [if_true]
    have out : At κ η ρ H' { s0 with heap := h2, toks := tk + 1 } := a0.step xx3 iv3 (tk + 1)
    have inn := comp_at (s := { s0 with heap := h2, toks := tk + 1 }) hc out hcl hfr hn2 (by simp) (t2.vr rv) cn (a0.new h0C)
    have es' : ({ s with heap := h2, toks := tk + 1 } : Shared) = { s0 with heap := h2, toks := tk + 1 } := by rw [es]
    show wpAny _ κ.A (eval elt (compEnvC scope cl C κ.env)) _ _ (⟨h2, s.gens, s.drawn, tk + 1, s.os⟩ : Shared)
    rw [es']
    refine monoN (helt v C H' (by rw [g1]; exact fun q => nomatch q) η _ inn fun _ q => nomatch q) fun mw s4 hx4 => ?_
    obtain ⟨w, H4, e4, _, η4, h4, tk4, rfl, iv4, xx4, pv⟩ := hx4
    cases g1.symm.trans e4
    have out4 : At κ η4 ρ H40 { s0 with heap := h4, toks := tk4 } := out.step xx4 iv4 tk4
    have d4 : η4[k]? = some D := by obtain ⟨l, rfl, _⟩ := xx4.pre; exact getElem?_pre dk
    have ap := append_ok (κ := κ) (ρ := ρ) (vs := [(.ref k, .ref D), (w0, mw)]) (v := w0) (ov := .ref D) (mv := mw) (List.Mem.head _) (List.Mem.tail _ (List.Mem.head _)) g2 g3
    refine monoN (ap (fun q => nomatch q) η4 _ out4 (fun p hp => ?_)) fun y s5 hy => ?_
    · rcases List.mem_cons.mp hp with rfl | hp
      · exact .ref d4
      · rw [List.mem_singleton] at hp; subst hp; exact pv (w0, mw) (List.Mem.head _)
    · obtain ⟨_, H5, e5, _, η5, h5, tk5, rfl, iv5, xx6, _⟩ := hy
      cases e5
      have xx7 := xx4.trans xx6
      have nCx : ∀ o, h2.get? C = some o → h5.get? C = some o := fun o g => xx7.same C o g cn fun q => nomatch q
      have nIx : ∀ o, h2.get? it = some o → h5.get? it = some o := fun o g => xx7.same it o g ni fun q => nomatch q
      have r2 : ItR κ.X η h2 it src xs (i + 1) := r'.move ⟨[], (List.append_nil _).symm⟩ t2.holds fun o g => t2.keep it o (fun z => nCit (List.mem_singleton.mp z).symm) g
      have r5 : ItR κ.X η5 h5 it src xs (i + 1) := r2.keep xx7 (Frm.nil _) ni
      obtain ⟨oC, esC, epC, gC, dC, qC⟩ := hn2
      obtain ⟨oI, _, fI, gI, _⟩ := r2.obj
      exact ⟨xs.length - (i + 1), by have := (List.getElem?_eq_some_iff.mp hv).1; omega, i + 1, _, η5, _, rfl, iv5, rfl, xx3.trans xx7, r5, xx7.mem gI ni, by obtain ⟨l, rfl, _⟩ := xx6.pre; exact getElem?_pre d4, xx7.mem gC cn, ⟨oC, esC, epC, nCx _ gC, dC, qC⟩, hf⟩
  · rw [drop_end hv, turns, if_pos ck] at hf
    refine hR H' _ hf.symm ⟨η, h', s.toks, by rw [es], t.inv iv (one_none (a0.new h0I)), t.step xx (one_none h0I), dk, cn, h0C, m, ?_⟩
    obtain ⟨o, es', ep, g, d, q⟩ := ns
    exact ⟨o, es', ep, t.keep C o (nC rfl) g, d, q⟩
end
end Mine

/-! JG -/
namespace Mine
open PySem PyProof.Rows PySem.W

theorem same_list {H H' : Hp} {n : Nat} {xs : List V} (h : items H (.ref n) = some xs) (hs : sameO (.ref n) H H' = true) : H'[n]? = some (.list xs) := by
  have e := items_ref h
  simp only [sameO, e] at hs
  split at hs
  · rename_i q1 q2; cases q1; rw [q2, of_decide_eq_true hs]
  · cases hs
noncomputable def noSet : Expr → Bool
  | .Set .. => false
  | _ => true
theorem folded_no {e : Expr} {env : Env} (h : noSet e = true) (x : Value) : foldedSetIterable e env x = pure x := by
  cases e <;> first | rfl | cases h

section
variable {κ : Ct} {ρ : Rho} {H : Hp}

theorem comp_ok {elt iter : Expr} {x : String} {px pos : Pos} {scope : Scope} {f : V → Hp → R V} {r1 : R V} (hc : compOk κ.env.scope scope (Str.ofString x) = true) (hn : noSet iter = true)
    (h1 : Tri κ ρ [] (eval iter κ.env) H r1 rV) (helt : ∀ cl v C' H', Tri (κ.inn (compEnvC scope cl C' κ.env)) ((x, v) :: ρ) [] (eval elt (compEnvC scope cl C' κ.env)) H' (f v H') rV) :
    Tri κ ρ [] (eval (.ListComp elt [⟨.Name (Str.ofString x) px, iter, [], 0⟩] scope pos) κ.env) H (r1.bind fun v H1 => compV f v H1) rV := by
  intro hne η s a _
  rw [eval_ListComp]
  have hc' := hc
  unfold compOk at hc'
  simp only [Bool.and_eq_true, beq_iff_eq] at hc'
  obtain ⟨⟨⟨hk, hsk⟩, hx⟩, hall⟩ := hc'
  have hnm : ∀ p ∈ scope.names, compName κ.env.scope scope (Str.ofString x) p = true := fun p hp => List.all_eq_true.mp hall p hp
  obtain ⟨cl, ecl, hcl, hfr0⟩ := forIn_cells (env := κ.env) scope.names [] (fun p hp e => by
    have := hnm p hp
    unfold compName at this
    rw [e] at this
    exact a.fok.cells _ (beq_iff_eq.mp this)) (fun _ q => nomatch q)
  have hclos : closureFor scope κ.env = pure cl := by
    unfold closureFor
    dsimp only
    rw [ecl]; rfl
  have hfr : ∀ y, scope.names.lookup y = some .free → ∃ c, cl.lookup y = some c := fun y hy => hfr0 y (.inr (lookup_mem hy))
  have hcell : ∀ p ∈ scope.names, p.2 ≠ .cell := fun p hp q => by
    have := hnm p hp
    unfold compName at this
    rw [q] at this; cases this
  have hnames : ∀ p ∈ scope.names, p.2 = .local → scope.names.lookup p.1 = some .local := fun p hp q => by
    have := hnm p hp
    unfold compName at this
    rw [q] at this
    simp only [Bool.and_eq_true, beq_iff_eq] at this
    exact this.2
  refine wpAny_comprehension_free (use := Option.none) rfl (fun x => folded_no hn x) hclos hk hnames ?_
  have hr : r1 ≠ .stuck := by rintro rfl; exact hne rfl
  refine monoN (h1 hr η s a fun _ q => nomatch q) fun mv s1 hx1 => ?_
  obtain ⟨v, H1, rfl, _, η1, h1', tk1, rfl, iv1, st1, p1⟩ := hx1
  rw [R.bind_ok] at hne ⊢
  unfold compV at hne ⊢
  cases hi : items H1 v with
  | none => rw [hi] at hne; exact absurd rfl hne
  | some xs =>
    rw [hi] at hne
    dsimp only at hne ⊢
    refine iter_ok (s := { s with heap := h1', toks := tk1 }) iv1 (p1 (v, mv) (List.Mem.head _)) hi fun ob rI => ?_
    obtain ⟨h2, eh2⟩ : ∃ h2, h2 = h1'.push ob := ⟨_, rfl⟩
    obtain ⟨it, eit⟩ : ∃ it, it = h1'.objs.size := ⟨_, rfl⟩
    have k2 : ∀ b o, h1'.get? b = some o → h2.get? b = some o := fun b o e => by rw [eh2]; exact push_keeps _ _ _ _ e
    show wpAny _ κ.A (newList []) _ _ { s with heap := h1'.push ob, toks := tk1 }
    have rI' : ItR κ.X η1 h2 it v xs 0 := by rw [eh2, eit]; exact rI
    rw [← eh2]
    show wpAny _ κ.A (newList []) (fun acc s3 => wpAny _ κ.A (newFunctionEnv scope κ.env.globals cl [] κ.env.qual Option.none .none (some κ.env)) (fun cenv s4 => codeAny _ κ.A (.compStart _ 0 (.ref h1'.objs.size) acc _) _ s4) _ s3) _ _
    rw [← eit]
    refine wpAny_newObj_type (wpAny_newFunctionEnv hcell (by intro y hy; simp at hy) (fun h4 hn4 hs4 => ?_) hk)
    dsimp only at hn4 hs4 ⊢
    obtain ⟨h3, eh3⟩ : ∃ h3, h3 = h2.push { cls := .type "list", data := .seq ([] : List Value).toArray } := ⟨_, rfl⟩
    have hn4' : h4.Ns h3.objs.size (fun x => ([] : List (Str × Value)).reverse.lookup x) := by rw [eh3]; exact hn4
    have hs4' : Heap.SameBut h3.objs.size (h3.push { cls := .type (if (some κ.env).isSome then "dict" else "frame"), data := .dict #[] }) h4 := by rw [eh3]; exact hs4
    have sz3 : h3.objs.size = h2.objs.size + 1 := by rw [eh3, Heap.size_push]
    have k3 : ∀ b o, h2.get? b = some o → h3.get? b = some o := fun b o e => by rw [eh3]; exact push_keeps _ _ _ _ e
    have k4 : ∀ b o, h3.get? b = some o → h4.get? b = some o := fun b o e => (hs4'.2 b (Nat.ne_of_lt (Heap.lt_size e))).trans (push_keeps _ _ _ _ e)
    have kk : ∀ b o, h1'.get? b = some o → h4.get? b = some o := fun b o e => k4 b o (k3 b o (k2 b o e))
    have nD : h2.get? h2.objs.size = Option.none := size_none h2
    have gD : h4.get? h2.objs.size = some { cls := .type "list", data := .seq ([] : List Value).toArray } := k4 _ _ (by rw [eh3]; exact Heap.get?_push_size _ rfl)
    have back : ∀ b, h2.objs.size ≤ b → h1'.get? b = Option.none := fun b hb => by
      cases e : h1'.get? b with
      | none => rfl
      | some o => exact absurd (Heap.lt_size (k2 b o e)) (Nat.not_lt.mpr hb)
    have nI : h1'.get? it = Option.none := by rw [eit]; exact size_none h1'
    have offη : ∀ b, h1'.get? b = Option.none → b ∉ η1 := fun b hb q => by obtain ⟨ob, e⟩ := iv1.alive q; rw [hb] at e; cases e
    have iv2 : Inv κ.X (η1 ++ [h2.objs.size]) (H1 ++ [.list []]) h4 := iv1.make kk (back _ (Nat.le_refl _)) gD (.list .nil (by simp [line]))
    have neID : it ≠ h2.objs.size := by obtain ⟨o, _, _, e, _⟩ := rI'.obj; exact Nat.ne_of_lt (Heap.lt_size e)
    have st2 : Step [] η1 h1' (η1 ++ [h2.objs.size]) h4 := Step.make _ _ kk (back _ (Nat.le_refl _))
    have rI4 : ItR κ.X (η1 ++ [h2.objs.size]) h4 it v xs 0 := rI'.keep (own := []) (Step.make _ _ (fun b o e => k4 b o (k3 b o e)) nD) (Frm.nil _) (offη it nI)
    have neDC : h2.objs.size ≠ h3.objs.size := by rw [sz3]; exact Nat.ne_of_lt (Nat.lt_succ_self _)
    have nC : h1'.get? h3.objs.size = Option.none := back _ (by omega)
    have off2 : ∀ b, h1'.get? b = Option.none → b ≠ h2.objs.size → b ∉ η1 ++ [h2.objs.size] := fun b hb hd q => by
      rcases List.mem_append.mp q with q | q
      · exact offη b hb q
      · exact hd (List.mem_singleton.mp q)
    have key := comp_loop (η0 := η) (s0 := s) (k := H1.length) (chk := sameO v H1) (f := f) (src := v) (xs := xs) (H1 := H1 ++ [.list []]) (η1 := η1 ++ [h2.objs.size]) (elt := elt) (iter := iter) (px := px) (pos := pos) (s1 := { s with heap := h4, toks := tk1 + ([] : List (Str × Value)).length }) (D := h2.objs.size) (C := h3.objs.size)
      hc hcl hfr (helt cl) (fun H' hck n hv => by subst hv; exact same_list hi hck) (st1.old nC) (st1.old nI) a iv2 rfl (st1.trans st2) rI4 (off2 it nI neID) (by rw [← iv1.len]; simp) (off2 _ nC neDC.symm) hn4' (fun q => hne (by rw [q]; rfl))
      (RR := compPost κ.X.M κ.A noE Option.none (OkAt κ.X rV η s ((turns f (sameO v H1) H1.length xs (H1 ++ [.list []])).bind fun _ H5 => .ok (V.ref H1.length) H5)) (.ref h2.objs.size) h3.objs.size) fun H' s' et ce => ?_
    · have fin := codeAny_compStart_list key (iter_self (s := { s with heap := h4, toks := tk1 + ([] : List (Str × Value)).length }) rI4 key)
      rw [eh3] at fin
      exact fin
    · obtain ⟨η', h', tk, rfl, iv, stp, dk, cn, c0, m, ns⟩ := ce
      refine ⟨m, ns, fun h'' sb => ⟨.ref H1.length, H', by rw [et]; rfl, trivial, ?_⟩⟩
      have t : Turn [h3.objs.size] η' H' h' h'' := Turn.one cn (Ns.mach ns) fun b o hb e => (sb.2 b hb).trans e
      exact ⟨η', h'', tk, rfl, t.inv iv (one_none (a.new c0)), t.step stp (one_none c0), fun p hp => rV1 hp (.ref dk)⟩
end
end Mine

/-! J8 -/
namespace Mine
open PySem PyProof.Rows PySem.W
/-! the compact terms against the text's trees -/
noncomputable def vName (sc : Scope) (x : String) (id : Str) : Bool := id == Str.ofString x && isVar sc id && !(id == ("__debug__" : Str)) && !(id == ("__classdict__" : Str))
noncomputable def plainE : Expr → Bool
  | .Starred .. => false
  | .Set .. => false
  | .Slice .. => false
  | _ => true
theorem ff {P : Prop} (h : false = true) : P := nomatch h
noncomputable def onName (e : Expr) (f : Str → Pos → Bool) : Bool := match e with
  | .Name id p => f id p
  | _ => false
theorem onName_inv {e : Expr} {f : Str → Pos → Bool} (h : onName e f = true) : ∃ id p, e = .Name id p ∧ f id p = true := by
  cases e with
  | Name id p => exact ⟨id, p, rfl, h⟩
  | _ => exact ff h
noncomputable def onConstant (e : Expr) (f : Const → Nat → Pos → Bool) : Bool := match e with
  | .Constant c k p => f c k p
  | _ => false
theorem onConstant_inv {e : Expr} {f : Const → Nat → Pos → Bool} (h : onConstant e f = true) : ∃ c k p, e = .Constant c k p ∧ f c k p = true := by
  cases e with
  | Constant c k p => exact ⟨c, k, p, rfl, h⟩
  | _ => exact ff h
noncomputable def onBinOp (e : Expr) (f : Expr → Operator → Expr → Pos → Bool) : Bool := match e with
  | .BinOp l op r p => f l op r p
  | _ => false
theorem onBinOp_inv {e : Expr} {f : Expr → Operator → Expr → Pos → Bool} (h : onBinOp e f = true) : ∃ l op r p, e = .BinOp l op r p ∧ f l op r p = true := by
  cases e with
  | BinOp l op r p => exact ⟨l, op, r, p, rfl, h⟩
  | _ => exact ff h
noncomputable def onUnaryOp (e : Expr) (f : UnaryOp → Expr → Pos → Bool) : Bool := match e with
  | .UnaryOp op a p => f op a p
  | _ => false
theorem onUnaryOp_inv {e : Expr} {f : UnaryOp → Expr → Pos → Bool} (h : onUnaryOp e f = true) : ∃ op a p, e = .UnaryOp op a p ∧ f op a p = true := by
  cases e with
  | UnaryOp op a p => exact ⟨op, a, p, rfl, h⟩
  | _ => exact ff h
noncomputable def onBoolOp (e : Expr) (f : BoolOp → List Expr → Pos → Bool) : Bool := match e with
  | .BoolOp op es p => f op es p
  | _ => false
theorem onBoolOp_inv {e : Expr} {f : BoolOp → List Expr → Pos → Bool} (h : onBoolOp e f = true) : ∃ op es p, e = .BoolOp op es p ∧ f op es p = true := by
  cases e with
  | BoolOp op es p => exact ⟨op, es, p, rfl, h⟩
  | _ => exact ff h
noncomputable def onCompare (e : Expr) (f : Expr → List CmpOp → List Expr → Pos → Bool) : Bool := match e with
  | .Compare l ops rs p => f l ops rs p
  | _ => false
theorem onCompare_inv {e : Expr} {f : Expr → List CmpOp → List Expr → Pos → Bool} (h : onCompare e f = true) : ∃ l ops rs p, e = .Compare l ops rs p ∧ f l ops rs p = true := by
  cases e with
  | Compare l ops rs p => exact ⟨l, ops, rs, p, rfl, h⟩
  | _ => exact ff h
noncomputable def onCall (e : Expr) (f : Expr → List Expr → List Keyword → Pos → Bool) : Bool := match e with
  | .Call fn args kws p => f fn args kws p
  | _ => false
theorem onCall_inv {e : Expr} {f : Expr → List Expr → List Keyword → Pos → Bool} (h : onCall e f = true) : ∃ fn args kws p, e = .Call fn args kws p ∧ f fn args kws p = true := by
  cases e with
  | Call fn args kws p => exact ⟨fn, args, kws, p, rfl, h⟩
  | _ => exact ff h
noncomputable def onAttribute (e : Expr) (f : Expr → Str → Pos → Bool) : Bool := match e with
  | .Attribute o nm p => f o nm p
  | _ => false
theorem onAttribute_inv {e : Expr} {f : Expr → Str → Pos → Bool} (h : onAttribute e f = true) : ∃ o nm p, e = .Attribute o nm p ∧ f o nm p = true := by
  cases e with
  | Attribute o nm p => exact ⟨o, nm, p, rfl, h⟩
  | _ => exact ff h
noncomputable def onSubscript (e : Expr) (f : Expr → Expr → Pos → Bool) : Bool := match e with
  | .Subscript o i p => f o i p
  | _ => false
theorem onSubscript_inv {e : Expr} {f : Expr → Expr → Pos → Bool} (h : onSubscript e f = true) : ∃ o i p, e = .Subscript o i p ∧ f o i p = true := by
  cases e with
  | Subscript o i p => exact ⟨o, i, p, rfl, h⟩
  | _ => exact ff h
noncomputable def onList (e : Expr) (f : List Expr → Pos → Bool) : Bool := match e with
  | .List es p => f es p
  | _ => false
theorem onList_inv {e : Expr} {f : List Expr → Pos → Bool} (h : onList e f = true) : ∃ es p, e = .List es p ∧ f es p = true := by
  cases e with
  | List es p => exact ⟨es, p, rfl, h⟩
  | _ => exact ff h
noncomputable def onTuple (e : Expr) (f : List Expr → Nat → Pos → Bool) : Bool := match e with
  | .Tuple es k p => f es k p
  | _ => false
theorem onTuple_inv {e : Expr} {f : List Expr → Nat → Pos → Bool} (h : onTuple e f = true) : ∃ es k p, e = .Tuple es k p ∧ f es k p = true := by
  cases e with
  | Tuple es k p => exact ⟨es, k, p, rfl, h⟩
  | _ => exact ff h
noncomputable def onListComp (e : Expr) (f : Expr → List Comprehension → Scope → Pos → Bool) : Bool := match e with
  | .ListComp elt gs scope p => f elt gs scope p
  | _ => false
theorem onListComp_inv {e : Expr} {f : Expr → List Comprehension → Scope → Pos → Bool} (h : onListComp e f = true) : ∃ elt gs scope p, e = .ListComp elt gs scope p ∧ f elt gs scope p = true := by
  cases e with
  | ListComp elt gs scope p => exact ⟨elt, gs, scope, p, rfl, h⟩
  | _ => exact ff h
noncomputable def onJoined (e : Expr) (f : List Expr → Pos → Bool) : Bool := match e with
  | .JoinedStr es p => f es p
  | _ => false
theorem onJoined_inv {e : Expr} {f : List Expr → Pos → Bool} (h : onJoined e f = true) : ∃ es p, e = .JoinedStr es p ∧ f es p = true := by
  cases e with
  | JoinedStr es p => exact ⟨es, p, rfl, h⟩
  | _ => exact ff h
noncomputable def onField (e : Expr) (f : Expr → Int → Option Expr → Pos → Bool) : Bool := match e with
  | .FormattedValue v c sp p => f v c sp p
  | _ => false
theorem onField_inv {e : Expr} {f : Expr → Int → Option Expr → Pos → Bool} (h : onField e f = true) : ∃ v c sp p, e = .FormattedValue v c sp p ∧ f v c sp p = true := by
  cases e with
  | FormattedValue v c sp p => exact ⟨v, c, sp, p, rfl, h⟩
  | _ => exact ff h
noncomputable def onSlice (e : Expr) (f : Option Expr → Option Expr → Option Expr → Pos → Bool) : Bool := match e with
  | .Slice l u st p => f l u st p
  | _ => false
theorem onSlice_inv {e : Expr} {f : Option Expr → Option Expr → Option Expr → Pos → Bool} (h : onSlice e f = true) : ∃ l u st p, e = .Slice l u st p ∧ f l u st p = true := by
  cases e with
  | Slice l u st p => exact ⟨l, u, st, p, rfl, h⟩
  | _ => exact ff h
noncomputable def gName (kn : String → Bool) (sc : Scope) (f : String) (e : Expr) : Bool := onName e fun id _ => id == Str.ofString f && isGlob sc id && !(id == ("__debug__" : Str)) && kn f
noncomputable def isName (e : Expr) : Bool := onName e fun _ _ => true
theorem isName_inv {e : Expr} (h : isName e = true) : ∃ id p, e = .Name id p := let ⟨id, p, e, _⟩ := onName_inv h; ⟨id, p, e⟩
noncomputable def one {α : Type} (l : List α) (f : α → Bool) : Bool := match l with
  | [] => false
  | a :: r => r.isEmpty && f a
noncomputable def two {α : Type} (l : List α) (f g : α → Bool) : Bool := match l with
  | [] => false
  | a :: r => f a && one r g
theorem one_inv {α : Type} {l : List α} {f : α → Bool} (h : one l f = true) : ∃ a, l = [a] ∧ f a = true := by
  cases l with
  | nil => cases h
  | cons a r =>
    have h : (r.isEmpty && f a) = true := h
    rw [Bool.and_eq_true, List.isEmpty_iff] at h
    exact ⟨a, by rw [h.1], h.2⟩
theorem two_inv {α : Type} {l : List α} {f g : α → Bool} (h : two l f g = true) : ∃ a b, l = [a, b] ∧ f a = true ∧ g b = true := by
  cases l with
  | nil => cases h
  | cons a r =>
    have h : (f a && one r g) = true := h
    rw [Bool.and_eq_true] at h
    obtain ⟨b, rfl, h2⟩ := one_inv h.2
    exact ⟨a, b, rfl, h.1, h2⟩
theorem and_inv {a b : Bool} (h : (a && b) = true) : a = true ∧ b = true := by rwa [Bool.and_eq_true] at h
noncomputable def genName (x : Str) (g : Comprehension) : Bool := onName g.target (fun id _ => id == x) && (noSet g.iter && (g.ifs.isEmpty && g.is_async == 0))
theorem genName_inv {x : Str} {t iter : Expr} {ifs : List Expr} {as : Int} (h : genName x ⟨t, iter, ifs, as⟩ = true) : ∃ p, t = .Name x p ∧ noSet iter = true ∧ ifs = [] ∧ as = 0 := by
  obtain ⟨h1, h2⟩ := and_inv h
  obtain ⟨h2, h3⟩ := and_inv h2
  obtain ⟨h3, h4⟩ := and_inv h3
  obtain ⟨id, p, e, h5⟩ := onName_inv h1
  have e1 := beq_iff_eq.mp h5
  subst e1
  exact ⟨p, e, h2, List.isEmpty_iff.mp h3, beq_iff_eq.mp h4⟩
noncomputable def someE (e : Option Expr) (f : Expr → Bool) : Bool := match e with
  | some e => f e
  | Option.none => false
theorem someE_inv {e : Option Expr} {f : Expr → Bool} (h : someE e f = true) : ∃ a, e = some a ∧ f a = true := by
  cases e with
  | none => exact ff h
  | some a => exact ⟨a, rfl, h⟩
noncomputable def baseOk : Expr → Bool
  | .Call .. => false
  | _ => true
theorem base_of {o : Expr} {nm : Str} {env : Env} {w : Sem Value} (h : baseOk o = true) : attributeBase o nm env w = w := by
  cases o <;> first | rfl | cases h
mutual
noncomputable def isE (kn : String → Bool) (sc : Scope) : E → Expr → Bool
  | .var x, e => onName e fun id _ => vName sc x id
  | .glob x, e => gName kn sc x e
  | .none, e => onConstant e fun c _ _ => c == .none
  | .bool b, e => onConstant e fun c _ _ => c == .bool b
  | .int i, e => onConstant e fun c _ _ => c == .int i
  | .str s, e => onConstant e fun c _ _ => c == .str (Str.ofString s) && PyData.strOk (Str.ofString s)
  | .bin op l r, e => onBinOp e fun l' op' r' _ => op' == opOf op && (isE kn sc l l' && isE kn sc r r')
  | .not a, e => onUnaryOp e fun op a' _ => op == .Not && isE kn sc a a'
  | .and es, e => onBoolOp e fun op es' _ => op == .And && isEs kn sc es es'
  | .or es, e => onBoolOp e fun op es' _ => op == .Or && isEs kn sc es es'
  | .cmp l op r, e => onCompare e fun l' ops rs _ => ops == [cmOf op] && (isE kn sc l l' && one rs (isE kn sc r))
  | .cmp2 l o1 m o2 r, e => onCompare e fun l' ops rs _ => ops == [cmOf o1, cmOf o2] && (isE kn sc l l' && two rs (isE kn sc m) (isE kn sc r))
  | .call f args, e => onCall e fun fn args' kws _ => kws.isEmpty && (gName kn sc f fn && isEs kn sc args args')
  | .isinst a T, e => onCall e fun fn args' kws _ => kws.isEmpty && (gName kn sc "isinstance" fn && two args' (isE kn sc a) (gName kn sc T))
  | .meth o m args, e => onCall e fun fn args' kws p => kws.isEmpty && (onAttribute fn (fun o' nm ap => nm == Str.ofString m && (isE kn sc o o' && (baseOk o' && ap.endLine == p.line))) && (isEs kn sc args args' && (decide (args'.length < 30) && mName m)))
  | .attr o a, e => onAttribute e fun o' nm _ => isName o' && (nm == Str.ofString a && (isE kn sc o o' && attrName a))
  | .idx o i, e => onSubscript e fun o' i' _ => isE kn sc o o' && isE kn sc i i'
  | .slice o lo hi, e => onSubscript e fun o' i' _ => isName o' && (isE kn sc o o' && onSlice i' fun l u st _ => st.isNone && (someE l (isE kn sc lo) && someE u (isE kn sc hi)))
  | .list es, e => onList e fun es' _ => isEs kn sc es es' && decide (es.length < 100)
  | .tup es, e => onTuple e fun es' _ _ => isEs kn sc es es' && decide (es.length < 100)
  | .menu es i, e => onSubscript e fun o' i' _ => onList o' (fun es' _ => isEs kn sc es es' && decide (es.length < 100)) && isE kn sc i i'
  | .comp elt x it, e => onListComp e fun elt' gs scope _ => one gs (fun g => genName (Str.ofString x) g && isE kn sc it g.iter) && (compOk sc scope (Str.ofString x) && isE kn (relabelS scope sc) elt elt')
  | .fmt a, e => onField e fun v c sp _ => c == -1 && (sp.isNone && isE kn sc a v)
  | .fstr es, e => onJoined e fun es' _ => isEs kn sc es es' && decide (2 ≤ es.length)
noncomputable def isEs (kn : String → Bool) (sc : Scope) : List E → List Expr → Bool
  | [], es => match es with | [] => true | _ => false
  | c :: cs, es => match es with | e :: es => isE kn sc c e && isEs kn sc cs es | [] => false
end
section
variable {kn : String → Bool} {sc : Scope} {e : Expr}
theorem isE_fmt {a : E} (h : isE kn sc (.fmt a) e = true) : ∃ v p, e = .FormattedValue v (-1) Option.none p ∧ isE kn sc a v = true := by
  obtain ⟨v, c, sp, p, rfl, h⟩ := onField_inv h
  exact ⟨v, p, by rw [beq_iff_eq.mp (and_inv h).1, Option.isNone_iff_eq_none.mp (and_inv (and_inv h).2).1], (and_inv (and_inv h).2).2⟩
theorem isE_fstr {es : List E} (h : isE kn sc (.fstr es) e = true) : ∃ es' p, e = .JoinedStr es' p ∧ isEs kn sc es es' = true ∧ 2 ≤ es.length :=
  let ⟨es', p, e1, e2⟩ := onJoined_inv h; ⟨es', p, e1, (and_inv e2).1, of_decide_eq_true (and_inv e2).2⟩
theorem isE_var {x : String} (h : isE kn sc (.var x) e = true) : ∃ id p, e = .Name id p ∧ vName sc x id = true := onName_inv h
theorem isE_none (h : isE kn sc .none e = true) : ∃ k p, e = .Constant .none k p :=
  let ⟨_, k, p, e1, e2⟩ := onConstant_inv h; ⟨k, p, beq_iff_eq.mp e2 ▸ e1⟩
theorem isE_bool {b : Bool} (h : isE kn sc (.bool b) e = true) : ∃ k p, e = .Constant (.bool b) k p :=
  let ⟨_, k, p, e1, e2⟩ := onConstant_inv h; ⟨k, p, beq_iff_eq.mp e2 ▸ e1⟩
theorem isE_int {i : Int} (h : isE kn sc (.int i) e = true) : ∃ k p, e = .Constant (.int i) k p :=
  let ⟨_, k, p, e1, e2⟩ := onConstant_inv h; ⟨k, p, beq_iff_eq.mp e2 ▸ e1⟩
theorem isE_str {x : String} (h : isE kn sc (.str x) e = true) : ∃ k p, e = .Constant (.str (Str.ofString x)) k p ∧ PyData.strOk (Str.ofString x) = true :=
  let ⟨_, k, p, e1, e2⟩ := onConstant_inv h; ⟨k, p, beq_iff_eq.mp (and_inv e2).1 ▸ e1, (and_inv e2).2⟩
theorem isE_bin {op : Op} {l r : E} (h : isE kn sc (.bin op l r) e = true) : ∃ l' r' p, e = .BinOp l' (opOf op) r' p ∧ isE kn sc l l' = true ∧ isE kn sc r r' = true :=
  let ⟨l', _, r', p, e1, e2⟩ := onBinOp_inv h; ⟨l', r', p, beq_iff_eq.mp (and_inv e2).1 ▸ e1, and_inv (and_inv e2).2⟩
theorem isE_not {a : E} (h : isE kn sc (.not a) e = true) : ∃ a' p, e = .UnaryOp .Not a' p ∧ isE kn sc a a' = true :=
  let ⟨_, a', p, e1, e2⟩ := onUnaryOp_inv h; ⟨a', p, beq_iff_eq.mp (and_inv e2).1 ▸ e1, (and_inv e2).2⟩
theorem isE_and {es : List E} (h : isE kn sc (.and es) e = true) : ∃ es' p, e = .BoolOp .And es' p ∧ isEs kn sc es es' = true :=
  let ⟨_, a', p, e1, e2⟩ := onBoolOp_inv h; ⟨a', p, beq_iff_eq.mp (and_inv e2).1 ▸ e1, (and_inv e2).2⟩
theorem isE_or {es : List E} (h : isE kn sc (.or es) e = true) : ∃ es' p, e = .BoolOp .Or es' p ∧ isEs kn sc es es' = true :=
  let ⟨_, a', p, e1, e2⟩ := onBoolOp_inv h; ⟨a', p, beq_iff_eq.mp (and_inv e2).1 ▸ e1, (and_inv e2).2⟩
theorem isE_cmp {l r : E} {op : Cm} (h : isE kn sc (.cmp l op r) e = true) : ∃ l' r' p, e = .Compare l' [cmOf op] [r'] p ∧ isE kn sc l l' = true ∧ isE kn sc r r' = true := by
  obtain ⟨l', ops, rs, p, rfl, e2⟩ := onCompare_inv h
  obtain ⟨r', rfl, h3⟩ := one_inv (and_inv (and_inv e2).2).2
  exact ⟨l', r', p, by rw [beq_iff_eq.mp (and_inv e2).1], (and_inv (and_inv e2).2).1, h3⟩
theorem isE_cmp2 {l m r : E} {o1 o2 : Cm} (h : isE kn sc (.cmp2 l o1 m o2 r) e = true) : ∃ l' m' r' p, e = .Compare l' [cmOf o1, cmOf o2] [m', r'] p ∧ isE kn sc l l' = true ∧ isE kn sc m m' = true ∧ isE kn sc r r' = true := by
  obtain ⟨l', ops, rs, p, rfl, e2⟩ := onCompare_inv h
  obtain ⟨m', r', rfl, h3, h4⟩ := two_inv (and_inv (and_inv e2).2).2
  exact ⟨l', m', r', p, by rw [beq_iff_eq.mp (and_inv e2).1], (and_inv (and_inv e2).2).1, h3, h4⟩
theorem isE_call {f : String} {args : List E} (h : isE kn sc (.call f args) e = true) : ∃ fn args' p, e = .Call fn args' [] p ∧ gName kn sc f fn = true ∧ isEs kn sc args args' = true := by
  obtain ⟨fn, args', kws, p, rfl, e2⟩ := onCall_inv h
  exact ⟨fn, args', p, by rw [List.isEmpty_iff.mp (and_inv e2).1], and_inv (and_inv e2).2⟩
theorem isE_isinst {a : E} {T : String} (h : isE kn sc (.isinst a T) e = true) : ∃ fn a' t' p, e = .Call fn [a', t'] [] p ∧ gName kn sc "isinstance" fn = true ∧ isE kn sc a a' = true ∧ gName kn sc T t' = true := by
  obtain ⟨fn, args', kws, p, rfl, e2⟩ := onCall_inv h
  obtain ⟨a', t', rfl, h3, h4⟩ := two_inv (and_inv (and_inv e2).2).2
  exact ⟨fn, a', t', p, by rw [List.isEmpty_iff.mp (and_inv e2).1], (and_inv (and_inv e2).2).1, h3, h4⟩
theorem isE_meth {o : E} {m : String} {args : List E} (h : isE kn sc (.meth o m args) e = true) : ∃ o' ap args' p, e = .Call (.Attribute o' (Str.ofString m) ap) args' [] p ∧ isE kn sc o o' = true ∧ baseOk o' = true ∧ (ap.endLine == p.line) = true ∧ isEs kn sc args args' = true ∧ args'.length < 30 ∧ mName m = true := by
  obtain ⟨fn, args', kws, p, rfl, e2⟩ := onCall_inv h
  obtain ⟨h1, e2⟩ := and_inv e2
  obtain ⟨h2, e2⟩ := and_inv e2
  obtain ⟨h3, e2⟩ := and_inv e2
  obtain ⟨h4, h5⟩ := and_inv e2
  obtain ⟨o', nm, ap, rfl, e3⟩ := onAttribute_inv h2
  obtain ⟨h6, e3⟩ := and_inv e3
  obtain ⟨h7, e3⟩ := and_inv e3
  exact ⟨o', ap, args', p, by rw [List.isEmpty_iff.mp h1, beq_iff_eq.mp h6], h7, (and_inv e3).1, (and_inv e3).2, h3, of_decide_eq_true h4, h5⟩
theorem isE_attr {o : E} {a : String} (h : isE kn sc (.attr o a) e = true) : ∃ o' p, e = .Attribute o' (Str.ofString a) p ∧ isName o' = true ∧ isE kn sc o o' = true ∧ attrName a = true := by
  obtain ⟨o', nm, p, rfl, e2⟩ := onAttribute_inv h
  obtain ⟨h1, e2⟩ := and_inv e2
  obtain ⟨h2, e2⟩ := and_inv e2
  exact ⟨o', p, by rw [beq_iff_eq.mp h2], h1, and_inv e2⟩
theorem isE_idx {o i : E} (h : isE kn sc (.idx o i) e = true) : ∃ o' i' p, e = .Subscript o' i' p ∧ isE kn sc o o' = true ∧ isE kn sc i i' = true :=
  let ⟨o', i', p, e1, e2⟩ := onSubscript_inv h; ⟨o', i', p, e1, and_inv e2⟩
theorem isE_slice {o lo hi : E} (h : isE kn sc (.slice o lo hi) e = true) : ∃ o' l u q p, e = .Subscript o' (.Slice (some l) (some u) Option.none q) p ∧ isName o' = true ∧ isE kn sc o o' = true ∧ isE kn sc lo l = true ∧ isE kn sc hi u = true := by
  obtain ⟨o', i', p, rfl, e2⟩ := onSubscript_inv h
  obtain ⟨h1, e2⟩ := and_inv e2
  obtain ⟨h2, e2⟩ := and_inv e2
  obtain ⟨l, u, st, q, rfl, e3⟩ := onSlice_inv e2
  obtain ⟨h3, e3⟩ := and_inv e3
  obtain ⟨l, rfl, h4⟩ := someE_inv (and_inv e3).1
  obtain ⟨u, rfl, h5⟩ := someE_inv (and_inv e3).2
  exact ⟨o', l, u, q, p, by rw [Option.isNone_iff_eq_none.mp h3], h1, h2, h4, h5⟩
theorem isE_list {es : List E} (h : isE kn sc (.list es) e = true) : ∃ es' p, e = .List es' p ∧ isEs kn sc es es' = true ∧ es.length < 100 :=
  let ⟨es', p, e1, e2⟩ := onList_inv h; ⟨es', p, e1, (and_inv e2).1, of_decide_eq_true (and_inv e2).2⟩
theorem isE_tup {es : List E} (h : isE kn sc (.tup es) e = true) : ∃ es' k p, e = .Tuple es' k p ∧ isEs kn sc es es' = true ∧ es.length < 100 :=
  let ⟨es', k, p, e1, e2⟩ := onTuple_inv h; ⟨es', k, p, e1, (and_inv e2).1, of_decide_eq_true (and_inv e2).2⟩
theorem isE_menu {es : List E} {i : E} (h : isE kn sc (.menu es i) e = true) : ∃ es' q i' p, e = .Subscript (.List es' q) i' p ∧ isEs kn sc es es' = true ∧ es.length < 100 ∧ isE kn sc i i' = true := by
  obtain ⟨o', i', p, rfl, e2⟩ := onSubscript_inv h
  obtain ⟨es', q, rfl, e3⟩ := onList_inv (and_inv e2).1
  exact ⟨es', q, i', p, rfl, (and_inv e3).1, of_decide_eq_true (and_inv e3).2, (and_inv e2).2⟩
theorem isE_comp {el it : E} {x : String} (h : isE kn sc (.comp el x it) e = true) : ∃ elt px iter scope p, e = .ListComp elt [⟨.Name (Str.ofString x) px, iter, [], 0⟩] scope p ∧ isE kn sc it iter = true ∧ noSet iter = true ∧ compOk sc scope (Str.ofString x) = true ∧ isE kn (relabelS scope sc) el elt = true := by
  obtain ⟨elt, gs, scope, p, rfl, e2⟩ := onListComp_inv h
  obtain ⟨h1, e3⟩ := and_inv e2
  obtain ⟨g, rfl, h4⟩ := one_inv h1
  obtain ⟨h4, h5⟩ := and_inv h4
  obtain ⟨t, iter, ifs, as⟩ := g
  obtain ⟨px, rfl, h6, rfl, rfl⟩ := genName_inv h4
  exact ⟨elt, px, iter, scope, p, rfl, h5, h6, and_inv e3⟩
end
theorem isE_plain {kn : String → Bool} {sc : Scope} {c : E} {e : Expr} (h : isE kn sc c e = true) : plainE e = true := by
  cases e with
  | Starred => cases c <;> exact ff h
  | Set => cases c <;> exact ff h
  | Slice => cases c <;> exact ff h
  | _ => rfl

theorem star_plain {e : Expr} {rest : List Expr} {env : Env} (h : plainE e = true) : starEach (e :: rest) env = (false, eval e env) :: starEach rest env := by
  cases e <;> first | rfl | cases h
theorem marks_plain {op : CmpOp} {e : Expr} (h : plainE e = true) : behindInMarks op e = false := by
  cases e <;> first | rfl | cases h
theorem subscripted_plain {e : Expr} (h : plainE e = true) (a b : Value) : subscripted e false a b = operate [a, b] (getItem a b) := by
  cases e <;> first | rfl | cases h
theorem strOk_of (x : String) : PyData.strOk (Str.ofString x) = true := by
  unfold PyData.strOk
  rw [Str.ofString_eq_toList, ← Array.all_toList, List.all_eq_true]
  intro c hc
  obtain ⟨ch, _, rfl⟩ := List.mem_map.mp (show c ∈ x.toList.map Char.toNat from hc)
  have := ch.valid
  have h2 : ch.toNat = ch.val.toNat := rfl
  rcases this with q | q <;> (rw [decide_eq_true_eq, h2]; omega)
end Mine

/-! J9 -/
namespace Mine
open PySem PyProof.Rows PySem.W

inductive RetAt (X : Cx) (η : List Addr) (s : Shared) (r : R V) (mv : Value) (s' : Shared) : Prop
  | mk (v : V) (H' : Hp) (e : r = .ok v H') (p : Post X [] η s H' (fun η' h' => VR X η' h' v mv) s') : RetAt X η s r mv s'
noncomputable def CallOK (X : Cx) (n : Nat) (f : String) (ws : List V) (H : Hp) (r : R V) : Prop :=
  ∃ fv, X.mg (Str.ofString f) = some fv ∧ ∀ (A : Around) (st : List Env) (η : List Addr) (s : Shared) (ms : List Value), Room n A → A.handled = Option.none → Inv X η H s.heap → Stk X η A st s.heap →
    ws.length = ms.length → (∀ p ∈ ws.zip ms, VR X η s.heap p.1 p.2) →
    codeAny X.M A (.call fv ⟨ms, []⟩) (fun res s' => match res with
      | .ok (.ret mv) => RetAt X η s r mv s'
      | .ok _ => False
      | .error _ => False) s

structure SoundFn (X : Cx) (n : Nat) (Γ : Fn) : Prop where
  const : ∀ x v, Γ.const x = some v → ∃ mv, Loads X.mg X.mb x mv ∧ ∀ η h, VR X η h v mv
  call : ∀ f ws H, Γ.call f ws H ≠ .stuck → CallOK X n f ws H (Γ.call f ws H)

theorem R.bind_assoc {α β γ : Type} (x : R α) (f : α → Hp → R β) (g : β → Hp → R γ) : (x.bind f).bind g = x.bind fun a H => (f a H).bind g := by cases x <;> rfl
theorem R.bind_ok_self {α : Type} (x : R α) : (x.bind fun a H => .ok a H) = x := by cases x <;> rfl
theorem R.bind_stuck' {α β : Type} (x : R α) : (x.bind fun _ _ => (.stuck : R β)) = .stuck := by cases x <;> rfl
theorem truthR_bind {α : Type} (x : R α) (f : α → Hp → R V) : truthR (x.bind f) = x.bind fun a H => truthR (f a H) := R.bind_assoc _ _ _

section
variable {κ : Ct} {ρ : Rho} {vs : List (V × Value)} {H : Hp}

theorem Tri.callF {f : String} {fv : Value} {ws : List V} {ms : List Value} {r : R V} (C : CallOK κ.X κ.n f ws H r) (hf : κ.X.mg (Str.ofString f) = some fv) (hl : ws.length = ms.length) (hw : ∀ p ∈ ws.zip ms, p ∈ vs) :
    Tri κ ρ vs (PySem.call fv ms) H r rV := by
  intro hs η s a hv
  obtain ⟨fv', e, C⟩ := C
  rw [hf] at e; cases e
  refine wpAny_call (codeAny_mono (C κ.A κ.st η s ms a.room a.hand a.inv a.stk hl fun p hp => hv p (hw p hp)) fun res s' q => ?_)
  cases res with
  | error ev => exact q
  | ok fl =>
    cases fl with
    | ret mv =>
      obtain ⟨v, H', e, η', h', tk, q1, q2, q3, q4⟩ := q
      exact ⟨v, H', e, trivial, η', h', tk, q1, q2, q3, fun p hp => rV1 hp q4⟩
    | _ => exact q
end

theorem isEs_cons {kn : String → Bool} {sc : Scope} {c : E} {cs : List E} {e : Expr} {es : List Expr} : isEs kn sc (c :: cs) (e :: es) = (isE kn sc c e && isEs kn sc cs es) := rfl
theorem isEs_nil {kn : String → Bool} {sc : Scope} {c : E} {cs : List E} : isEs kn sc (c :: cs) [] = false := rfl

theorem gName_inv {kn : String → Bool} {sc : Scope} {f : String} {e : Expr} (h : gName kn sc f e = true) : ∃ pos, e = .Name (Str.ofString f) pos ∧ isGlob sc (Str.ofString f) = true ∧ (Str.ofString f == ("__debug__" : Str)) = false ∧ kn f = true := by
  obtain ⟨id, p, rfl, h0⟩ := onName_inv h
  simp only [Bool.and_eq_true, beq_iff_eq, Bool.not_eq_true'] at h0
  obtain ⟨⟨⟨rfl, h1⟩, h2⟩, h3⟩ := h0
  exact ⟨_, rfl, h1, h2, h3⟩

section
variable {κ : Ct} {Γ : Fn}

theorem any_plain {kn : String → Bool} {env : Env} {pos : Pos} : ∀ {cs : List E} {es : List Expr}, isEs kn env.scope cs es = true → (backTo pos (starEach es env)).any (·.1) = false
  | [], [], _ => rfl
  | [], _ :: _, h => by cases h
  | _ :: _, [], h => by rw [isEs_nil] at h; cases h
  | c :: cs, e :: es, h => by
    rw [isEs_cons, Bool.and_eq_true] at h
    rw [star_plain (isE_plain h.1), backTo_cons, List.any_cons, any_plain h.2]; rfl

theorem builtin_name {f : String} {ws : List V} {H : Hp} (h : builtin f ws H ≠ .stuck) : ∃ v, biVal f = some v := by
  unfold builtin at h
  by_cases h1 : f = "len"
  · subst h1; exact ⟨_, rfl⟩
  by_cases h2 : f = "all"
  · subst h2; exact ⟨_, rfl⟩
  by_cases h3 : f = "min"
  · subst h3; exact ⟨_, rfl⟩
  by_cases h4 : f = "max"
  · subst h4; exact ⟨_, rfl⟩
  by_cases h5 : f = "range"
  · subst h5; exact ⟨_, rfl⟩
  by_cases h6 : f = "list"
  · subst h6; exact ⟨_, rfl⟩
  by_cases h7 : f = "int"
  · subst h7; exact ⟨_, rfl⟩
  rw [if_neg h1, if_neg h2, if_neg h3, if_neg h4, if_neg h5, if_neg h6, if_neg h7] at h
  exact absurd rfl h

theorem evEs_length {ρ : Rho} : ∀ {cs : List E} {H H1 : Hp} {ws : List V}, evEs Γ ρ cs H = .ok ws H1 → ws.length = cs.length
  | [], H, H1, ws, e => by rw [evEs_nil] at e; cases e; rfl
  | c :: cs, H, H1, ws, e => by
    rw [evEs_cons] at e
    cases h1 : evE Γ ρ c H with
    | ok v H2 =>
      rw [h1, R.bind_ok] at e
      cases h2 : evEs Γ ρ cs H2 with
      | ok vs H3 =>
        rw [h2] at e
        cases e
        rw [List.length_cons, List.length_cons, evEs_length h2]
      | stuck => rw [h2] at e; cases e
    | stuck => rw [h1] at e; cases e

theorem isinst_tail {ρ : Rho} {vs : List (V × Value)} {H : Hp} {T : String} {pt : Pos} {tv : Value} {r : R V} {a' : Expr} (hgt : isGlob κ.env.scope (Str.ofString T) = true)
    (hdt : (Str.ofString T == ("__debug__" : Str)) = false) (hlt : Loads κ.X.mg κ.X.mb T tv) (hkt : κ.X.kn T = true) (pos : Pos) (ih : Tri κ ρ vs (eval a' κ.env) H r rV) :
    Tri κ ρ vs (PySem.callWith pos (.builtin "isinstance") [] (backTo pos ((false, eval a' κ.env) :: starEach [.Name (Str.ofString T) pt] κ.env)) []) H
      (r.bind fun v H1 => ofO H1 ((isinst v T H1).map .bool)) rV := by
  refine Tri.via (fun Q s q => PySem.Calls.callWith_builtin rfl (PySem.Calls.evalArgs_plain (PySem.Calls.spliced_cons q))) ih fun v H1 m _ _ hs η s Q a1 hv hq => ?_
  refine PySem.Calls.spliced_cons (wpAny_glob a1 rfl hgt hdt hlt (PySem.Calls.spliced_nil ?_))
  cases hi : isinst v T H1 with
  | none => rw [hi] at hs; exact absurd rfl hs
  | some b =>
    rw [hi] at hq
    have key : Tri κ ρ (vs ++ (rV v m).2) (PySem.call (.builtin "isinstance") [m, tv]) H1 (.ok (.bool b) H1) rV := by
      by_cases hT : bTypes.contains T = true
      · have hb : biVal T = some (.type T) := by
          have hT' : T = "int" ∨ T = "bool" ∨ T = "tuple" ∨ T = "list" ∨ T = "str" := by simpa [bTypes] using hT
          rcases hT' with rfl | rfl | rfl | rfl | rfl <;> rfl
        have : tv = .type T := hlt.det (.inr (κ.X.bi T _ hb hkt))
        subst this
        exact isinst_ok m0 hT hi
      · exact isinst_own m0 hT hlt hi
    exact monoN (key (fun q => nomatch q) η s a1 hv) hq

theorem Tri.truthy' {ρ : Rho} {vs : List (V × Value)} {H : Hp} {r : R V} {m : Sem Value} (h : Tri κ ρ vs m H r rV) :
    Tri κ ρ vs (m >>= fun c => PySem.holding [c] (PySem.truthy c)) H (truthR r) rB :=
  Tri.bind h fun v H1 mv _ _ => Tri.holding (Tri.truthy m0)


theorem kind_of {v : V} {mv : Value} {H : Hp} {η : List Addr} {s : Shared} {T : String} (hT : T = "list" ∨ T = "str") (i : Inv κ.X η H s.heap) (r : VR κ.X η s.heap v mv) (e : kindV v H = some T) : s.TypeIs mv T ∧ ∀ a, mv = .ref a → ∃ ob, s.heap.get? a = some ob ∧ ob.dict = Option.none := by
  have key : (match listAt v H with | some _ => some "list" | Option.none => Option.none) = some T → s.TypeIs mv T ∧ ∀ a, mv = .ref a → ∃ ob, s.heap.get? a = some ob ∧ ob.dict = Option.none := fun e => by
    cases hx : listAt v H with
    | none => rw [hx] at e; cases e
    | some xs =>
      rw [hx] at e
      cases e
      obtain ⟨a, items, c, rfl, g, r, l⟩ := vr_list i r hx
      exact ⟨⟨_, g, rfl⟩, fun a q => by cases q; exact ⟨_, g, rfl⟩⟩
  cases v with
  | bool => cases e; rcases hT with q | q <;> exact absurd q (by decide)
  | int => cases e; rcases hT with q | q <;> exact absurd q (by decide)
  | tup => cases e; rcases hT with q | q <;> exact absurd q (by decide)
  | str x => cases e; cases r; exact ⟨typeIs_str _ _ _, fun _ q => nomatch q⟩
  | _ => exact key e

theorem methId_of {m : String} (hm : mName m = true) : Slot (methId m).1 (Str.ofString m) (methId m).2 ∧ typeOf (.builtin (methId m).2) = pure (.type "method_descriptor") ∧ PlainAttrs (methId m).1 ∧ ((methId m).1 = "list" ∨ (methId m).1 = "str") := by
  unfold mName at hm
  simp only [Bool.or_eq_true, beq_iff_eq] at hm
  rcases hm with (rfl | rfl) | rfl
  · exact ⟨F.slot_list_append, F.type_list_append, F.plainAttrs_list, .inl rfl⟩
  · exact ⟨F.slot_str_split, F.type_str_split, F.plainAttrs_str, .inr rfl⟩
  · exact ⟨F.slot_str_join, F.type_str_join, F.plainAttrs_str, .inr rfl⟩
theorem meth_other {T m : String} {o : V} {ws : List V} {H : Hp} (hT : T ≠ (methId m).1) : meth T o m ws H = .stuck := by
  unfold meth methId at *
  by_cases h1 : m = "append"
  · rw [if_pos h1] at hT ⊢; exact if_neg hT
  rw [if_neg h1] at hT ⊢
  by_cases h2 : m = "split"
  · rw [if_pos h2] at hT ⊢; exact if_neg hT
  rw [if_neg h2] at hT ⊢
  by_cases h3 : m = "join"
  · rw [if_pos h3]; exact if_neg hT
  · rw [if_neg h3]

theorem meth_tail {ρ : Rho} {H : Hp} {o' : Expr} {m : String} {ap p : Pos} {args' : List Expr} {r1 : R V} {f : Hp → R (List V)} (hn : baseOk o' = true) (hline : (ap.endLine == p.line) = true) (hp : (backTo p (starEach args' κ.env)).any (·.1) = false) (hlen : args'.length < 30)
    (hm : mName m = true) (h1 : Tri κ ρ [] (eval o' κ.env) H r1 rV) (h2 : ∀ H1, Tri κ ρ [] (spliced (backTo p (starEach args' κ.env))) H1 (f H1) rL) :
    Tri κ ρ [] (eval (.Call (.Attribute o' (Str.ofString m) ap) args' [] p) κ.env) H (r1.bind fun v H1 => (ofO H1 (kindV v H1)).bind fun T H1 => (f H1).bind fun vs H2 => meth T v m vs H2) rV := by
  have hall : (backTo p (starEach args' κ.env)).all (fun x => !x.1) = true := by
    rw [List.all_eq_true]
    intro y hy
    have := List.any_eq_false.mp hp y hy
    simpa using this
  obtain ⟨q1, q2, q3, q4⟩ := methId_of hm
  refine Tri.via (fun Q s q => wpAny_Call_method (base_of hn) (by rw [hall, show backToKw p (keywordEach [] κ.env) = [] from rfl]; simpa using hlen) hline q3 q1 q2 q) h1 fun v H1 mo _ _ hs η s Q a1 hv hq => ?_
  cases hkv : kindV v H1 with
  | none => rw [hkv] at hs; exact absurd rfl hs
  | some T =>
    rw [hkv, ofO, R.bind_ok] at hs hq
    by_cases hT : T = (methId m).1
    · subst hT
      obtain ⟨k1, k2⟩ := kind_of q4 a1.inv (hv _ m0) hkv
      refine ⟨k1, k2, monoN ((Tri.callWith (keepable_builtin κ.X _) hp (h2 H1).any fun ws H2 ms _ hl => meth_ok hm (m1 m0) hl fun q hq => List.mem_append.mpr (.inr hq)) hs η s a1 hv) hq⟩
    · refine absurd ?_ hs
      rw [show (fun vs H2 => meth T v m vs H2) = fun _ _ => R.stuck from funext fun _ => funext fun _ => meth_other hT]
      exact R.bind_stuck' _

theorem fmt_ok {ρ : Rho} {vs : List (V × Value)} {H : Hp} {v : V} {mv : Value} (hm : (v, mv) ∈ vs) : Tri κ ρ vs (formatField mv Str.empty) H (fmtV v H) rV := by
  unfold fmtV
  split
  · rename_i i
    split
    · rename_i hi
      refine Tri.plain fun η s Q E at' hv hq => ?_
      obtain ⟨t, rfl⟩ := vr_int (hv _ hm) rfl
      refine formatField_int_small ?_ (hq _ _ (.str _ _ (strOk_of _)))
      by_cases h0 : i.natAbs = 0
      · rw [h0]; decide
      · exact (Nat.log2_lt h0).mpr (Nat.lt_of_lt_of_le hi (by decide +kernel))
    · exact Tri.stuck
  · rename_i x
    split
    · rename_i hx
      refine Tri.plain fun η s Q E at' hv hq => ?_
      obtain ⟨t, rfl, ok⟩ := vr_str (hv _ hm) rfl
      exact formatField_str (fun t' tk => hq _ tk (.str _ _ ok)) (Nat.le_trans hx line_lt)
    · exact Tri.stuck
  · exact Tri.stuck

mutual
theorem evE_ok : ∀ (c : E) (e : Expr) (κ : Ct) (ρ : Rho) (H : Hp), SoundFn κ.X κ.n κ.Γ → isE κ.X.kn κ.env.scope c e = true → Tri κ ρ [] (eval e κ.env) H (evE κ.Γ ρ c H) rV
  | .var x, e, κ, ρ, H, S, h => by
    obtain ⟨id, p, rfl, hv⟩ := isE_var h
    unfold vName at hv
    simp only [Bool.and_eq_true, beq_iff_eq, Bool.not_eq_true'] at hv
    rw [evE_var]
    exact Tri.name hv.1.1.1 hv.1.1.2 hv.1.2 hv.2
  | .glob x, e, κ, ρ, H, S, h => by
    obtain ⟨pos, rfl, hg, hd1, hk⟩ := gName_inv h
    rw [evE_glob]
    cases ec : κ.Γ.const x with
    | none => exact Tri.stuck
    | some v =>
      obtain ⟨mv, hl, hr⟩ := S.const x v ec
      refine Tri.reads fun η s Q E at' hv hq => wpAny_glob at' rfl hg hd1 hl (hq mv s.heap s.toks (fun _ _ e => e) trivial fun p hp => ?_)
      exact rV1 hp (hr _ _)
  | .none, e, κ, ρ, H, S, h => by
    obtain ⟨k, p, rfl⟩ := isE_none h
    exact Tri.const_none
  | .bool b, e, κ, ρ, H, S, h => by
    obtain ⟨k, p, rfl⟩ := isE_bool h
    exact Tri.const_bool
  | .int i, e, κ, ρ, H, S, h => by
    obtain ⟨k, p, rfl⟩ := isE_int h
    exact Tri.const_int
  | .str x, e, κ, ρ, H, S, h => by
    obtain ⟨k, p, rfl, h2⟩ := isE_str h
    exact Tri.const_str h2
  | .bin op l r, e, κ, ρ, H, S, h => by
    obtain ⟨l', r', pos, rfl, h1, h2⟩ := isE_bin h
    rw [evE_bin]
    show Tri _ _ _ (eval l' κ.env >>= fun a => PySem.holding [a] (eval r' κ.env) >>= fun b => standAt pos >>= fun _ => PySem.operate [a, b] (binaryOp (opOf op) a b)) _ _ _
    refine Tri.bind (evE_ok l l' κ ρ H S h1) fun a H1 ma _ _ => ?_
    refine Tri.bind (Tri.holding ((evE_ok r r' κ ρ H1 S h2).any)) fun b H2 mb _ _ => ?_
    exact Tri.stand (Tri.operate (bin_ok (m1 m0) m0))
  | .not a, e, κ, ρ, H, S, h => by
    obtain ⟨a', pos, rfl, h1⟩ := isE_not h
    rw [evE_not]; simp only [truthR, R.bind_assoc]
    show Tri _ _ _ (eval a' κ.env >>= fun v => standAt pos >>= fun _ => PySem.holding [v] (unaryOp .Not v)) _ _ _
    refine Tri.bind (evE_ok a a' κ ρ H S h1) fun v H1 mv _ _ => Tri.stand (Tri.holding ?_)
    show Tri _ _ _ (PySem.holding [mv] (PySem.truthy mv >>= fun b => Pure.pure (Value.bool (!b)))) _ _ _
    refine Tri.holding (Tri.bind (Tri.truthy m0) fun b H2 b' _ hb => ?_)
    have hb' : b' = b := hb
    subst hb'
    refine Tri.plain fun η s Q E at' hv hq => wpAny_pure (hq _ s.toks (.bool _))
  | .and es, e, κ, ρ, H, S, h => by
    obtain ⟨es', pos, rfl, h1⟩ := isE_and h
    rw [evE_and]
    exact evAnd_ok es es' κ ρ H pos S h1
  | .or es, e, κ, ρ, H, S, h => by
    obtain ⟨es', pos, rfl, h1⟩ := isE_or h
    rw [evE_or]
    exact evOr_ok es es' κ ρ H pos S h1
  | .cmp l op r, e, κ, ρ, H, S, h => by
    obtain ⟨l', r', pos, rfl, h1, h2⟩ := isE_cmp h
    rw [evE_cmp]
    rw [eval_Compare1, markedBehindIn_of_false (marks_plain (isE_plain h2))]
    refine Tri.bind (evE_ok l l' κ ρ H S h1) fun a H1 ma _ _ => ?_
    refine Tri.bind (Tri.holding ((evE_ok r r' κ ρ H1 S h2).any)) fun b H2 mb _ _ => ?_
    refine Tri.stand (Tri.operate ?_)
    cases ec : cmp op a b H2 with
    | none => exact Tri.stuck
    | some t => exact cmp_ok (m1 m0) m0 ec
  | .cmp2 l o1 m o2 r, e, κ, ρ, H, S, h => by
    obtain ⟨l', m', r', pos, rfl, h1, h2, h3⟩ := isE_cmp2 h
    rw [evE_cmp2]
    show Tri _ _ _ (eval l' κ.env >>= fun a => PySem.holding [a] (eval m' κ.env) >>= fun b => standAt pos >>= fun _ => PySem.holding [a, b] (compareOp (cmOf o1) a b) >>= fun c =>
      release [a, b] [c] >>= fun _ => PySem.holding [c, b] (PySem.truthy c) >>= fun t => if t = true then compareChain pos b [cmOf o2] [markedBehindIn (cmOf o2) r' (eval r' κ.env)] else Pure.pure c) _ _ _
    refine Tri.bind (evE_ok l l' κ ρ H S h1) fun a H1 ma _ _ => ?_
    refine Tri.bind (Tri.holding ((evE_ok m m' κ ρ H1 S h2).any)) fun b H2 mb _ _ => ?_
    refine Tri.stand ?_
    cases ec : cmp o1 a b H2 with
    | none => exact Tri.stuck
    | some t =>
      have step := fun (vs : List (V × Value)) (ha : (a, ma) ∈ vs) (hb : (b, mb) ∈ vs) => Tri.holding (l := [ma, mb]) (cmp_ok (κ := κ) (ρ := ρ) (H := H2) (vs := vs) ha hb ec)
      show Tri _ _ _ _ _ (R.bind (.ok (.bool t) H2) fun v H3 => truthR (.ok v H3) |>.bind fun t H3 => if t = true then (evE κ.Γ ρ r H3).bind fun c H4 => ofO H4 ((cmp o2 b c H4).map V.bool) else .ok (.bool false) H3) _
      refine Tri.bind (step _ (m1 m0) m0) fun v H3 mv ev _ => ?_
      refine Tri.skip (a₀ := ()) (fun Q E s q Γ' p _ => by show Sem.wp _ _ (release _ _) _ _ _ _; unfold release; rw [Sem.wp_release_go]; exact q) ?_
      refine Tri.bind (Tri.holding (Tri.truthy m0)) fun t2 H4 t2' et ht => ?_
      have ht' : t2' = t2 := ht
      subst ht'
      cases t2' with
      | false =>
        cases ev
        have et2 : R.ok t H2 = R.ok false H4 := et
        cases et2
        refine Tri.pure (a := mv) trivial fun p hp => ?_
        rw [rV, List.mem_singleton] at hp; subst hp
        exact m1 m0
      | true =>
        show Tri _ _ _ (PySem.holding [mb] (markedBehindIn (cmOf o2) r' (eval r' κ.env)) >>= fun c => standAt pos >>= fun _ => PySem.operate [mb, c] (compareOp (cmOf o2) mb c)) _ _ _
        rw [markedBehindIn_of_false (marks_plain (isE_plain h3))]
        refine Tri.bind (Tri.holding ((evE_ok r r' κ ρ H4 S h3).any)) fun c H5 mc _ _ => ?_
        refine Tri.stand (Tri.operate ?_)
        cases ec2 : cmp o2 b c H5 with
        | none => exact Tri.stuck
        | some t => exact cmp_ok (m1 (m1 (m1 m0))) m0 ec2
  | .call f args, e, κ, ρ, H, S, h => by
    obtain ⟨fn, args', pos, rfl, h0, h2⟩ := isE_call h
    obtain ⟨pf, rfl, hg, hd1, hk⟩ := gName_inv h0
    obtain ⟨fv, hl⟩ := κ.X.known f hk
    rw [evE_call]
    show Tri _ _ _ (eval (.Name (Str.ofString f) pf) κ.env >>= fun g => PySem.callWith pos g [] (backTo pos (starEach args' κ.env)) []) _ _ _
    refine Tri.rel_of (r := R.bind (.ok fv H) fun _ H1 => R.bind (evEs κ.Γ ρ args H1) fun ws H1 => callF κ.Γ f ws H1) ?_ rfl
    refine Tri.bind (Tri.glob rfl hg hd1 hl) fun g H1 mg eg hg' => ?_
    have hg2 : mg = g := hg'
    cases eg
    subst hg2
    refine Tri.callWith (κ.X.kp f mg hk hl) (any_plain h2) (evEs_ok args args' κ ρ H pos S h2).any fun ws H2 ms _ hlen => ?_
    rw [List.nil_append]
    have hw : ∀ p ∈ ws.zip ms, p ∈ [] ++ (rEq mg mg).2 ++ ws.zip ms := fun p hp => List.mem_append.mpr (.inr hp)
    unfold callF
    cases hb : builtin f ws H2 with
    | stuck =>
      dsimp only
      by_cases hs : κ.Γ.call f ws H2 = .stuck
      · rw [hs]; exact Tri.stuck
      · have C := S.call f ws H2 hs
        obtain ⟨fv', e', _⟩ := id C
        have : mg = fv' := hl.det (.inl e')
        subst this
        exact Tri.callF C e' hlen hw
    | ok v H3 =>
      dsimp only
      obtain ⟨bv, hbv⟩ := builtin_name (f := f) (ws := ws) (H := H2) (by rw [hb]; exact fun q => nomatch q)
      have : mg = bv := hl.det (.inr (κ.X.bi f bv hbv hk))
      subst this
      rw [← hb]
      exact builtin_ok hbv hlen hw
  | .isinst a T, e, κ, ρ, H, S, h => by
    obtain ⟨fn, a', t', pos, rfl, h0, h1, h2⟩ := isE_isinst h
    obtain ⟨pf, rfl, hg, hd1, hk⟩ := gName_inv h0
    obtain ⟨pt, rfl, hgt, hdt, hkt⟩ := gName_inv h2
    have hl : Loads κ.X.mg κ.X.mb "isinstance" (.builtin "isinstance") := .inr (κ.X.bi _ _ rfl hk)
    obtain ⟨tv, hlt⟩ := κ.X.known T hkt
    rw [evE_isinst]
    show Tri _ _ _ (eval (.Name (Str.ofString "isinstance") pf) κ.env >>= fun g => PySem.callWith pos g [] (backTo pos (starEach [a', .Name (Str.ofString T) pt] κ.env)) []) _ _ _
    refine Tri.rel_of (r := R.bind (.ok (Value.builtin "isinstance") H) fun _ H1 => (evE κ.Γ ρ a H1).bind fun v H1 => ofO H1 ((isinst v T H1).map .bool)) ?_ rfl
    refine Tri.bind (Tri.glob rfl hg hd1 hl) fun g H1 mg eg hg' => ?_
    have hg2 : mg = g := hg'
    cases eg
    subst hg2
    rw [star_plain (isE_plain h1)]
    exact isinst_tail hgt hdt hlt hkt pos (evE_ok a a' κ ρ H S h1).any
  | .idx o i, e, κ, ρ, H, S, h => by
    obtain ⟨o', i', pos, rfl, h1, h2⟩ := isE_idx h
    rw [evE_idx]
    show Tri _ _ _ (eval o' κ.env >>= fun a => PySem.holding [a] (eval i' κ.env) >>= fun b => standAt pos >>= fun _ => subscriptTail o' i' a b) _ _ _
    refine Tri.bind (evE_ok o o' κ ρ H S h1) fun a H1 ma _ _ => ?_
    refine Tri.bind (Tri.holding ((evE_ok i i' κ ρ H1 S h2).any)) fun b H2 mb _ _ => ?_
    exact Tri.stand (index_ok (m1 m0) m0 (subscripted_plain (isE_plain h2)))
  | .tup es, e, κ, ρ, H, S, h => by
    obtain ⟨es', k, pos, rfl, h1, h2⟩ := isE_tup h
    rw [evE_tup]
    show Tri _ _ _ (standAt pos >>= fun _ => spliced (backTo pos (starEach es' κ.env)) >>= fun ms => PySem.newTuple ms) _ _ _
    refine Tri.stand (Tri.bind (evEs_ok es es' κ ρ H pos S h1) fun ws H1 ms ew hl => ?_)
    exact Tri.newTuple hl (fun p hp => List.mem_append.mpr (.inr hp)) (by rw [evEs_length ew]; unfold line; omega)
  | .list es, e, κ, ρ, H, S, h => by
    obtain ⟨es', pos, rfl, h1, h2⟩ := isE_list h
    rw [evE_list]
    show Tri _ _ _ (standAt pos >>= fun _ => spliced (backTo pos (starEach es' κ.env)) >>= fun ms => PySem.newList ms) _ _ _
    refine Tri.stand (Tri.bind (evEs_ok es es' κ ρ H pos S h1) fun ws H1 ms ew hl => ?_)
    exact Tri.newList hl (fun p hp => List.mem_append.mpr (.inr hp)) (by rw [evEs_length ew]; unfold line; omega)
  | .menu es i, e, κ, ρ, H, S, h => by
    obtain ⟨es', lpos, i', pos, rfl, h1, h2, h3⟩ := isE_menu h
    rw [evE_menu]
    show Tri _ _ _ ((standAt lpos >>= fun _ => spliced (backTo lpos (starEach es' κ.env)) >>= fun ms => PySem.newList ms) >>= fun a => PySem.holding [a] (eval i' κ.env) >>= fun b => standAt pos >>= fun _ => subscriptTail (.List es' lpos) i' a b) _ _ _
    refine Tri.rel_of (r := ((evEs κ.Γ ρ es H).bind fun ws H1 => .ok (V.lst ws) H1).bind fun o H1 => (evE κ.Γ ρ i H1).bind fun k H2 => index o k H2) ?_ (by simp only [R.bind_assoc, R.bind_ok])
    refine Tri.bind (Tri.stand (Tri.bind (evEs_ok es es' κ ρ H lpos S h1) fun ws H1 ms ew hl => Tri.hidden hl (fun p hp => List.mem_append.mpr (.inr hp)) (by rw [evEs_length ew]; unfold line; omega))) fun a H1 ma _ _ => ?_
    refine Tri.bind (Tri.holding ((evE_ok i i' κ ρ H1 S h3).any)) fun b H2 mb _ _ => ?_
    exact Tri.stand (index_ok (m1 m0) m0 (subscripted_plain (isE_plain h3)))
  | .meth o m args, e, κ, ρ, H, S, h => by
    obtain ⟨o', ap, args', p, rfl, h1, h2, h3, h4, h5, h6⟩ := isE_meth h
    rw [evE_meth]
    exact meth_tail h2 h3 (any_plain h4) h5 h6 (evE_ok o o' κ ρ H S h1) fun H1 => evEs_ok args args' κ ρ H1 p S h4
  | .attr o a, e, κ, ρ, H, S, h => by
    obtain ⟨o', pos, rfl, h1, h2, h3⟩ := isE_attr h
    obtain ⟨id, p, rfl⟩ := isName_inv h1
    rw [evE_attr]
    show Tri _ _ _ (eval (.Name id p) κ.env >>= fun v => standAt pos.atName >>= fun _ => PySem.holding [v] (getAttr v (Str.ofString a) true) >>= fun r => Pure.pure () >>= fun _ => Pure.pure r) _ _ _
    refine Tri.bind (evE_ok o _ κ ρ H S h2) fun v H1 mv _ _ => Tri.stand ?_
    refine Tri.rel_of (r := (attrV v a H1).bind fun w H2 => .ok w H2) ?_ (R.bind_ok_self _)
    refine Tri.bind (Tri.holding (attr_ok m0 h3)) fun w H2 mw _ _ => ?_
    refine Tri.skip (a₀ := ()) (fun _ _ _ q => wpAny_pure q) (Tri.pure trivial fun p hp => List.mem_append.mpr (.inr hp))
  | .slice o lo hi, e, κ, ρ, H, S, h => by
    obtain ⟨o', l, u, p, pos, rfl, h1, h2, h3, h4⟩ := isE_slice h
    obtain ⟨id, pn, rfl⟩ := isName_inv h1
    rw [evE_slice]
    exact slice_ok (evE_ok o _ κ ρ H S h2) (fun H1 => evE_ok lo l κ ρ H1 S h3) (fun H1 => evE_ok hi u κ ρ H1 S h4) fun _ _ => rfl
  | .comp elt x it, e, κ, ρ, H, S, h => by
    obtain ⟨elt', px, iter, scope, pos, rfl, h1, h2, h3, h4⟩ := isE_comp h
    rw [evE_comp]
    exact comp_ok h3 h2 (evE_ok it iter κ ρ H S h1) fun cl v C' H' => evE_ok elt elt' (κ.inn (compEnvC scope cl C' κ.env)) ((x, v) :: ρ) H' S h4
  | .fmt a, e, κ, ρ, H, S, h => by
    obtain ⟨v', p, rfl, h1⟩ := isE_fmt h
    rw [evE_fmt]
    exact Tri.via (fun Q s q => FormattedValue_plain q) (evE_ok a v' κ ρ H S h1) fun v H1 mv _ _ hs η s Q at' hv hq => monoN (fmt_ok m0 hs η s at' hv) hq
  | .fstr es, e, κ, ρ, H, S, h => by
    obtain ⟨es', p, rfl, h1, h2⟩ := isE_fstr h
    rw [evE_fstr]
    have q := evCat_ok es es' κ ρ H Str.empty S h1 ⟨strOk_of "", by decide⟩
    cases es with
    | nil => exact absurd h2 (by decide)
    | cons c cs =>
      cases cs with
      | nil => exact absurd h2 (by simp)
      | cons c2 cs =>
        cases es' with
        | nil => exact ff h1
        | cons e1 es1 =>
          cases es1 with
          | nil => exact ff (and_inv h1).2
          | cons e2 es2 => exact fun hs η s at' hv => JoinedStr_many (q hs η s at' hv)
theorem evAnd_ok : ∀ (cs : List E) (es : List Expr) (κ : Ct) (ρ : Rho) (H : Hp) (pos : Pos), SoundFn κ.X κ.n κ.Γ → isEs κ.X.kn κ.env.scope cs es = true → Tri κ ρ [] (boolOp pos .And (evalEach es κ.env)) H (evAnd κ.Γ ρ cs H) rV
  | [], _, _, _, _, _, _, _ => Tri.stuck
  | [c], es, κ, ρ, H, pos, S, h => by
    cases es with
    | nil => exact ff h
    | cons e es' =>
      rw [isEs_cons, Bool.and_eq_true] at h
      cases es' with
      | nil => exact evE_ok c e κ ρ H S h.1
      | cons => exact ff h.2
  | c :: c2 :: cs, es, κ, ρ, H, pos, S, h => by
    cases es with
    | nil => rw [isEs_nil] at h; cases h
    | cons e es' =>
      rw [isEs_cons, Bool.and_eq_true] at h
      obtain ⟨h1, h2⟩ := h
      cases es' with
      | nil => exact ff h2
      | cons e2 es2 =>
        rw [evAnd_cons]; simp only [truthR, R.bind_assoc]
        show Tri _ _ _ (eval e κ.env >>= fun v => standAt pos >>= fun _ => PySem.holding [v] (PySem.truthy v) >>= fun t => match BoolOp.And, t with
          | .And, false | .Or, true => Pure.pure v
          | _, _ => boolOp pos .And (evalEach (e2 :: es2) κ.env)) _ _ _
        refine Tri.bind (evE_ok c e κ ρ H S h1) fun v H1 mv _ _ => Tri.stand ?_
        cases v with
        | bool b =>
          refine Tri.bind (Tri.holding (Tri.truthy m0)) fun t H2 t' et ht => ?_
          have ht' : t' = t := ht
          subst ht'
          simp only [truth, ofO] at et
          cases et
          cases b with
          | false =>
            simp only [Bool.false_eq_true, if_false]
            refine Tri.pure trivial fun p hp => ?_
            rw [rV, List.mem_singleton] at hp; subst hp
            exact m1 m0
          | true =>
            simp only [if_true]
            exact (evAnd_ok (c2 :: cs) (e2 :: es2) κ ρ _ pos S h2).any
        | _ => exact Tri.stuck
theorem evOr_ok : ∀ (cs : List E) (es : List Expr) (κ : Ct) (ρ : Rho) (H : Hp) (pos : Pos), SoundFn κ.X κ.n κ.Γ → isEs κ.X.kn κ.env.scope cs es = true → Tri κ ρ [] (boolOp pos .Or (evalEach es κ.env)) H (evOr κ.Γ ρ cs H) rV
  | [], _, _, _, _, _, _, _ => Tri.stuck
  | [c], es, κ, ρ, H, pos, S, h => by
    cases es with
    | nil => exact ff h
    | cons e es' =>
      rw [isEs_cons, Bool.and_eq_true] at h
      cases es' with
      | nil => exact evE_ok c e κ ρ H S h.1
      | cons => exact ff h.2
  | c :: c2 :: cs, es, κ, ρ, H, pos, S, h => by
    cases es with
    | nil => rw [isEs_nil] at h; cases h
    | cons e es' =>
      rw [isEs_cons, Bool.and_eq_true] at h
      obtain ⟨h1, h2⟩ := h
      cases es' with
      | nil => exact ff h2
      | cons e2 es2 =>
        rw [evOr_cons]; simp only [truthR, R.bind_assoc]
        show Tri _ _ _ (eval e κ.env >>= fun v => standAt pos >>= fun _ => PySem.holding [v] (PySem.truthy v) >>= fun t => match BoolOp.Or, t with
          | .And, false | .Or, true => Pure.pure v
          | _, _ => boolOp pos .Or (evalEach (e2 :: es2) κ.env)) _ _ _
        refine Tri.bind (evE_ok c e κ ρ H S h1) fun v H1 mv _ _ => Tri.stand ?_
        cases v with
        | bool b =>
          refine Tri.bind (Tri.holding (Tri.truthy m0)) fun t H2 t' et ht => ?_
          have ht' : t' = t := ht
          subst ht'
          simp only [truth, ofO] at et
          cases et
          cases b with
          | true =>
            simp only [if_true]
            refine Tri.pure trivial fun p hp => ?_
            rw [rV, List.mem_singleton] at hp; subst hp
            exact m1 m0
          | false =>
            simp only [Bool.false_eq_true, if_false]
            exact (evOr_ok (c2 :: cs) (e2 :: es2) κ ρ _ pos S h2).any
        | _ => exact Tri.stuck
theorem evCat_ok : ∀ (cs : List E) (es : List Expr) (κ : Ct) (ρ : Rho) (H : Hp) (out : Str), SoundFn κ.X κ.n κ.Γ → isEs κ.X.kn κ.env.scope cs es = true → (PyData.strOk out = true ∧ out.length ≤ line) → Tri κ ρ [] (joinParts out (evalEach es κ.env)) H ((evEs κ.Γ ρ cs H).bind fun vs H1 => ofO H1 ((catS vs out).map .str)) rV
  | [], es, κ, ρ, H, out, S, h, ho => by
    cases es with
    | cons => cases h
    | nil =>
      exact Tri.plain fun η s Q E at' hv hq => joinParts_nil (hq _ _ (.str _ _ ho.1)) (Nat.le_trans ho.2 line_lt)
  | c :: cs, es, κ, ρ, H, out, S, h, ho => by
    cases es with
    | nil => cases h
    | cons e es =>
      obtain ⟨h1, h2⟩ := and_inv h
      rw [evEs_cons, R.bind_assoc]
      refine Tri.via (fun Q s q => joinParts_cons q) (evE_ok c e κ ρ H S h1) fun v H1 mv _ _ hs η s Q at' hv hq => ?_
      have ih := fun o ho => evCat_ok cs es κ ρ H1 o S h2 ho
      cases hx : strAt v with
      | none =>
        refine absurd ?_ hs
        rw [R.bind_assoc, show (fun vs H2 => (R.ok (v :: vs) H2).bind fun vs H1 => ofO H1 ((catS vs out).map V.str)) = fun _ _ => R.stuck from funext fun vs => funext fun H2 => by rw [R.bind_ok, catS, hx]; rfl]
        exact R.bind_stuck' _
      | some y =>
        obtain ⟨t, rfl, ok⟩ := vr_str (hv _ m0) hx
        by_cases hl : (out ++ y).length ≤ line
        · have er : ((evEs κ.Γ ρ cs H1).bind fun vs H2 => R.ok (v :: vs) H2).bind (fun vs H1 => ofO H1 ((catS vs out).map V.str)) = (evEs κ.Γ ρ cs H1).bind fun vs H1 => ofO H1 ((catS vs (out ++ y)).map V.str) := by
            rw [R.bind_assoc]
            exact congrArg (R.bind _) (funext fun vs => funext fun H2 => by rw [R.bind_ok, catS, hx]; dsimp only; rw [if_pos hl])
          rw [er] at hs hq
          exact ⟨Nat.le_trans hl line_lt, monoN (ih _ ⟨strOk_append ho.1 ok, hl⟩ hs η s at' (fun _ q => nomatch q)) hq⟩
        · refine absurd ?_ hs
          rw [R.bind_assoc, show (fun vs H2 => (R.ok (v :: vs) H2).bind fun vs H1 => ofO H1 ((catS vs out).map V.str)) = fun _ _ => R.stuck from funext fun vs => funext fun H2 => by rw [R.bind_ok, catS, hx]; dsimp only; rw [if_neg hl]; rfl]
          exact R.bind_stuck' _
theorem evEs_ok : ∀ (cs : List E) (es : List Expr) (κ : Ct) (ρ : Rho) (H : Hp) (pos : Pos), SoundFn κ.X κ.n κ.Γ → isEs κ.X.kn κ.env.scope cs es = true → Tri κ ρ [] (spliced (backTo pos (starEach es κ.env))) H (evEs κ.Γ ρ cs H) rL
  | [], es, κ, ρ, H, pos, S, h => by
    cases es with
    | nil => exact Tri.spliced_nil
    | cons => cases h
  | c :: cs, es, κ, ρ, H, pos, S, h => by
    cases es with
    | nil => rw [isEs_nil] at h; cases h
    | cons e es' =>
      rw [isEs_cons, Bool.and_eq_true] at h
      rw [star_plain (isE_plain h.1)]
      exact Tri.spliced_cons (evE_ok c e κ ρ H S h.1) fun v H1 m _ => (evEs_ok cs es' κ ρ H1 pos S h.2).any
end
end
end Mine

/-! J10 -/
namespace Mine
open PySem PyProof.Rows PySem.W

/-! tests -/
section
variable {κ : Ct}

noncomputable def plainT : E → Bool
  | .not _ | .and _ | .or _ | .cmp .. | .cmp2 .. => false
  | _ => true

theorem plain_test {kn : String → Bool} {sc : Scope} {c : E} {e : Expr} {env : Env} (h : isE kn sc c e = true)
    (hc : plainT c = true) (w : Sem Value) : isTrue e env w = (w >>= fun v => standAt e.pos >>= fun _ => PySem.holding [v] (truthy v)) := by
  cases e with
  | UnaryOp op x pos =>
    cases op with
    | Not => cases c <;> first | exact ff h | exact ff hc
    | _ => rfl
  | BoolOp op xs pos => cases c <;> first | exact ff h | exact ff hc
  | IfExp => cases c <;> first | exact ff h | exact ff hc
  | Compare l ops rs pos => cases c <;> first | exact ff h | exact ff hc
  | _ => rfl

theorem plainTest_ok {ρ : Rho} {H : Hp} {c : E} {e : Expr} (h : isE κ.X.kn κ.env.scope c e = true) (hc : plainT c = true)
    (ih : Tri κ ρ [] (eval e κ.env) H (evE κ.Γ ρ c H) rV) : Tri κ ρ [] (isTrue e κ.env (eval e κ.env)) H (truthR (evE κ.Γ ρ c H)) rB := by
  rw [plain_test h hc]
  exact Tri.bind ih fun v H1 mv _ _ => Tri.stand (Tri.holding (Tri.truthy m0))

mutual
theorem testE_ok : ∀ (c : E) (e : Expr) (κ : Ct) (ρ : Rho) (H : Hp), SoundFn κ.X κ.n κ.Γ → isE κ.X.kn κ.env.scope c e = true → Tri κ ρ [] (isTrue e κ.env (eval e κ.env)) H (truthR (evE κ.Γ ρ c H)) rB
  | .not a, e, κ, ρ, H, S, h => by
    obtain ⟨a', pos, rfl, h1⟩ := isE_not h
    show Tri _ _ _ (isTrue a' κ.env (eval a' κ.env) >>= fun b => Pure.pure (!b)) _ _ _
    refine Tri.rel_of (r := (truthR (evE κ.Γ ρ a H)).bind fun b H1 => .ok (!b) H1) ?_ (by rw [evE_not, truthR_bind]; rfl)
    refine Tri.bind (testE_ok a a' κ ρ H S h1) fun b H1 b' _ hb => ?_
    have hb' : b' = b := hb
    subst hb'
    exact Tri.pure rfl fun _ q => nomatch q
  | .and es, e, κ, ρ, H, S, h => by
    obtain ⟨es', pos, rfl, h1⟩ := isE_and h
    rw [evE_and]
    exact testAnd_ok es es' κ ρ H S h1
  | .or es, e, κ, ρ, H, S, h => by
    obtain ⟨es', pos, rfl, h1⟩ := isE_or h
    rw [evE_or]
    exact testOr_ok es es' κ ρ H S h1
  | .cmp l op r, e, κ, ρ, H, S, h => by
    obtain ⟨l', r', pos, rfl, h1, h2⟩ := isE_cmp h
    rw [isTrue_Compare1, markedBehindIn_of_false (marks_plain (isE_plain h2))]
    rw [evE_cmp]; simp only [truthR_bind]
    refine Tri.bind (evE_ok l l' κ ρ H S h1) fun a H1 ma _ _ => ?_
    refine Tri.bind (Tri.holding ((evE_ok r r' κ ρ H1 S h2).any)) fun b H2 mb _ _ => ?_
    refine Tri.stand (Tri.truthy' (Tri.operate ?_))
    cases ec : cmp op a b H2 with
    | none => exact Tri.stuck
    | some t => exact cmp_ok (m1 m0) m0 ec
  | .cmp2 l o1 m o2 r, e, κ, ρ, H, S, h => by
    obtain ⟨l', m', r', pos, rfl, h1, h2, h3⟩ := isE_cmp2 h
    rw [evE_cmp2]; simp only [truthR_bind]
    show Tri _ _ _ (eval l' κ.env >>= fun a => PySem.holding [a] (eval m' κ.env) >>= fun b => standAt pos >>= fun _ => PySem.holding [a, b] (compareOp (cmOf o1) a b) >>= fun c =>
      release [a, b] [c] >>= fun _ => PySem.holding [c, b] (PySem.truthy c) >>= fun t => if t = true then testChain pos b [cmOf o2] [markedBehindIn (cmOf o2) r' (eval r' κ.env)] else Pure.pure false) _ _ _
    refine Tri.bind (evE_ok l l' κ ρ H S h1) fun a H1 ma _ _ => ?_
    refine Tri.bind (Tri.holding ((evE_ok m m' κ ρ H1 S h2).any)) fun b H2 mb _ _ => ?_
    refine Tri.stand ?_
    cases ec : cmp o1 a b H2 with
    | none => exact Tri.stuck
    | some t =>
      have step := fun (vs : List (V × Value)) (ha : (a, ma) ∈ vs) (hb : (b, mb) ∈ vs) => Tri.holding (l := [ma, mb]) (cmp_ok (κ := κ) (ρ := ρ) (H := H2) (vs := vs) ha hb ec)
      show Tri _ _ _ _ _ (R.bind (.ok (.bool t) H2) fun v H3 => truthR (.ok v H3) |>.bind fun t H3 => truthR (if t = true then (evE κ.Γ ρ r H3).bind fun c H4 => ofO H4 ((cmp o2 b c H4).map V.bool) else .ok (.bool false) H3)) _
      refine Tri.bind (step _ (m1 m0) m0) fun v H3 mv ev _ => ?_
      refine Tri.skip (a₀ := ()) (fun Q E s q Γ' p _ => by show Sem.wp _ _ (release _ _) _ _ _ _; unfold release; rw [Sem.wp_release_go]; exact q) ?_
      refine Tri.bind (Tri.holding (Tri.truthy m0)) fun t2 H4 t2' et ht => ?_
      have ht' : t2' = t2 := ht
      subst ht'
      cases t2' with
      | false => exact Tri.pure (a := false) (b := false) rfl fun _ q => nomatch q
      | true =>
        show Tri _ _ _ (PySem.holding [mb] (markedBehindIn (cmOf o2) r' (eval r' κ.env)) >>= fun c => standAt pos >>= fun _ => PySem.operate [mb, c] (compareOp (cmOf o2) mb c) >>= fun c => PySem.holding [c] (PySem.truthy c)) _ (truthR ((evE κ.Γ ρ r H4).bind fun c H4 => ofO H4 ((cmp o2 b c H4).map V.bool))) _
        rw [markedBehindIn_of_false (marks_plain (isE_plain h3)), truthR_bind]
        refine Tri.bind (Tri.holding ((evE_ok r r' κ ρ H4 S h3).any)) fun c H5 mc _ _ => ?_
        refine Tri.stand (Tri.truthy' (Tri.operate ?_))
        cases ec2 : cmp o2 b c H5 with
        | none => exact Tri.stuck
        | some t => exact cmp_ok (m1 (m1 (m1 m0))) m0 ec2
  | .var x, e, κ, ρ, H, S, h => plainTest_ok h rfl (evE_ok _ e κ ρ H S h)
  | .glob x, e, κ, ρ, H, S, h => plainTest_ok h rfl (evE_ok _ e κ ρ H S h)
  | .none, e, κ, ρ, H, S, h => plainTest_ok h rfl (evE_ok _ e κ ρ H S h)
  | .bool x, e, κ, ρ, H, S, h => plainTest_ok h rfl (evE_ok _ e κ ρ H S h)
  | .int x, e, κ, ρ, H, S, h => plainTest_ok h rfl (evE_ok _ e κ ρ H S h)
  | .str x, e, κ, ρ, H, S, h => plainTest_ok h rfl (evE_ok _ e κ ρ H S h)
  | .bin _ _ _, e, κ, ρ, H, S, h => plainTest_ok h rfl (evE_ok _ e κ ρ H S h)
  | .call _ _, e, κ, ρ, H, S, h => plainTest_ok h rfl (evE_ok _ e κ ρ H S h)
  | .isinst _ _, e, κ, ρ, H, S, h => plainTest_ok h rfl (evE_ok _ e κ ρ H S h)
  | .meth _ _ _, e, κ, ρ, H, S, h => plainTest_ok h rfl (evE_ok _ e κ ρ H S h)
  | .attr _ _, e, κ, ρ, H, S, h => plainTest_ok h rfl (evE_ok _ e κ ρ H S h)
  | .idx _ _, e, κ, ρ, H, S, h => plainTest_ok h rfl (evE_ok _ e κ ρ H S h)
  | .slice _ _ _, e, κ, ρ, H, S, h => plainTest_ok h rfl (evE_ok _ e κ ρ H S h)
  | .list _, e, κ, ρ, H, S, h => plainTest_ok h rfl (evE_ok _ e κ ρ H S h)
  | .tup _, e, κ, ρ, H, S, h => plainTest_ok h rfl (evE_ok _ e κ ρ H S h)
  | .menu _ _, e, κ, ρ, H, S, h => plainTest_ok h rfl (evE_ok _ e κ ρ H S h)
  | .comp _ _ _, e, κ, ρ, H, S, h => plainTest_ok h rfl (evE_ok _ e κ ρ H S h)
  | .fmt _, e, κ, ρ, H, S, h => plainTest_ok h rfl (evE_ok _ e κ ρ H S h)
  | .fstr _, e, κ, ρ, H, S, h => plainTest_ok h rfl (evE_ok _ e κ ρ H S h)
theorem testAnd_ok : ∀ (cs : List E) (es : List Expr) (κ : Ct) (ρ : Rho) (H : Hp), SoundFn κ.X κ.n κ.Γ → isEs κ.X.kn κ.env.scope cs es = true → Tri κ ρ [] (allTrue .And es κ.env) H (truthR (evAnd κ.Γ ρ cs H)) rB
  | [], _, _, _, _, _, _ => Tri.stuck
  | [c], es, κ, ρ, H, S, h => by
    cases es with
    | nil => rw [isEs_nil] at h; cases h
    | cons e es' =>
      rw [isEs_cons, Bool.and_eq_true] at h
      cases es' with
      | cons => cases h.2
      | nil =>
        show Tri _ _ _ (isTrue e κ.env (eval e κ.env) >>= fun t => match BoolOp.And, t with | .And, false => Pure.pure false | .Or, true => Pure.pure true | _, _ => allTrue .And [] κ.env) _ _ _
        refine Tri.rel_of (r := (truthR (evE κ.Γ ρ c H)).bind fun b H1 => .ok b H1) ?_ (by rw [evAnd_one, R.bind_ok_self])
        refine Tri.bind (testE_ok c e κ ρ H S h.1) fun b H1 b' _ hb => ?_
        have hb' : b' = b := hb
        subst hb'
        cases b' <;> exact Tri.pure rfl fun _ q => nomatch q
  | c :: c2 :: cs, es, κ, ρ, H, S, h => by
    cases es with
    | nil => rw [isEs_nil] at h; cases h
    | cons e es' =>
      rw [isEs_cons, Bool.and_eq_true] at h
      show Tri _ _ _ (isTrue e κ.env (eval e κ.env) >>= fun t => match BoolOp.And, t with | .And, false => Pure.pure false | .Or, true => Pure.pure true | _, _ => allTrue .And es' κ.env) _ _ _
      rw [evAnd_cons]; simp only [truthR_bind]
      refine Tri.bind (testE_ok c e κ ρ H S h.1) fun b H1 b' _ hb => ?_
      have hb' : b' = b := hb
      subst hb'
      cases b' with
      | false => exact Tri.pure (b := false) rfl fun _ q => nomatch q
      | true => exact (testAnd_ok (c2 :: cs) es' κ ρ H1 S h.2).any
theorem testOr_ok : ∀ (cs : List E) (es : List Expr) (κ : Ct) (ρ : Rho) (H : Hp), SoundFn κ.X κ.n κ.Γ → isEs κ.X.kn κ.env.scope cs es = true → Tri κ ρ [] (allTrue .Or es κ.env) H (truthR (evOr κ.Γ ρ cs H)) rB
  | [], _, _, _, _, _, _ => Tri.stuck
  | [c], es, κ, ρ, H, S, h => by
    cases es with
    | nil => rw [isEs_nil] at h; cases h
    | cons e es' =>
      rw [isEs_cons, Bool.and_eq_true] at h
      cases es' with
      | cons => cases h.2
      | nil =>
        show Tri _ _ _ (isTrue e κ.env (eval e κ.env) >>= fun t => match BoolOp.Or, t with | .And, false => Pure.pure false | .Or, true => Pure.pure true | _, _ => allTrue .Or [] κ.env) _ _ _
        refine Tri.rel_of (r := (truthR (evE κ.Γ ρ c H)).bind fun b H1 => .ok b H1) ?_ (by rw [evOr_one, R.bind_ok_self])
        refine Tri.bind (testE_ok c e κ ρ H S h.1) fun b H1 b' _ hb => ?_
        have hb' : b' = b := hb
        subst hb'
        cases b' <;> exact Tri.pure rfl fun _ q => nomatch q
  | c :: c2 :: cs, es, κ, ρ, H, S, h => by
    cases es with
    | nil => rw [isEs_nil] at h; cases h
    | cons e es' =>
      rw [isEs_cons, Bool.and_eq_true] at h
      show Tri _ _ _ (isTrue e κ.env (eval e κ.env) >>= fun t => match BoolOp.Or, t with | .And, false => Pure.pure false | .Or, true => Pure.pure true | _, _ => allTrue .Or es' κ.env) _ _ _
      rw [evOr_cons]; simp only [truthR_bind]
      refine Tri.bind (testE_ok c e κ ρ H S h.1) fun b H1 b' _ hb => ?_
      have hb' : b' = b := hb
      subst hb'
      cases b' with
      | true => exact Tri.pure (b := true) rfl fun _ q => nomatch q
      | false => exact (testOr_ok (c2 :: cs) es' κ ρ H1 S h.2).any
end
end
end Mine

/-! J11 -/
namespace Mine
open PySem PyProof.Rows PySem.W

theorem lookup_setL (x : String) (v : V) : ∀ (ρ : Rho) (y : String), (setL x v ρ).lookup y = if y = x then some v else ρ.lookup y
  | [], y => by
    simp only [setL, List.lookup_cons, List.lookup_nil]
    by_cases h : y = x
    · subst h; simp
    · have : (y == x) = false := by simpa using h
      simp [this, h]
  | (z, w) :: r, y => by
    simp only [setL]
    split
    · rename_i hz
      subst hz
      simp only [List.lookup_cons]
      by_cases h : y = z
      · subst h; simp
      · have : (y == z) = false := by simpa using h
        simp [this, h]
    · rename_i hz
      simp only [List.lookup_cons, lookup_setL x v r y]
      by_cases h : y = z
      · subst h; simp [hz]
      · have : (y == z) = false := by simpa using h
        simp [this]

inductive NextS (κ : Ct) (η : List Addr) (s : Shared) (r : RS) (s' : Shared) : Prop
  | mk (ρ' : Rho) (H' : Hp) (e : r = .next ρ' H') (p : Post κ.X (ownOf κ.env) η s H' (Ends κ.X κ.env ρ') s') : NextS κ η s r s'
inductive RetS (κ : Ct) (η : List Addr) (s : Shared) (r : RS) (mv : Value) (s' : Shared) : Prop
  | mk (v : V) (H' : Hp) (e : r = .ret v H') (p : Post κ.X (ownOf κ.env) η s H' (fun η' h' => FrameOK κ.X η' h' κ.env ∧ VR κ.X η' h' v mv) s') : RetS κ η s r mv s'
noncomputable def OutS (κ : Ct) (η : List Addr) (s : Shared) (r : RS) (f : Flow) (s' : Shared) : Prop :=
  match f with
  | .next => NextS κ η s r s'
  | .cont => False
  | .brk => False
  | .ret mv => RetS κ η s r mv s'

noncomputable def TriS (κ : Ct) (vs : List (V × Value)) (m : Sem Flow) (ρ : Rho) (H : Hp) (r : RS) : Prop :=
  r ≠ .stuck → ∀ η s, At κ η ρ H s → (∀ p ∈ vs, VR κ.X η s.heap p.1 p.2) → wpAny κ.X.M κ.A m (OutS κ η s r) noE s

section
variable {κ : Ct} {η η' : List Addr} {ρ ρ' : Rho} {H H' : Hp} {s : Shared} {h' : Heap} {vs : List (V × Value)}

theorem At.stepS (a : At κ η ρ H s) (x : Step (ownOf κ.env) η s.heap η' h') (i : Inv κ.X η' H' h') (e : Ends κ.X κ.env ρ' η' h') (tk : Nat) : At κ η' ρ' H' { s with heap := h', toks := tk } :=
  ⟨i, e.1, e.2, a.stk.step x, a.room, a.hand⟩
theorem At.ends (a : At κ η ρ H s) (x : Step [] η s.heap η' h') (i : Inv κ.X η' H' h') : Ends κ.X κ.env ρ η' h' := let b := a.step x i s.toks; ⟨b.fok, b.rho⟩
theorem Step.up {own η η' : List Addr} {h h' : Heap} (x : Step [] η h η' h') : Step own η h η' h' := x.weak fun _ q => nomatch q

theorem OutS.after {η1 : List Addr} {h1 : Heap} {tk : Nat} {r : RS} {s' : Shared} {f : Flow} (x : Step (ownOf κ.env) η s.heap η1 h1) (o : OutS κ η1 { s with heap := h1, toks := tk } r f s') : OutS κ η s r f s' := by
  cases f with
  | next => obtain ⟨ρ', H', e, P⟩ := o; exact ⟨ρ', H', e, P.trans x fun _ _ q => q⟩
  | ret mv => obtain ⟨v, H', e, P⟩ := o; exact ⟨v, H', e, P.trans x fun _ _ q => q⟩
  | _ => exact o

theorem TriS.via {α β : Type} {m : Sem α} {m' : Sem Flow} {W : α → (Flow → Shared → Prop) → Shared → Prop} {r : R β} {rel : β → α → Prop × List (V × Value)} {f : β → Hp → RS}
    (hw : ∀ Q s, wpAny κ.X.M κ.A m (fun a s1 => W a Q s1) noE s → κ.env.scope.kind = .function → wpAny κ.X.M κ.A m' Q noE s) (h1 : Tri κ ρ vs m H r rel)
    (h2 : ∀ b H1 a, r = .ok b H1 → (rel b a).1 → f b H1 ≠ .stuck → ∀ η s Q, At κ η ρ H1 s → (∀ p ∈ vs ++ (rel b a).2, VR κ.X η s.heap p.1 p.2) → (∀ d s', OutS κ η s (f b H1) d s' → Q d s') → W a Q s) : TriS κ vs m' ρ H (ofR r f) := by
  intro hs η s a hv
  have hr : r ≠ .stuck := by rintro rfl; exact hs rfl
  refine hw _ _ (monoN (h1 hr η s a hv) fun x s1 hx => ?_) a.fok.kind
  obtain ⟨b, H1, rfl, hrel, η1, h', tk, rfl, i, stp, hp⟩ := hx
  refine h2 b H1 x rfl hrel hs η1 _ _ (a.step stp i tk) (fun p hm => ?_) fun d s' o => o.after stp.up
  rcases List.mem_append.mp hm with hm | hm
  · exact (hv p hm).up stp
  · exact hp p hm
theorem TriS.expr {α β : Type} {m : Sem α} {k : α → Sem Flow} {r : R β} {rel : β → α → Prop × List (V × Value)} {f : β → Hp → RS} (h1 : Tri κ ρ vs m H r rel)
    (h2 : ∀ b H1 a, r = .ok b H1 → (rel b a).1 → TriS κ (vs ++ (rel b a).2) (k a) ρ H1 (f b H1)) : TriS κ vs (m >>= k) ρ H (ofR r f) :=
  TriS.via (W := fun a Q s => wpAny κ.X.M κ.A (k a) Q noE s) (fun _ _ q _ => wpAny_bind q) h1 fun b H1 a e q hs η s Q at' hv hq => monoN (h2 b H1 a e q hs η s at' hv) hq

theorem TriS.stuck {m : Sem Flow} : TriS κ vs m ρ H .stuck := fun h => absurd rfl h
theorem TriS.skip {α : Type} {m : Sem α} {k : α → Sem Flow} {r : RS} {a₀ : α} (hm : ∀ (Q : α → Shared → Prop) (E : Value → Shared → Prop) (s : Shared), Q a₀ s → wpAny κ.X.M κ.A m Q E s)
    (h : TriS κ vs (k a₀) ρ H r) : TriS κ vs (m >>= k) ρ H r := fun hs η s a hv => wpAny_bind (hm _ _ _ (h hs η s a hv))
theorem TriS.stand {pos : Pos} {k : Unit → Sem Flow} {r : RS} (h : TriS κ vs (k ()) ρ H r) : TriS κ vs (standAt pos >>= k) ρ H r := TriS.skip (a₀ := ()) (fun _ _ _ q => wpAny_standAt q) h
theorem nextS (a : At κ η ρ H s) : OutS κ η s (.next ρ H) .next s := ⟨ρ, H, rfl, η, s.heap, s.toks, rfl, a.inv, Step.refl _ _ _, a.fok, a.rho⟩
theorem TriS.next : TriS κ vs (Pure.pure .next) ρ H (.next ρ H) := fun _ η s a _ => wpAny_pure (nextS a)
theorem TriS.ret {v : V} {m : Value} (hm : (v, m) ∈ vs) : TriS κ vs (Pure.pure (.ret m)) ρ H (.ret v H) := fun _ η s a hv => wpAny_pure ⟨v, H, rfl, η, s.heap, s.toks, rfl, a.inv, Step.refl _ _ _, a.fok, hv _ hm⟩
theorem TriS.any {m : Sem Flow} {r : RS} (h : TriS κ [] m ρ H r) : TriS κ vs m ρ H r := fun hs η s a _ => h hs η s a fun _ q => nomatch q

noncomputable def isSt (sc : Scope) (x : Str) : Bool := match sc.names.lookup x with
  | some .local | some .cell => true
  | _ => false

theorem wpAny_store {x : String} {v : V} {mv : Value} {Q : Unit → Shared → Prop} {E : Value → Shared → Prop} (a : At κ η ρ H s) (hx : isSt κ.env.scope (Str.ofString x) = true) (hv : VR κ.X η s.heap v mv)
    (hq : ∀ h' tk, Step (ownOf κ.env) η s.heap η h' → Inv κ.X η H h' → Ends κ.X κ.env (setL x v ρ) η h' → Q () { s with heap := h', toks := tk }) : wpAny κ.X.M κ.A (storeName κ.env (Str.ofString x) mv) Q E s := by
  have kind : κ.env.kindOf (Str.ofString x) = some .local ∨ κ.env.kindOf (Str.ofString x) = some .cell := by
    unfold isSt at hx
    unfold Env.kindOf
    split at hx
    · exact .inl ‹_›
    · exact .inr ‹_›
    · cases hx
  have stp : ∀ {c : Addr} {h' : Heap}, c ∈ ownOf κ.env → Heap.SameBut c s.heap h' → (∀ o, s.heap.get? c = some o → ∀ es n, o.data = .dict es n → ∃ o' es' n', h'.get? c = some o' ∧ o'.data = .dict es' n') →
      (∀ o, s.heap.get? c = some o → ∀ v, o.data = .cell v → ∃ o' v', h'.get? c = some o' ∧ o'.data = .cell v') → Step (ownOf κ.env) η s.heap η h' := by
    intro c h' hc hsb hd1 hc1
    have alive : ∀ b o, s.heap.get? b = some o → ∃ o', h'.get? b = some o' := by
      intro b o e
      by_cases hb : b = c
      · subst hb
        obtain ⟨o2, e2, q⟩ := a.fok.frm b hc
        rw [e] at e2; cases e2
        rcases q with ⟨es, k, d⟩ | ⟨w, d⟩
        · obtain ⟨o', _, _, e', _⟩ := hd1 o e es k d; exact ⟨o', e'⟩
        · obtain ⟨o', _, e', _⟩ := hc1 o e w d; exact ⟨o', e'⟩
      · exact ⟨o, (hsb.2 b hb).trans e⟩
    refine ⟨⟨[], by simp, fun _ q => nomatch q⟩, alive, fun b o e _ ho => (hsb.2 b (fun q => ho (q ▸ hc))).trans e, fun b o e _ es k d => ?_, fun b o e _ w d => ?_⟩
    · by_cases hb : b = c
      · subst hb; exact hd1 o e es k d
      · exact ⟨o, es, k, (hsb.2 b hb).trans e, d⟩
    · by_cases hb : b = c
      · subst hb; exact hc1 o e w d
      · exact ⟨o, w, (hsb.2 b hb).trans e, d⟩
  have inv : ∀ {c : Addr} {h' : Heap}, c ∈ ownOf κ.env → Heap.SameBut c s.heap h' → Step (ownOf κ.env) η s.heap η h' → Inv κ.X η H h' := fun hc hsb x =>
    a.inv.still x a.fok.frm (fun b hb o e => (hsb.2 b (fun q => (a.fok.off _ hc).1 (q ▸ hb))).trans e) fun b hb => (a.fok.off b hb).2
  rcases kind with hk | hk
  · obtain ⟨m, hn⟩ := a.fok.ns
    refine wpAny_storeName_local hk hn (fun h' hn' hsb => ?_) (by rw [a.fok.kind]; rfl)
    have hc : κ.env.locals ∈ ownOf κ.env := List.Mem.head _
    have x1 := stp hc hsb (fun o e es k d => by
        obtain ⟨o', es', k', e', d', _⟩ := hn'
        exact ⟨o', es', k', e', d'⟩) (fun o e w d => by
        obtain ⟨o', es', k', e', d', _⟩ := hn
        rw [e] at e'; cases e'; rw [d] at d'; cases d')
    have cel : ∀ p ∈ κ.env.cells, p.2 ≠ κ.env.locals := fun p hp q => by
      obtain ⟨o, w, e, d⟩ := a.fok.cell p hp
      obtain ⟨o', es', k', e', d', _⟩ := hn
      rw [q, e'] at e; cases e; rw [d'] at d; cases d
    refine hq h' _ x1 (inv hc hsb x1) ⟨⟨a.fok.kind, a.fok.glob, a.fok.blt, ⟨_, hn'⟩, fun p hp => ?_, a.fok.cells, a.fok.inj, a.fok.off⟩, fun y u e hy => ?_⟩
    · obtain ⟨o, w, e, d⟩ := a.fok.cell p hp
      exact ⟨o, w, (hsb.2 _ (cel p hp)).trans e, d⟩
    · rw [lookup_setL] at e
      by_cases hyx : y = x
      · subst hyx
        rw [if_pos rfl] at e; cases e
        exact ⟨mv, .inl ⟨hk, _, hn', by simp⟩, hv.step x1 a.fok.frm⟩
      · rw [if_neg hyx] at e
        obtain ⟨mu, hh, ru⟩ := a.rho y u e hy
        refine ⟨mu, ?_, ru.step x1 a.fok.frm⟩
        rcases hh with ⟨hk2, m2, hn2, hm2⟩ | ⟨hk2, c, o, hc2, g, d⟩
        · refine .inl ⟨hk2, _, hn', ?_⟩
          have : Str.ofString y ≠ Str.ofString x := fun q => hyx (ofString_inj q)
          rw [if_neg this]
          obtain ⟨o1, es1, k1, e1, d1, _, f1⟩ := hn
          obtain ⟨o2, es2, k2, e2, d2, _, f2⟩ := hn2
          rw [e1] at e2; cases e2; rw [d1] at d2; cases d2
          rw [← f1, f2]; exact hm2
        · exact .inr ⟨hk2, c, o, hc2, (hsb.2 _ (cel (_, c) (lookup_mem hc2))).trans g, d⟩
  · obtain ⟨c, hc⟩ := a.fok.cells _ hk
    obtain ⟨o0, w0, e0, d0⟩ := a.fok.cell _ (lookup_mem hc)
    have hco : c ∈ ownOf κ.env := List.mem_cons.mpr (.inr (List.mem_map.mpr ⟨(Str.ofString x, c), lookup_mem hc, rfl⟩))
    refine wpAny_storeName_cell a.fok.kind hk hc ⟨o0, e0, d0⟩ fun h' hcl hsb => ?_
    have x1 := stp hco hsb (fun o e es k d => by rw [e] at e0; cases e0; rw [d] at d0; cases d0) (fun o e w d => by
      obtain ⟨o', e', d'⟩ := hcl
      exact ⟨o', _, e', d'⟩)
    have loc : κ.env.locals ≠ c := fun q => by
      obtain ⟨m, o', es', k', e', d', _⟩ := a.fok.ns
      rw [q, e0] at e'; cases e'; rw [d0] at d'; cases d'
    refine hq h' s.toks x1 (inv hco hsb x1) ⟨⟨a.fok.kind, a.fok.glob, a.fok.blt, ?_, fun p hp => ?_, a.fok.cells, a.fok.inj, a.fok.off⟩, fun y u e hy => ?_⟩
    · obtain ⟨m, hn⟩ := a.fok.ns
      exact ⟨m, hn.sameBut hsb loc⟩
    · by_cases hp2 : p.2 = c
      · obtain ⟨o', e', d'⟩ := hcl
        exact ⟨o', _, hp2 ▸ e', d'⟩
      · obtain ⟨o, w, e, d⟩ := a.fok.cell p hp
        exact ⟨o, w, (hsb.2 _ hp2).trans e, d⟩
    · rw [lookup_setL] at e
      by_cases hyx : y = x
      · subst hyx
        rw [if_pos rfl] at e; cases e
        obtain ⟨o', e', d'⟩ := hcl
        exact ⟨mv, .inr ⟨.inl hk, c, o', hc, e', d'⟩, hv.step x1 a.fok.frm⟩
      · rw [if_neg hyx] at e
        obtain ⟨mu, hh, ru⟩ := a.rho y u e hy
        refine ⟨mu, ?_, ru.step x1 a.fok.frm⟩
        rcases hh with ⟨hk2, m2, hn2, hm2⟩ | ⟨hk2, c2, o, hc2, g, d⟩
        · exact .inl ⟨hk2, m2, hn2.sameBut hsb loc, hm2⟩
        · have : c2 ≠ c := fun q => hyx (ofString_inj (a.fok.inj _ _ c (q ▸ hc2) hc))
          exact .inr ⟨hk2, c2, o, hc2, (hsb.2 _ this).trans g, d⟩

theorem TriS.store {x : String} {v : V} {mv : Value} {k : Unit → Sem Flow} {r : RS} (hm : (v, mv) ∈ vs) (hx : isSt κ.env.scope (Str.ofString x) = true)
    (h : TriS κ vs (k ()) (setL x v ρ) H r) : TriS κ vs (bindName κ.env (Str.ofString x) mv >>= k) ρ H r := by
  intro hs η s a hv
  refine wpAny_bind (wpAny_bindName (wpAny_store a hx (hv _ hm) fun h' tk x1 i e => ?_))
  exact monoN (h hs η _ (a.stepS x1 i e tk) fun p hp => (hv p hp).step x1 a.fok.frm) fun y s2 hy => hy.after x1

theorem TriS.seq {st1 : Stmt} {rest : List Stmt} {r1 : RS} {k : Rho → Hp → RS} (h1 : TriS κ vs (exec st1 κ.env) ρ H r1)
    (h2 : ∀ ρ1 H1, r1 = .next ρ1 H1 → TriS κ [] (execs rest κ.env) ρ1 H1 (k ρ1 H1)) : TriS κ vs (execs (st1 :: rest) κ.env) ρ H (r1.bind k) := by
  intro hs η s a hv
  have hs1 : r1 ≠ .stuck := by rintro rfl; exact hs rfl
  refine wpAny_execs_cons (monoN (h1 hs1 η s a hv) fun f s1 hf => ?_)
  cases f with
  | next =>
    obtain ⟨ρ1, H1, rfl, η1, h', tk, rfl, i, x1, en⟩ := hf
    exact monoN (h2 ρ1 H1 rfl hs η1 _ (a.stepS x1 i en tk) fun _ q => nomatch q) fun y s2 hy => hy.after x1
  | ret mv => obtain ⟨v, H1, rfl, P⟩ := hf; exact ⟨v, H1, rfl, P⟩
  | _ => exact hf
end
end Mine

/-! J21 -/
namespace Mine
open PySem PyProof.Rows PySem.W

noncomputable def noComp : Expr → Bool
  | .ListComp .. => false
  | .SetComp .. => false
  | .DictComp .. => false
  | _ => true
theorem swaps_no {e : Expr} {t : Option Expr} {l : Nat} {env : Env} (h : noComp e = true) : swapsWith e t l env = pure false := by
  cases e <;> first | rfl | cases h

noncomputable def sName (sc : Scope) (x : String) (e : Expr) : Bool := match e with
  | .Name id _ => id == Str.ofString x && isSt sc id
  | _ => false
noncomputable def sNames (sc : Scope) : List String → List Expr → Bool
  | [], es => es.isEmpty
  | x :: xs, es => match es with
    | e :: es => sName sc x e && sNames sc xs es
    | [] => false
theorem sName_inv {sc : Scope} {x : String} {e : Expr} (h : sName sc x e = true) : ∃ pos, e = .Name (Str.ofString x) pos ∧ isSt sc (Str.ofString x) = true := by
  unfold sName at h
  split at h
  · rw [Bool.and_eq_true, beq_iff_eq] at h
    obtain ⟨rfl, h⟩ := h
    exact ⟨_, rfl, h⟩
  · cases h

section
variable {κ : Ct} {env : Env} {η : List Addr} {ρ ρ' : Rho} {H : Hp} {s : Shared}
theorem stores_ok {Q : Unit → Shared → Prop} {E : Value → Shared → Prop} : ∀ (xs : List String) (es : List Expr) (ws : List V) (ms : List Value) (ρ : Rho) (s : Shared), sNames κ.env.scope xs es = true → setAll xs ws ρ = some ρ' → VRs κ.X η s.heap ws ms → At κ η ρ H s →
    (∀ h' tk, Step (ownOf κ.env) η s.heap η h' → Inv κ.X η H h' → Ends κ.X κ.env ρ' η h' → Q () { s with heap := h', toks := tk }) → wpAny κ.X.M κ.A (assignInOrder ((assignEach es κ.env).map (·.2)) ms) Q E s
  | [], es, ws, ms, ρ, s, h1, h2, h3, a, hq => by
    cases es with
    | cons => cases h1
    | nil =>
      cases ws with
      | cons => cases h2
      | nil => cases h2; exact wpAny_pure (hq s.heap s.toks (Step.refl _ _ _) a.inv ⟨a.fok, a.rho⟩)
  | x :: xs, es, ws, ms, ρ, s, h1, h2, h3, a, hq => by
    cases es with
    | nil => cases h1
    | cons e es =>
      simp only [sNames, Bool.and_eq_true] at h1
      obtain ⟨pos, rfl, hx⟩ := sName_inv h1.1
      cases h3 with
      | nil => cases h2
      | cons r rs =>
        rename_i v vs m ms
        show wpAny κ.X.M κ.A (PySem.holding ms (assign (.Name (Str.ofString x) pos) κ.env m) >>= fun _ => assignInOrder ((assignEach es κ.env).map (·.2)) ms) Q E s
        refine wpAny_bind (wpAny_holding (wpAny_assign_Name (wpAny_store a hx r fun h' tk x1 i en => ?_)))
        refine stores_ok xs es vs ms (setL x v ρ) _ h1.2 h2 (rs.step x1 a.fok.frm) (a.stepS x1 i en tk) fun h2 tk2 x2 i2 en2 => hq h2 tk2 (x1.trans x2) i2 en2

theorem each_length : ∀ {xs : List String} {es : List Expr}, sNames env.scope xs es = true → (assignEach es env).length = xs.length ∧ (assignEach es env).findIdx? (·.1) = Option.none
  | [], es, h => by cases es with | nil => exact ⟨rfl, rfl⟩ | cons => cases h
  | x :: xs, es, h => by
    cases es with
    | nil => cases h
    | cons e es =>
      simp only [sNames, Bool.and_eq_true] at h
      obtain ⟨pos, rfl, hx⟩ := sName_inv h.1
      obtain ⟨h1, h2⟩ := each_length h.2
      refine ⟨congrArg Nat.succ h1, ?_⟩
      show ((false, assign (.Name (Str.ofString x) pos) env) :: assignEach es env).findIdx? (·.1) = _
      rw [List.findIdx?_cons, h2]; rfl

theorem setAll_length : ∀ {xs : List String} {ws : List V} {ρ ρ' : Rho}, setAll xs ws ρ = some ρ' → xs.length = ws.length
  | [], [], _, _, _ => rfl
  | [], _ :: _, _, _, h => by cases h
  | _ :: _, [], _, _, h => by cases h
  | _ :: xs, _ :: ws, _, _, h => congrArg Nat.succ (setAll_length (xs := xs) (ws := ws) h)

theorem unpack_ok {xs : List String} {es : List Expr} {v : V} {ws : List V} {mv : Value} {k : Nat} {pos : Pos} {Q : Unit → Shared → Prop} {E : Value → Shared → Prop} (hx : sNames κ.env.scope xs es = true) (hp : partsV v H = some ws) (hset : setAll xs ws ρ = some ρ') (rv : VR κ.X η s.heap v mv) (a : At κ η ρ H s)
    (hq : ∀ h' tk, Step (ownOf κ.env) η s.heap η h' → Inv κ.X η H h' → Ends κ.X κ.env ρ' η h' → Q () { s with heap := h', toks := tk }) : wpAny κ.X.M κ.A (assign (.Tuple es k pos) κ.env mv) Q E s := by
  obtain ⟨l1, l2⟩ := each_length (env := κ.env) hx
  have hlen : xs.length = ws.length := setAll_length hset
  have go : ∀ {items : Array Value} {h' : Heap}, VRs κ.X η s.heap ws items.toList → Heap.ExtBut s.heap.objs.size s.heap h' → wpAny κ.X.M κ.A (assignInOrder ((assignEach es κ.env).map (·.2)) items.toList) Q E { s with heap := h' } := fun {items h'} r eb => by
    have k0 : ∀ b o, s.heap.get? b = some o → h'.get? b = some o := fun b o e => eb b o (Nat.ne_of_lt (Heap.lt_size e)) e
    have a1 := a.step (Step.ext _ _ k0) (a.inv.ext k0) s.toks
    exact stores_ok xs es ws items.toList ρ _ hx hset (r.up (Step.ext _ _ k0)) a1 fun h2 tk2 x2 i2 en2 => hq h2 tk2 ((Step.ext _ _ k0).trans x2) i2 en2
  have key : listAt v H = some ws → wpAny κ.X.M κ.A (assign (.Tuple es k pos) κ.env mv) Q E s := fun e => by
    obtain ⟨x, items, c, rfl, g, r, _⟩ := vr_list a.inv rv e
    rw [arm_assign_Tuple]
    refine wpAny_bind (wpAny_standAt ?_)
    unfold unpack
    have hn : (assignEach es κ.env).length = items.size := by rw [l1, hlen, r.size]
    rw [hn, l2]
    exact wpAny_bind (wpAny_holding (kun_itemsOf a.hand ⟨_, g, rfl, c, rfl⟩ fun h' eb => go r eb))
  cases v with
  | tup vs =>
    cases hp
    cases rv with
    | tup g hn r l => exact wpAny_assign_Tuple a.hand ⟨_, g, rfl, _, rfl⟩ (by rw [l1, hlen, r.size]) l2 fun h' eb => go r eb
  | _ => exact key hp

structure Iter (κ : Ct) (target : Expr) (it : Addr) (its : List Addr) (xs : List V) (chk : Hp → Bool) (J : Nat → List Addr → Heap → Prop) : Prop where
  recs : ∀ {i η h}, J i η h → Recs its η h
  keep : ∀ {i η h η' h'}, J i η h → Step (ownOf κ.env) η h η' h' → Frm h (ownOf κ.env) → J i η' h'
  next : ∀ {i : Nat} {η : List Addr} {H : Hp} {s : Shared} {Q : Option Value → Shared → Prop}, J i η s.heap → Inv κ.X η H s.heap → κ.A.handled = Option.none → chk H = true →
    (∀ v mv h' tk, xs[i]? = some v → Turn its η H s.heap h' → VR κ.X η h' v mv → J (i + 1) η h' → Q (some mv) { s with heap := h', toks := tk }) → (∀ h', xs[i]? = Option.none → Turn its η H s.heap h' → Q Option.none { s with heap := h' }) →
    wpAny κ.X.M κ.A (pyNext (.ref it)) (fun o s1 => match o with | Option.none => Q Option.none s1 | some v => wpAny κ.X.M κ.A (letOwnedTupleGo target (.ref it) v) (fun _ s2 => Q (some v) s2) noE s1) noE s

theorem Iter.plain {it : Addr} {src : V} {xs : List V} {target : Expr} {chk : Hp → Bool} (hchk : ∀ H, chk H = true → ∀ n, src = .ref n → H[n]? = some (.list xs))
    (hlet : ∀ {i η s mv} {Q : Unit → Shared → Prop}, ItR κ.X η s.heap it src xs i → Q () s → wpAny κ.X.M κ.A (letOwnedTupleGo target (.ref it) mv) Q noE s) : Iter κ target it [it] xs chk (fun i η h => ItR κ.X η h it src xs i ∧ it ∉ η) where
  recs := fun r => r.1.recs
  keep := fun r x f => ⟨r.1.keep x f r.2, let ⟨_, _, _, g, _⟩ := r.1.obj; x.mem g r.2⟩
  next := fun {i η H s Q} r iv hh hc h1 h2 => next_ok r.1 iv r.2 hh (hchk H hc) (fun v mv h' tk hv t rv r' => hlet (s := { s with heap := h', toks := tk }) r' (h1 v mv h' tk hv t rv ⟨r', r.2⟩)) h2

theorem forL_chk {b : V → Rho → Hp → RS} {chk : Hp → Bool} {xs : List V} {ρ : Rho} {H : Hp} (h : forL b chk xs ρ H ≠ .stuck) : chk H = true := by
  cases xs <;> rw [forL] at h <;> exact Classical.byContradiction fun q => h (if_neg q)

inductive ForI (κ : Ct) (η0 : List Addr) (s0 : Shared) (xs : List V) (J : Nat → List Addr → Heap → Prop) (F : Nat → Rho → Hp → Prop) (m : Nat) (s : Shared) : Prop
  | mk (i : Nat) (ρ : Rho) (H : Hp) (η : List Addr) (e : m = xs.length - i) (a : At κ η ρ H s) (es : s = { s0 with heap := s.heap, toks := s.toks }) (x : Step (ownOf κ.env) η0 s0.heap η s.heap) (r : J i η s.heap) (hf : F i ρ H) : ForI κ η0 s0 xs J F m s
theorem for_core {it : Addr} {its : List Addr} {xs : List V} {target : Expr} {body' : List Stmt} {bodyF : V → Rho → Hp → RS} {chk : Hp → Bool} {J : Nat → List Addr → Heap → Prop} {η0 : List Addr} {s0 : Shared} {ρ00 : Rho} {H00 : Hp} {R : Result → Shared → Prop}
    (turnOK : ∀ v mv ρ H, bodyF v ρ H ≠ .stuck → ∀ η s, At κ η ρ H s → VR κ.X η s.heap v mv → wpAny κ.X.M κ.A (assign target κ.env mv) (fun _ s2 => wpAny κ.X.M κ.A (execs body' κ.env) (OutS κ η s (bodyF v ρ H)) noE s2) noE s)
    (I : Iter κ target it its xs chk J) (a0 : At κ η0 ρ00 H00 s0) (h0n : ∀ b ∈ its, s0.heap.get? b = Option.none)
    {ρ0 : Rho} {H0 : Hp} {η1 : List Addr} {s1 : Shared} (a1 : At κ η1 ρ0 H0 s1) (e1 : s1 = { s0 with heap := s1.heap, toks := s1.toks }) (x1 : Step (ownOf κ.env) η0 s0.heap η1 s1.heap) (r1 : J 0 η1 s1.heap)
    (hne : forL bodyF chk xs ρ0 H0 ≠ .stuck) (hR : ∀ f s', OutS κ η0 s0 (forL bodyF chk xs ρ0 H0) f s' → R (.ok f) s') :
    codeAny κ.X.M κ.A (.forLoop target (.ref it) body' [] κ.env) R s1 := by
  generalize hres : forL bodyF chk xs ρ0 H0 = res at hne hR
  have hb : ∀ b ∈ its, κ.X.base.get? b = Option.none := fun b q => a0.new (h0n b q)
  refine codeAny_forLoop_any (I := ForI κ η0 s0 xs J (fun i ρ H => forL bodyF chk (xs.drop i) ρ H = res)) (fun m s hI => ?_) xs.length ⟨0, ρ0, H0, η1, rfl, a1, e1, x1, r1, hres⟩
  obtain ⟨i, ρ, H, η, rfl, a, es, x, r, hf⟩ := hI
  have ck : chk H = true := forL_chk (by rw [hf]; exact hne)
  refine monoN (I.next (Q := fun o s2 => match o with
    | Option.none => OutS κ η0 s0 res .next s2
    | some mv => wpAny κ.X.M κ.A (assign target κ.env mv) (fun _ s3 => wpAny κ.X.M κ.A (execs body' κ.env) (fun f s4 => match f with
      | .next => ∃ m, m < xs.length - i ∧ ForI κ η0 s0 xs J (fun i ρ H => forL bodyF chk (xs.drop i) ρ H = res) m s4
      | f => OutS κ η0 s0 res f s4) noE s3) noE s2) r a.inv a.hand ck (fun v mv h' tk hv t rv r' => ?_) fun h' hv t => ?_) fun o s2 h2 => ?_
  · rw [drop_at hv, forL, if_pos ck] at hf
    have a2 : At κ η ρ H { s with heap := h', toks := tk } := t.at a hb (I.recs r)
    have x2 : Step (ownOf κ.env) η0 s0.heap η h' := t.step x h0n
    have hbs : bodyF v ρ H ≠ .stuck := fun q => by rw [q] at hf; exact hne hf.symm
    refine monoN (turnOK v mv ρ H hbs η _ a2 rv) fun _ s2 hs2 => monoN hs2 fun f s3 h3 => ?_
    rw [es] at h3 a2
    cases f with
    | next =>
      obtain ⟨ρ1, H1, e, η3, h3', tk3, rfl, i3, x3, en3⟩ := h3
      rw [e] at hf
      exact ⟨xs.length - (i + 1), by have := (List.getElem?_eq_some_iff.mp hv).1; omega, i + 1, ρ1, H1, η3, rfl, a2.stepS x3 i3 en3 tk3, rfl, x2.trans x3, I.keep r' x3 a2.fok.frm, hf⟩
    | ret mv =>
      obtain ⟨v', H1, e, P⟩ := h3
      rw [e] at hf
      exact ⟨v', H1, hf.symm, P.trans (s := s0) x2 fun _ _ q => q⟩
    | _ => exact h3
  · rw [drop_end hv, forL, if_pos ck] at hf
    have a2 : At κ η ρ H { s with heap := h', toks := s.toks } := t.at a hb (I.recs r)
    show OutS κ η0 s0 res .next { s with heap := h' }
    rw [es]
    exact ⟨ρ, H, hf.symm, η, h', s.toks, rfl, a2.inv, t.step x h0n, a2.fok, a2.rho⟩
  · cases o with
    | none => exact wpAny_pure (hR .next _ h2)
    | some v =>
      refine monoN h2 fun _ s3 h3 => monoN h3 fun _ s4 h4 => monoN h4 fun f s5 h5 => ?_
      cases f with
      | next => exact h5
      | ret mv => exact hR _ _ h5
      | _ => exact h5.elim
end
end Mine

/-! JZ -/
namespace Mine
open PySem PyProof.Rows PySem.W

section
variable {prog : Program} {w : World} {A : Around} {E : Value → Shared → Prop} {s : Shared}
theorem nextOf_tup {it t : Addr} {i : Nat} {items : Array Value} {x : Value} {Q : Value → Shared → Prop} (hit : s.heap.IsTupleIter it t i) (ht : s.heap.IsTuple t items) (hx : items[i]? = some x)
    (hQ : ∀ h', h'.IsTupleIter it t (i + 1) → Heap.SameBut it s.heap h' → Q x { s with heap := h' }) : wpAny (model prog w) A (Builtin.SmallTypes.nextOf (.ref it)) Q E s := by
  obtain ⟨o, ho, hc, hd⟩ := id hit
  obtain ⟨ol, hol, _, nl, hdl⟩ := ht
  unfold Builtin.SmallTypes.nextOf
  refine wpAny_bind (wpAny_callSpecial?_slot (name := Str.ofString "__next__") hit.typeIs F.slot_tuple_iterator_next (wpAny_call_entry F.slot_tuple_iterator_next hit.typeIs F.entry_tuple_iterator_next ?_ (F.args_tuple_iterator_next_1 _)))
  show wpAny _ _ (field (.ref it) 0 >>= _) _ _ s
  refine wpAny_bind (wpAny_field ho hd (x := .ref t) rfl ?_)
  show wpAny _ _ (if (Value.ref t == Value.none) = true then _ else _) _ _ s
  rw [if_neg (show ¬ ((Value.ref t == Value.none) = true) from Bool.false_ne_true)]
  show wpAny _ _ (field (.ref it) 1 >>= _) _ _ s
  refine wpAny_bind (wpAny_field ho hd (x := .int i 0) rfl ?_)
  show wpAny _ _ (seqItems? (.ref t) >>= _) _ _ s
  refine wpAny_bind (wpAny_seqItems hol hdl ?_)
  simp only [Int.toNat_natCast, hx]
  refine wpAny_bind (wpAny_setField ho hd (by simp) (wpAny_pure ⟨x, rfl, wpAny_pure (hQ _ ⟨_, Heap.get?_update_self _ ho (Obj.isFreed_of_fields (Obj.data_mapFields hd _)), (Obj.cls_mapFields ..).trans hc, ?_⟩ (Heap.SameBut.update ..))⟩))
  rw [Obj.data_mapFields hd]
  simp [rawInt]

structure ZipAt (h : Heap) (z TI TO i1 i2 l t : Addr) (i : Nat) (xs ys : Array Value) : Prop where
  pz : IsZip h z TI TO .none
  pTI : IsPair h TI (.ref i1) (.ref i2)
  pTO : ∃ a b, IsPair h TO a b
  p1 : h.IsListIter i1 l i
  p2 : h.IsTupleIter i2 t i
  pl : h.IsList l xs
  pt : h.IsTuple t ys
  a1 : TO ≠ TI
  a2 : t ≠ TO

theorem ne_cls {h : Heap} {a b : Addr} {o p : Obj} {T T' : String} (e : h.get? a = some o) (e' : h.get? b = some p) (c : o.cls = .type T) (c' : p.cls = .type T') (q : T ≠ T') : a ≠ b := fun z => by
  subst z; rw [e] at e'; cases e'; rw [c] at c'; exact q (Value.type.inj c')

structure ZipNe (z TI TO i1 i2 l t : Addr) : Prop where
  TIz : TI ≠ z
  TOz : TO ≠ z
  i1z : i1 ≠ z
  i2z : i2 ≠ z
  TOi1 : TO ≠ i1
  TOi2 : TO ≠ i2
  i12 : i1 ≠ i2
  lz : l ≠ z
  ti1 : t ≠ i1
  tz : t ≠ z
theorem ZipAt.ne {h : Heap} {z TI TO i1 i2 l t : Addr} {i : Nat} {xs ys : Array Value} (Z : ZipAt h z TI TO i1 i2 l t i xs ys) : ZipNe z TI TO i1 i2 l t := by
  obtain ⟨hz, hTI, ⟨a, b, hTO⟩, ⟨o1, g1, c1, d1⟩, ⟨o2, g2, c2, d2⟩, ⟨ol, gl, cl, nl, dl⟩, ⟨ot, gt, ct, nt, dt⟩, a1, a2⟩ := Z
  exact ⟨ne_cls hTI hz rfl rfl (by decide), ne_cls hTO hz rfl rfl (by decide), ne_cls g1 hz c1 rfl (by decide), ne_cls g2 hz c2 rfl (by decide), ne_cls hTO g1 rfl c1 (by decide), ne_cls hTO g2 rfl c2 (by decide), ne_cls g1 g2 c1 c2 (by decide), ne_cls gl hz cl rfl (by decide), ne_cls gt g1 ct c1 (by decide), ne_cls gt hz ct rfl (by decide)⟩

theorem zip_open {z TI TO i1 i2 : Addr} {a b : Value} {Q : PySem.Fin → Shared → Prop} (hz : IsZip s.heap z TI TO .none) (hTI : IsPair s.heap TI (.ref i1) (.ref i2))
    (h : ∀ h1, IsZip h1 z TI TO .ellipsis → Heap.SameBut z s.heap h1 → wpAny (model prog w) A (Builtin.SmallTypes.nextOf (.ref i1)) (fun v1 s2 => ∃ p q, IsPair s2.heap TO p q ∧ ∀ h3, IsPair h3 TO v1 q → Heap.SameBut TO s2.heap h3 →
      wpAny (model prog w) A (Builtin.SmallTypes.nextOf (.ref i2)) (fun v2 s4 => ∃ p' q', IsPair s4.heap TO p' q' ∧ ∀ h5, IsPair h5 TO p' v2 → Heap.SameBut TO s4.heap h5 → IsZip h5 z TI TO .ellipsis ∧
        ∀ h8, IsZip h8 z TI TO (rawInt h5.objs.size) → (∀ c o, c ≠ z → (h5.push { cls := .type "tuple", data := .seq #[p', v2] }).get? c = some o → h8.get? c = some o) → h8.objs.size = h5.objs.size + 1 → Q (.done (.ret (.ref h5.objs.size))) { s4 with heap := h8 })
        (fun e s4 => IsZip s4.heap z TI TO .ellipsis ∧ ∀ h5, Heap.SameBut z s4.heap h5 → E e { s4 with heap := h5 }) { s2 with heap := h3 })
      (fun e s2 => IsZip s2.heap z TI TO .ellipsis ∧ ∀ h3, Heap.SameBut z s2.heap h3 → E e { s2 with heap := h3 }) { s with heap := h1 }) :
    wpAny (model prog w) A (Builtin.«zip.__next__» ⟨[.ref z], []⟩) Q E s := by
  show wpAny _ _ (field (.ref z) 2 >>= _) _ _ _
  refine wpAny_bind (wpAny_field hz rfl (x := .bool false) rfl ?_)
  show wpAny _ _ (field (.ref z) 3 >>= _) _ _ _
  refine wpAny_bind (wpAny_field hz rfl (x := .ref TI) rfl (wpAny_bind (wpAny_seqItems hTI rfl ?_)))
  show wpAny _ _ (Builtin.SmallTypes.ownedTupleIsFree (.ref z) >>= _) _ _ _
  refine wpAny_bind ?_
  unfold Builtin.SmallTypes.ownedTupleIsFree
  refine wpAny_bind (wpAny_field hz rfl (x := .none) rfl (wpAny_pure ?_))
  simp only [if_true]
  refine wpAny_bind (wpAny_rule (wpAny_bind (wpAny_field hz rfl (x := .ref TO) rfl (wpAny_bind (wpAny_setField_rec hz (by simp) fun h₁ hz₁ hs₁ => wpAny_bind ?_)))))
  replace hz₁ : IsZip h₁ z TI TO .ellipsis := hz₁
  simp only [List.zipIdx_cons, List.zipIdx_nil, List.forIn_cons, List.forIn_nil]
  refine wpAny_bind (wpAny_bind (wpAny_onRaise ?_))
  show wpAny _ _ (Builtin.SmallTypes.nextOf (.ref i1) >>= _) _ _ _
  refine wpAny_bind (wpAny_mono (h h₁ hz₁ hs₁) (fun v1 s2 ⟨p, q, hp, k⟩ => wpAny_pure ?_) fun e s2 ⟨hz2, k⟩ => wpAny_setField_rec hz2 (by simp) fun h3 _ hs3 => k h3 hs3)
  refine wpAny_bind (wpAny_seqItems hp rfl (wpAny_bind (wpAny_updateSeq_pair hp fun h₃ hTO₃ hs₃ => wpAny_bind (wpAny_letGo (wpAny_pure ?_)))))
  refine wpAny_bind (wpAny_bind (wpAny_onRaise ?_))
  show wpAny _ _ (Builtin.SmallTypes.nextOf (.ref i2) >>= _) _ _ _
  refine wpAny_bind (wpAny_mono (k h₃ hTO₃ hs₃) (fun v2 s4 ⟨p', q', hp', k⟩ => wpAny_pure ?_) fun e s2 ⟨hz2, k⟩ => wpAny_setField_rec hz2 (by simp) fun h3 _ hs3 => k h3 hs3)
  refine wpAny_bind (wpAny_seqItems hp' rfl (wpAny_bind (wpAny_updateSeq_pair hp' fun h₅ hTO₅ hs₅ => wpAny_bind (wpAny_letGo (wpAny_pure (wpAny_pure ?_))))))
  replace hTO₅ : IsPair h₅ TO p' v2 := hTO₅
  refine wpAny_bind (wpAny_seqItems hTO₅ rfl (wpAny_bind (wpAny_newTuple ?_)))
  obtain ⟨hz₅, k⟩ := k h₅ hTO₅ hs₅
  show wpAny _ _ (Builtin.SmallTypes.ownedTupleHandOut (.ref z) (.ref h₅.objs.size) >>= _) _ _ _
  refine wpAny_bind ?_
  unfold Builtin.SmallTypes.ownedTupleHandOut
  have hz₆ : IsZip (h₅.push { cls := .type "tuple", data := .seq #[p', v2] }) z TI TO .ellipsis := Heap.get?_push_of_some _ hz₅
  refine wpAny_bind (wpAny_setField_rec hz₆ (by simp) fun h₇ hz₇ hs₇ => ?_)
  replace hz₇ : IsZip h₇ z TI TO (rawInt h₅.objs.size) := hz₇
  refine wpAny_setField_rec hz₇ (by simp) fun h₈ hz₈ hs₈ => wpAny_pure (k h₈ hz₈ (fun c o hc e => hs₈.extBut _ _ hc (hs₇.extBut _ _ hc e)) (by rw [hs₈.1, hs₇.1, Heap.size_push]))

theorem keep_lit {h h' : Heap} {a l : Addr} {i : Nat} (x : h.IsListIter a l i) (k : ∀ o, h.get? a = some o → h'.get? a = some o) : h'.IsListIter a l i := let ⟨o, g, r⟩ := x; ⟨o, k o g, r⟩
theorem keep_tit {h h' : Heap} {a l : Addr} {i : Nat} (x : h.IsTupleIter a l i) (k : ∀ o, h.get? a = some o → h'.get? a = some o) : h'.IsTupleIter a l i := let ⟨o, g, r⟩ := x; ⟨o, k o g, r⟩
theorem keep_tup {h h' : Heap} {a : Addr} {xs : Array Value} (x : h.IsTuple a xs) (k : ∀ o, h.get? a = some o → h'.get? a = some o) : h'.IsTuple a xs := let ⟨o, g, r⟩ := x; ⟨o, k o g, r⟩
theorem keep_lst {h h' : Heap} {a : Addr} {xs : Array Value} (x : h.IsList a xs) (k : ∀ o, h.get? a = some o → h'.get? a = some o) : h'.IsList a xs := let ⟨o, g, r⟩ := x; ⟨o, k o g, r⟩

theorem zip_item {z TI TO i1 i2 l t : Addr} {i : Nat} {xs ys : Array Value} {x y : Value} {Q : Option Value → Shared → Prop} (Z : ZipAt s.heap z TI TO i1 i2 l t i xs ys) (hl : l ≠ i1 ∧ l ≠ i2 ∧ l ≠ TO) (hx : xs[i]? = some x) (hy : ys[i]? = some y)
    (hQ : ∀ h' T, s.heap.get? T = Option.none → IsZip h' z TI TO (rawInt T) → IsPair h' TO x y → h'.IsListIter i1 l (i + 1) → h'.IsTupleIter i2 t (i + 1) → IsPair h' T x y →
      (∀ c o, c ∉ [z, i1, i2, TO] → s.heap.get? c = some o → h'.get? c = some o) → Q (some (.ref T)) { s with heap := h' }) : wpAny (model prog w) A (pyNext (.ref z)) Q E s := by
  have N := Z.ne
  obtain ⟨hz, hTI, ⟨a, b, hTO⟩, h1, h2, hL, hT, a1, a2⟩ := Z
  have hty : s.TypeIs (.ref z) "zip" := ⟨_, hz, rfl⟩
  unfold pyNext
  refine wpAny_bind (wpAny_attempt (wpAny_callSpecial?_slot (name := Str.ofString "__next__") hty F.slot_zip_next (wpAny_call_entry F.slot_zip_next hty F.entry_zip_next ?_ (F.args_zip_next_1 _))))
  refine zip_open (a := a) (b := b) hz hTI fun g1 z1 s1 => ?_
  refine wpAny_nextOf_list_item (keep_lit h1 fun o e => (s1.2 _ N.i1z).trans e) (keep_lst hL fun o e => (s1.2 _ N.lz).trans e) hx fun g2 j1 s2 => ?_
  refine ⟨a, b, (s2.2 _ N.TOi1).trans ((s1.2 _ N.TOz).trans hTO), fun g3 p3 s3 => ?_⟩
  have k3 : ∀ c o, c ≠ z → c ≠ i1 → c ≠ TO → s.heap.get? c = some o → g3.get? c = some o := fun c o c1 c2 c3 e => (s3.2 c c3).trans ((s2.2 c c2).trans ((s1.2 c c1).trans e))
  refine nextOf_tup (s := { s with heap := g3 }) (keep_tit h2 fun o e => k3 _ o N.i2z N.i12.symm N.TOi2.symm e) (keep_tup hT fun o e => k3 _ o N.tz N.ti1 a2 e) hy fun g4 j2 s4 => ?_
  refine ⟨x, b, (s4.2 _ N.TOi2).trans p3, fun g5 p5 s5 => ⟨(s5.2 _ N.TOz.symm).trans ((s4.2 _ N.i2z.symm).trans ((s3.2 _ N.TOz.symm).trans ((s2.2 _ N.i1z.symm).trans z1))), fun g8 z8 k8 sz => ?_⟩⟩
  have ez : g5.objs.size = s.heap.objs.size := by
    have e1 : g1.objs.size = s.heap.objs.size := s1.1
    have e2 : g2.objs.size = g1.objs.size := s2.1
    have e3 : g3.objs.size = g2.objs.size := s3.1
    have e4 : g4.objs.size = g3.objs.size := s4.1
    have e5 : g5.objs.size = g4.objs.size := s5.1
    omega
  have up : ∀ c o, c ≠ z → g5.get? c = some o → g8.get? c = some o := fun c o hc e => k8 c o hc (push_keeps _ _ _ _ e)
  have nT : s.heap.get? g5.objs.size = Option.none := by rw [ez]; exact size_none _
  refine ⟨_, rfl, wpAny_pure (hQ g8 g5.objs.size nT z8 (up _ _ N.TOz p5) ?_ ?_ ?_ fun c o hc e => ?_)⟩
  · refine keep_lit j1 fun o e => up _ o N.i1z ((s5.2 _ N.TOi1.symm).trans ((s4.2 _ N.i12).trans ((s3.2 _ N.TOi1.symm).trans e)))
  · refine keep_tit j2 fun o e => up _ o N.i2z ((s5.2 _ N.TOi2.symm).trans e)
  · exact k8 _ _ (fun q => by rw [q, hz] at nT; cases nT) (Heap.get?_push_size _ rfl)
  · simp only [List.mem_cons, List.not_mem_nil, or_false, not_or] at hc
    exact up c o hc.1 ((s5.2 _ hc.2.2.2).trans ((s4.2 _ hc.2.2.1).trans (k3 c o hc.1 hc.2.1 hc.2.2.2 e)))

theorem zip_end {z TI TO i1 i2 l t : Addr} {i : Nat} {xs ys : Array Value} {Q : Option Value → Shared → Prop} (hh : A.handled = Option.none) (Z : ZipAt s.heap z TI TO i1 i2 l t i xs ys) (hx : xs[i]? = Option.none)
    (hQ : ∀ h', (∀ c o, c ∉ [z, i1, i2, TO] → s.heap.get? c = some o → h'.get? c = some o) → (∃ a b, IsPair h' TO a b) → Q Option.none { s with heap := h' }) : wpAny (model prog w) A (pyNext (.ref z)) Q E s := by
  have N := Z.ne
  obtain ⟨hz, hTI, ⟨a, b, hTO⟩, h1, h2, hL, hT, a1, a2⟩ := Z
  have hty : s.TypeIs (.ref z) "zip" := ⟨_, hz, rfl⟩
  unfold pyNext
  refine wpAny_bind (wpAny_attempt (wpAny_callSpecial?_slot (name := Str.ofString "__next__") hty F.slot_zip_next (wpAny_call_entry F.slot_zip_next hty F.entry_zip_next ?_ (F.args_zip_next_1 _))))
  refine zip_open (a := a) (b := b) hz hTI fun g1 z1 s1 => ?_
  refine wpAny_nextOf_list_end (A := A.in1) hh (keep_lit h1 fun o e => (s1.2 _ N.i1z).trans e) (keep_lst hL fun o e => (s1.2 _ N.lz).trans e) hx fun g2 e s2 ⟨oe, ge, ce⟩ => ⟨s2 _ _ N.i1z.symm z1, fun g3 s3 => ?_⟩
  have z2 : IsZip g2 z TI TO .ellipsis := s2 _ _ N.i1z.symm z1
  have ez : e ≠ z := fun q => by exact ne_cls ge z2 ce rfl (by decide) q
  refine wpAny_bind (wpAny_isInstance (T := "StopIteration") (b := true) ⟨oe, (s3.2 _ ez).trans ge, ce⟩ isSubtype_stop (wpAny_pure (hQ g3 (fun c o hc e => ?_) ⟨a, b, (s3.2 _ N.TOz).trans (s2 _ _ N.TOi1 ((s1.2 _ N.TOz).trans hTO))⟩)))
  simp only [List.mem_cons, List.not_mem_nil, or_false, not_or] at hc
  exact (s3.2 _ hc.1).trans (s2 _ _ hc.2.1 ((s1.2 _ hc.1).trans e))
end
end Mine

/-! JY -/
namespace Mine
open PySem PyProof.Rows PySem.W

theorem meets_zip_lt (l t : Addr) (xs ys : Array Value) :
    Meets (Builtin.«zip.__new__» ⟨[.type "zip", .ref l, .ref t], []⟩) (fun _ R s => s.heap.IsList l xs ∧ s.heap.IsTuple t ys ∧
      ∀ h', ZipAt h' (s.heap.objs.size + 4) (s.heap.objs.size + 2) (s.heap.objs.size + 3) s.heap.objs.size (s.heap.objs.size + 1) l t 0 xs ys → (∀ c o, s.heap.get? c = some o → h'.get? c = some o) → R (.ok (.ret (.ref (s.heap.objs.size + 4)))) { s with heap := h' }) :=
  .of_wp fun prog w A R s h => by
    obtain ⟨hp, g, d, tk, os⟩ := s
    obtain ⟨hl1, ht, h⟩ := h
    have hsub := sub_zip
    have hL1 : Heap.IsList (Shared.heap ⟨hp, g, d, tk, os⟩) l xs := hl1
    have hL2 : Heap.IsTuple (Shared.heap ⟨hp.push { cls := .type "list_iterator", data := .fields #[.ref l, .int 0 0] }, g, d, tk, os⟩) t ys := keep_tup ht fun o e => push_keeps _ _ _ _ e
    wp_walk using wpAny_pyIter_list hL1, wpAny_pyIter_tuple hL2
    refine ⟨_, rfl, ?_⟩
    dsimp only at h ⊢
    have z1 : ∀ (h : Heap) (o : Obj), (h.push o).objs.size = h.objs.size + 1 := fun h o => Heap.size_push ..
    simp only [z1] at h ⊢
    have e1 : ∀ (h : Heap) (o : Obj) (n : Nat), n = h.objs.size → o.isFreed = false → (h.push o).get? n = some o := fun h o n e f => by subst e; exact Heap.get?_push_size _ f
    refine h _ ⟨?_, ?_, ⟨.none, .none, ?_⟩, ⟨{ cls := .type "list_iterator", data := .fields #[.ref l, .int 0 0] }, ?_, rfl, rfl⟩, ⟨{ cls := .type "tuple_iterator", data := .fields #[.ref t, .int 0 0] }, ?_, rfl, rfl⟩, ?_, ?_, Nat.succ_ne_self _, ?_⟩ fun c o x => push_keeps _ _ _ _ (push_keeps _ _ _ _ (push_keeps _ _ _ _ (push_keeps _ _ _ _ (push_keeps _ _ _ _ x))))
    · exact e1 _ _ _ (by simp only [z1]) rfl
    · exact push_keeps _ _ _ _ (push_keeps _ _ _ _ (e1 _ _ _ (by simp only [z1]) rfl))
    · exact push_keeps _ _ _ _ (e1 _ _ _ (by simp only [z1]) rfl)
    · exact push_keeps _ _ _ _ (push_keeps _ _ _ _ (push_keeps _ _ _ _ (push_keeps _ _ _ _ (e1 _ _ _ rfl rfl))))
    · exact push_keeps _ _ _ _ (push_keeps _ _ _ _ (push_keeps _ _ _ _ (e1 _ _ _ (by simp only [z1]) rfl)))
    · exact keep_lst hl1 fun o x => push_keeps _ _ _ _ (push_keeps _ _ _ _ (push_keeps _ _ _ _ (push_keeps _ _ _ _ (push_keeps _ _ _ _ x))))
    · exact keep_tup ht fun o x => push_keeps _ _ _ _ (push_keeps _ _ _ _ (push_keeps _ _ _ _ (push_keeps _ _ _ _ (push_keeps _ _ _ _ x))))
    · obtain ⟨o, e, _⟩ := ht
      exact Nat.ne_of_lt (Nat.lt_of_lt_of_le (Heap.lt_size e) (Nat.le_add_right _ _))

theorem call_zip_lt {prog : Program} {w : World} {A : Around} {E : Value → Shared → Prop} {s : Shared} {l t : Addr} {xs ys : Array Value} {Q : Value → Shared → Prop} (hl : s.heap.IsList l xs) (ht : s.heap.IsTuple t ys)
    (h : ∀ h', ZipAt h' (s.heap.objs.size + 4) (s.heap.objs.size + 2) (s.heap.objs.size + 3) s.heap.objs.size (s.heap.objs.size + 1) l t 0 xs ys → (∀ c o, s.heap.get? c = some o → h'.get? c = some o) → Q (.ref (s.heap.objs.size + 4)) { s with heap := h' }) :
    wpAny (model prog w) A (PySem.call (.type "zip") [.ref l, .ref t]) Q E s :=
  callType_new F.called_zip (by decide) (F.typeCall_zip_2 _ _) (F.newCall_zip_2 _ _) (fun obj => F.args_object_init_3 obj _ _) F.entry_zip_new (meets_zip_lt l t xs ys) ⟨hl, ht, fun h' Z kp => ⟨⟨_, Z.pz, rfl⟩, h h' Z kp⟩⟩

section
variable {κ : Ct}
inductive ZJ (X : Cx) (z TI TO i1 i2 l t : Addr) (n k : Nat) (ysV : List V) (i : Nat) (η : List Addr) (h : Heap) : Prop
  | mk (ys : Array Value) (c : Nat) (pz : IsZip h z TI TO .none) (pTI : IsPair h TI (.ref i1) (.ref i2)) (p1 : h.IsListIter i1 l i) (p2 : h.IsTupleIter i2 t i) (pt : h.get? t = some { cls := .type "tuple", data := .seq ys c }) (vr : VRs X η h ysV ys.toList)
    (oz : z ∉ η) (oTI : TI ∉ η) (o1 : i1 ∉ η) (o2 : i2 ∉ η) (ot : t ∉ η) (en : η[n]? = some l) (ek : η[k]? = some TO) : ZJ X z TI TO i1 i2 l t n k ysV i η h

theorem pairsZ_get {xs ys : List V} (hlen : xs.length = ys.length) {i : Nat} : (∃ x y, xs[i]? = some x ∧ ys[i]? = some y ∧ (pairsZ xs ys)[i]? = some (.tup [x, y])) ∨ (xs[i]? = Option.none ∧ (pairsZ xs ys)[i]? = Option.none) := by
  unfold pairsZ
  cases hx : xs[i]? with
  | none =>
    refine .inr ⟨rfl, ?_⟩
    rw [List.getElem?_map, List.getElem?_eq_none_iff.mpr, Option.map_none]
    rw [List.getElem?_eq_none_iff] at hx
    rw [List.length_zip]; omega
  | some x =>
    obtain ⟨h1, e1⟩ := List.getElem?_eq_some_iff.mp hx
    have h2 : i < ys.length := by omega
    refine .inl ⟨x, ys[i], rfl, List.getElem?_eq_getElem h2, ?_⟩
    rw [List.getElem?_map, List.getElem?_eq_getElem (by rw [List.length_zip]; omega), List.getElem_zip, e1]; rfl

theorem mem4 {a b c d x : Addr} : x ∈ [a, b, c, d] ↔ x = a ∨ x = b ∨ x = c ∨ x = d := by simp

theorem Iter.zip {z TI TO i1 i2 l t : Addr} {n k : Nat} {xs ys : List V} {es : List Expr} {q : Nat} {pos : Pos} {chk : Hp → Bool} (hlen : xs.length = ys.length) (hchk : ∀ H, chk H = true → H[n]? = some (.list xs) ∧ H[k]? = some .own) :
    Iter κ (.Tuple es q pos) z [z, i1, i2, TO] (pairsZ xs ys) chk (ZJ κ.X z TI TO i1 i2 l t n k ys) where
  recs := fun ⟨_, _, pz, _, ⟨a1, b1, _, d1⟩, ⟨a2, b2, _, d2⟩, _, _, _, _, _, _, _, _, ek⟩ b hb => by
    rcases mem4.mp hb with rfl | rfl | rfl | rfl
    · exact .inr ⟨_, _, pz, rfl⟩
    · exact .inr ⟨a1, _, b1, d1⟩
    · exact .inr ⟨a2, _, b2, d2⟩
    · exact .inl (List.mem_of_getElem? ek)
  keep := fun {i η h η' h'} ⟨ysA, c, pz, pTI, p1, p2, pt, vr, oz, oTI, o1, o2, ot, en, ek⟩ x f => by
    have hd := x.holds f
    have rec' : ∀ {b : Addr} {o : Obj} {fs : Array Value}, h.get? b = some o → o.data = .fields fs → b ∉ η → h'.get? b = some o := fun {b o fs} e d hb => x.same b o e hb (f.not e ⟨fun _ _ z => (by rw [d] at z; cases z), fun _ z => (by rw [d] at z; cases z)⟩)
    obtain ⟨a1, b1, c1, d1⟩ := p1
    obtain ⟨a2, b2, c2, d2⟩ := p2
    obtain ⟨l', rfl, _⟩ := id x.pre
    exact ⟨ysA, c, rec' pz rfl oz, (hd _ _ pTI oTI (.inl ⟨_, _, rfl⟩)).1, ⟨a1, rec' b1 d1 o1, c1, d1⟩, ⟨a2, rec' b2 d2 o2, c2, d2⟩, (hd _ _ pt ot (.inl ⟨_, _, rfl⟩)).1, vr.map x.pre' hd, x.mem pz oz, x.mem pTI oTI, x.mem b1 o1, x.mem b2 o2, x.mem pt ot, getElem?_pre en, getElem?_pre ek⟩
  next := fun {i η H s Q} r iv hh hc h1 h2 => by
    obtain ⟨ysA, c, pz, pTI, p1, p2, pt, vr, oz, oTI, o1, o2, ot, en, ek⟩ := r
    obtain ⟨hn, hk⟩ := hchk H hc
    obtain ⟨items, m, g, vx, le⟩ := list_of_H iv en hn
    obtain ⟨ob, gO, rO⟩ := iv.objs k TO _ ek hk
    cases rO with
    | own =>
      rename_i a b
      have lη : l ∈ η := List.mem_of_getElem? en
      have Oη : TO ∈ η := List.mem_of_getElem? ek
      have Z : ZipAt s.heap z TI TO i1 i2 l t i items ysA := ⟨pz, pTI, ⟨a, b, gO⟩, p1, p2, ⟨_, g, rfl, m, rfl⟩, ⟨_, pt, rfl, c, rfl⟩, fun q => oTI (q ▸ Oη), fun q => ot (q ▸ Oη)⟩
      have turn : ∀ h', (∀ c o, c ∉ [z, i1, i2, TO] → s.heap.get? c = some o → h'.get? c = some o) → (∃ x y, IsPair h' TO x y) → Turn [z, i1, i2, TO] η H s.heap h' := fun h' kp ⟨x, y, e⟩ => ⟨kp, fun b hb => by
        obtain ⟨a1, b1, c1, d1⟩ := p1
        obtain ⟨a2, b2, c2, d2⟩ := p2
        rcases mem4.mp hb with rfl | rfl | rfl | rfl
        · exact .inl ⟨oz, _, pz, .inl ⟨_, _, rfl, rfl, by decide⟩⟩
        · exact .inl ⟨o1, _, b1, .inl ⟨_, _, c1, d1, by decide⟩⟩
        · exact .inl ⟨o2, _, b2, .inl ⟨_, _, c2, d2, by decide⟩⟩
        · exact .inr ⟨k, x, y, ek, hk, e⟩⟩
      rcases pairsZ_get hlen (i := i) with ⟨x, y, ex, ey, ep⟩ | ⟨ex, ep⟩
      · obtain ⟨mx, emx, rx⟩ := vx.get ex
        obtain ⟨my, emy, ry⟩ := vr.get ey
        refine zip_item Z ⟨fun q => o1 (q ▸ lη), fun q => o2 (q ▸ lη), ne_cls g gO rfl rfl (by decide)⟩ (by simpa using emx) (by simpa using emy) fun h' T nT z' pO j1 j2 pT kp => ?_
        have oT : T ∉ η := fun q => by obtain ⟨o, e⟩ := iv.alive q; rw [nT] at e; cases e
        have N := Z.ne
        refine wpAny_letOwnedTupleGo_zip (s := { s with heap := h' }) z' fun h2 z2 s2 => ?_
        have nz : ∀ {c : Addr} {o : Obj}, c ≠ z → h'.get? c = some o → h2.get? c = some o := fun hc e => (s2.2 _ hc).trans e
        have t2 : Turn [z, i1, i2, TO] η H s.heap h2 := turn h2 (fun c o hc e => nz (fun q => hc (mem4.mpr (.inl q))) (kp c o hc e)) ⟨_, _, nz N.TOz pO⟩
        refine h1 (.tup [x, y]) _ h2 s.toks ep t2 (.tup (nz (fun q => by rw [q, pz] at nT; cases nT) pT) oT (.cons (t2.vr rx) (.cons (t2.vr ry) .nil)) (by show 2 ≤ line; decide)) ?_
        have off : ∀ {c : Addr} {o : Obj}, c ∉ η → c ≠ z → c ≠ i1 → c ≠ i2 → s.heap.get? c = some o → h2.get? c = some o := fun hη q1 q2 q3 e => t2.keep _ _ (fun q => (mem4.mp q).elim q1 fun q => q.elim q2 fun q => q.elim q3 fun q => hη (q ▸ Oη)) e
        obtain ⟨a1, b1, c1, d1⟩ := p1
        obtain ⟨a2, b2, c2, d2⟩ := p2
        exact ⟨ysA, c, z2, off oTI N.TIz (ne_cls pTI b1 rfl c1 (by decide)) (ne_cls pTI b2 rfl c2 (by decide)) pTI, keep_lit j1 fun o e => nz N.i1z e, keep_tit j2 fun o e => nz N.i2z e, off ot N.tz N.ti1 (ne_cls pt b2 rfl c2 (by decide)) pt, t2.vrs vr, oz, oTI, o1, o2, ot, en, ek⟩
      · refine zip_end hh Z ?_ fun h' kp e => h2 h' ep (turn h' kp e)
        rw [List.getElem?_eq_none_iff] at ex
        rw [Array.getElem?_eq_none_iff, vx.size]; exact ex
end
end Mine

/-! J12 -/
namespace Mine
open PySem PyProof.Rows PySem.W

noncomputable def noTup : Expr → Bool
  | .Tuple .. => false
  | _ => true
theorem swapped_no {es : List Expr} {k : Nat} {p : Pos} {e : Expr} {env : Env} (h : noTup e = true) : swappedStores [.Tuple es k p] e env = pure Option.none := by
  cases e <;> first | rfl | cases h

noncomputable def onSAssign (e : Stmt) (f : List Expr → Expr → Pos → Bool) : Bool := match e with
  | .Assign ts v p => f ts v p
  | _ => false
theorem onSAssign_inv {e : Stmt} {f : List Expr → Expr → Pos → Bool} (h : onSAssign e f = true) : ∃ ts v p, e = .Assign ts v p ∧ f ts v p = true := by
  cases e with
  | Assign ts v p => exact ⟨ts, v, p, rfl, h⟩
  | _ => exact ff h
noncomputable def onSReturn (e : Stmt) (f : Option Expr → Pos → Bool) : Bool := match e with
  | .Return x p => f x p
  | _ => false
theorem onSReturn_inv {e : Stmt} {f : Option Expr → Pos → Bool} (h : onSReturn e f = true) : ∃ x p, e = .Return x p ∧ f x p = true := by
  cases e with
  | Return x p => exact ⟨x, p, rfl, h⟩
  | _ => exact ff h
noncomputable def onSIf (e : Stmt) (f : Expr → List Stmt → List Stmt → Pos → Bool) : Bool := match e with
  | .If t a b p => f t a b p
  | _ => false
theorem onSIf_inv {e : Stmt} {f : Expr → List Stmt → List Stmt → Pos → Bool} (h : onSIf e f = true) : ∃ t a b p, e = .If t a b p ∧ f t a b p = true := by
  cases e with
  | If t a b p => exact ⟨t, a, b, p, rfl, h⟩
  | _ => exact ff h
noncomputable def onSFor (e : Stmt) (f : Expr → Expr → List Stmt → List Stmt → Pos → Bool) : Bool := match e with
  | .For t i b els p => f t i b els p
  | _ => false
theorem onSFor_inv {e : Stmt} {f : Expr → Expr → List Stmt → List Stmt → Pos → Bool} (h : onSFor e f = true) : ∃ t i b els p, e = .For t i b els p ∧ f t i b els p = true := by
  cases e with
  | For t i b els p => exact ⟨t, i, b, els, p, rfl, h⟩
  | _ => exact ff h
noncomputable def onSExpr (e : Stmt) (f : Expr → Pos → Bool) : Bool := match e with
  | .Expr v p => f v p
  | _ => false
theorem onSExpr_inv {e : Stmt} {f : Expr → Pos → Bool} (h : onSExpr e f = true) : ∃ v p, e = .Expr v p ∧ f v p = true := by
  cases e with
  | Expr v p => exact ⟨v, p, rfl, h⟩
  | _ => exact ff h
noncomputable def onSWhile (e : Stmt) (f : Expr → List Stmt → List Stmt → Pos → Bool) : Bool := match e with
  | .While t b els p => f t b els p
  | _ => false
theorem onSWhile_inv {e : Stmt} {f : Expr → List Stmt → List Stmt → Pos → Bool} (h : onSWhile e f = true) : ∃ t b els p, e = .While t b els p ∧ f t b els p = true := by
  cases e with
  | While t b els p => exact ⟨t, b, els, p, rfl, h⟩
  | _ => exact ff h
mutual
noncomputable def isS (kn : String → Bool) (sc : Scope) : S → Stmt → Bool
  | .asg x c, s => onSAssign s fun ts v _ => one ts (fun t => sName sc x t && (isE kn sc c v && noComp v))
  | .unpack xs c, s => onSAssign s fun ts v _ => one ts (fun t => onTuple t fun es _ _ => sNames sc xs es) && (isE kn sc c v && (noComp v && noTup v))
  | .setattr o a c, s => onSAssign s fun ts v _ => one ts (fun t => onAttribute t fun o' nm _ => nm == Str.ofString a && isE kn sc o o') && (isE kn sc c v && (noComp v && attrName a))
  | .ret c, s => onSReturn s fun e _ => someE e (isE kn sc c)
  | .iff t a b, s => onSIf s fun t' a' b' _ => isE kn sc t t' && (isSs kn sc a a' && isSs kn sc b b')
  | .for1 x c b, s => onSFor s fun t e b' els _ => els.isEmpty && (sName sc x t && (isE kn sc c e && (noSet e && isSs kn sc b b')))
  | .forT xs c b, s => onSFor s fun t e b' els _ => els.isEmpty && (onTuple t (fun es _ _ => sNames sc xs es) && (isE kn sc c e && (noSet e && isSs kn sc b b')))
  | .forZ xs cs b, s => onSFor s fun t e b' els _ => els.isEmpty && (onTuple t (fun es _ _ => sNames sc xs es) && (onCall e (fun fn args kws _ => kws.isEmpty && (gName kn sc "zip" fn && isEs kn sc cs args)) && isSs kn sc b b'))
  | .whil t b, s => onSWhile s fun t' b' els _ => els.isEmpty && (isE kn sc t t' && isSs kn sc b b')
  | .expr c, s => onSExpr s fun e _ => isE kn sc c e && noComp e
  | .stop, _ => true
noncomputable def isSs (kn : String → Bool) (sc : Scope) : List S → List Stmt → Bool
  | [], l => match l with | [] => true | _ => false
  | c :: cs, l => match l with | s :: ss => isS kn sc c s && isSs kn sc cs ss | [] => false
end
theorem isSs_cons {kn : String → Bool} {sc : Scope} {c : S} {cs : List S} {e : Stmt} {es : List Stmt} : isSs kn sc (c :: cs) (e :: es) = (isS kn sc c e && isSs kn sc cs es) := rfl
theorem isSs_nil {kn : String → Bool} {sc : Scope} {c : S} {cs : List S} : isSs kn sc (c :: cs) [] = false := rfl

section
variable {κ : Ct} {η : List Addr} {ρ : Rho} {H : Hp} {s : Shared}
theorem let_list {elts : List Expr} {x1 : Nat} {pos : Pos} {it l : Addr} {i : Nat} {mv : Value} {Q : Unit → Shared → Prop} (hit : s.heap.IsListIter it l i) (hQ : Q () s) : wpAny κ.X.M κ.A (letOwnedTupleGo (.Tuple elts x1 pos) (.ref it) mv) Q noE s := by
  cases mv with
  | ref T => exact wpAny_letOwnedTupleGo_listiter hit hQ
  | _ => exact wpAny_pure hQ

theorem forV_ok {target : Expr} {body' : List Stmt} {bodyF : V → Rho → Hp → RS} {v : V} {mv : Value} {R : Result → Shared → Prop} (a : At κ η ρ H s) (rv : VR κ.X η s.heap v mv) (hne : forV bodyF v ρ H ≠ .stuck)
    (turnOK : ∀ v mv ρ H, bodyF v ρ H ≠ .stuck → ∀ η s, At κ η ρ H s → VR κ.X η s.heap v mv → wpAny κ.X.M κ.A (assign target κ.env mv) (fun _ s2 => wpAny κ.X.M κ.A (execs body' κ.env) (OutS κ η s (bodyF v ρ H)) noE s2) noE s)
    (hlet : ∀ {it xs i η s mv} {Q : Unit → Shared → Prop}, ItR κ.X η s.heap it v xs i → Q () s → wpAny κ.X.M κ.A (letOwnedTupleGo target (.ref it) mv) Q noE s)
    (hR : ∀ f s', OutS κ η s (forV bodyF v ρ H) f s' → R (.ok f) s') : wpAny κ.X.M κ.A (pyIter mv) (fun it s2 => codeAny κ.X.M κ.A (.forLoop target it body' [] κ.env) R s2) noE s := by
  unfold forV at hne hR
  cases hi : items H v with
  | none => rw [hi] at hne; exact absurd rfl hne
  | some xs =>
    rw [hi] at hne hR
    dsimp only at hne hR
    refine iter_ok a.inv rv hi fun ob r => ?_
    have kp := push_keeps s.heap ob
    have st := Step.ext (ownOf κ.env) η kp
    exact for_core (s0 := s) (η0 := η) turnOK (Iter.plain (fun H hck n hn => by subst hn; exact same_list hi hck) hlet) a (one_none (size_none _)) (a.step (Step.ext _ _ kp) (a.inv.ext kp) s.toks) rfl st ⟨r, a.inv.size_off⟩ hne hR

theorem turn_unpack {xs : List String} {es : List Expr} {k : Nat} {pos : Pos} {body' : List Stmt} {bodyF : Rho → Hp → RS} {v : V} {mv : Value} (hx : sNames κ.env.scope xs es = true) (hb : ∀ ρ H, TriS κ [] (execs body' κ.env) ρ H (bodyF ρ H))
    (hne : unpackV xs v ρ H (fun ρ2 => bodyF ρ2 H) ≠ .stuck) (a : At κ η ρ H s) (rv : VR κ.X η s.heap v mv) :
    wpAny κ.X.M κ.A (assign (.Tuple es k pos) κ.env mv) (fun _ s2 => wpAny κ.X.M κ.A (execs body' κ.env) (OutS κ η s (unpackV xs v ρ H fun ρ2 => bodyF ρ2 H)) noE s2) noE s := by
  unfold unpackV at hne ⊢
  cases hp : partsV v H with
  | none => rw [hp] at hne; exact absurd rfl hne
  | some ws =>
    rw [hp] at hne
    dsimp only at hne ⊢
    cases hset : setAll xs ws ρ with
    | none => rw [hset] at hne; exact absurd rfl hne
    | some ρ' =>
      rw [hset] at hne
      exact unpack_ok hx hp hset rv a fun h2 tk2 x2 i2 en2 => monoN (hb ρ' H hne η _ (a.stepS x2 i2 en2 tk2) fun _ q => nomatch q) fun f s3 h3 => h3.after x2

theorem forZ_core {es : List Expr} {q : Nat} {tp : Pos} {body' : List Stmt} {bodyF : V → Rho → Hp → RS} {v : V} {xs ys : List V} {mv mw : Value} {R : Result → Shared → Prop} (a : At κ η ρ H s) (rv : VR κ.X η s.heap v mv) (rw' : VR κ.X η s.heap (.tup ys) mw) (hxs : listAt v H = some xs) (hL : xs.length = ys.length)
    (turnOK : ∀ v mv ρ H, bodyF v ρ H ≠ .stuck → ∀ η s, At κ η ρ H s → VR κ.X η s.heap v mv → wpAny κ.X.M κ.A (assign (.Tuple es q tp) κ.env mv) (fun _ s2 => wpAny κ.X.M κ.A (execs body' κ.env) (OutS κ η s (bodyF v ρ H)) noE s2) noE s)
    (hne : forL bodyF (fun H' => sameO v H H' && isOwn H'[H.length]?) (pairsZ xs ys) ρ (H ++ [.own]) ≠ .stuck) (hR : ∀ f s', OutS κ η s (forL bodyF (fun H' => sameO v H H' && isOwn H'[H.length]?) (pairsZ xs ys) ρ (H ++ [.own])) f s' → R (.ok f) s') :
    wpAny κ.X.M κ.A (PySem.call (.type "zip") [mv, mw]) (fun z s1 => wpAny κ.X.M κ.A (pyIter z) (fun it s2 => codeAny κ.X.M κ.A (.forLoop (.Tuple es q tp) it body' [] κ.env) R s2) noE s1) noE s := by
  obtain ⟨l, items, c, rfl, g, r, le⟩ := vr_list a.inv rv hxs
  obtain ⟨n, rfl, hn⟩ := listAt_inv hxs
  cases rv with
  | ref en =>
    cases rw' with
    | @tup t itemsT kT _ gt nt rt lt =>
      refine call_zip_lt ⟨_, g, rfl, c, rfl⟩ ⟨_, gt, rfl, kT, rfl⟩ fun h2 Z kp => wpAny_pyIter_zip Z.pz ?_
      obtain ⟨aO, bO, gO⟩ := Z.pTO
      have new : ∀ k, s.heap.get? (s.heap.objs.size + k) = Option.none := fun k => by
        cases e : s.heap.get? (s.heap.objs.size + k) with
        | none => rfl
        | some o => exact absurd (Heap.lt_size e) (Nat.not_lt.mpr (Nat.le_add_right _ _))
      have off : ∀ k, s.heap.objs.size + k ∉ η := fun k q => by obtain ⟨o, e⟩ := a.inv.alive q; rw [new] at e; cases e
      have i2 : Inv κ.X (η ++ [s.heap.objs.size + 3]) (H ++ [.own]) h2 := a.inv.make kp (new 3) gO .own
      have st2 : Step [] η s.heap (η ++ [s.heap.objs.size + 3]) h2 := Step.make _ _ kp (new 3)
      have off2 : ∀ k, k ≠ 3 → s.heap.objs.size + k ∉ η ++ [s.heap.objs.size + 3] := fun k hk q => by
        rcases List.mem_append.mp q with q | q
        · exact off k q
        · exact hk (Nat.add_left_cancel (List.mem_singleton.mp q))
      refine for_core (s0 := s) (η0 := η) turnOK (Iter.zip (TI := s.heap.objs.size + 2) (TO := s.heap.objs.size + 3) (i1 := s.heap.objs.size) (i2 := s.heap.objs.size + 1) (l := l) (t := t) (n := n) (k := H.length) hL fun H' hc => ?_) a (fun b hb => ?_) (a.step st2 i2 s.toks) rfl st2.up
        ⟨itemsT, kT, Z.pz, Z.pTI, Z.p1, Z.p2, kp _ _ gt, rt.up st2, off2 4 (by decide), off2 2 (by decide), off2 0 (by decide), off2 1 (by decide), st2.mem gt nt, getElem?_pre en, by rw [← a.inv.len]; simp⟩ hne hR
      · rw [Bool.and_eq_true] at hc
        refine ⟨same_list (show Mine.items H (.ref n) = some xs from hxs) hc.1, ?_⟩
        cases e : H'[H.length]? with
        | none => rw [e] at hc; cases hc.2
        | some o => cases o <;> first | rfl | (rw [e] at hc; cases hc.2)
      · rcases mem4.mp hb with rfl | rfl | rfl | rfl
        · exact new 4
        · exact new 0
        · exact new 1
        · exact new 3

theorem forZ_ok {es : List Expr} {q : Nat} {tp pos cp pn : Pos} {args' : List Expr} {cs : List E} {body' : List Stmt} {bodyF : V → Rho → Hp → RS} (S : SoundFn κ.X κ.n κ.Γ) (hg : gName κ.X.kn κ.env.scope "zip" (.Name (Str.ofString "zip") pn) = true) (ha : isEs κ.X.kn κ.env.scope cs args' = true)
    (turnOK : ∀ v mv ρ H, bodyF v ρ H ≠ .stuck → ∀ η s, At κ η ρ H s → VR κ.X η s.heap v mv → wpAny κ.X.M κ.A (assign (.Tuple es q tp) κ.env mv) (fun _ s2 => wpAny κ.X.M κ.A (execs body' κ.env) (OutS κ η s (bodyF v ρ H)) noE s2) noE s) :
    TriS κ [] (exec (.For (.Tuple es q tp) (.Call (.Name (Str.ofString "zip") pn) args' [] cp) body' [] pos) κ.env) ρ H (ofR (evEs κ.Γ ρ cs H) fun vs H1 => forZ bodyF vs ρ H1) := by
  intro hne η s a hv
  obtain ⟨pf, e, hg1, hd1, hk⟩ := gName_inv hg
  cases e
  have hl : Loads κ.X.mg κ.X.mb "zip" (.type "zip") := .inr (κ.X.bi _ _ rfl hk)
  have hr : evEs κ.Γ ρ cs H ≠ .stuck := fun q => hne (by rw [q]; rfl)
  refine wpAny_For ?_ fun _ => rfl
  show wpAny _ _ (eval (.Name (Str.ofString "zip") pn) κ.env >>= fun g => PySem.callWith cp g [] (backTo cp (starEach args' κ.env)) []) _ _ s
  refine wpAny_bind (wpAny_glob a rfl hg1 hd1 hl ?_)
  refine callWith_of (P := fun h => ∀ b o, κ.X.base.get? b = some o → h.get? b = some o) (by rw [any_plain ha]; rfl) (κ.X.kp "zip" _ hk hl) ?_
  refine monoN (Tri.args (any_plain ha) (evEs_ok cs args' κ ρ H cp S ha) hr η s a hv) fun ar s1 hx => ?_
  obtain ⟨ws, H1, e1, ⟨hlen, hkw⟩, η1, h1', tk1, rfl, i1, st1, p1⟩ := hx
  refine ⟨i1.keep, ?_⟩
  rw [hkw]
  have a1 := a.step st1 i1 tk1
  rw [e1] at hne ⊢
  have hne : forZ bodyF ws ρ H1 ≠ .stuck := hne
  generalize hpos : ar.pos = ms at hlen p1 ⊢
  have out : ∀ {f s'}, OutS κ η1 { s with heap := h1', toks := tk1 } (forZ bodyF ws ρ H1) f s' → OutS κ η s (forZ bodyF ws ρ H1) f s' := fun o => o.after st1.up
  cases ws with
  | nil => exact absurd rfl hne
  | cons v ws =>
    cases ws with
    | nil => exact absurd rfl hne
    | cons w ws =>
      cases ws with
      | cons => exact absurd rfl hne
      | nil =>
        obtain ⟨mv, mw, rfl⟩ := two_of (v := v) (w := w) hlen
        unfold forZ at hne
        dsimp only at hne
        cases hxs : listAt v H1 with
        | none => rw [hxs] at hne; exact absurd rfl hne
        | some xs =>
          rw [hxs] at hne
          cases w with
          | tup ys =>
            dsimp only at hne
            by_cases hL : xs.length = ys.length
            · have er : forZ bodyF [v, .tup ys] ρ H1 = forL bodyF (fun H' => sameO v H1 H' && isOwn H'[H1.length]?) (pairsZ xs ys) ρ (H1 ++ [.own]) := by
                unfold forZ; dsimp only; rw [hxs]; exact if_pos hL
              rw [if_pos hL] at hne
              exact forZ_core a1 (p1 (v, mv) (List.Mem.head _)) (p1 (.tup ys, mw) (List.Mem.tail _ (List.Mem.head _))) hxs hL turnOK hne fun f s' o => out (by rw [er]; exact o)
            · rw [if_neg hL] at hne; exact absurd rfl hne
          | _ => exact absurd rfl hne

inductive WhI (κ : Ct) (η0 : List Addr) (s0 : Shared) (F : Nat → Rho → Hp → Prop) (m : Nat) (s : Shared) : Prop
  | mk (ρ : Rho) (H : Hp) (η : List Addr) (a : At κ η ρ H s) (es : s = { s0 with heap := s.heap, toks := s.toks }) (x : Step (ownOf κ.env) η0 s0.heap η s.heap) (hf : F m ρ H) : WhI κ η0 s0 F m s
theorem while_ok {test : Expr} {body' : List Stmt} {pos : Pos} {tF : Rho → Hp → R Bool} {bF : Rho → Hp → RS} {n : Nat} (h1 : ∀ ρ H, Tri κ ρ [] (isTrue test κ.env (eval test κ.env)) H (tF ρ H) rB) (h2 : ∀ ρ H, TriS κ [] (execs body' κ.env) ρ H (bF ρ H)) :
    TriS κ [] (exec (.While test body' [] pos) κ.env) ρ H (whileL tF bF n ρ H) := by
  intro hne η0 s0 a0 _
  generalize hres : whileL tF bF n ρ H = res at hne ⊢
  refine wpAny_While (codeAny_whileLoop (I := WhI κ η0 s0 (fun m ρ H => whileL tF bF m ρ H = res)) (fun m s hI => ?_) n ⟨ρ, H, η0, a0, rfl, Step.refl _ _ _, hres⟩)
  obtain ⟨ρ, H, η, a, es, x, hf⟩ := hI
  cases m with
  | zero => exact absurd hf.symm hne
  | succ m =>
    rw [whileL] at hf
    have hr : tF ρ H ≠ .stuck := fun q => by rw [q] at hf; exact hne hf.symm
    refine monoN (h1 ρ H hr η s a fun _ q => nomatch q) fun b s2 hb => ?_
    obtain ⟨c, H1, e1, hrel, η1, h1', tk1, rfl, i1, st1, _⟩ := hb
    have hc : b = c := hrel
    subst hc
    rw [e1] at hf
    have a1 := a.step st1 i1 tk1
    have x1 := x.trans st1.up
    cases b with
    | false =>
      have hf : RS.next ρ H1 = res := hf
      show wpAny _ _ (execs [] κ.env) _ _ _
      refine wpAny_pure ?_
      show OutS κ η0 s0 res .next _
      rw [es]
      exact ⟨ρ, H1, hf.symm, η1, h1', tk1, rfl, i1, x1, a1.fok, a1.rho⟩
    | true =>
      have hf : (bF ρ H1).bind (fun ρ1 H2 => whileL tF bF m ρ1 H2) = res := hf
      have hb : bF ρ H1 ≠ .stuck := fun q => by rw [q] at hf; exact hne hf.symm
      rw [if_pos rfl]
      refine monoN (h2 ρ H1 hb η1 _ a1 fun _ q => nomatch q) fun f s3 h3 => ?_
      rw [es] at h3 a1
      cases f with
      | next =>
        obtain ⟨ρ1, H2, e, η3, h3', tk3, rfl, i3, x3, en3⟩ := h3
        rw [e] at hf
        exact ⟨m, Nat.lt_succ_self _, ρ1, H2, η3, a1.stepS x3 i3 en3 tk3, rfl, x1.trans x3, hf⟩
      | ret mv =>
        obtain ⟨v, H2, e, P⟩ := h3
        rw [e] at hf
        exact ⟨v, H2, hf.symm, P.trans (s := s0) x1 fun _ _ q => q⟩
      | _ => exact False.elim h3
end

mutual
theorem exS_ok : ∀ (c : S) (sm : Stmt) (κ : Ct) (ρ : Rho) (H : Hp), SoundFn κ.X κ.n κ.Γ → isS κ.X.kn κ.env.scope c sm = true → TriS κ [] (exec sm κ.env) ρ H (exS κ.Γ c ρ H)
  | .asg x c, sm, κ, ρ, H, S, h => by
    obtain ⟨ts, v, pos, rfl, g1⟩ := onSAssign_inv h
    obtain ⟨t, rfl, g2⟩ := one_inv g1
    obtain ⟨pt, rfl, hx⟩ := sName_inv (and_inv g2).1
    obtain ⟨h2, h3⟩ := and_inv (and_inv g2).2
    rw [exS_asg, exec_Assign_Name κ.env _ _ _ _ (swaps_no h3)]
    exact TriS.stand (TriS.expr (evE_ok c v κ ρ H S h2) fun w H1 mw _ _ => TriS.stand (TriS.store m0 hx TriS.next))
  | .unpack xs c, sm, κ, ρ, H, S, h => by
    obtain ⟨ts, v, pos, rfl, g1⟩ := onSAssign_inv h
    obtain ⟨g0, g2⟩ := and_inv g1
    obtain ⟨t, rfl, h1⟩ := one_inv g0
    obtain ⟨es, k, q, rfl, hx⟩ := onTuple_inv h1
    obtain ⟨h2, g3⟩ := and_inv g2
    obtain ⟨h3, h4⟩ := and_inv g3
    rw [exS_unpack]
    refine TriS.via (fun Q s q _ => Assign_Tuple q (by unfold swapsWithSole; exact swaps_no h3) (swapped_no h4)) (evE_ok c v κ ρ H S h2) fun w H1 mw _ _ hs η s Q a hv hq => ?_
    unfold unpackV at hs hq
    cases hp : partsV w H1 with
    | none => rw [hp] at hs; exact absurd rfl hs
    | some ws =>
      rw [hp] at hs hq
      dsimp only at hs hq
      cases hset : setAll xs ws ρ with
      | none => rw [hset] at hs; exact absurd rfl hs
      | some ρ' =>
        rw [hset] at hq
        exact unpack_ok hx hp hset (hv _ m0) a fun h2 tk2 x2 i2 en2 => hq .next _ ⟨ρ', H1, rfl, η, h2, tk2, rfl, i2, x2, en2⟩
  | .setattr o a c, sm, κ, ρ, H, S, h => by
    obtain ⟨ts, v, pos, rfl, g1⟩ := onSAssign_inv h
    obtain ⟨g0, g2⟩ := and_inv g1
    obtain ⟨t, rfl, h1⟩ := one_inv g0
    obtain ⟨o', nm, q, rfl, g3⟩ := onAttribute_inv h1
    obtain ⟨h2, g4⟩ := and_inv g2
    obtain ⟨h3, h4⟩ := and_inv g4
    rw [exS_setattr, plainObj_exec_Assign_Attribute _ _ _ _ _ (swaps_no h3)]
    refine TriS.stand (TriS.expr (evE_ok c v κ ρ H S h2) fun w H1 mw _ _ => ?_)
    rw [beq_iff_eq.mp (and_inv g3).1, assign_Attribute]
    simp only [bind_assoc]
    refine TriS.expr (Tri.holding ((evE_ok o o' κ ρ H1 S (and_inv g3).2).any)) fun u H2 mu _ _ => TriS.stand ?_
    refine TriS.expr (Tri.holding (set_ok m0 (m1 m0) h4)) fun _ H3 _ _ _ => ?_
    exact TriS.skip (a₀ := ()) (fun Q E s q Γ' p _ => by show Sem.wp _ _ (release _ _) _ _ _ _; unfold release; rw [Sem.wp_release_go]; exact q) TriS.next
  | .ret c, sm, κ, ρ, H, S, h => by
    obtain ⟨e, pos, rfl, g1⟩ := onSReturn_inv h
    obtain ⟨e, rfl, h1⟩ := someE_inv g1
    rw [exec_Return_some, exS_ret]
    exact TriS.stand (TriS.expr (evE_ok c e κ ρ H S h1) fun w H1 mw _ _ => TriS.ret m0)
  | .iff t a b, sm, κ, ρ, H, S, h => by
    obtain ⟨t', a', b', pos, rfl, g1⟩ := onSIf_inv h
    obtain ⟨h1, g2⟩ := and_inv g1
    obtain ⟨h2, h3⟩ := and_inv g2
    rw [exS_iff, exec_If]
    refine TriS.stand (TriS.expr (testE_ok t t' κ ρ H S h1) fun c H1 c' _ hc => ?_)
    have hc' : c' = c := hc
    subst hc'
    cases c' with
    | true => exact (exSs_ok a a' κ ρ H1 S h2).any
    | false => exact (exSs_ok b b' κ ρ H1 S h3).any
  | .for1 x c b, sm, κ, ρ, H, S, h => by
    obtain ⟨t, e, b', els, pos, rfl, g1⟩ := onSFor_inv h
    obtain ⟨h0, g2⟩ := and_inv g1
    obtain ⟨h1, g3⟩ := and_inv g2
    obtain ⟨h2, g4⟩ := and_inv g3
    obtain ⟨h3, h4⟩ := and_inv g4
    obtain ⟨pt, rfl, hx⟩ := sName_inv h1
    rw [List.isEmpty_iff.mp h0, exS_for1]
    refine TriS.via (fun Q s q _ => wpAny_For q (folded_no h3)) (evE_ok c e κ ρ H S h2) fun v H1 mv _ _ hs η s Q a hv hq => ?_
    exact forV_ok a (hv _ m0) hs (fun v mv ρ H hb η s a rv => wpAny_assign_Name (wpAny_store a hx rv fun h2 tk2 x2 i2 en2 => monoN (exSs_ok b b' κ (setL x v ρ) H S h4 hb η _ (a.stepS x2 i2 en2 tk2) fun _ q => nomatch q) fun f s3 h3 => h3.after x2))
      (fun _ q => wpAny_pure q) hq
  | .forT xs c b, sm, κ, ρ, H, S, h => by
    obtain ⟨t, e, b', els, pos, rfl, g1⟩ := onSFor_inv h
    obtain ⟨h0, g2⟩ := and_inv g1
    obtain ⟨h1, g3⟩ := and_inv g2
    obtain ⟨h2, g4⟩ := and_inv g3
    obtain ⟨h3, h4⟩ := and_inv g4
    obtain ⟨es, k, q, rfl, hx⟩ := onTuple_inv h1
    rw [List.isEmpty_iff.mp h0, exS_forT]
    refine TriS.via (fun Q s q _ => wpAny_For q (folded_no h3)) (evE_ok c e κ ρ H S h2) fun v H1 mv _ _ hs η s Q a hv hq => ?_
    unfold forVL at hs hq
    cases hl : listAt v H1 with
    | none => rw [hl] at hs; exact absurd rfl hs
    | some ys =>
      rw [hl] at hs hq
      obtain ⟨n, rfl, _⟩ := listAt_inv hl
      exact forV_ok a (hv _ m0) hs (fun v mv ρ H hb η s a rv => turn_unpack hx (fun ρ H => exSs_ok b b' κ ρ H S h4) hb a rv) (fun r q => by cases r with | list _ hit => exact let_list hit q) hq
  | .forZ xs cs b, sm, κ, ρ, H, S, h => by
    obtain ⟨t, e, b', els, pos, rfl, g1⟩ := onSFor_inv h
    obtain ⟨h0, g2⟩ := and_inv g1
    obtain ⟨h1, g3⟩ := and_inv g2
    obtain ⟨h2, h4⟩ := and_inv g3
    obtain ⟨es, k, q, rfl, hx⟩ := onTuple_inv h1
    obtain ⟨fn, args, kws, cp, rfl, g5⟩ := onCall_inv h2
    obtain ⟨h5, g6⟩ := and_inv g5
    obtain ⟨h6, h7⟩ := and_inv g6
    obtain ⟨pn, rfl, _⟩ := gName_inv h6
    rw [List.isEmpty_iff.mp h0, List.isEmpty_iff.mp h5, exS_forZ]
    exact forZ_ok S h6 h7 fun v mv ρ H hb η s a rv => turn_unpack hx (fun ρ H => exSs_ok b b' κ ρ H S h4) hb a rv
  | .whil t b, sm, κ, ρ, H, S, h => by
    obtain ⟨t', b', els, pos, rfl, g1⟩ := onSWhile_inv h
    obtain ⟨h0, g2⟩ := and_inv g1
    obtain ⟨h1, h2⟩ := and_inv g2
    rw [List.isEmpty_iff.mp h0, exS_whil]
    exact while_ok (fun ρ H => testE_ok t t' κ ρ H S h1) fun ρ H => exSs_ok b b' κ ρ H S h2
  | .expr c, sm, κ, ρ, H, S, h => by
    obtain ⟨e, pos, rfl, g1⟩ := onSExpr_inv h
    obtain ⟨h1, h2⟩ := and_inv g1
    rw [exS_expr]
    exact TriS.via (fun Q s q hk => wpAny_Expr_any q (by unfold interactive; rw [hk]; rfl) (swaps_no h2)) (evE_ok c e κ ρ H S h1) fun w H1 mw _ _ hs η s Q a hv hq => hq .next s (nextS a)
  | .stop, _, _, _, _, _, _ => TriS.stuck
theorem exSs_ok : ∀ (cs : List S) (sms : List Stmt) (κ : Ct) (ρ : Rho) (H : Hp), SoundFn κ.X κ.n κ.Γ → isSs κ.X.kn κ.env.scope cs sms = true → TriS κ [] (execs sms κ.env) ρ H (exSs κ.Γ cs ρ H)
  | [], sms, κ, ρ, H, S, h => by
    cases sms with
    | nil => exact TriS.next
    | cons => cases h
  | c :: cs, sms, κ, ρ, H, S, h => by
    cases sms with
    | nil => cases h
    | cons sm sms =>
      obtain ⟨h1, h2⟩ := and_inv h
      rw [exSs_cons]
      exact TriS.seq (exS_ok c sm κ ρ H S h1) fun ρ1 H1 e => exSs_ok cs sms κ ρ1 H1 S h2
end
end Mine

/-! J14 -/
namespace Mine
open PySem PyProof.Rows PySem.W

theorem bindL_at (kd : Str → Option NameKind) : ∀ (bs : List (Str × Value)) (m : Str → Option Value) (x : Str), (bs.map (·.1)).Nodup → kd x = some .local →
    bindL kd bs m x = match bs.lookup x with | some v => some v | none => m x
  | [], m, x, _, _ => rfl
  | (n, v) :: r, m, x, hn, hk => by
    rw [List.map_cons, List.nodup_cons] at hn
    rw [bindL, bindL_at kd r _ x hn.2 hk, List.lookup_cons]
    by_cases hx : x = n
    · subst hx
      have : r.lookup x = none := by
        cases e : r.lookup x with
        | none => rfl
        | some w => exact absurd (List.mem_map.mpr ⟨(x, w), lookup_mem e, rfl⟩) hn.1
      rw [this, if_pos hk]; simp
    · have hb : (x == n) = false := by simpa using hx
      rw [hb]
      have e : (if kd n = some NameKind.local then fun y => if y = n then some v else m y else m) x = m x := by split <;> simp [hx]
      rw [e]

theorem bindC_at (kd : Str → Option NameKind) : ∀ (bs : List (Str × Value)) (m : Str → Option Value) (x : Str), (bs.map (·.1)).Nodup → kd x = some .cell →
    bindC kd bs m x = match bs.lookup x with | some v => some v | none => m x
  | [], m, x, _, _ => rfl
  | (n, v) :: r, m, x, hn, hk => by
    rw [List.map_cons, List.nodup_cons] at hn
    rw [bindC, bindC_at kd r _ x hn.2 hk, List.lookup_cons]
    by_cases hx : x = n
    · subst hx
      have : r.lookup x = none := by
        cases e : r.lookup x with
        | none => rfl
        | some w => exact absurd (List.mem_map.mpr ⟨(x, w), lookup_mem e, rfl⟩) hn.1
      rw [this, if_neg (by rw [hk]; intro q; cases q)]; simp
    · have hb : (x == n) = false := by simpa using hx
      rw [hb]
      have e : (if kd n = some NameKind.local then m else fun y => if y = n then some v else m y) x = m x := by split <;> simp [hx]
      rw [e]

theorem setAll_lookup : ∀ (xs : List String) (ws : List V) (ρ ρ' : Rho), setAll xs ws ρ = some ρ' → xs.Nodup → xs.length = ws.length ∧ ∀ y v, ρ'.lookup y = some v → (∃ j : Nat, xs[j]? = some y ∧ ws[j]? = some v) ∨ ρ.lookup y = some v
  | [], [], ρ, ρ', e, _ => by cases e; exact ⟨rfl, fun y v h => .inr h⟩
  | [], _ :: _, _, _, e, _ => by cases e
  | _ :: _, [], _, _, e, _ => by cases e
  | x :: xs, w :: ws, ρ, ρ', e, hn => by
    rw [List.nodup_cons] at hn
    obtain ⟨hl, h⟩ := setAll_lookup xs ws (setL x w ρ) ρ' e hn.2
    refine ⟨by rw [List.length_cons, List.length_cons, hl], fun y v hy => ?_⟩
    rcases h y v hy with ⟨j, h1, h2⟩ | h1
    · exact .inl ⟨j + 1, h1, h2⟩
    · rw [lookup_setL] at h1
      split at h1
      · rename_i hyx
        cases h1
        exact .inl ⟨0, by rw [hyx]; rfl, rfl⟩
      · exact .inr h1

theorem zip_lookup {xs : List String} {ms : List Value} (hn : xs.Nodup) : ∀ {j : Nat} {y : String} {m : Value}, xs[j]? = some y → ms[j]? = some m → ((xs.map Str.ofString).zip ms).lookup (Str.ofString y) = some m := by
  induction xs generalizing ms with
  | nil => intro j y m h; simp at h
  | cons x xs ih =>
    intro j y m h1 h2
    rw [List.nodup_cons] at hn
    cases ms with
    | nil => simp at h2
    | cons m0 ms =>
      rw [List.map_cons, List.zip_cons_cons, List.lookup_cons]
      cases j with
      | zero => cases h1; cases h2; simp
      | succ j =>
        have hyx : Str.ofString y ≠ Str.ofString x := fun q => hn.1 (ofString_inj q ▸ List.mem_of_getElem? h1)
        have hb : (Str.ofString y == Str.ofString x) = false := by simpa using hyx
        rw [hb]
        exact ih hn.2 h1 h2

theorem VRs.get' {X : Cx} {η : List Addr} {h : Heap} : ∀ {vs : List V} {ms : List Value} (_ : VRs X η h vs ms) {j : Nat} {v : V}, vs[j]? = some v → ∃ m, ms[j]? = some m ∧ VR X η h v m := VRs.get

theorem Step.leave {own η η' : List Addr} {h h1 h' : Heap} (k : ∀ b o, h.get? b = some o → h1.get? b = some o) (x : Step own η h1 η' h') (ho : ∀ b ∈ own, h.get? b = Option.none) : Step [] η h η' h' := by
  have no : ∀ b o, h.get? b = some o → b ∉ own := fun b o e q => by rw [ho b q] at e; cases e
  refine ⟨?_, fun b o e => x.alive b o (k b o e), fun b o e hb _ => x.same b o (k b o e) hb (no b o e), fun b o e hb es n d => x.dicts b o (k b o e) hb es n d, fun b o e hb v d => x.cells b o (k b o e) hb v d⟩
  obtain ⟨l, e, hl⟩ := x.pre
  refine ⟨l, e, fun a ha => ?_⟩
  cases q : h.get? a with
  | none => rfl
  | some o => have := hl a ha; rw [k a o q] at this; cases this

structure DefAt (X : Cx) (d : Def) (a : Addr) (body : List Stmt) (scope : Scope) : Prop where
  obj : ∃ o fd, X.base.get? a = some o ∧ o.data = .func fd ∧ fd.body = .stmts body ∧ fd.scope = scope ∧ fd.globals = mainGlobals ∧ fd.closure = [] ∧ fd.builtins = builtinsNs ∧ X.base.CodeRec fd.code fd.qualname ∧
    ∀ ms : List Value, ms.length = d.params.length → bindArgs fd ⟨ms, []⟩ = pure ((d.params.map Str.ofString).zip ms)
  bodyOk : isSs X.kn scope d.body body = true
  kind : scope.kind = .function
  gen : scope.isGenerator = false
  co : scope.isCoroutine = false
  st : (d.params.all fun x => isSt scope (Str.ofString x)) = true
  nodup : d.params.Nodup
  cells : ((cellsFrom 0 scope.names []).map (·.1)).Nodup

noncomputable def RunOK (X : Cx) (n : Nat) (fv : Value) (ws : List V) (H : Hp) (r : R V) : Prop :=
  ∀ (A : Around) (st : List Env) (η : List Addr) (s : Shared) (ms : List Value), A.depth + 1 + 2 * n < recursionLimit → A.units + 3 + 8 * n + 300 < cLine → A.handled = Option.none → Inv X η H s.heap → Stk X η A st s.heap →
    ws.length = ms.length → (∀ p ∈ ws.zip ms, VR X η s.heap p.1 p.2) →
    codeAny X.M A (.call fv ⟨ms, []⟩) (fun res s' => match res with
      | .ok (.ret mv) => RetAt X η s r mv s'
      | .ok _ => False
      | .error _ => False) s

theorem pairwise_snd {l : List (Str × Addr)} (h : l.Pairwise fun x y => x.2 ≠ y.2) {a b : Str} {c d : Addr} (ha : (a, c) ∈ l) (hb : (b, d) ∈ l) (hab : a ≠ b) : c ≠ d := by
  induction l with
  | nil => cases ha
  | cons p l ih =>
    rw [List.pairwise_cons] at h
    rcases List.mem_cons.mp ha with e | ha2
    · subst e
      rcases List.mem_cons.mp hb with hb | hb
      · injection hb with h1 h2; exact absurd h1.symm hab
      · exact h.1 _ hb
    · rcases List.mem_cons.mp hb with e | hb2
      · subst e; exact (h.1 _ ha2).symm
      · exact ih h.2 ha2 hb2
theorem nodup_map_inj {α β : Type} {f : α → β} (hf : ∀ a b, f a = f b → a = b) : ∀ {l : List α}, l.Nodup → (l.map f).Nodup
  | [], _ => List.nodup_nil
  | a :: l, h => by
    rw [List.nodup_cons] at h
    rw [List.map_cons, List.nodup_cons]
    refine ⟨fun q => ?_, nodup_map_inj hf h.2⟩
    obtain ⟨b, hb, e⟩ := List.mem_map.mp q
    exact h.1 (hf _ _ e ▸ hb)

theorem head_frs {env : Env} {outer : List Env} {L : Addr} (h : env.frame = some L) : frs (env :: outer) = L :: frs outer := by unfold frs; rw [List.filterMap_cons, h]

section
variable {X : Cx} {n : Nat} {Γ : Fn}

theorem run_of_def {d : Def} {a : Addr} {body : List Stmt} {scope : Scope} {ws : List V} {H : Hp} (D : DefAt X d a body scope) (S : SoundFn X n Γ)
    (hs : runDef Γ d ws H ≠ .stuck) : RunOK X n (.ref a) ws H (runDef Γ d ws H) := by
  obtain ⟨o, fd, ho, hdat, hbody, hscope, hglob, hclos, hblt, hcd, hbind⟩ := D.obj
  intro A st η s ms rdep runi hh inv stk hl hv
  cases hρ : setAll d.params ws [] with
  | none => unfold runDef at hs; rw [hρ] at hs; exact absurd rfl hs
  | some ρ =>
    obtain ⟨hlen, hlook⟩ := setAll_lookup _ _ _ _ hρ D.nodup
    have hrun : runDef Γ d ws H = match exSs Γ d.body ρ H with | .next _ H1 => .ok .none H1 | .ret v H1 => .ok v H1 | _ => .stuck := by unfold runDef; rw [hρ]; try rfl
    have hkind : ∀ n, ∀ x ∈ (d.params.map Str.ofString).zip ms, scope.names.lookup x.1 = some .local ∨ (scope.names.lookup x.1 = some .cell ∧ ((cellsFrom n scope.names []).lookup x.1).isSome = true) := by
      intro n x hx
      obtain ⟨y, hy, hyx⟩ := List.mem_map.mp (List.of_mem_zip (show (x.1, x.2) ∈ _ from hx)).1
      have := List.all_eq_true.mp D.st y hy
      rw [hyx] at this
      unfold isSt at this
      split at this
      · exact .inl ‹_›
      · exact .inr ⟨‹_›, cellsFrom_some _ _ _ (.inl ‹_›)⟩
      · cases this
    refine codeAny_call_function (by omega) (inv.keep _ _ ho) hdat (hscope ▸ D.co) (hscope ▸ D.gen) hbody (hcd.keeps inv.keep) ?_
    rw [hbind ms (by rw [← hl, hlen]), hscope, hglob, hclos, hblt]
    refine wpAny_pure (wpAny_newFunctionEnv_cells D.kind (hkind _) fun env he s1 x => ?_)
    have keep := x.toInCall.keep
    obtain ⟨h1, tk, hs1⟩ := x.toInCall.same
    have hsz : env.locals = s.heap.objs.size := by rw [he]; rfl
    refine ⟨((X.nolimit.keeps inv.keep)).keeps keep, codeAny_func ?_⟩
    have hfr : env.frame = some s.heap.objs.size := by rw [he]; rfl
    have hcs : env.cells = cellsFrom (s.heap.objs.size + 1) scope.names [] := by rw [he]; rfl
    have hsc : env.scope = scope := by rw [he]; rfl
    have hko : ∀ y, env.kindOf y = scope.names.lookup y := fun y => by unfold Env.kindOf; rw [hsc]
    have ndc : (env.cells.map (·.1)).Nodup := by rw [hcs]; exact cellsFrom_names scope.names 0 (s.heap.objs.size + 1) [] [] rfl ▸ D.cells
    have look : ∀ p ∈ env.cells, env.cells.lookup p.1 = some p.2 := fun p hp => lookup_of_mem_nodup ndc hp
    have newAddr : ∀ b ∈ ownOf env, s.heap.objs.size ≤ b := fun b hb => by
      rcases List.mem_cons.mp hb with rfl | hb
      · exact Nat.le_of_eq hsz.symm
      · obtain ⟨p, hp, rfl⟩ := List.mem_map.mp hb
        have := x.above p.1 p.2 hp
        rw [hsz] at this
        exact Nat.le_of_lt this
    have ownNone : ∀ b ∈ ownOf env, s.heap.get? b = Option.none := fun b hb => by
      cases e : s.heap.get? b with
      | none => rfl
      | some o => exact absurd (Heap.lt_size e) (Nat.not_lt.mpr (newAddr b hb))
    have ownOff : ∀ b ∈ ownOf env, b ∉ η ∧ X.base.get? b = Option.none := fun b hb => by
      refine ⟨fun q => ?_, ?_⟩
      · obtain ⟨ob, e⟩ := inv.alive q
        rw [ownNone b hb] at e; cases e
      · cases e : X.base.get? b with
        | none => rfl
        | some o => have := inv.keep _ _ e; rw [ownNone b hb] at this; cases this
    have i1 : Inv X η H s1.heap := inv.ext keep
    have fok : FrameOK X η s1.heap env := by
      refine ⟨by rw [hsc]; exact D.kind, by rw [he]; rfl, by rw [he]; rfl, ⟨_, x.toInCall.ns⟩, fun p hp => ?_, fun y hy => ?_, fun y z c h1 h2 => ?_, ownOff⟩
      · obtain ⟨o, e, dd⟩ := x.cell p.1 p.2 (look p hp)
        exact ⟨o, _, e, dd⟩
      · rw [hko] at hy
        have := cellsFrom_some (x := y) scope.names (s.heap.objs.size + 1) [] (.inl hy)
        rw [← hcs] at this
        exact Option.isSome_iff_exists.mp this
      · have m1 := lookup_mem h1
        have m2 := lookup_mem h2
        have hp := x.apart
        by_cases hyz : y = z
        · exact hyz
        · exact absurd rfl (pairwise_snd hp m1 m2 hyz)
    have rho : RhoR X η s1.heap env ρ := by
      intro y v hy hvar
      rcases hlook y v hy with ⟨j, h1', h2'⟩ | h1'
      · obtain ⟨m, hm, rv⟩ := (VRs.of_zip hl hv).get h2'
        have rv' : VR X η s1.heap v m := rv.up (Step.ext [] η keep)
        have hb := zip_lookup D.nodup h1' hm
        have nd : (((d.params.map Str.ofString).zip ms).map (·.1)).Nodup := by
          rw [List.map_fst_zip (by rw [List.length_map, hlen, hl]; exact Nat.le_refl _)]
          exact nodup_map_inj (fun _ _ q => ofString_inj q) D.nodup
        refine ⟨m, ?_, rv'⟩
        have hst := List.all_eq_true.mp D.st y (List.mem_of_getElem? h1')
        unfold isSt at hst
        split at hst
        · rename_i hk
          refine .inl ⟨(hko _).trans hk, _, x.toInCall.ns, ?_⟩
          rw [bindL_at _ _ _ _ nd ((hko _).trans hk), hb]
        · rename_i hk
          have hkc : env.kindOf (Str.ofString y) = some .cell := (hko _).trans hk
          obtain ⟨c, hc⟩ := fok.cells _ hkc
          obtain ⟨o, e, dd⟩ := x.cell _ c hc
          refine .inr ⟨.inl hkc, c, o, hc, e, ?_⟩
          rw [dd, bindC_at _ _ _ _ nd hkc, hb]
        · cases hst
      · cases h1'
    have stk1 : Stk X η (A.deeper env) (env :: st) s1.heap := by
      have kf : Frm s1.heap (frs st) := fun b hb => let ⟨o, e, q⟩ := stk.frm b hb; ⟨o, keep _ _ e, q⟩
      refine ⟨Around.frames_deeper stk.frames, ?_, fun b hb => ?_, fun b hb => ?_⟩
      · exact Heap.FunFrames.cons (by rw [hsc, D.kind]; decide) hfr (hsz ▸ x.toInCall.ns) (hsz ▸ (ownOff _ (List.Mem.head _)).2) (stk.ok.of_keeps fun b o e _ => ⟨o, keep _ _ e, rfl⟩)
      · rw [head_frs hfr] at hb
        rcases List.mem_cons.mp hb with rfl | hb
        · exact hsz ▸ (ownOff _ (List.Mem.head _)).1
        · exact stk.off b hb
      · rw [head_frs hfr] at hb
        rcases List.mem_cons.mp hb with rfl | hb
        · exact hsz ▸ fok.frm _ (List.Mem.head _)
        · exact kf b hb
    have room1 : Room n (A.deeper env) := ⟨by show A.depth + 1 + 2 * n < _; omega, by show A.units + 3 + 8 * n + 300 < _; omega⟩
    have at1 : At ⟨X, n, A.deeper env, env, env :: st, Γ⟩ η ρ H s1 := ⟨i1, fok, rho, stk1, room1, hh⟩
    have hns : exSs Γ d.body ρ H ≠ .stuck := fun q => by rw [hrun, q] at hs; exact hs rfl
    have leaveStep : ∀ {η' h'}, Step (ownOf env) η s1.heap η' h' → Step [] η s.heap η' h' := fun y => Step.leave keep y ownNone
    refine monoN (exSs_ok d.body body ⟨X, n, A.deeper env, env, env :: st, Γ⟩ ρ H S (by rw [hsc]; exact D.bodyOk) hns η s1 at1 (fun _ q => nomatch q)) fun fl s2 hfl => ?_
    cases fl with
    | next =>
      obtain ⟨ρ', H', e, η', h', tk', rfl, i2, stp, _⟩ := hfl
      exact ⟨.none, H', by rw [hrun, e], η', h', tk', by rw [hs1], i2, leaveStep stp, .none⟩
    | ret mv =>
      obtain ⟨v, H', e, η', h', tk', rfl, i2, stp, _, r⟩ := hfl
      exact ⟨v, H', by rw [hrun, e], η', h', tk', by rw [hs1], i2, leaveStep stp, r⟩
    | _ => exact False.elim hfl

theorem callOK_of_def {d : Def} {f : String} {a : Addr} {body : List Stmt} {scope : Scope} {ws : List V} {H : Hp} (hf : X.mg (Str.ofString f) = some (.ref a)) (D : DefAt X d a body scope) (S : SoundFn X n Γ)
    (hs : runDef Γ d ws H ≠ .stuck) : CallOK X (n + 1) f ws H (runDef Γ d ws H) := by
  obtain ⟨o, fd, ho, hdat, _⟩ := id D.obj
  refine ⟨.ref a, hf, fun A st η s ms room hh inv stk hl hv => ?_⟩
  exact run_of_def D S hs A st η s ms (by have := room.depth; omega) (by have := room.units; omega) hh inv stk hl hv

theorem under_new (A : Around) (C : Addr) (ms : List Value) : (A.under (.builtin "type.__call__" ⟨.ref C :: ms, []⟩)).frames = A.frames ∧ (A.under (.builtin "type.__call__" ⟨.ref C :: ms, []⟩)).depth ≤ A.depth + 1 ∧
    (A.under (.builtin "type.__call__" ⟨.ref C :: ms, []⟩)).units = A.units + 1 ∧ (A.under (.builtin "type.__call__" ⟨.ref C :: ms, []⟩)).handled = A.handled := ⟨rfl, by show A.depth + 1 ≤ _ ; omega, rfl, rfl⟩

theorem callOK_of_class {d : Def} {c : String} {C fI : Addr} {body : List Stmt} {scope : Scope} {ws : List V} {H : Hp} (hcl : X.cl c = true) (hk : X.kn c = true) (hf : X.mg (Str.ofString c) = some (.ref C)) (ok : ClsOk X.K C fI) (D : DefAt X d fI body scope) (S : SoundFn X n Γ)
    (hs : runClass Γ c d ws H ≠ .stuck) : CallOK X (n + 1) c ws H (runClass Γ c d ws H) := by
  refine ⟨.ref C, hf, fun A st η s ms room hh inv stk hl hv => ?_⟩
  have hrc : runClass Γ c d ws H = (runDef Γ d (.ref (H.length + 1) :: ws) (H ++ [.ns [], .inst c H.length])).bind fun v H1 => match v with | .none => .ok (.ref (H.length + 1)) H1 | _ => .stuck := rfl
  have hK := X.kin.keeps inv.keep
  obtain ⟨h, g, dr, t, os⟩ := s
  refine make_core (makes_of hK ok.makes) (looks_findIn hK ok.init) (fun self => bind_fn hK self ok.fn) (.inl rfl) ?_
  obtain ⟨u1, u2, u3, u4⟩ := under_new A C ms
  have i1 : Inv X (η ++ [h.objs.size]) (H ++ [.ns []]) (h.push emptyDict) := inv.alloc (.ns .nil (by simp)) rfl
  have sz : (h.push emptyDict).objs.size = h.objs.size + 1 := Heap.size_push ..
  have i2 : Inv X (η ++ [h.objs.size] ++ [(h.push emptyDict).objs.size]) (H ++ [.ns []] ++ [.inst c H.length]) ((h.push emptyDict).push (instObj C h.objs.size)) := i1.alloc (.inst hcl hf (by rw [← inv.len]; simp)) rfl
  have st2 : Step [] η h (η ++ [h.objs.size] ++ [(h.push emptyDict).objs.size]) ((h.push emptyDict).push (instObj C h.objs.size)) := (Step.push _ _ _ _).trans (Step.push _ _ _ _)
  have hne : runDef Γ d (.ref (H.length + 1) :: ws) (H ++ [.ns [], .inst c H.length]) ≠ .stuck := fun q => hs (by rw [hrc, q]; rfl)
  rw [show H ++ [O.ns []] ++ [O.inst c H.length] = H ++ [.ns [], .inst c H.length] by simp] at i2
  have run := run_of_def (ws := .ref (H.length + 1) :: ws) D S hne (A.under (.builtin "type.__call__" ⟨.ref C :: ms, []⟩)) st _ ⟨(h.push emptyDict).push (instObj C h.objs.size), g, dr, t, os⟩ (.ref (h.objs.size + 1) :: ms) (by have := room.depth; omega) (by have := room.units; rw [u3]; omega) (u4.trans hh) i2
    ⟨u1.trans stk.frames, (stk.step (s := ⟨h, g, dr, t, os⟩) st2).ok, (stk.step (s := ⟨h, g, dr, t, os⟩) st2).off, (stk.step (s := ⟨h, g, dr, t, os⟩) st2).frm⟩ (by rw [List.length_cons, List.length_cons, hl]) (fun p hp => ?_)
  · refine codeAny_mono run fun res s' q => ?_
    cases res with
    | error ev => exact q
    | ok fl =>
      cases fl with
      | ret mv =>
        obtain ⟨v, H', e, P⟩ := q
        cases v with
        | none =>
          obtain ⟨η', h', tk, es, iv, stp, r⟩ := P
          cases r
          refine ⟨rfl, .ref (H.length + 1), H', by rw [hrc, e]; rfl, η', h', tk, es, iv, st2.trans stp, .ref ?_⟩
          obtain ⟨l, rfl, _⟩ := stp.pre
          refine getElem?_pre ?_
          rw [← inv.len, sz]; simp
        | _ => exact absurd (by rw [hrc, e]; rfl) hs
      | _ => exact q.elim
  · rw [List.zip_cons_cons] at hp
    rcases List.mem_cons.mp hp with rfl | hp
    · refine .ref ?_
      rw [← inv.len, sz]; simp
    · exact (hv p hp).up st2
end
end Mine

/-! J15 -/
namespace Mine
open PySem PyProof.Rows PySem.W

theorem lookup_zip_some : ∀ {ns : List Str} {ms : List Value} {x : Str}, ms.length = ns.length → x ∈ ns → ((ns.zip ms).lookup x).isSome = true
  | [], _, _, _, h => nomatch h
  | n :: ns, [], _, h, _ => by cases h
  | n :: ns, m :: ms, x, h, hx => by
    rw [List.zip_cons_cons, List.lookup_cons]
    cases hb : x == n with
    | true => rfl
    | false =>
      have : x ≠ n := by simpa using hb
      exact lookup_zip_some (Nat.succ.inj h) ((List.mem_cons.mp hx).resolve_left this)

theorem filterMap_zip : ∀ {ns : List Str} {ms : List Value} (l : List (Str × Value)), ms.length = ns.length → ns.Nodup → (∀ n ∈ ns, l.lookup n = Option.none) → ns.filterMap (fun n => ((l ++ ns.zip ms).lookup n).map (n, ·)) = ns.zip ms
  | [], _, _, _, _, _ => rfl
  | n :: ns, [], _, h, _, _ => by cases h
  | n :: ns, m :: ms, l, h, hn, hl => by
    rw [List.nodup_cons] at hn
    have e1 : (l ++ (n, m) :: ns.zip ms).lookup n = some m := by
      rw [List.lookup_append, hl n (List.Mem.head _)]; simp
    rw [List.zip_cons_cons, List.filterMap_cons, e1]
    simp only [Option.map_some, List.cons.injEq, true_and]
    have e2 : l ++ (n, m) :: ns.zip ms = (l ++ [(n, m)]) ++ ns.zip ms := by simp
    rw [e2]
    refine filterMap_zip (l ++ [(n, m)]) (Nat.succ.inj h) hn.2 fun k hk => ?_
    rw [List.lookup_append, hl k (List.Mem.tail _ hk)]
    have : k ≠ n := fun q => hn.1 (q ▸ hk)
    have hb : (k == n) = false := by simpa using this
    simp [List.lookup_cons, hb]

theorem bindArgs_plain {fd : FuncData} {ms : List Value} (h1 : fd.params.posonlyargs = []) (h2 : fd.params.kwonlyargs = []) (h3 : fd.params.vararg = Option.none) (h4 : fd.params.kwarg = Option.none) (h5 : fd.defaults = .none)
    (hl : ms.length = (fd.params.args.map (·.arg)).length) (nd : (fd.params.args.map (·.arg)).Nodup) : bindArgs fd ⟨ms, []⟩ = pure ((fd.params.args.map (·.arg)).zip ms) := by
  have hsq : seqItems? Value.none = pure Option.none := rfl
  unfold bindArgs
  simp only [h1, h2, h3, h4, h5, List.map_nil, List.nil_append, List.forIn_nil, pure_bind, hsq, Option.getD_none, Array.toList_empty, List.length_nil, Nat.sub_zero, List.drop_nil, List.zip_nil_right, List.append_nil]
  generalize hns : fd.params.args.map (·.arg) = ns at *
  have hgt : ¬ (ms.length > ns.length) := by omega
  simp only [hgt, decide_false, Bool.false_and, Bool.false_eq_true, if_false, pure_bind]
  have hmiss : (List.take ns.length ns).filter (fun n => ((ns.zip ms).lookup n).isNone) = [] := by
    rw [List.take_length, List.filter_eq_nil_iff]
    intro x hx
    have := lookup_zip_some hl hx
    rw [Option.isSome_iff_ne_none] at this
    simpa using this
  simp only [hmiss, List.isEmpty_nil, Bool.not_true, Bool.false_eq_true, if_false, pure_bind]
  have := filterMap_zip (ns := ns) (ms := ms) [] hl nd (fun _ _ => rfl)
  rw [List.nil_append] at this
  rw [this]

noncomputable def okDef (kn : String → Bool) (d : Def) (r : DefRec) : Bool :=
  r.name == Str.ofString d.name && r.params.posonlyargs.isEmpty && r.params.kwonlyargs.isEmpty && r.params.vararg.isNone && r.params.kwarg.isNone && (r.params.args.map (·.arg) == d.params.map Str.ofString) && isSs kn r.scope d.body r.body
    && r.scope.kind == .function && !r.scope.isGenerator && !r.scope.isCoroutine && (d.params.all fun x => isSt r.scope (Str.ofString x)) && decide d.params.Nodup && decide (((cellsFrom 0 r.scope.names []).map (·.1)).Nodup)

section
variable {X : Cx} {p : Program} {loose : List Str} {mean : ExcName → Option Value}

theorem defAt_of (T : Top p loose mean X.mg X.mb X.base) {d : Def} (h : (recsOf p).any (okDef X.kn d) = true) : ∃ a body scope, X.mg (Str.ofString d.name) = some (.ref a) ∧ DefAt X d a body scope := by
  obtain ⟨r, hr, ok⟩ := List.any_eq_true.mp h
  simp only [okDef, Bool.and_eq_true, beq_iff_eq, List.isEmpty_iff, Option.isNone_iff_eq_none, Bool.not_eq_true', decide_eq_true_eq] at ok
  obtain ⟨⟨⟨⟨⟨⟨⟨⟨⟨⟨⟨⟨h1, h2⟩, h3⟩, h4⟩, h5⟩, h6⟩, h7⟩, h8⟩, h9⟩, h10⟩, h11⟩, h12⟩, h13⟩ := ok
  obtain ⟨a, o, pm, code, doc, e1, e2, e3, e4⟩ := T.fn r hr
  refine ⟨a, r.body, r.scope, h1 ▸ e1, ⟨⟨o, _, e2, e3, rfl, rfl, rfl, rfl, rfl, e4, fun ms hm => ?_⟩, h7, h8, h9, h10, h11, h12, h13⟩⟩
  rw [← h6]
  refine bindArgs_plain h2 h3 h4 h5 rfl ?_ ?_
  · show ms.length = (r.params.args.map (·.arg)).length
    rw [h6, List.length_map, hm]
  · show (r.params.args.map (·.arg)).Nodup
    rw [h6]
    exact nodup_map_inj (fun _ _ q => ofString_inj q) h12

noncomputable def okInit (kn : String → Bool) (K : Frag) (d : Def) (fI : Addr) : Bool := match K.lookup fI with
  | some ⟨_, _, .func fd, _⟩ => (match fd.body with | .stmts body => isSs kn fd.scope d.body body | _ => false) && fd.globals == mainGlobals && fd.closure.isEmpty && fd.builtins == builtinsNs && codeIn K fd.code fd.qualname && fd.defaults == .none
      && fd.params.posonlyargs.isEmpty && fd.params.kwonlyargs.isEmpty && fd.params.vararg.isNone && fd.params.kwarg.isNone && (fd.params.args.map (·.arg) == d.params.map Str.ofString)
      && fd.scope.kind == .function && !fd.scope.isGenerator && !fd.scope.isCoroutine && (d.params.all fun x => isSt fd.scope (Str.ofString x)) && decide d.params.Nodup && decide (((cellsFrom 0 fd.scope.names []).map (·.1)).Nodup)
  | _ => false
theorem initAt_of {d : Def} {fI : Addr} (h : okInit X.kn X.K d fI = true) : ∃ body scope, DefAt X d fI body scope := by
  unfold okInit at h
  split at h
  · rename_i c dd fd sl ho
    simp only [Bool.and_eq_true, beq_iff_eq, List.isEmpty_iff, Option.isNone_iff_eq_none, Bool.not_eq_true', decide_eq_true_eq] at h
    obtain ⟨⟨⟨⟨⟨⟨⟨⟨⟨⟨⟨⟨⟨⟨⟨⟨h1, h2⟩, h3⟩, h4⟩, h5⟩, h6⟩, h7⟩, h8⟩, h9⟩, h10⟩, h11⟩, h12⟩, h13⟩, h14⟩, h15⟩, h16⟩, h17⟩ := h
    split at h1
    · rename_i body hbody
      refine ⟨body, fd.scope, ⟨⟨_, fd, X.kin _ _ ho, rfl, hbody, rfl, h2, h3, h4, codeRec_of X.kin h5, fun ms hm => ?_⟩, h1, h12, h13, h14, h15, h16, h17⟩⟩
      rw [← h11]
      refine bindArgs_plain h7 h8 h9 h10 h6 ?_ ?_
      · rw [h11, List.length_map, hm]
      · rw [h11]
        exact nodup_map_inj (fun _ _ q => ofString_inj q) h16
    · cases h1
  · cases h

theorem lk_sound {defs : List Def} {cls : List (String × Def)} {const : String → Option V} (T : Top p loose mean X.mg X.mb X.base) (hc : ∀ x v, const x = some v → ∃ mv, Loads X.mg X.mb x mv ∧ ∀ η h, VR X η h v mv)
    (hd : (defs.all fun d => (recsOf p).any (okDef X.kn d)) = true)
    (hcls : ∀ c d, cls.lookup c = some d → X.cl c = true ∧ X.kn c = true ∧ ∃ C fI, X.mg (Str.ofString c) = some (.ref C) ∧ ClsOk X.K C fI ∧ okInit X.kn X.K d fI = true) : ∀ n, SoundFn X n (lk defs cls const n)
  | 0 => ⟨hc, fun f ws H hs => absurd rfl hs⟩
  | n + 1 => by
    refine ⟨hc, fun f ws H hs => ?_⟩
    cases e : defs.find? (fun d => d.name == f) with
    | none =>
      have hc2 : (lk defs cls const (n + 1)).call f ws H = match cls.lookup f with | some d => runClass (lk defs cls const n) f d ws H | Option.none => .stuck := by
        show (match defs.find? (fun d => d.name == f) with | some d => runDef (lk defs cls const n) d ws H | Option.none => _) = _
        rw [e]; try rfl
      cases e2 : cls.lookup f with
      | none => rw [hc2, e2] at hs; exact absurd rfl hs
      | some d =>
        rw [hc2, e2] at hs ⊢
        obtain ⟨k1, k2, C, fI, k3, k4, k5⟩ := hcls f d e2
        obtain ⟨body, scope, D⟩ := initAt_of k5
        exact callOK_of_class k1 k2 k3 k4 D (lk_sound T hc hd hcls n) hs
    | some d =>
      have hc2 : (lk defs cls const (n + 1)).call f ws H = runDef (lk defs cls const n) d ws H := by
        show (match defs.find? (fun d => d.name == f) with | some d => runDef (lk defs cls const n) d ws H | Option.none => _) = _
        rw [e]
      rw [hc2] at hs ⊢
      have hn : d.name = f := by have := List.find?_some e; simpa using this
      obtain ⟨a, body, scope, hf, D⟩ := defAt_of T (List.all_eq_true.mp hd d (List.mem_of_find?_eq_some e))
      exact callOK_of_def (hn ▸ hf) D (lk_sound T hc hd hcls n) hs
end
end Mine

/-! J16 -/
namespace Mine
open PySem PyProof.Rows PySem.W

noncomputable def keepV (K : Frag) (v : Value) : Bool := match v with
  | .ref a => keepIn K (.ref a)
  | _ => true
noncomputable def okU (K : Frag) (U : List String) : Bool := U.all fun f => match nsIn K mainGlobals (Str.ofString f) with
  | some (some v) => keepV K v && (biVal f).isNone
  | _ => false
noncomputable def okB (K : Frag) (B : List String) : Bool := B.all fun f => match nsIn K mainGlobals (Str.ofString f), bootBuiltins (Str.ofString f), biVal f with
  | some Option.none, some a, some b => a == b && !(f == "__name__")
  | _, _, _ => false
noncomputable def okC (K : Frag) (C : List (String × V)) : Bool := C.all fun p => match nsIn K mainGlobals (Str.ofString p.1), p.2 with
  | some (some (.str s _)), .str t => s == t && PyData.strOk s
  | some (some (.int i _)), .int j => i == j
  | _, _ => false

noncomputable def clsB (K : Frag) (C fI : Addr) : Bool := makesIn K C && typeIn K (.ref fI) == some (.type "function") && findIn K (.ref C) "__getattribute__" == some (some (.builtin "object.__getattribute__")) && findIn K (.ref C) "__setattr__" == some (some (.builtin "object.__setattr__"))
  && plainOver K C && (clsIn K C).any (·.hasDict) && ["road", "home", "start", "stops"].all fun a => findIn K (.ref C) (Str.ofString a) == some Option.none
noncomputable def okL (K : Frag) (U B : List String) (cls : List (String × Def)) : Bool := cls.all fun p => U.contains p.1 && match nsIn K mainGlobals (Str.ofString p.1) with
  | some (some (.ref C)) => (match findIn K (.ref C) "__init__" with
    | some (some (.ref fI)) => clsB K C fI && okInit (fun f => U.contains f || B.contains f) K p.2 fI
    | _ => false)
  | _ => false

theorem clsOk_of {K : Frag} {C fI : Addr} (h : clsB K C fI = true) (hi : findIn K (.ref C) "__init__" = some (some (.ref fI))) : ClsOk K C fI := by
  unfold clsB at h
  simp only [Bool.and_eq_true, beq_iff_eq] at h
  obtain ⟨⟨⟨⟨⟨⟨h1, h2⟩, h3⟩, h4⟩, h5⟩, h6⟩, h7⟩ := h
  refine ⟨h1, hi, h2, h3, h4, h5, h6, fun a ha => ?_⟩
  have hm : a ∈ ["road", "home", "start", "stops"] := by
    unfold attrName at ha
    simp only [Bool.or_eq_true, beq_iff_eq] at ha
    rcases ha with ((rfl | rfl) | rfl) | rfl <;> simp
  exact beq_iff_eq.mp (List.all_eq_true.mp h7 a hm)

section
variable {prog : Program} {w : World} {p : Program} {loose : List Str} {mean : ExcName → Option Value} {mg mb : Str → Option Value} {K : Frag} {h : Heap} {U B : List String}

theorem okU_at (X : K.In h) (G : h.Ns mainGlobals mg) (hu : okU K U = true) {f : String} (hf : f ∈ U) : ∃ v, mg (Str.ofString f) = some v ∧ keepV K v = true ∧ biVal f = Option.none := by
  have q := List.all_eq_true.mp hu f hf
  split at q
  · rename_i v e
    rw [Bool.and_eq_true, Option.isNone_iff_eq_none] at q
    exact ⟨v, mg_of X G e, q.1, q.2⟩
  · cases q

theorem okB_at (X : K.In h) (T : Top p loose mean mg mb h) (hb : okB K B = true) {f : String} (hf : f ∈ B) : ∃ v, biVal f = some v ∧ mg (Str.ofString f) = Option.none ∧ mb (Str.ofString f) = some v := by
  have q := List.all_eq_true.mp hb f hf
  split at q
  · rename_i a b e1 e2 e3
    rw [Bool.and_eq_true, beq_iff_eq, Bool.not_eq_true'] at q
    obtain ⟨rfl, q2⟩ := q
    refine ⟨a, e3, ns_none_of X T.g e1, ?_⟩
    rw [T.builtins _ (fun z => ?_), e2]
    have : f = "__name__" := ofString_inj z
    rw [this] at q2
    cases q2
  · cases q

theorem okL_at (X : K.In h) (T : Top p loose mean mg mb h) {cls : List (String × Def)} (hL : okL K U B cls = true) {c : String} {d : Def} (hc : (c, d) ∈ cls) :
    U.contains c = true ∧ ∃ C fI, mg (Str.ofString c) = some (.ref C) ∧ ClsOk K C fI ∧ okInit (fun f => U.contains f || B.contains f) K d fI = true := by
  have q := List.all_eq_true.mp hL (c, d) hc
  rw [Bool.and_eq_true] at q
  refine ⟨q.1, ?_⟩
  have q2 := q.2
  split at q2
  · rename_i C e
    split at q2
    · rename_i fI ei
      rw [Bool.and_eq_true] at q2
      exact ⟨C, fI, mg_of X T.g e, clsOk_of q2.1 ei, q2.2⟩
    · cases q2
  · cases q2

noncomputable def cxOf (prog : Program) (w : World) (T : Top p loose mean mg mb h) (X : K.In h) (cls : List (String × Def)) (hu : okU K U = true) (hb : okB K B = true) (hL : okL K U B cls = true) : Cx where
  prog := prog
  w := w
  base := h
  mg := mg
  mb := mb
  g := T.g
  b := T.b
  nolimit := T.nolimit
  kn := fun f => U.contains f || B.contains f
  known := fun f hk => by
    rw [Bool.or_eq_true, List.contains_iff_mem, List.contains_iff_mem] at hk
    rcases hk with hk | hk
    · obtain ⟨v, e, _⟩ := okU_at X T.g hu hk
      exact ⟨v, .inl e⟩
    · obtain ⟨v, _, e1, e2⟩ := okB_at X T hb hk
      exact ⟨v, .inr ⟨e1, e2⟩⟩
  bi := fun f v hv hk => by
    rw [Bool.or_eq_true, List.contains_iff_mem, List.contains_iff_mem] at hk
    rcases hk with hk | hk
    · obtain ⟨_, _, _, e⟩ := okU_at X T.g hu hk
      rw [hv] at e; cases e
    · obtain ⟨v', e, e1, e2⟩ := okB_at X T hb hk
      rw [hv] at e; cases e
      exact ⟨e1, e2⟩
  K := K
  kin := X
  cl := fun c => cls.any (·.1 == c)
  cls := fun c hc => by
    obtain ⟨⟨c', d⟩, hm, e⟩ := List.any_eq_true.mp hc
    have e' : c' = c := by simpa using e
    subst e'
    obtain ⟨_, C, fI, h1, h2, _⟩ := okL_at X T hL hm
    exact ⟨C, fI, h1, h2⟩
  kp := fun f v hk hl h' k => by
    have key : keepV K v = true := by
      rw [Bool.or_eq_true, List.contains_iff_mem, List.contains_iff_mem] at hk
      rcases hk with hk | hk
      · obtain ⟨v', e, q, _⟩ := okU_at X T.g hu hk
        rw [hl.det (.inl e)]
        exact q
      · obtain ⟨v', e, e1, e2⟩ := okB_at X T hb hk
        rw [hl.det (.inr ⟨e1, e2⟩)]
        have : ∀ a, v' ≠ .ref a := biVal_noRef e
        cases v' <;> first | rfl | exact absurd rfl (this _)
    cases v with
    | ref a => exact keeps_K (K := K) (f := .ref a) key h' (X.keeps k)
    | _ => exact ⟨.machine, .inr (.inl rfl), Looks.now⟩

theorem okC_at {C : List (String × V)} (T : Top p loose mean mg mb h) (X : K.In h) (hc : okC K C = true) (Y : Cx) (h1 : Y.mg = mg) : ∀ x v, C.lookup x = some v → ∃ mv, Loads Y.mg Y.mb x mv ∧ ∀ η h, VR Y η h v mv := by
  intro x v e
  have q := List.all_eq_true.mp hc (x, v) (lookup_mem e)
  rw [h1]
  split at q
  · rename_i s t1 s2 e1 e2
    rw [Bool.and_eq_true, beq_iff_eq] at q
    have e2' : v = .str s2 := e2
    subst e2'
    obtain ⟨rfl, ok⟩ := q
    exact ⟨_, .inl (mg_of X T.g e1), fun _ _ => .str _ _ ok⟩
  · rename_i i t1 j e1 e2
    rw [beq_iff_eq] at q
    have e2' : v = .int j := e2
    subst e2'
    subst q
    exact ⟨_, .inl (mg_of X T.g e1), fun _ _ => .int _ _⟩
  · cases q

theorem cls_at (prog : Program) (w : World) (T : Top p loose mean mg mb h) (X : K.In h) (cls : List (String × Def)) (hu : okU K U = true) (hb : okB K B = true) (hL : okL K U B cls = true) : ∀ c d, cls.lookup c = some d →
    (cxOf prog w T X cls hu hb hL).cl c = true ∧ (cxOf prog w T X cls hu hb hL).kn c = true ∧ ∃ C fI, (cxOf prog w T X cls hu hb hL).mg (Str.ofString c) = some (.ref C) ∧ ClsOk (cxOf prog w T X cls hu hb hL).K C fI ∧ okInit (cxOf prog w T X cls hu hb hL).kn (cxOf prog w T X cls hu hb hL).K d fI = true := by
  intro c d e
  have hm := lookup_mem e
  obtain ⟨h0, C, fI, h1, h2, h3⟩ := okL_at X T hL hm
  exact ⟨List.any_eq_true.mpr ⟨_, hm, beq_self_eq_true c⟩, by show (U.contains c || B.contains c) = true; rw [h0]; rfl, C, fI, h1, h2, h3⟩

theorem law_call {X : Cx} {N : Nat} {Γ : Fn} {ns : List Int} {vs : List Value} {l fa : Addr} {s₁ : Shared} {H' : Hp} {Q : Value → Shared → Prop} {E : Value → Shared → Prop} (hb : X.base = s₁.heap) (S : SoundFn X N Γ) (hN : N < 100) (hmg : X.mg (Str.ofString "law") = some (.ref fa))
    (run : Γ.call "law" [.scr ns] [] = .ok (.bool true) H') (hL : s₁.heap.IsList l vs.toArray) (hI : IntsAre vs ns) (hn : ns.length ≤ 63)
    (hq : ∀ s', (∃ h' tk, s' = { s₁ with heap := h', toks := tk } ∧ ∀ b o, s₁.heap.get? b = some o → h'.get? b = some o) → Q (.bool true) s') : wpAny X.M callerA (call (.ref fa) [.ref l]) Q E s₁ := by
  have C := S.call "law" [.scr ns] [] (by rw [run]; intro q; cases q)
  rw [run] at C
  obtain ⟨fv, e, C⟩ := C
  rw [hmg] at e; cases e
  have inv : Inv X [] [] s₁.heap := ⟨fun b o e => hb ▸ e, rfl, (fun _ q => nomatch q), List.nodup_nil, fun n a o e => by simp at e⟩
  have stk : Stk X [] callerA [] s₁.heap := ⟨rfl, trivial, (fun _ q => nomatch q), fun _ q => nomatch q⟩
  refine wpAny_call (codeAny_mono (C callerA [] [] s₁ [.ref l] ⟨?_, ?_⟩ rfl inv stk rfl fun p hp => ?_) fun res s' q => ?_)
  · show 1 + claimMargin + 2 * N < recursionLimit
    unfold claimMargin recursionLimit; omega
  · show 4 + 8 * N + 300 < cLine
    unfold cLine; omega
  · rw [List.zip_cons_cons, List.zip_nil_left, List.mem_singleton] at hp
    subst hp
    refine .scr (hb ▸ hL) (by simpa using hI) (by unfold line; omega)
  · cases res with
    | error ev => exact q.elim
    | ok fl =>
      cases fl with
      | ret mv =>
        obtain ⟨v, H2, e, η', h', tk, rfl, i, stp, r⟩ := q
        cases e
        cases r
        exact hq _ ⟨h', tk, rfl, fun b o e => i.keep b o (hb ▸ e)⟩
      | _ => exact q.elim
end
end Mine

/-! J17 -/
namespace Mine
open PySem PyProof.Rows PySem.W

/-! the head in one look: what the opening leaves, seen by one reckoning -/
noncomputable def refsOf (o : Obj) : List Addr := match o.data with
  | .dict es _ => es.toList.filterMap fun e => match e.val with | .ref a => some a | _ => Option.none
  | _ => []
noncomputable def nsOfCls (o : Obj) : List Addr := match o.data with
  | .cls cd => [cd.ns]
  | _ => []
noncomputable def codeOfFn (o : Obj) : List Addr := match o.data with
  | .func fd => (match fd.code with | .ref a => [a] | _ => [])
  | _ => []
noncomputable def pick (h : Heap) (as : List Addr) : Frag := as.filterMap fun a => (h.get? a).map fun o => (a, o)
noncomputable def fragOf (h : Heap) : Frag :=
  let g := pick h [mainGlobals]
  let l1 := pick h (g.flatMap fun p => refsOf p.2)
  let l2 := pick h (l1.flatMap fun p => nsOfCls p.2)
  let l3 := pick h (l2.flatMap fun p => refsOf p.2)
  let l4 := pick h (l3.flatMap fun p => codeOfFn p.2)
  g ++ (l1 ++ (l2 ++ (l3 ++ l4)))
theorem pick_get {h : Heap} {as : List Addr} {a : Addr} {o : Obj} (hm : (a, o) ∈ pick h as) : h.get? a = some o := by
  obtain ⟨b, _, e⟩ := List.mem_filterMap.mp hm
  obtain ⟨o', g, q⟩ := Option.map_eq_some_iff.mp e
  cases q
  exact g
theorem fragOf_in (h : Heap) : (fragOf h).In h := by
  intro a o e
  have hm := lookup_mem e
  unfold fragOf at hm
  rcases List.mem_append.mp hm with hm | hm
  · exact pick_get hm
  · rcases List.mem_append.mp hm with hm | hm
    · exact pick_get hm
    · rcases List.mem_append.mp hm with hm | hm
      · exact pick_get hm
      · rcases List.mem_append.mp hm with hm | hm
        · exact pick_get hm
        · exact pick_get hm

noncomputable def seenOk (U B : List String) (C : List (String × V)) (cls : List (String × Def)) (K : Frag) : Bool := okU K U && okB K B && okC K C && okL K U B cls
noncomputable def Says (U B : List String) (C : List (String × V)) (cls : List (String × Def)) (h : Heap) : Prop := ∃ K : Frag, K.In h ∧ seenOk U B C cls K = true
theorem Says.keeps {U B : List String} {C : List (String × V)} {cls : List (String × Def)} {h h' : Heap} (x : Says U B C cls h) (k : ∀ b o, h.get? b = some o → h'.get? b = some o) : Says U B C cls h' :=
  let ⟨K, i, e⟩ := x; ⟨K, i.keeps k, e⟩
end Mine

/-! JEv2 -/
namespace Mine
open PySem

/-! equations for reckoning -/
@[simp] theorem lk_const {defs : List Def} {cls : List (String × Def)} {const : String → Option V} (n : Nat) : (lk defs cls const n).const = const := by cases n <;> rfl
@[simp] theorem lookup_here {β : Type} (x : String) (v : β) (r : List (String × β)) : List.lookup x ((x, v) :: r) = some v := by simp [List.lookup]
@[simp] theorem lookup_next {β : Type} {x y : String} (h : x ≠ y) (v : β) (r : List (String × β)) : List.lookup x ((y, v) :: r) = List.lookup x r := by
  have : (x == y) = false := by simpa using h
  simp [List.lookup, this]
theorem lk_call {defs : List Def} {cls : List (String × Def)} {const : String → Option V} {f : String} {d : Def} (h : defs.find? (fun d => d.name == f) = some d) (n : Nat) (vs : List V) (H : Hp) :
    (lk defs cls const (n + 1)).call f vs H = runDef (lk defs cls const n) d vs H := by
  show (match defs.find? (fun d => d.name == f) with | some d => runDef (lk defs cls const n) d vs H | Option.none => _) = _
  rw [h]
@[simp] theorem ofO_some {α : Type} (H : Hp) (a : α) : ofO H (some a) = .ok a H := rfl
@[simp] theorem ofO_none {α : Type} (H : Hp) : ofO H (Option.none : Option α) = .stuck := rfl
@[simp] theorem truthR_ok (b : Bool) (H : Hp) : truthR (.ok (.bool b) H) = .ok b H := rfl
@[simp] theorem ofR_ok {α : Type} (a : α) (H : Hp) (k : α → Hp → RS) : ofR (.ok a H) k = k a H := rfl
@[simp] theorem RS.bind_next (ρ : Rho) (H : Hp) (k : Rho → Hp → RS) : (RS.next ρ H).bind k = k ρ H := rfl
@[simp] theorem RS.bind_ret (v : V) (H : Hp) (k : Rho → Hp → RS) : (RS.ret v H).bind k = .ret v H := rfl
@[simp] theorem callF_def (Γ : Fn) (f : String) (vs : List V) (H : Hp) : callF Γ f vs H = (match builtin f vs H with | .stuck => Γ.call f vs H | r => r) := rfl
@[simp] theorem bi_len_scr (ns : List Int) (H : Hp) : builtin "len" [.scr ns] H = .ok (.int ns.length) H := rfl
@[simp] theorem bi_min (a b : Int) (H : Hp) : builtin "min" [.int a, .int b] H = .ok (.int (if b < a then b else a)) H := rfl
@[simp] theorem bi_max (a b : Int) (H : Hp) : builtin "max" [.int a, .int b] H = .ok (.int (if a < b then b else a)) H := rfl

@[simp] theorem idx_2_0 (a b : V) (H : Hp) : index (.tup [a, b]) (.int 0) H = .ok a H := rfl
@[simp] theorem idx_2_1 (a b : V) (H : Hp) : index (.tup [a, b]) (.int 1) H = .ok b H := rfl
@[simp] theorem bin_add (a b : Int) (H : Hp) : bin .add (.int a) (.int b) H = .ok (.int (a + b)) H := rfl
@[simp] theorem bin_sub (a b : Int) (H : Hp) : bin .sub (.int a) (.int b) H = .ok (.int (a - b)) H := rfl
theorem bin_of {op : Op} {a b z : Int} (H : Hp) (h : intOp op a b = some z) : bin op (.int a) (.int b) H = .ok (.int z) H := by
  have q : bin op (.int a) (.int b) H = (match intOp op a b with | some z => .ok (.int z) H | Option.none => .stuck) := rfl
  rw [q, h]
theorem bin_mul_r {a b : Int} (H : Hp) (h : b.natAbs < 2 ^ 64) : bin .mul (.int a) (.int b) H = .ok (.int (a * b)) H := bin_of H (if_pos (Or.inr h))
theorem bin_mul_l {a b : Int} (H : Hp) (h : a.natAbs < 2 ^ 64) : bin .mul (.int a) (.int b) H = .ok (.int (a * b)) H := bin_of H (if_pos (Or.inl h))
theorem bin_mod {a b : Int} (H : Hp) (h : b ≠ 0) : bin .mod (.int a) (.int b) H = .ok (.int (a.fmod b)) H := bin_of H (if_pos h)
theorem bin_fdiv {a b : Int} (H : Hp) (h : b ≠ 0) (h2 : b.natAbs < 1073741824) : bin .fdiv (.int a) (.int b) H = .ok (.int (a.fdiv b)) H := bin_of H (if_pos ⟨h, h2⟩)
theorem bin_pow {a b : Int} (H : Hp) (h : 0 ≤ a ∧ a ≤ 10 ∧ 0 ≤ b ∧ b ≤ 100) : bin .pow (.int a) (.int b) H = .ok (.int (a ^ b.toNat)) H := bin_of H (if_pos h)
theorem cmp_eq_int (a b : Int) (H : Hp) : cmp .eq (.int a) (.int b) H = some (a == b) := rfl
theorem cmp_ne_int (a b : Int) (H : Hp) : cmp .ne (.int a) (.int b) H = some (!(a == b)) := rfl
theorem cmp_eq_str (a b : Str) (H : Hp) : cmp .eq (.str a) (.str b) H = some (a == b) := rfl
theorem cmp_ne_str (a b : Str) (H : Hp) : cmp .ne (.str a) (.str b) H = some (!(a == b)) := rfl
theorem cmp_lt (a b : Int) (H : Hp) : cmp .lt (.int a) (.int b) H = some (decide (a < b)) := rfl
theorem cmp_le (a b : Int) (H : Hp) : cmp .le (.int a) (.int b) H = some (decide (a ≤ b)) := rfl
theorem cmp_gt (a b : Int) (H : Hp) : cmp .gt (.int a) (.int b) H = some (decide (b < a)) := rfl
@[simp] theorem isinst_int (i : Int) (H : Hp) : isinst (.int i) "int" H = some true := rfl
@[simp] theorem isinst_int_bool (i : Int) (H : Hp) : isinst (.int i) "bool" H = some false := rfl
end Mine

/-! P12a -/
namespace Mine.L12
open Mine PySem
noncomputable def d_is_within : Def := { name := "is_within", params := ["number", "low", "high"], body := [
  .ret (.and [(.isinst (.var "number") "int"), (.not (.isinst (.var "number") "bool")), (.cmp2 (.var "low") .le (.var "number") .le (.var "high"))])] }
noncomputable def d_is_road : Def := { name := "is_road", params := ["road"], body := [
  .ret (.and [(.cmp (.idx (.var "road") (.int 0)) .isIn (.tup [(.glob "LINE"), (.glob "RING")])), (.call "is_within" [(.idx (.var "road") (.int 1)), (.int 1), (.glob "LONGEST")])])] }
noncomputable def d_is_place : Def := { name := "is_place", params := ["road", "place"], body := [
  .iff (.cmp (.idx (.var "road") (.int 0)) .eq (.glob "LINE")) [
    .ret (.call "is_within" [(.var "place"), (.int 0), (.idx (.var "road") (.int 1))])] [],
  .ret (.call "is_within" [(.var "place"), (.int 0), (.bin .sub (.idx (.var "road") (.int 1)) (.int 1))])] }
noncomputable def d_Day_init : Def := { name := "Day.__init__", params := ["self", "road", "home", "start", "stops"], body := [
  .iff (.not (.call "is_road" [(.var "road")])) [
    .stop] [],
  .iff (.not (.call "is_place" [(.var "road"), (.var "home")])) [
    .stop] [],
  .iff (.not (.call "is_within" [(.var "start"), (.int 0), (.glob "LATEST")])) [
    .stop] [],
  .iff (.cmp (.call "len" [(.var "stops")]) .gt (.glob "MOST")) [
    .stop] [],
  .for1 "stop" (.var "stops") [
    .expr (.call "looked_at" [(.var "road"), (.var "stop")])],
  .setattr (.var "self") "road" (.var "road"),
  .setattr (.var "self") "home" (.var "home"),
  .setattr (.var "self") "start" (.var "start"),
  .setattr (.var "self") "stops" (.call "list" [(.var "stops")])] }
noncomputable def d_looked_at : Def := { name := "looked_at", params := ["road", "stop"], body := [
  .unpack ["place", "opens", "closes", "stay"] (.var "stop"),
  .iff (.not (.call "is_place" [(.var "road"), (.var "place")])) [
    .stop] [],
  .for1 "time" (.tup [(.var "opens"), (.var "closes"), (.var "stay")]) [
    .iff (.not (.call "is_within" [(.var "time"), (.int 0), (.glob "LATEST")])) [
      .stop] []],
  .iff (.cmp (.var "closes") .lt (.var "opens")) [
    .stop] []] }
noncomputable def d_written : Def := { name := "written", params := ["day"], body := [
  .unpack ["word", "length"] (.attr (.var "day") "road"),
  .asg "home" (.attr (.var "day") "home"),
  .asg "start" (.attr (.var "day") "start"),
  .asg "rows" (.list [(.fstr [(.fmt (.var "word")), (.str " "), (.fmt (.var "length")), (.str "\n")]), (.fstr [(.str "home "), (.fmt (.var "home")), (.str " at "), (.fmt (.var "start")), (.str "\n")])]),
  .forT ["place", "opens", "closes", "stay"] (.attr (.var "day") "stops") [
    .expr (.meth (.var "rows") "append" [(.fstr [(.str "stop "), (.fmt (.var "place")), (.str " from "), (.fmt (.var "opens")), (.str " to "), (.fmt (.var "closes")), (.str " for "), (.fmt (.var "stay")), (.str "\n")])])],
  .ret (.meth (.str "") "join" [(.var "rows")])] }
noncomputable def d_number_of : Def := { name := "number_of", params := ["word"], body := [
  .iff (.or [(.not (.cmp2 (.int 0) .lt (.call "len" [(.var "word")]) .le (.glob "LONGEST_NUMBER"))), (.not (.call "all" [(.comp (.cmp (.var "sign") .isIn (.glob "FIGURES")) "sign" (.var "word"))]))]) [
    .stop] [],
  .iff (.and [(.cmp (.call "len" [(.var "word")]) .gt (.int 1)), (.cmp (.idx (.var "word") (.int 0)) .eq (.str "0"))]) [
    .stop] [],
  .ret (.call "int" [(.var "word")])] }
noncomputable def d_numbers_of : Def := { name := "numbers_of", params := ["row", "form"], body := [
  .asg "words" (.meth (.var "row") "split" [(.str " ")]),
  .iff (.cmp (.call "len" [(.var "words")]) .ne (.call "len" [(.var "form")])) [
    .stop] [],
  .asg "found" (.list []),
  .forZ ["word", "wanted"] [(.var "words"), (.var "form")] [
    .iff (.cmp (.var "wanted") .is .none) [
      .expr (.meth (.var "found") "append" [(.call "number_of" [(.var "word")])])] [
      .iff (.cmp (.var "word") .ne (.var "wanted")) [
        .stop] []]],
  .ret (.var "found")] }
noncomputable def d_read : Def := { name := "read", params := ["text"], body := [
  .iff (.not (.isinst (.var "text") "str")) [
    .stop] [],
  .asg "rows" (.meth (.var "text") "split" [(.str "\n")]),
  .iff (.or [(.cmp (.call "len" [(.var "rows")]) .lt (.int 3)), (.cmp (.idx (.var "rows") (.bin .sub (.call "len" [(.var "rows")]) (.int 1))) .ne (.str ""))]) [
    .stop] [],
  .asg "word" (.idx (.meth (.idx (.var "rows") (.int 0)) "split" [(.str " ")]) (.int 0)),
  .iff (.cmp (.var "word") .notIn (.tup [(.glob "LINE"), (.glob "RING")])) [
    .stop] [],
  .asg "length" (.idx (.call "numbers_of" [(.idx (.var "rows") (.int 0)), (.tup [(.var "word"), .none])]) (.int 0)),
  .unpack ["home", "start"] (.call "numbers_of" [(.idx (.var "rows") (.int 1)), (.tup [(.str "home"), .none, (.str "at"), .none])]),
  .asg "stops" (.list []),
  .for1 "row" (.slice (.var "rows") (.int 2) (.bin .sub (.call "len" [(.var "rows")]) (.int 1))) [
    .unpack ["place", "opens", "closes", "stay"] (.call "numbers_of" [(.var "row"), (.tup [(.str "stop"), .none, (.str "from"), .none, (.str "to"), .none, (.str "for"), .none])]),
    .expr (.meth (.var "stops") "append" [(.tup [(.var "place"), (.var "opens"), (.var "closes"), (.var "stay")])])],
  .ret (.call "Day" [(.tup [(.var "word"), (.var "length")]), (.var "home"), (.var "start"), (.var "stops")])] }
noncomputable def d__law_cell_at : Def := { name := "_law_cell_at", params := ["_law_script", "_law_k"], body := [
  .iff (.cmp (.call "len" [(.var "_law_script")]) .eq (.int 0)) [
    .ret (.var "_law_k")] [],
  .ret (.bin .add (.idx (.var "_law_script") (.bin .mod (.var "_law_k") (.call "len" [(.var "_law_script")]))) (.bin .mul (.int 3) (.bin .fdiv (.var "_law_k") (.call "len" [(.var "_law_script")]))))] }
noncomputable def d__law_wide : Def := { name := "_law_wide", params := ["_law_cell", "_law_bound"], body := [
  .ret (.bin .mod (.bin .mod (.bin .mul (.var "_law_cell") (.int 48271000000007)) (.int 1000000000000037)) (.var "_law_bound"))] }
noncomputable def d__law_whole : Def := { name := "_law_whole", params := ["_law_found"], body := [
  .ret (.and [(.isinst (.var "_law_found") "int"), (.not (.isinst (.var "_law_found") "bool"))])] }
noncomputable def d__law_road_by : Def := { name := "_law_road_by", params := ["_law_cell"], body := [
  .asg "_law_length" (.bin .add (.int 1) (.bin .mod (.bin .fdiv (.var "_law_cell") (.int 2)) (.int 30))),
  .iff (.cmp (.bin .mod (.bin .fdiv (.var "_law_cell") (.int 2)) (.int 5)) .eq (.int 1)) [
    .asg "_law_length" (.bin .add (.int 1) (.call "_law_wide" [(.bin .fdiv (.var "_law_cell") (.int 10)), (.bin .pow (.int 10) (.int 9))]))] [],
  .iff (.cmp (.bin .mod (.bin .fdiv (.var "_law_cell") (.int 2)) (.int 25)) .eq (.int 3)) [
    .asg "_law_length" (.menu [(.int 1), (.int 2), (.int 3), (.bin .pow (.int 10) (.int 9))] (.bin .mod (.bin .fdiv (.var "_law_cell") (.int 50)) (.int 4)))] [],
  .ret (.tup [(.menu [(.str "line"), (.str "ring")] (.bin .mod (.var "_law_cell") (.int 2))), (.var "_law_length")])] }
noncomputable def d__law_places : Def := { name := "_law_places", params := ["_law_road"], body := [
  .iff (.cmp (.idx (.var "_law_road") (.int 0)) .eq (.str "line")) [
    .ret (.bin .add (.idx (.var "_law_road") (.int 1)) (.int 1))] [],
  .ret (.idx (.var "_law_road") (.int 1))] }
noncomputable def d__law_place_by : Def := { name := "_law_place_by", params := ["_law_road", "_law_cell"], body := [
  .asg "_law_many" (.call "_law_places" [(.var "_law_road")]),
  .iff (.cmp (.bin .mod (.var "_law_cell") (.int 7)) .eq (.int 0)) [
    .ret (.menu [(.int 0), (.bin .sub (.var "_law_many") (.int 1)), (.bin .fdiv (.var "_law_many") (.int 2))] (.bin .mod (.bin .fdiv (.var "_law_cell") (.int 7)) (.int 3)))] [],
  .ret (.call "_law_wide" [(.bin .fdiv (.var "_law_cell") (.int 7)), (.var "_law_many")])] }
noncomputable def d__law_start_by : Def := { name := "_law_start_by", params := ["_law_road", "_law_cell"], body := [
  .iff (.cmp (.bin .mod (.var "_law_cell") (.int 3)) .eq (.int 0)) [
    .ret (.int 0)] [],
  .iff (.cmp (.bin .mod (.var "_law_cell") (.int 3)) .eq (.int 1)) [
    .ret (.bin .mod (.bin .fdiv (.var "_law_cell") (.int 3)) (.bin .add (.bin .mul (.int 2) (.idx (.var "_law_road") (.int 1))) (.int 1)))] [],
  .ret (.call "_law_wide" [(.bin .fdiv (.var "_law_cell") (.int 3)), (.bin .add (.bin .pow (.int 10) (.int 12)) (.int 1))])] }
noncomputable def d__law_stop_by : Def := { name := "_law_stop_by", params := ["_law_road", "_law_start", "_law_script", "_law_k"], body := [
  .asg "_law_place" (.call "_law_place_by" [(.var "_law_road"), (.call "_law_cell_at" [(.var "_law_script"), (.var "_law_k")])]),
  .asg "_law_cell" (.call "_law_cell_at" [(.var "_law_script"), (.bin .add (.var "_law_k") (.int 1))]),
  .asg "_law_opens" (.bin .add (.var "_law_start") (.bin .mod (.bin .fdiv (.var "_law_cell") (.int 4)) (.bin .add (.bin .mul (.int 3) (.idx (.var "_law_road") (.int 1))) (.int 2)))),
  .iff (.cmp (.bin .mod (.var "_law_cell") (.int 4)) .eq (.int 0)) [
    .asg "_law_opens" (.int 0)] [],
  .iff (.cmp (.bin .mod (.var "_law_cell") (.int 4)) .eq (.int 1)) [
    .asg "_law_opens" (.call "max" [(.int 0), (.bin .sub (.var "_law_start") (.bin .mod (.bin .fdiv (.var "_law_cell") (.int 4)) (.bin .add (.idx (.var "_law_road") (.int 1)) (.int 1))))])] [],
  .iff (.cmp (.bin .mod (.var "_law_cell") (.int 16)) .eq (.int 6)) [
    .asg "_law_opens" (.bin .add (.var "_law_start") (.call "_law_wide" [(.bin .fdiv (.var "_law_cell") (.int 32)), (.menu [(.bin .pow (.int 10) (.int 9)), (.bin .pow (.int 10) (.int 12))] (.bin .mod (.bin .fdiv (.var "_law_cell") (.int 16)) (.int 2)))]))] [],
  .asg "_law_opens" (.call "min" [(.var "_law_opens"), (.bin .pow (.int 10) (.int 12))]),
  .asg "_law_cell" (.call "_law_cell_at" [(.var "_law_script"), (.bin .add (.var "_law_k") (.int 2))]),
  .asg "_law_closes" (.bin .add (.bin .add (.call "max" [(.var "_law_opens"), (.var "_law_start")]) (.bin .mul (.menu [(.int 0), (.int 3), (.int 9), (.int 20)] (.bin .mod (.var "_law_cell") (.int 4))) (.idx (.var "_law_road") (.int 1)))) (.bin .mod (.bin .fdiv (.var "_law_cell") (.int 4)) (.bin .add (.idx (.var "_law_road") (.int 1)) (.int 2)))),
  .iff (.cmp (.bin .mod (.var "_law_cell") (.int 12)) .eq (.int 0)) [
    .asg "_law_closes" (.var "_law_opens")] [],
  .iff (.cmp (.bin .mod (.var "_law_cell") (.int 9)) .eq (.int 5)) [
    .asg "_law_closes" (.menu [(.bin .pow (.int 10) (.int 12)), (.bin .add (.call "max" [(.var "_law_opens"), (.var "_law_start")]) (.call "_law_wide" [(.bin .fdiv (.var "_law_cell") (.int 18)), (.bin .pow (.int 10) (.int 12))]))] (.bin .mod (.bin .fdiv (.var "_law_cell") (.int 9)) (.int 2)))] [],
  .asg "_law_closes" (.call "min" [(.var "_law_closes"), (.bin .pow (.int 10) (.int 12))]),
  .asg "_law_cell" (.call "_law_cell_at" [(.var "_law_script"), (.bin .add (.var "_law_k") (.int 3))]),
  .asg "_law_stay" (.bin .mod (.bin .fdiv (.var "_law_cell") (.int 3)) (.bin .add (.bin .fdiv (.idx (.var "_law_road") (.int 1)) (.int 3)) (.int 2))),
  .iff (.cmp (.bin .mod (.var "_law_cell") (.int 3)) .eq (.int 0)) [
    .asg "_law_stay" (.int 0)] [],
  .iff (.cmp (.bin .mod (.var "_law_cell") (.int 41)) .eq (.int 7)) [
    .asg "_law_stay" (.call "_law_wide" [(.bin .fdiv (.var "_law_cell") (.int 41)), (.bin .add (.bin .pow (.int 10) (.int 12)) (.int 1))])] [],
  .ret (.tup [(.var "_law_place"), (.var "_law_opens"), (.var "_law_closes"), (.var "_law_stay")])] }
noncomputable def d__law_stops_by : Def := { name := "_law_stops_by", params := ["_law_road", "_law_start", "_law_script", "_law_many"], body := [
  .ret (.comp (.call "_law_stop_by" [(.var "_law_road"), (.var "_law_start"), (.var "_law_script"), (.bin .add (.int 4) (.bin .mul (.int 4) (.var "_law_k")))]) "_law_k" (.call "range" [(.var "_law_many")]))] }
noncomputable def d__law_figures : Def := { name := "_law_figures", params := ["_law_number"], body := [
  .asg "_law_figures_here" (.str ""),
  .whil (.cmp (.var "_law_number") .gt (.int 9)) [
    .asg "_law_figures_here" (.bin .add (.idx (.str "0123456789") (.bin .mod (.var "_law_number") (.int 10))) (.var "_law_figures_here")),
    .asg "_law_number" (.bin .fdiv (.var "_law_number") (.int 10))],
  .ret (.bin .add (.idx (.str "0123456789") (.var "_law_number")) (.var "_law_figures_here"))] }
noncomputable def d__law_rows : Def := { name := "_law_rows", params := ["_law_road", "_law_home", "_law_start", "_law_stops"], body := [
  .asg "_law_rows_here" (.bin .add (.bin .add (.bin .add (.idx (.var "_law_road") (.int 0)) (.str " ")) (.call "_law_figures" [(.idx (.var "_law_road") (.int 1))])) (.str "\n")),
  .asg "_law_rows_here" (.bin .add (.bin .add (.bin .add (.bin .add (.bin .add (.var "_law_rows_here") (.str "home ")) (.call "_law_figures" [(.var "_law_home")])) (.str " at ")) (.call "_law_figures" [(.var "_law_start")])) (.str "\n")),
  .for1 "_law_stop" (.var "_law_stops") [
    .asg "_law_rows_here" (.bin .add (.bin .add (.var "_law_rows_here") (.str "stop ")) (.call "_law_figures" [(.idx (.var "_law_stop") (.int 0))])),
    .asg "_law_rows_here" (.bin .add (.bin .add (.bin .add (.bin .add (.var "_law_rows_here") (.str " from ")) (.call "_law_figures" [(.idx (.var "_law_stop") (.int 1))])) (.str " to ")) (.call "_law_figures" [(.idx (.var "_law_stop") (.int 2))])),
    .asg "_law_rows_here" (.bin .add (.bin .add (.bin .add (.var "_law_rows_here") (.str " for ")) (.call "_law_figures" [(.idx (.var "_law_stop") (.int 3))])) (.str "\n"))],
  .ret (.var "_law_rows_here")] }
noncomputable def d__law_tuples : Def := { name := "_law_tuples", params := ["_law_found"], body := [
  .iff (.not (.isinst (.var "_law_found") "list")) [
    .ret (.bool false)] [],
  .for1 "_law_stop" (.var "_law_found") [
    .iff (.not (.isinst (.var "_law_stop") "tuple")) [
      .ret (.bool false)] [],
    .for1 "_law_number" (.var "_law_stop") [
      .iff (.not (.call "_law_whole" [(.var "_law_number")])) [
        .ret (.bool false)] []]],
  .ret (.bool true)] }
noncomputable def d_law : Def := { name := "law", params := ["_law_script"], body := [
  .asg "_law_road" (.call "_law_road_by" [(.call "_law_cell_at" [(.var "_law_script"), (.int 0)])]),
  .asg "_law_home" (.call "_law_place_by" [(.var "_law_road"), (.call "_law_cell_at" [(.var "_law_script"), (.int 1)])]),
  .asg "_law_start" (.call "_law_start_by" [(.var "_law_road"), (.call "_law_cell_at" [(.var "_law_script"), (.int 2)])]),
  .asg "_law_stops" (.call "_law_stops_by" [(.var "_law_road"), (.var "_law_start"), (.var "_law_script"), (.bin .mod (.call "_law_cell_at" [(.var "_law_script"), (.int 3)]) (.int 8))]),
  .asg "_law_text" (.call "written" [(.call "Day" [(.var "_law_road"), (.var "_law_home"), (.var "_law_start"), (.call "list" [(.var "_law_stops")])])]),
  .iff (.or [(.not (.isinst (.var "_law_text") "str")), (.cmp (.var "_law_text") .ne (.call "_law_rows" [(.var "_law_road"), (.var "_law_home"), (.var "_law_start"), (.var "_law_stops")]))]) [
    .ret (.bool false)] [],
  .asg "_law_day" (.call "read" [(.call "_law_rows" [(.var "_law_road"), (.var "_law_home"), (.var "_law_start"), (.var "_law_stops")])]),
  .iff (.or [(.not (.isinst (.var "_law_day") "Day")), (.not (.isinst (.attr (.var "_law_day") "road") "tuple"))]) [
    .ret (.bool false)] [],
  .iff (.or [(.cmp (.attr (.var "_law_day") "road") .ne (.var "_law_road")), (.not (.call "_law_whole" [(.idx (.attr (.var "_law_day") "road") (.int 1))]))]) [
    .ret (.bool false)] [],
  .iff (.or [(.not (.call "_law_whole" [(.attr (.var "_law_day") "home")])), (.cmp (.attr (.var "_law_day") "home") .ne (.var "_law_home")), (.not (.call "_law_whole" [(.attr (.var "_law_day") "start")])), (.cmp (.attr (.var "_law_day") "start") .ne (.var "_law_start"))]) [
    .ret (.bool false)] [],
  .ret (.and [(.call "_law_tuples" [(.attr (.var "_law_day") "stops")]), (.cmp (.attr (.var "_law_day") "stops") .eq (.var "_law_stops")), (.cmp (.call "written" [(.var "_law_day")]) .eq (.var "_law_text"))])] }
noncomputable def constL : List (String × V) := [("LINE", .str (Str.ofString "line")), ("RING", .str (Str.ofString "ring")), ("LONGEST", .int 1000000000), ("LATEST", .int 1000000000000), ("MOST", .int 7), ("FIGURES", .str (Str.ofString "0123456789")), ("LONGEST_NUMBER", .int 15)]
noncomputable def consts (x : String) : Option V := constL.lookup x
noncomputable def defs : List Def := [d_law, d__law_tuples, d__law_rows, d__law_figures, d__law_stops_by, d__law_stop_by, d__law_start_by, d__law_place_by, d__law_places, d__law_road_by, d__law_whole, d__law_wide, d__law_cell_at, d_read, d_numbers_of, d_number_of, d_written, d_looked_at, d_is_place, d_is_road, d_is_within]
noncomputable def clss : List (String × Def) := [("Day", d_Day_init)]
noncomputable abbrev G (n : Nat) : Fn := lk defs clss consts n
noncomputable abbrev sLine : Str := Str.ofString "line"
noncomputable abbrev sRing : Str := Str.ofString "ring"
theorem line_ne_ring : ¬ Str.ofString "line" = Str.ofString "ring" := by decide +kernel
theorem ring_ne_line : ¬ Str.ofString "ring" = Str.ofString "line" := by decide +kernel


theorem c_cell (n : Nat) (ns : List Int) (k : Int) (H : Hp) (hk : 0 ≤ k) (hl : ns.length ≤ 63) : ∃ c, (G (n + 1)).call "_law_cell_at" [.scr ns, .int k] H = .ok (.int c) H := by
  rw [lk_call (d := d__law_cell_at) (by kernel_rfl)]
  by_cases h0 : ns.length = 0
  · refine ⟨k, ?_⟩
    simp [runDef, d__law_cell_at, setAll, setL, evT, consts, constL, cmp_eq_int, h0]
  · have hne : (ns.length : Int) ≠ 0 := by omega
    have h1 : 0 ≤ Int.fmod k ns.length := Int.fmod_nonneg_of_pos _ (by omega)
    have h2 : Int.fmod k ns.length < ns.length := Int.fmod_lt_of_pos _ (by omega)
    have h3 : (Int.fmod k ns.length).toNat < ns.length := by omega
    have hp : place (Int.fmod k ns.length) ns.length = some (Int.fmod k ns.length).toNat := by unfold place; rw [if_pos h1, if_pos h2]
    refine ⟨ns[(Int.fmod k ns.length).toNat] + 3 * Int.fdiv k ns.length, ?_⟩
    have e1 := bin_mod (a := k) H hne
    have e2 := bin_fdiv (a := k) H hne (by omega)
    have e3 := bin_mul_l (a := 3) (b := Int.fdiv k ns.length) H (by decide)
    simp [runDef, d__law_cell_at, setAll, setL, evT, consts, constL, cmp_eq_int, h0, e1, e2, e3, index, intAt, itemAt, hp, h3]

theorem c_wide (n : Nat) (c b : Int) (H : Hp) (hb : 0 < b) : ∃ r, (G (n + 1)).call "_law_wide" [.int c, .int b] H = .ok (.int r) H ∧ 0 ≤ r ∧ r < b := by
  rw [lk_call (d := d__law_wide) (by kernel_rfl)]
  refine ⟨Int.fmod (Int.fmod (c * 48271000000007) 1000000000000037) b, ?_, Int.fmod_nonneg_of_pos _ hb, Int.fmod_lt_of_pos _ hb⟩
  have e1 := bin_mul_r (a := c) (b := 48271000000007) H (by decide)
  have e2 := bin_mod (a := c * 48271000000007) (b := 1000000000000037) H (by decide)
  have e3 := bin_mod (a := Int.fmod (c * 48271000000007) 1000000000000037) H (show b ≠ 0 by omega)
  simp [runDef, d__law_wide, setAll, setL, evT, e1, e2, e3]

theorem c_whole (n : Nat) (i : Int) (H : Hp) : (G (n + 1)).call "_law_whole" [.int i] H = .ok (.bool true) H := by
  rw [lk_call (d := d__law_whole) (by kernel_rfl)]
  simp [runDef, d__law_whole, setAll, setL, evT]

theorem menu_at {vs : List V} {k : Int} {H : Hp} (h0 : 0 ≤ k) (h1 : k < vs.length) : ∃ v, v ∈ vs ∧ index (.lst vs) (.int k) H = .ok v H := by
  have h3 : k.toNat < vs.length := by omega
  refine ⟨vs[k.toNat], List.getElem_mem h3, ?_⟩
  have hp : place k vs.length = some k.toNat := by unfold place; rw [if_pos h0, if_pos h1]
  simp [index, intAt, itemAt, hp, h3]

theorem c_road (n : Nat) (c : Int) (H : Hp) : ∃ w l, (G (n + 2)).call "_law_road_by" [.int c] H = .ok (.tup [.str w, .int l]) H ∧ (w = sLine ∨ w = sRing) ∧ 1 ≤ l ∧ l ≤ 1000000000 := by
  rw [lk_call (d := d__law_road_by) (by kernel_rfl)]
  obtain ⟨r, er, r0, r1⟩ := c_wide n (c.fdiv 10) 1000000000 H (by decide)
  have m1 := Int.fmod_nonneg_of_pos (c.fdiv 2) (b := 30) (by decide)
  have m2 := Int.fmod_lt_of_pos (c.fdiv 2) (b := 30) (by decide)
  obtain ⟨v, hv, ev⟩ := menu_at (vs := [.int 1, .int 2, .int 3, .int 1000000000]) (k := Int.fmod (c.fdiv 50) 4) (H := H) (Int.fmod_nonneg_of_pos _ (by decide)) (Int.fmod_lt_of_pos _ (by decide))
  obtain ⟨u, hu, eu⟩ := menu_at (vs := [.str sLine, .str sRing]) (k := Int.fmod c 2) (H := H) (Int.fmod_nonneg_of_pos _ (by decide)) (Int.fmod_lt_of_pos _ (by decide))
  obtain ⟨w, rfl, hw⟩ : ∃ w, u = .str w ∧ (w = sLine ∨ w = sRing) := by
    simp only [List.mem_cons, List.not_mem_nil, or_false] at hu
    rcases hu with rfl | rfl
    · exact ⟨_, rfl, .inl rfl⟩
    · exact ⟨_, rfl, .inr rfl⟩
  obtain ⟨l2, rfl, hl2⟩ : ∃ l, v = .int l ∧ 1 ≤ l ∧ l ≤ 1000000000 := by
    simp only [List.mem_cons, List.not_mem_nil, or_false] at hv
    rcases hv with rfl | rfl | rfl | rfl <;> exact ⟨_, rfl, by decide, by decide⟩
  have e1 := fun H => bin_fdiv (a := c) (b := 2) H (by decide) (by decide)
  have e2 := fun H => bin_fdiv (a := c) (b := 10) H (by decide) (by decide)
  have e3 := fun H => bin_fdiv (a := c) (b := 50) H (by decide) (by decide)
  have e4 := fun H => bin_mod (a := c.fdiv 2) (b := 30) H (by decide)
  have e5 := fun H => bin_mod (a := c.fdiv 2) (b := 5) H (by decide)
  have e6 := fun H => bin_mod (a := c.fdiv 2) (b := 25) H (by decide)
  have e7 := fun H => bin_mod (a := c.fdiv 50) (b := 4) H (by decide)
  have e8 := fun H => bin_mod (a := c) (b := 2) H (by decide)
  have e9 := fun H => bin_pow (a := 10) (b := 9) H (by decide)
  have eb : ∀ a b H, builtin "_law_wide" [.int a, .int b] H = .stuck := fun _ _ _ => rfl
  refine ⟨w, if Int.fmod (c.fdiv 2) 25 = 3 then l2 else if Int.fmod (c.fdiv 2) 5 = 1 then 1 + r else 1 + Int.fmod (c.fdiv 2) 30, ?_, hw, ?_⟩
  · by_cases h5 : Int.fmod (c.fdiv 2) 5 = 1 <;> by_cases h25 : Int.fmod (c.fdiv 2) 25 = 3 <;>
      simp [runDef, d__law_road_by, setAll, setL, evT, cmp_eq_int, e1, e2, e3, e4, e5, e6, e7, e8, e9, eb, h5, h25, er, ev, eu]
  · split
    · exact hl2
    · split <;> omega

noncomputable def many (w : Str) (l : Int) : Int := if w = sLine then l + 1 else l

theorem c_places (n : Nat) (w : Str) (l : Int) (H : Hp) : (G (n + 1)).call "_law_places" [.tup [.str w, .int l]] H = .ok (.int (many w l)) H := by
  rw [lk_call (d := d__law_places) (by kernel_rfl)]
  unfold many
  by_cases hw : w = Str.ofString "line" <;> simp [runDef, d__law_places, setAll, setL, evT, cmp_eq_str, hw]

theorem c_place (n : Nat) (w : Str) (l c : Int) (H : Hp) (hl : 1 ≤ l) : ∃ p, (G (n + 2)).call "_law_place_by" [.tup [.str w, .int l], .int c] H = .ok (.int p) H ∧ 0 ≤ p ∧ p < many w l := by
  rw [lk_call (d := d__law_place_by) (by kernel_rfl)]
  have hm : 1 ≤ many w l := by unfold many; split <;> omega
  have ep := c_places n w l H
  obtain ⟨r, er, r0, r1⟩ := c_wide n (c.fdiv 7) (many w l) H (by omega)
  obtain ⟨v, hv, ev⟩ := menu_at (vs := [.int 0, .int (many w l - 1), .int ((many w l).fdiv 2)]) (k := Int.fmod (c.fdiv 7) 3) (H := H) (Int.fmod_nonneg_of_pos _ (by decide)) (Int.fmod_lt_of_pos _ (by decide))
  obtain ⟨q, rfl, hq⟩ : ∃ q, v = .int q ∧ 0 ≤ q ∧ q < many w l := by
    simp only [List.mem_cons, List.not_mem_nil, or_false] at hv
    rcases hv with rfl | rfl | rfl
    · exact ⟨_, rfl, by omega, by omega⟩
    · exact ⟨_, rfl, by omega, by omega⟩
    · refine ⟨_, rfl, ?_, ?_⟩
      · rw [Int.fdiv_eq_ediv_of_nonneg _ (by decide)]; omega
      · rw [Int.fdiv_eq_ediv_of_nonneg _ (by decide)]; omega
  have e1 := fun H => bin_mod (a := c) (b := 7) H (by decide)
  have e2 := fun H => bin_fdiv (a := c) (b := 7) H (by decide) (by decide)
  have e3 := fun H => bin_mod (a := c.fdiv 7) (b := 3) H (by decide)
  have e4 := fun H => bin_fdiv (a := many w l) (b := 2) H (by decide) (by decide)
  have eb : ∀ a H, builtin "_law_places" [a] H = .stuck := fun _ _ => rfl
  have eb2 : ∀ a b H, builtin "_law_wide" [.int a, .int b] H = .stuck := fun _ _ _ => rfl
  refine ⟨if Int.fmod c 7 = 0 then q else r, ?_, ?_⟩
  · by_cases h7 : Int.fmod c 7 = 0 <;> simp [runDef, d__law_place_by, setAll, setL, evT, cmp_eq_int, e1, e2, e3, e4, eb, eb2, h7, er, ev, ep]
  · split
    · exact hq
    · exact ⟨r0, r1⟩


noncomputable def RetT (H : Hp) (Q : V → Prop) (r : RS) : Prop := ∃ v, r = .ret v H ∧ Q v
theorem ss_asg {T : RS → Prop} {Γ : Fn} {ρ : Rho} {x : String} {e : E} {ss : List S} {H H1 : Hp} {v : V} (h : evE Γ ρ e H = .ok v H1) (k : T (exSs Γ ss (setL x v ρ) H1)) : T (exSs Γ (.asg x e :: ss) ρ H) := by
  have q : exSs Γ (.asg x e :: ss) ρ H = exSs Γ ss (setL x v ρ) H1 := by simp [h]
  rw [q]; exact k
theorem ss_iff {T : RS → Prop} {Γ : Fn} {ρ : Rho} {x : String} {t e : E} {ss : List S} {H : Hp} {b : Bool} {o : Int} (P : Int → Prop) (ht : evT Γ ρ t H = .ok b H) (he : b = true → ∃ i, evE Γ ρ e H = .ok (.int i) H ∧ P i) (hx : setL x (.int o) ρ = ρ) (ho : b = false → P o)
    (k : ∀ o', P o' → T (exSs Γ ss (setL x (.int o') ρ) H)) : T (exSs Γ (.iff t [.asg x e] [] :: ss) ρ H) := by
  cases b with
  | true =>
    obtain ⟨i, hi, hp⟩ := he rfl
    have q : exSs Γ (.iff t [.asg x e] [] :: ss) ρ H = exSs Γ ss (setL x (.int i) ρ) H := by simp [ht, hi]
    rw [q]; exact k i hp
  | false =>
    have q : exSs Γ (.iff t [.asg x e] [] :: ss) ρ H = exSs Γ ss (setL x (.int o) ρ) H := by simp [ht, hx]
    rw [q]; exact k o (ho rfl)
theorem runDef_ret {Γ : Fn} {d : Def} {vs : List V} {ρ : Rho} {H : Hp} {Q : V → Prop} (e : setAll d.params vs [] = some ρ) (h : RetT H Q (exSs Γ d.body ρ H)) : ∃ v, runDef Γ d vs H = .ok v H ∧ Q v := by
  obtain ⟨v, hv, q⟩ := h
  exact ⟨v, by simp [runDef, e, hv], q⟩
theorem fmod_lt (a : Int) {b : Int} (h : 0 < b) : 0 ≤ a.fmod b ∧ a.fmod b < b := ⟨Int.fmod_nonneg_of_pos a h, Int.fmod_lt_of_pos a h⟩
theorem t_mod {Γ : Fn} {ρ : Rho} {x : String} {c n k : Int} {H : Hp} (hx : ρ.lookup x = some (.int c)) (hn : n ≠ 0) : evT Γ ρ (.cmp (.bin .mod (.var x) (.int n)) .eq (.int k)) H = .ok (c.fmod n == k) H := by
  simp [evT, hx, bin_mod, hn, cmp_eq_int]

theorem c_start (n : Nat) (w : Str) (l c : Int) (H : Hp) (hl : 1 ≤ l) (hl2 : l ≤ 1000000000) : ∃ s, (G (n + 2)).call "_law_start_by" [.tup [.str w, .int l], .int c] H = .ok (.int s) H ∧ 0 ≤ s ∧ s ≤ 1000000000000 := by
  rw [lk_call (d := d__law_start_by) (by kernel_rfl)]
  obtain ⟨r, er, r0, r1⟩ := c_wide n (c.fdiv 3) 1000000000001 H (by decide)
  have e1 := fun H => bin_mod (a := c) (b := 3) H (by decide)
  have e2 := fun H => bin_fdiv (a := c) (b := 3) H (by decide) (by decide)
  have e3 := fun H => bin_mod (a := c.fdiv 3) (b := 2 * l + 1) H (by omega)
  have e4 := fun H => bin_pow (a := 10) (b := 12) H (by decide)
  have e5 := fun H => bin_mul_l (a := 2) (b := l) H (by decide)
  have eb2 : ∀ a b H, builtin "_law_wide" [.int a, .int b] H = .stuck := fun _ _ _ => rfl
  have m := fmod_lt (c.fdiv 3) (b := 2 * l + 1) (by omega)
  by_cases h0 : c.fmod 3 = 0
  · exact ⟨0, by simp [runDef, d__law_start_by, setAll, setL, evT, cmp_eq_int, e1, h0], by decide, by decide⟩
  · by_cases h1 : c.fmod 3 = 1
    · exact ⟨_, by simp [runDef, d__law_start_by, setAll, setL, evT, cmp_eq_int, e1, e2, e3, e5, h1], m.1, by omega⟩
    · exact ⟨r, by simp [runDef, d__law_start_by, setAll, setL, evT, cmp_eq_int, e1, e2, e4, eb2, er, h0, h1], r0, by omega⟩

structure StopOk (w : Str) (l p o c s : Int) : Prop where
  p0 : 0 ≤ p
  p1 : p < many w l
  o0 : 0 ≤ o
  oc : o ≤ c
  c1 : c ≤ 1000000000000
  s0 : 0 ≤ s
  s1 : s ≤ 1000000000000

set_option maxHeartbeats 1000000 in
theorem c_stop (n : Nat) (w : Str) (l st k : Int) (ns : List Int) (H : Hp) (hl : 1 ≤ l) (hl2 : l ≤ 1000000000) (s0 : 0 ≤ st) (s1 : st ≤ 1000000000000) (hk : 0 ≤ k) (hns : ns.length ≤ 63) :
    ∃ p o c s, (G (n + 3)).call "_law_stop_by" [.tup [.str w, .int l], .int st, .scr ns, .int k] H = .ok (.tup [.int p, .int o, .int c, .int s]) H ∧ StopOk w l p o c s := by
  rw [lk_call (d := d__law_stop_by) (by kernel_rfl)]
  obtain ⟨c0, k0⟩ := c_cell (n + 1) ns k H hk hns
  obtain ⟨c1, k1⟩ := c_cell (n + 1) ns (k + 1) H (by omega) hns
  obtain ⟨c2, k2⟩ := c_cell (n + 1) ns (k + 2) H (by omega) hns
  obtain ⟨c3, k3⟩ := c_cell (n + 1) ns (k + 3) H (by omega) hns
  obtain ⟨p, ep, p0, p1⟩ := c_place n w l c0 H hl
  have f1 : ∀ a b H, builtin "_law_cell_at" [a, b] H = .stuck := fun _ _ _ => rfl
  have f2 : ∀ a b H, builtin "_law_place_by" [a, b] H = .stuck := fun _ _ _ => rfl
  have f3 : ∀ a b H, builtin "_law_wide" [a, b] H = .stuck := fun _ _ _ => rfl
  have ew := fun c b hb => c_wide (n + 1) c b H hb
  have e9 := fun H => bin_pow (a := 10) (b := 9) H (by decide)
  have e12 := fun H => bin_pow (a := 10) (b := 12) H (by decide)
  have ml := fun (a : Int) (ha : a.natAbs < 2 ^ 64) H => bin_mul_l (a := a) (b := l) H ha
  have fd := fun (a b : Int) H (h : b ≠ 0) (h2 : b.natAbs < 1073741824) => bin_fdiv (a := a) (b := b) H h h2
  have md := fun (a b : Int) H (h : b ≠ 0) => bin_mod (a := a) (b := b) H h
  have m1 := fmod_lt (c1.fdiv 4) (b := 3 * l + 2) (by omega)
  have m2 := fmod_lt (c1.fdiv 4) (b := l + 1) (by omega)
  have m3 := fmod_lt (c2.fdiv 4) (b := l + 2) (by omega)
  have m4 : 0 ≤ l.fdiv 3 ∧ l.fdiv 3 ≤ l := by rw [Int.fdiv_eq_ediv_of_nonneg _ (by decide)]; omega
  have m5 := fmod_lt (c3.fdiv 3) (b := l.fdiv 3 + 2) (by omega)
  have fin : ∃ v, runDef (G (n + 2)) d__law_stop_by [.tup [.str w, .int l], .int st, .scr ns, .int k] H = .ok v H ∧ ∃ p o c s, v = .tup [.int p, .int o, .int c, .int s] ∧ StopOk w l p o c s := by
    refine runDef_ret rfl ?_
    refine ss_asg (v := .int p) (H1 := H) (by simp [d__law_stop_by, setAll, setL, f1, f2, k0, ep]) ?_
    simp only [setL, String.reduceEq, reduceIte]
    refine ss_asg (v := .int c1) (H1 := H) (by simp [setL, f1, k1]) ?_
    simp only [setL, String.reduceEq, reduceIte]
    refine ss_asg (v := .int (st + (c1.fdiv 4).fmod (3 * l + 2))) (H1 := H) (by simp [setL, fd c1 4, md _ (3 * l + 2) H (by omega), ml 3 (by decide)]) ?_
    simp only [setL, String.reduceEq, reduceIte]
    refine ss_iff (fun x => 0 ≤ x) (t_mod (c := c1) rfl (by decide)) (fun _ => ⟨0, rfl, by decide⟩) rfl (fun _ => by omega) fun o1 ho1 => ?_
    simp only [setL, String.reduceEq, reduceIte]
    refine ss_iff (fun x => 0 ≤ x) (t_mod (c := c1) rfl (by decide)) (fun _ => ⟨if 0 < st - (c1.fdiv 4).fmod (l + 1) then st - (c1.fdiv 4).fmod (l + 1) else 0, by simp [setL, fd c1 4, md _ (l + 1) H (by omega)], by split <;> omega⟩) rfl (fun _ => ho1) fun o2 ho2 => ?_
    simp only [setL, String.reduceEq, reduceIte]
    refine ss_iff (fun x => 0 ≤ x) (t_mod (c := c1) rfl (by decide)) (fun _ => ?_) rfl (fun _ => ho2) fun o3 ho3 => ?_
    · obtain ⟨v, hv, ev⟩ := menu_at (vs := [.int 1000000000, .int 1000000000000]) (k := Int.fmod (c1.fdiv 16) 2) (H := H) (Int.fmod_nonneg_of_pos _ (by decide)) (Int.fmod_lt_of_pos _ (by decide))
      obtain ⟨q, rfl, hq⟩ : ∃ q, v = .int q ∧ 0 < q := by
        simp only [List.mem_cons, List.not_mem_nil, or_false] at hv
        rcases hv with rfl | rfl <;> exact ⟨_, rfl, by decide⟩
      obtain ⟨r, er, r0, r1⟩ := ew (c1.fdiv 32) q hq
      exact ⟨st + r, by simp [setL, fd c1 16, fd c1 32, md (c1.fdiv 16) 2, e9, e12, ev, er, f3], by omega⟩
    simp only [setL, String.reduceEq, reduceIte]
    refine ss_asg (v := .int (if 1000000000000 < o3 then 1000000000000 else o3)) (H1 := H) (by simp [setL, e12]) ?_
    obtain ⟨o, ho⟩ : ∃ o, o = if 1000000000000 < o3 then 1000000000000 else o3 := ⟨_, rfl⟩
    have ho' : 0 ≤ o ∧ o ≤ 1000000000000 := by rw [ho]; split <;> omega
    rw [← ho]
    simp only [setL, String.reduceEq, reduceIte]
    refine ss_asg (v := .int c2) (H1 := H) (by simp [setL, f1, k2]) ?_
    obtain ⟨v, hv, ev⟩ := menu_at (vs := [.int 0, .int 3, .int 9, .int 20]) (k := Int.fmod c2 4) (H := H) (Int.fmod_nonneg_of_pos _ (by decide)) (Int.fmod_lt_of_pos _ (by decide))
    obtain ⟨q, rfl, hq, hq2⟩ : ∃ q, v = .int q ∧ 0 ≤ q ∧ q ≤ 20 := by
      simp only [List.mem_cons, List.not_mem_nil, or_false] at hv
      rcases hv with rfl | rfl | rfl | rfl <;> exact ⟨_, rfl, by decide, by decide⟩
    have hm : o ≤ (if o < st then st else o) := by split <;> omega
    have hql : 0 ≤ q * l := Int.mul_nonneg hq (by omega)
    simp only [setL, String.reduceEq, reduceIte]
    refine ss_asg (v := .int ((if o < st then st else o) + q * l + (c2.fdiv 4).fmod (l + 2))) (H1 := H) (by simp [setL, fd c2 4, md c2 4, md _ (l + 2) H (by omega), ml q (by omega), ev]) ?_
    simp only [setL, String.reduceEq, reduceIte]
    refine ss_iff (fun x => o ≤ x) (t_mod (c := c2) rfl (by decide)) (fun _ => ⟨o, rfl, by omega⟩) rfl (fun _ => by omega) fun x1 hx1 => ?_
    simp only [setL, String.reduceEq, reduceIte]
    refine ss_iff (fun x => o ≤ x) (t_mod (c := c2) rfl (by decide)) (fun _ => ?_) rfl (fun _ => hx1) fun x2 hx2 => ?_
    · obtain ⟨r, er, r0, r1⟩ := ew (c2.fdiv 18) 1000000000000 (by decide)
      obtain ⟨v, hv, ev⟩ := menu_at (vs := [.int 1000000000000, .int ((if o < st then st else o) + r)]) (k := Int.fmod (c2.fdiv 9) 2) (H := H) (Int.fmod_nonneg_of_pos _ (by decide)) (Int.fmod_lt_of_pos _ (by decide))
      obtain ⟨q, rfl, hq⟩ : ∃ q, v = .int q ∧ o ≤ q := by
        simp only [List.mem_cons, List.not_mem_nil, or_false] at hv
        rcases hv with rfl | rfl
        · exact ⟨_, rfl, ho'.2⟩
        · exact ⟨_, rfl, by omega⟩
      exact ⟨q, by simp [setL, fd c2 9, fd c2 18, md (c2.fdiv 9) 2, e12, ev, er, f3], hq⟩
    simp only [setL, String.reduceEq, reduceIte]
    refine ss_asg (v := .int (if 1000000000000 < x2 then 1000000000000 else x2)) (H1 := H) (by simp [setL, e12]) ?_
    obtain ⟨cl, hcl⟩ : ∃ o, o = if 1000000000000 < x2 then 1000000000000 else x2 := ⟨_, rfl⟩
    have hcl' : o ≤ cl ∧ cl ≤ 1000000000000 := by rw [hcl]; split <;> omega
    rw [← hcl]
    simp only [setL, String.reduceEq, reduceIte]
    refine ss_asg (v := .int c3) (H1 := H) (by simp [setL, f1, k3]) ?_
    simp only [setL, String.reduceEq, reduceIte]
    refine ss_asg (v := .int ((c3.fdiv 3).fmod (l.fdiv 3 + 2))) (H1 := H) (by simp [setL, fd c3 3, fd l 3, md _ (l.fdiv 3 + 2) H (by omega)]) ?_
    simp only [setL, String.reduceEq, reduceIte]
    refine ss_iff (fun x => 0 ≤ x ∧ x ≤ 1000000000000) (t_mod (c := c3) rfl (by decide)) (fun _ => ⟨0, rfl, by decide, by decide⟩) rfl (fun _ => by omega) fun y1 hy1 => ?_
    simp only [setL, String.reduceEq, reduceIte]
    refine ss_iff (fun x => 0 ≤ x ∧ x ≤ 1000000000000) (t_mod (c := c3) rfl (by decide)) (fun _ => ?_) rfl (fun _ => hy1) fun y2 hy2 => ?_
    · obtain ⟨r, er, r0, r1⟩ := ew (c3.fdiv 41) 1000000000001 (by decide)
      exact ⟨r, by simp [setL, fd c3 41, e12, er, f3], by omega⟩
    simp only [setL, String.reduceEq, reduceIte]
    exact ⟨_, by simp [setL], p, o, cl, y2, rfl, p0, p1, ho'.1, hcl'.1, hcl'.2, hy2.1, hy2.2⟩
  obtain ⟨v, e, p, o, c, s, rfl, h⟩ := fin
  exact ⟨p, o, c, s, e, h⟩

end Mine.L12

/-! P12b -/
namespace Mine.L12
open Mine PySem
noncomputable def RetH (Q : V → Hp → Prop) (r : RS) : Prop := ∃ v H', r = .ret v H' ∧ Q v H'
theorem runDef_T {Γ : Fn} {d : Def} {vs : List V} {ρ : Rho} {H : Hp} {Q : V → Hp → Prop} (e : setAll d.params vs [] = some ρ) (h : RetH Q (exSs Γ d.body ρ H)) : ∃ v H', runDef Γ d vs H = .ok v H' ∧ Q v H' := by
  obtain ⟨v, H', hv, q⟩ := h
  exact ⟨v, H', by simp [runDef, e, hv], q⟩
noncomputable def Ext (H H' : Hp) : Prop := ∃ L, H' = H ++ L
theorem Ext.refl (H : Hp) : Ext H H := ⟨[], by simp⟩
theorem Ext.trans {H H1 H2 : Hp} (a : Ext H H1) (b : Ext H1 H2) : Ext H H2 := by
  obtain ⟨l, rfl⟩ := a; obtain ⟨m, rfl⟩ := b; exact ⟨l ++ m, by simp⟩
theorem Ext.get {H H' : Hp} (a : Ext H H') {k : Nat} {o : O} (h : H[k]? = some o) : H'[k]? = some o := by
  obtain ⟨l, rfl⟩ := a
  rw [List.getElem?_append_left (List.getElem?_eq_some_iff.mp h).1]; exact h
theorem ext_app (H L : Hp) : Ext H (H ++ L) := ⟨L, rfl⟩
theorem len_app1 (H : Hp) (o : O) : (H ++ [o])[H.length]? = some o := by simp
theorem set_app1 (H : Hp) (o o' : O) : (H ++ [o]).set H.length o' = H ++ [o'] := by
  rw [List.set_append_right _ _ (by omega)]; simp
theorem turns_some (P : V → Prop) (f : V → Hp → R V) (chk : Hp → Bool) (H : Hp) (hc : ∀ ys, chk (H ++ [.list ys]) = true) : ∀ (xs done : List V), (∀ y ∈ xs, ∀ ys, ∃ v, f y (H ++ [.list ys]) = .ok v (H ++ [.list ys]) ∧ P v) → done.length + xs.length ≤ line →
    ∃ vs, turns f chk H.length xs (H ++ [.list done]) = .ok () (H ++ [.list (done ++ vs)]) ∧ vs.length = xs.length ∧ ∀ v ∈ vs, P v
  | [], done, _, _ => ⟨[], by simp [turns, hc], rfl, fun _ q => nomatch q⟩
  | y :: ys, done, h, hl => by
    obtain ⟨v, ev, pv⟩ := h y (List.mem_cons_self ..) done
    obtain ⟨vs, e, l, p⟩ := turns_some P f chk H hc ys (done ++ [v]) (fun z hz => h z (List.mem_cons_of_mem _ hz)) (by simp at hl ⊢; omega)
    refine ⟨v :: vs, ?_, by simp [l], fun z hz => ?_⟩
    · rw [turns, if_pos (hc _), ev]
      simp only [len_app1, set_app1]
      rw [if_pos (by simp at hl; omega), e]; simp
    · rcases List.mem_cons.mp hz with rfl | hz
      · exact pv
      · exact p z hz
theorem turns_maps {α : Type} (y g : α → V) (f : V → Hp → R V) (chk : Hp → Bool) (H : Hp) (hc : ∀ ys, chk (H ++ [.list ys]) = true) : ∀ (zs : List α) (done : List V), (∀ z ∈ zs, ∀ ys, f (y z) (H ++ [.list ys]) = .ok (g z) (H ++ [.list ys])) → done.length + zs.length ≤ line →
    turns f chk H.length (zs.map y) (H ++ [.list done]) = .ok () (H ++ [.list (done ++ zs.map g)])
  | [], done, _, _ => by simp [turns, hc]
  | z :: zs, done, h, hl => by
    have ih := turns_maps y g f chk H hc zs (done ++ [g z]) (fun u hu => h u (List.mem_cons_of_mem _ hu)) (by simp at hl ⊢; omega)
    rw [List.map_cons, turns, if_pos (hc _), h z (List.mem_cons_self ..)]
    simp only [len_app1, set_app1]
    rw [if_pos (by simp at hl; omega), ih]; simp
theorem forL_all (I : Nat → Rho → Hp → Prop) (body : V → Rho → Hp → RS) (chk : Hp → Bool) (hc : ∀ i ρ H, I i ρ H → chk H = true) (N : Nat) : ∀ (xs : List V) (i : Nat), i + xs.length ≤ N → (∀ y ∈ xs, ∀ i ρ H, i < N → I i ρ H → ∃ ρ' H', I (i + 1) ρ' H' ∧ body y ρ H = .next ρ' H') →
    ∀ ρ H, I i ρ H → ∃ ρ' H', I (i + xs.length) ρ' H' ∧ forL body chk xs ρ H = .next ρ' H'
  | [], i, _, _, ρ, H, z => ⟨ρ, H, z, by simp [forL, hc i ρ H z]⟩
  | y :: ys, i, hN, h, ρ, H, z => by
    obtain ⟨ρ1, H1, i1, e1⟩ := h y (List.mem_cons_self ..) i ρ H (by simp at hN; omega) z
    obtain ⟨ρ2, H2, i2, e2⟩ := forL_all I body chk hc N ys (i + 1) (by simp at hN; omega) (fun z hz => h z (List.mem_cons_of_mem _ hz)) ρ1 H1 i1
    exact ⟨ρ2, H2, by simpa [Nat.add_assoc, Nat.add_comm 1] using i2, by simp [forL, hc i ρ H z, e1, e2]⟩
theorem sameO_ext {H H' : Hp} {j : Nat} {vs : List V} (h : H[j]? = some (.list vs)) (e : Ext H H') : sameO (.ref j) H H' = true := by
  simp [sameO, h, e.get h]
theorem ss_for {T : RS → Prop} {Γ : Fn} {ρ ρ1 : Rho} {x : String} {e : E} {b ss : List S} {H H1 H2 : Hp} {v : V} {xs : List V} (he : evE Γ ρ e H = .ok v H1) (hx : items H1 v = some xs)
    (hf : forL (fun v ρ1 H2 => exSs Γ b (setL x v ρ1) H2) (sameO v H1) xs ρ H1 = .next ρ1 H2) (k : T (exSs Γ ss ρ1 H2)) : T (exSs Γ (.for1 x e b :: ss) ρ H) := by
  have q : exSs Γ (.for1 x e b :: ss) ρ H = exSs Γ ss ρ1 H2 := by
    rw [exSs_cons, exS_for1, he, ofR_ok, forV, hx]
    dsimp only
    rw [hf]; rfl
  rw [q]; exact k
noncomputable abbrev Q4 := Int × Int × Int × Int
noncomputable def tupQ (q : Q4) : V := .tup [.int q.1, .int q.2.1, .int q.2.2.1, .int q.2.2.2]
theorem ev_comp {Γ : Fn} {ρ : Rho} {elt it : E} {x : String} {v : V} {xs : List V} {H H1 H2 : Hp} (hit : evE Γ ρ it H = .ok v H1) (hx : items H1 v = some xs)
    (ht : turns (fun y H2 => evE Γ ((x, y) :: ρ) elt H2) (sameO v H1) H1.length xs (H1 ++ [.list []]) = .ok () H2) : evE Γ ρ (.comp elt x it) H = .ok (.ref H1.length) H2 := by
  rw [evE_comp, hit, R.bind_ok, compV, hx]
  dsimp only
  rw [ht]; rfl
theorem c_stops (n : Nat) (w : Str) (l st m : Int) (ns : List Int) (H : Hp) (hl : 1 ≤ l) (hl2 : l ≤ 1000000000) (s0 : 0 ≤ st) (s1 : st ≤ 1000000000000) (hm : 0 ≤ m) (hm2 : m ≤ 100) (hns : ns.length ≤ 63) :
    ∃ vs, (G (n + 4)).call "_law_stops_by" [.tup [.str w, .int l], .int st, .scr ns, .int m] H = .ok (.ref H.length) (H ++ [.list vs]) ∧ vs.length = m.toNat ∧ ∀ v ∈ vs, ∃ p o c s, v = .tup [.int p, .int o, .int c, .int s] ∧ StopOk w l p o c s := by
  rw [lk_call (d := d__law_stops_by) (by kernel_rfl)]
  have f1 : ∀ a b c d H, builtin "_law_stop_by" [a, b, c, d] H = .stuck := fun _ _ _ _ _ => rfl
  have f2 : ∀ b H, builtin "range" [.int b] H = .ok (.rng b) H := fun _ _ => rfl
  have hr : -500000 ≤ m ∧ m ≤ 500000 := by omega
  have e4 := fun (y : Int) H => bin_mul_l (a := 4) (b := y) H (by decide)
  obtain ⟨vs, e, le, p⟩ := turns_some (fun v => ∃ p o c s, v = .tup [.int p, .int o, .int c, .int s] ∧ StopOk w l p o c s)
    (fun y H2 => evE (G (n + 3)) (("_law_k", y) :: [("_law_road", .tup [.str w, .int l]), ("_law_start", .int st), ("_law_script", .scr ns), ("_law_many", .int m)]) (.call "_law_stop_by" [.var "_law_road", .var "_law_start", .var "_law_script", .bin .add (.int 4) (.bin .mul (.int 4) (.var "_law_k"))]) H2)
    (sameO (.rng m) H) H (fun _ => rfl) ((rangeL m).map .int) [] (by
      intro y hy ys
      unfold rangeL at hy
      simp only [List.map_map, List.mem_map, List.mem_range, Function.comp] at hy
      obtain ⟨j, _, rfl⟩ := hy
      obtain ⟨p, o, c, s, es, so⟩ := c_stop n w l st (4 + 4 * j) ns (H ++ [.list ys]) hl hl2 s0 s1 (by omega) hns
      exact ⟨_, by simp [f1, e4, es], p, o, c, s, rfl, so⟩) (by unfold rangeL; simp [line]; omega)
  have ll : vs.length = m.toNat := by rw [le]; unfold rangeL; simp
  refine ⟨vs, ?_, ll, p⟩
  rw [List.nil_append] at e
  have q := ev_comp (Γ := G (n + 3)) (H := H) (it := .call "range" [.var "_law_many"]) (by simp [f2]) (by simp [items, hr]) e
  simp [runDef, d__law_stops_by, setAll, setL, q]
theorem listAt_of {xs : List V} {k : Nat} {H : Hp} (h : H[k]? = some (.list xs)) : listAt (.ref k) H = some xs := by
  have q : listAt (.ref k) H = (match H[k]? with | some (.list xs) => some xs | _ => Option.none) := rfl
  rw [q, h]
theorem kindV_ref (k : Nat) (H : Hp) : kindV (.ref k) H = (match listAt (.ref k) H with | some _ => some "list" | Option.none => Option.none) := rfl
theorem bi_list_ref {vs : List V} {k : Nat} {H : Hp} (h : H[k]? = some (.list vs)) : builtin "list" [.ref k] H = .ok (.ref H.length) (H ++ [.list vs]) := by
  have q : builtin "list" [.ref k] H = (match listAt (.ref k) H with | some xs => new (.list xs) H | Option.none => .stuck) := rfl
  rw [q, listAt_of h]; rfl
theorem bi_len_ref {vs : List V} {k : Nat} {H : Hp} (h : H[k]? = some (.list vs)) : builtin "len" [.ref k] H = .ok (.int vs.length) H := by
  have q : builtin "len" [.ref k] H = (match listAt (.ref k) H with | some xs => .ok (.int xs.length) H | Option.none => .stuck) := rfl
  rw [q, listAt_of h]
theorem idx_ref {xs : List V} {i : Nat} {k : Int} {v : V} {H : Hp} (h : H[i]? = some (.list xs)) (h0 : 0 ≤ k) (hv : xs[k.toNat]? = some v) : index (.ref i) (.int k) H = .ok v H := by
  have hp : place k xs.length = some k.toNat := by
    unfold place
    have := (List.getElem?_eq_some_iff.mp hv).1
    rw [if_pos h0, if_pos (by omega)]
  simp [index, intAt, itemAt, listAt_of h, hp, hv]
theorem setL_self (x : String) (v : V) : ∀ ρ : Rho, List.lookup x (setL x v ρ) = some v
  | [] => by simp [setL]
  | (y, w) :: r => by
    unfold setL
    by_cases h : y = x
    · rw [if_pos h, h]; simp
    · rw [if_neg h, lookup_next (fun q => h q.symm)]; exact setL_self x v r
theorem lookup_setL (x y : String) (v : V) : ∀ ρ : Rho, List.lookup y (setL x v ρ) = if y = x then some v else List.lookup y ρ
  | [] => by by_cases h : y = x <;> simp [setL, List.lookup, h]
  | (z, w) :: r => by
    have ih := lookup_setL x y v r
    unfold setL
    by_cases h : z = x
    · rw [if_pos h]
      by_cases h2 : y = x
      · rw [if_pos h2, h, h2]; simp
      · rw [if_neg h2, lookup_next (by rw [h]; exact h2), lookup_next (by rw [h]; exact h2)]
    · rw [if_neg h]
      by_cases h2 : y = z
      · rw [h2, if_neg h]; simp
      · rw [lookup_next h2, ih, lookup_next h2]
theorem ev_bin {Γ : Fn} {ρ : Rho} {op : Op} {a b : E} {H H1 H2 : Hp} {x y : V} (ha : evE Γ ρ a H = .ok x H1) (hb : evE Γ ρ b H1 = .ok y H2) : evE Γ ρ (.bin op a b) H = bin op x y H2 := by
  rw [evE_bin, ha, R.bind_ok, hb, R.bind_ok]
theorem ev_var {Γ : Fn} {ρ : Rho} {x : String} {v : V} {H : Hp} (h : ρ.lookup x = some v) : evE Γ ρ (.var x) H = .ok v H := by
  rw [evE_var, h]; rfl
theorem exSs_app {Γ : Fn} {ss : List S} : ∀ (a : List S) (ρ : Rho) (H : Hp), exSs Γ (a ++ ss) ρ H = (exSs Γ a ρ H).bind fun ρ1 H1 => exSs Γ ss ρ1 H1
  | [], ρ, H => rfl
  | s :: a, ρ, H => by
    have ih := exSs_app (Γ := Γ) (ss := ss) a
    show exSs Γ (s :: (a ++ ss)) ρ H = _
    rw [exSs_cons, exSs_cons]
    cases exS Γ s ρ H <;> simp [ih, RS.bind]
theorem ss_if {T : RS → Prop} {Γ : Fn} {ρ : Rho} {t : E} {a a' ss : List S} {H H1 : Hp} {b : Bool} (ht : evT Γ ρ t H = .ok b H1) (k : T (exSs Γ ((if b then a else a') ++ ss) ρ H1)) : T (exSs Γ (.iff t a a' :: ss) ρ H) := by
  have q : exSs Γ (.iff t a a' :: ss) ρ H = exSs Γ ((if b then a else a') ++ ss) ρ H1 := by
    rw [exSs_app, exSs_cons, exS_iff, ht]
    cases b <;> rfl
  rw [q]; exact k
theorem ss_ret {T : RS → Prop} {Γ : Fn} {ρ : Rho} {e : E} {ss : List S} {H H1 : Hp} {v : V} (h : evE Γ ρ e H = .ok v H1) (k : T (.ret v H1)) : T (exSs Γ (.ret e :: ss) ρ H) := by
  have q : exSs Γ (.ret e :: ss) ρ H = .ret v H1 := by rw [exSs_cons, exS_ret, h]; rfl
  rw [q]; exact k
theorem ss_expr {T : RS → Prop} {Γ : Fn} {ρ : Rho} {e : E} {ss : List S} {H H1 : Hp} {v : V} (h : evE Γ ρ e H = .ok v H1) (k : T (exSs Γ ss ρ H1)) : T (exSs Γ (.expr e :: ss) ρ H) := by
  have q : exSs Γ (.expr e :: ss) ρ H = exSs Γ ss ρ H1 := by rw [exSs_cons, exS_expr, h]; rfl
  rw [q]; exact k
theorem evT_of {Γ : Fn} {ρ : Rho} {e : E} {H H1 : Hp} {b : Bool} (h : evE Γ ρ e H = .ok (.bool b) H1) : evT Γ ρ e H = .ok b H1 := by
  rw [evT, h]; rfl
noncomputable def inP (w : Str) (l p : Int) : Bool := decide (0 ≤ p) && decide (p < many w l)
noncomputable def inT (t : Int) : Bool := decide (0 ≤ t) && decide (t ≤ 1000000000000)
noncomputable def roadOk (w : Str) (l : Int) : Bool := (w == sLine || w == sRing) && (decide (1 ≤ l) && decide (l ≤ 1000000000))
theorem c_within (n : Nat) (x lo hi : Int) (H : Hp) : (G (n + 1)).call "is_within" [.int x, .int lo, .int hi] H = .ok (.bool (decide (lo ≤ x) && decide (x ≤ hi))) H := by
  rw [lk_call (d := d_is_within) (by kernel_rfl)]
  by_cases h1 : lo ≤ x <;> simp [runDef, d_is_within, setAll, setL, evT, cmp_le, h1]
theorem c_isplace (n : Nat) (w : Str) (l p : Int) (H : Hp) : (G (n + 2)).call "is_place" [.tup [.str w, .int l], .int p] H = .ok (.bool (inP w l p)) H := by
  rw [lk_call (d := d_is_place) (by kernel_rfl)]
  have f : ∀ a b c H, builtin "is_within" [a, b, c] H = .stuck := fun _ _ _ _ => rfl
  have e1 := c_within n p 0 l H
  have e2 := c_within n p 0 (l - 1) H
  have k : decide (p ≤ l - 1) = decide (p < l) := decide_eq_decide.mpr (by omega)
  have k2 : decide (p ≤ l) = decide (p < l + 1) := decide_eq_decide.mpr (by omega)
  rw [k] at e2
  rw [k2] at e1
  by_cases hw : w = Str.ofString "line" <;> simp [runDef, d_is_place, setAll, setL, evT, consts, constL, cmp_eq_str, f, e1, e2, hw, inP, many]
theorem c_isroad (n : Nat) (w : Str) (l : Int) (H : Hp) : (G (n + 2)).call "is_road" [.tup [.str w, .int l]] H = .ok (.bool (roadOk w l)) H := by
  rw [lk_call (d := d_is_road) (by kernel_rfl)]
  have f : ∀ a b c H, builtin "is_within" [a, b, c] H = .stuck := fun _ _ _ _ => rfl
  have e1 := c_within n l 1 1000000000 H
  have ei : ∀ a b c H, cmp .isIn (.str a) (.tup [.str b, .str c]) H = some ((b == a) || ((c == a) || false)) := fun _ _ _ _ => rfl
  have e2 : ∀ a b : Str, (a == b) = (b == a) := fun a b => by
    by_cases h : a = b
    · rw [h]
    · rw [beq_eq_false_iff_ne.mpr h, beq_eq_false_iff_ne.mpr (Ne.symm h)]
  cases h : (w == sLine || w == sRing) <;> simp [runDef, d_is_road, setAll, setL, evT, consts, constL, f, e1, roadOk, ei, e2 _ w, h]
theorem lk_class {defs : List Def} {cls : List (String × Def)} {const : String → Option V} {f : String} {d : Def} (h : defs.find? (fun d => d.name == f) = Option.none) (h2 : cls.lookup f = some d) (n : Nat) (vs : List V) (H : Hp) :
    (lk defs cls const (n + 1)).call f vs H = runClass (lk defs cls const n) f d vs H := by
  show (match defs.find? (fun d => d.name == f) with | some d => runDef (lk defs cls const n) d vs H | Option.none => match cls.lookup f with | some d => runClass (lk defs cls const n) f d vs H | Option.none => .stuck) = _
  rw [h]
  show (match cls.lookup f with | some d => runClass (lk defs cls const n) f d vs H | Option.none => .stuck) = _
  rw [h2]
noncomputable def DayH (H : Hp) (fs : List (String × V)) (L : Hp) : Hp := H ++ .ns fs :: .inst "Day" H.length :: L
theorem dayH_inst (H : Hp) (fs : List (String × V)) (L : Hp) : (DayH H fs L)[H.length + 1]? = some (.inst "Day" H.length) := by
  unfold DayH; rw [List.getElem?_append_right (by omega)]; simp
theorem dayH_ns (H : Hp) (fs : List (String × V)) (L : Hp) : (DayH H fs L)[H.length]? = some (.ns fs) := by
  unfold DayH; rw [List.getElem?_append_right (by omega)]; simp
theorem dayH_set (H : Hp) (fs fs' : List (String × V)) (L : Hp) : (DayH H fs L).set H.length (.ns fs') = DayH H fs' L := by
  unfold DayH; rw [List.set_append_right _ _ (by omega)]; simp
theorem dayH_ext (H : Hp) (fs : List (String × V)) (L : Hp) : Ext H (DayH H fs L) := ext_app _ _
theorem ss_setattr {T : RS → Prop} {Γ : Fn} {ρ : Rho} {o e : E} {a : String} {ss : List S} {H0 H : Hp} {v : V} {fs : List (String × V)} {L : Hp} (he : evE Γ ρ e H = .ok v (DayH H0 fs L)) (ho : evE Γ ρ o (DayH H0 fs L) = .ok (.ref (H0.length + 1)) (DayH H0 fs L)) (hl : fs.length ≤ 20)
    (k : T (exSs Γ ss ρ (DayH H0 (setL a v fs) L))) : T (exSs Γ (.setattr o a e :: ss) ρ H) := by
  have q : exSs Γ (.setattr o a e :: ss) ρ H = exSs Γ ss ρ (DayH H0 (setL a v fs) L) := by
    rw [exSs_cons, exS_setattr, he, ofR_ok, ho, ofR_ok]
    simp only [setA, dayH_inst, dayH_ns, dayH_set, hl, if_true, ofR_ok, RS.bind_next]
  rw [q]; exact k
noncomputable def dayFs (w : Str) (l h s : Int) (k : Nat) : List (String × V) := [("road", .tup [.str w, .int l]), ("home", .int h), ("start", .int s), ("stops", .ref k)]
theorem eqV_of {a b : V} {H : Hp} {x y : PyData} {r : Bool} (ha : snap 8 H a = some x) (hb : snap 8 H b = some y) (h : PyData.eqv x y = r) : eqV H a b = some r := by
  unfold eqV eqData
  rw [ha, hb]
  show some (PyData.eqv x y) = _
  rw [h]
theorem eqv_int (a : Int) : PyData.eqv (.int a) (.int a) = true := beq_self_eq_true a
theorem attr_day {H : Hp} {n d : Nat} {c a : String} {fs : List (String × V)} {v : V} (h1 : H[n]? = some (.inst c d)) (h2 : H[d]? = some (.ns fs)) (h3 : fs.lookup a = some v) : attrV (.ref n) a H = .ok v H := by
  simp [attrV, h1, h2, h3]
noncomputable def NextT (H' : Hp) (r : RS) : Prop := ∃ ρ, r = .next ρ H'
/-! a day that is one -/
structure DayOk (w : Str) (l h s : Int) (qs : List Q4) : Prop where
  road : roadOk w l = true
  home : inP w l h = true
  start : inT s = true
  few : qs.length ≤ 7
  stops : ∀ q ∈ qs, StopOk w l q.1 q.2.1 q.2.2.1 q.2.2.2
theorem c_looked (n : Nat) (w : Str) (l : Int) (q : Q4) (H : Hp) (ok : StopOk w l q.1 q.2.1 q.2.2.1 q.2.2.2) : (G (n + 3)).call "looked_at" [.tup [.str w, .int l], tupQ q] H = .ok .none H := by
  rw [lk_call (d := d_looked_at) (by kernel_rfl)]
  obtain ⟨p, o, c, s⟩ := q
  dsimp only at ok
  obtain ⟨p0, p1, o0, oc, c1, s0, s1⟩ := ok
  have f : ∀ a b c H, builtin "is_within" [a, b, c] H = .stuck := fun _ _ _ _ => rfl
  have f2 : ∀ a b H, builtin "is_place" [a, b] H = .stuck := fun _ _ _ => rfl
  have e1 := c_isplace n w l p H
  rw [show inP w l p = true by simp [inP, p0, p1]] at e1
  have ew : ∀ t, 0 ≤ t → t ≤ 1000000000000 → (G (n + 2)).call "is_within" [.int t, .int 0, .int 1000000000000] H = .ok (.bool true) H := fun t h1 h2 => by rw [c_within]; simp [h1, h2]
  have w1 := ew o o0 (Int.le_trans oc c1)
  have w2 := ew c (Int.le_trans o0 oc) c1
  have w3 := ew s s0 s1
  have h5 : ¬ c < o := Int.not_lt.mpr oc
  have it : ∀ H vs, items H (.tup vs) = some vs := fun _ _ => rfl
  have so : ∀ H vs H', sameO (.tup vs) H H' = true := fun _ _ _ => rfl
  simp [runDef, d_looked_at, setAll, setL, evT, forV, forL, it, so, consts, constL, f, f2, e1, w1, w2, w3, h5, tupQ, unpackV, partsV, cmp_lt]

theorem c_init (n : Nat) (w : Str) (l h s : Int) (qs : List Q4) (j : Nat) (H : Hp) (hj : H[j]? = some (.list (qs.map tupQ))) (ok : DayOk w l h s qs) :
    NextT (DayH H (dayFs w l h s (H.length + 2)) [.list (qs.map tupQ)]) (exSs (G (n + 4)) d_Day_init.body [("self", .ref (H.length + 1)), ("road", .tup [.str w, .int l]), ("home", .int h), ("start", .int s), ("stops", .ref j)] (DayH H [] [])) := by
  have f1 : ∀ a H, builtin "is_road" [a] H = .stuck := fun _ _ => rfl
  have f2 : ∀ a b H, builtin "is_place" [a, b] H = .stuck := fun _ _ _ => rfl
  have f3 : ∀ a b c H, builtin "is_within" [a, b, c] H = .stuck := fun _ _ _ _ => rfl
  have f4 : ∀ a b H, builtin "looked_at" [a, b] H = .stuck := fun _ _ _ => rfl
  have hj' := (dayH_ext H [] []).get hj
  have e1 := c_isroad (n + 2) w l (DayH H [] [])
  have e2 := c_isplace (n + 2) w l h (DayH H [] [])
  have e3 : (G (n + 4)).call "is_within" [.int s, .int 0, .int 1000000000000] (DayH H [] []) = .ok (.bool (inT s)) (DayH H [] []) := c_within (n + 3) s 0 1000000000000 _
  have e4 := bi_len_ref hj'
  rw [List.length_map] at e4
  rw [ok.road] at e1
  rw [ok.home] at e2
  rw [ok.start] at e3
  have h7 : ¬ (7 : Int) < qs.length := by have := ok.few; omega
  refine ss_if (b := false) (H1 := DayH H [] []) (evT_of (by simp [f1, e1])) ?_
  refine ss_if (b := false) (H1 := DayH H [] []) (evT_of (by simp [f2, e2])) ?_
  refine ss_if (b := false) (H1 := DayH H [] []) (evT_of (by simp [f3, e3, consts, constL])) ?_
  refine ss_if (b := false) (H1 := DayH H [] []) (evT_of (by simp [e4, consts, constL, cmp_gt, h7])) ?_
  obtain ⟨ρ, H', ⟨rfl, g1, g2, g3, g4, g5⟩, e⟩ := forL_all (fun _ ρ H' => H' = DayH H [] [] ∧ ρ.lookup "self" = some (.ref (H.length + 1)) ∧ ρ.lookup "road" = some (.tup [.str w, .int l]) ∧ ρ.lookup "home" = some (.int h) ∧ ρ.lookup "start" = some (.int s) ∧ ρ.lookup "stops" = some (.ref j))
    (fun v ρ1 H2 => exSs (G (n + 4)) [.expr (.call "looked_at" [.var "road", .var "stop"])] (setL "stop" v ρ1) H2) (sameO (.ref j) (DayH H [] [])) (fun i ρ H' z => by rw [z.1]; exact sameO_ext hj' (Ext.refl _)) (qs.map tupQ).length (qs.map tupQ) 0 (by omega) (by
      intro y hy i ρ H' _ ⟨e0, g1, g2, g3, g4, g5⟩
      obtain ⟨q, hq, rfl⟩ := List.mem_map.mp hy
      rw [e0]
      have el := c_looked (n + 1) w l q (DayH H [] []) (ok.stops q hq)
      exact ⟨setL "stop" (tupQ q) ρ, DayH H [] [], ⟨rfl, by simp [lookup_setL, g1], by simp [lookup_setL, g2], by simp [lookup_setL, g3], by simp [lookup_setL, g4], by simp [lookup_setL, g5]⟩, by simp [lookup_setL, g2, f4, el]⟩)
    [("self", .ref (H.length + 1)), ("road", .tup [.str w, .int l]), ("home", .int h), ("start", .int s), ("stops", .ref j)] (DayH H [] []) ⟨rfl, rfl, rfl, rfl, rfl, rfl⟩
  refine ss_for (v := .ref j) (H1 := DayH H [] []) (by simp) (listAt_of hj') e ?_
  refine ss_setattr (ev_var g2) (ev_var g1) (by simp [setL]) ?_
  refine ss_setattr (ev_var g3) (ev_var g1) (by simp [setL]) ?_
  refine ss_setattr (ev_var g4) (ev_var g1) (by simp [setL]) ?_
  refine ss_setattr (H0 := H) (v := .ref (H.length + 2)) (fs := setL "start" (.int s) (setL "home" (.int h) (setL "road" (.tup [.str w, .int l]) []))) (L := [.list (qs.map tupQ)]) ?_ (ev_var g1) (by simp [setL]) ?_
  · have e5 := bi_list_ref ((dayH_ext H (setL "start" (.int s) (setL "home" (.int h) (setL "road" (.tup [.str w, .int l]) []))) []).get hj)
    simp only [evE_call, evE_var, evE_int, evE_cmp, evEs_cons, evEs_nil, g5, ofO_some, R.bind_ok, e5, callF_def]
    simp [DayH]
  · exact ⟨ρ, by simp [dayFs, setL]⟩

theorem c_day (n : Nat) (w : Str) (l h s : Int) (qs : List Q4) (j : Nat) (H : Hp) (hj : H[j]? = some (.list (qs.map tupQ))) (ok : DayOk w l h s qs) :
    (G (n + 5)).call "Day" [.tup [.str w, .int l], .int h, .int s, .ref j] H = .ok (.ref (H.length + 1)) (DayH H (dayFs w l h s (H.length + 2)) [.list (qs.map tupQ)]) := by
  rw [lk_class (d := d_Day_init) (by kernel_rfl) (by kernel_rfl)]
  have q : ∀ c, runClass (G (n + 4)) c d_Day_init [.tup [.str w, .int l], .int h, .int s, .ref j] H = (runDef (G (n + 4)) d_Day_init (.ref (H.length + 1) :: [.tup [.str w, .int l], .int h, .int s, .ref j]) (H ++ [.ns [], .inst c H.length])).bind fun v H1 => match v with | .none => .ok (.ref (H.length + 1)) H1 | _ => .stuck := fun _ => rfl
  obtain ⟨ρ, i⟩ := c_init n w l h s qs j H hj ok
  have e : setAll d_Day_init.params (.ref (H.length + 1) :: [.tup [.str w, .int l], .int h, .int s, .ref j]) [] = some [("self", .ref (H.length + 1)), ("road", .tup [.str w, .int l]), ("home", .int h), ("start", .int s), ("stops", .ref j)] := rfl
  simp only [DayH] at i
  simp [q, runDef, e, i, DayH]

structure DayAt (w : Str) (l h s : Int) (qs : List Q4) (d dn k : Nat) (H : Hp) : Prop where
  inst : H[d]? = some (.inst "Day" dn)
  ns : H[dn]? = some (.ns (dayFs w l h s k))
  list : H[k]? = some (.list (qs.map tupQ))
section
variable {w : Str} {l h s : Int} {qs : List Q4} {d dn k : Nat} {H H' : Hp}
theorem DayAt.ext (x : DayAt w l h s qs d dn k H) (e : Ext H H') : DayAt w l h s qs d dn k H' := ⟨e.get x.inst, e.get x.ns, e.get x.list⟩
theorem DayAt.road (x : DayAt w l h s qs d dn k H) : attrV (.ref d) "road" H = .ok (.tup [.str w, .int l]) H := attr_day x.inst x.ns rfl
theorem DayAt.home (x : DayAt w l h s qs d dn k H) : attrV (.ref d) "home" H = .ok (.int h) H := attr_day x.inst x.ns rfl
theorem DayAt.start (x : DayAt w l h s qs d dn k H) : attrV (.ref d) "start" H = .ok (.int s) H := attr_day x.inst x.ns rfl
theorem DayAt.stops (x : DayAt w l h s qs d dn k H) : attrV (.ref d) "stops" H = .ok (.ref k) H := attr_day x.inst x.ns rfl
end

end Mine.L12

/-! P12s -/
namespace Mine
open PySem PySem.NumText PySem.Builtin PySem.Builtin.Str

/-! figures -/
noncomputable def num (i : Int) : Str := Str.ofString (toString i)
theorem num_cps (m : Nat) : (num m).cps.toList = (Nat.toDigits 10 m).map Char.toNat := PySem.W.KIN.signs_num m
theorem str_ext {a b : Str} (h : a.cps.toList = b.cps.toList) : a = b := Str.ext' (Array.toList_inj.mp h)
theorem app_cps (a b : Str) : (a ++ b).cps.toList = a.cps.toList ++ b.cps.toList := by rw [Str.cps_append, Array.toList_append]
theorem digit_nat : ∀ d : Nat, d < 10 → (Nat.digitChar d).toNat = 48 + d := by decide
theorem num_small {m : Nat} (h : m < 10) : num m = ⟨#[48 + m]⟩ := str_ext (by rw [num_cps, Nat.toDigits_of_lt_base h, List.map_singleton, digit_nat m h])
theorem num_step {m : Nat} (h : 10 ≤ m) : num m = num ((m / 10 : Nat) : Int) ++ ⟨#[48 + m % 10]⟩ := str_ext (by
  have hm : m % 10 < 10 := Nat.mod_lt m (by decide)
  have t : Nat.toDigits 10 (m / 10) ++ Nat.toDigits 10 (m % 10) = Nat.toDigits 10 (10 * (m / 10) + m % 10) := Nat.toDigits_append_toDigits (by decide) (by omega) hm
  rw [Nat.div_add_mod] at t
  rw [num_cps, app_cps, num_cps, ← t, List.map_append, Nat.toDigits_of_lt_base hm, List.map_singleton, digit_nat _ hm])
theorem num_digits (m : Nat) : ∀ c ∈ (num m).cps.toList, 48 ≤ c ∧ c ≤ 57 := by
  induction m using Nat.strongRecOn with
  | _ m ih =>
    by_cases h : m < 10
    · rw [num_small h]
      intro c hc
      have : c = 48 + m := by simpa using hc
      omega
    · rw [num_step (by omega), app_cps]
      intro c hc
      rcases List.mem_append.mp hc with hc | hc
      · exact ih (m / 10) (by omega) c hc
      · have : c = 48 + m % 10 := by simpa using hc
        omega
theorem num_len : ∀ (k m : Nat), m < 10 ^ (k + 1) → 1 ≤ (num m).length ∧ (num m).length ≤ k + 1
  | 0, m, h => by
    rw [num_small (by simpa using h)]
    exact ⟨Nat.le_refl 1, Nat.le_refl 1⟩
  | k + 1, m, h => by
    by_cases h2 : m < 10
    · rw [num_small h2]
      exact ⟨Nat.le_refl 1, Nat.le_add_left 1 _⟩
    · have := num_len k (m / 10) (by rw [Nat.pow_succ] at h; omega)
      rw [num_step (by omega), Str.length_append]
      show 1 ≤ _ + 1 ∧ _ + 1 ≤ _
      omega
theorem num_first (m : Nat) : 1 ≤ m → ∃ c r, (num m).cps.toList = c :: r ∧ c ≠ 48 := by
  induction m using Nat.strongRecOn with
  | _ m ih =>
    intro h0
    by_cases h : m < 10
    · exact ⟨48 + m, [], by rw [num_small h], by omega⟩
    · obtain ⟨c, r, e, hc⟩ := ih (m / 10) (by omega) (by omega)
      exact ⟨c, r ++ [48 + m % 10], by rw [num_step (by omega), app_cps, e]; rfl, hc⟩
theorem num_int {m : Nat} (h : m ≤ 1000000000000) : PySem.intText? (num m) = some (m : Int) := by
  have hl := num_len 12 m (by omega)
  have hne : (num m).cps.toList ≠ [] := fun q => by
    have e : (num m).cps.toList.length = (num m).length := Array.length_toList
    rw [q] at e
    have : (num m).length = 0 := e.symm
    omega
  rw [intText_digits (num_digits m) hne (by omega), num_cps, PySem.W.KIN.val_back]
theorem in_figures {c : Nat} (h : 48 ≤ c ∧ c ≤ 57) : (!(occurrences (Str.ofString "0123456789") ⟨#[c]⟩ 0 (Str.ofString "0123456789").length 1).isEmpty) = true := by
  rw [StrLaws.found_one, decide_eq_true_eq]
  have : (Str.ofString "0123456789").cps.toList = [48, 49, 50, 51, 52, 53, 54, 55, 56, 57] := by decide +kernel
  rw [this]
  simp only [List.mem_cons, List.not_mem_nil, or_false]
  omega

/-! the parts of a text between signs -/
theorem join_two (s x y : Str) (r : List Str) : Str.join s (x :: y :: r) = x ++ s ++ Str.join s (y :: r) := rfl
theorem cut_uniq {c : Nat} : ∀ {a b r r' : List Nat}, c ∉ a → c ∉ b → a ++ c :: r = b ++ c :: r' → a = b ∧ r = r'
  | [], [], _, _, _, _, e => ⟨rfl, by simpa using e⟩
  | [], y :: b, _, _, _, hb, e => by simp at e; exact absurd (e.1 ▸ List.mem_cons_self ..) hb
  | x :: a, [], _, _, ha, _, e => by simp at e; exact absurd (e.1 ▸ List.mem_cons_self ..) ha
  | x :: a, y :: b, _, _, ha, hb, e => by
    simp only [List.cons_append, List.cons.injEq] at e
    obtain ⟨h1, h2⟩ := cut_uniq (fun q => ha (List.mem_cons_of_mem _ q)) (fun q => hb (List.mem_cons_of_mem _ q)) e.2
    exact ⟨by rw [e.1, h1], h2⟩
theorem join_uniq (c : Nat) : ∀ (ps qs : List Str), ps ≠ [] → qs ≠ [] → (∀ p ∈ ps, c ∉ p.cps.toList) → (∀ p ∈ qs, c ∉ p.cps.toList) → Str.join ⟨#[c]⟩ ps = Str.join ⟨#[c]⟩ qs → ps = qs
  | [], _, h, _, _, _, _ => absurd rfl h
  | _, [], _, h, _, _, _ => absurd rfl h
  | [p], [q], _, _, _, _, e => by rw [show p = q from e]
  | [p], q :: q2 :: qs, _, _, hp, _, e => by
    have e2 := congrArg (fun x : Str => x.cps.toList) e
    simp only [join_two, app_cps] at e2
    refine absurd ?_ (hp p (List.mem_cons_self ..))
    rw [show p.cps.toList = _ from e2]; simp
  | p :: p2 :: ps, [q], _, _, _, hq, e => by
    have e2 := congrArg (fun x : Str => x.cps.toList) e
    simp only [join_two, app_cps] at e2
    refine absurd ?_ (hq q (List.mem_cons_self ..))
    rw [show q.cps.toList = _ from e2.symm]; simp
  | p :: p2 :: ps, q :: q2 :: qs, _, _, hp, hq, e => by
    have e2 := congrArg (fun x : Str => x.cps.toList) e
    simp only [join_two, app_cps, List.append_assoc] at e2
    obtain ⟨h1, h2⟩ := cut_uniq (c := c) (hp p (List.mem_cons_self ..)) (hq q (List.mem_cons_self ..)) (by simpa using e2)
    rw [str_ext h1, join_uniq c (p2 :: ps) (q2 :: qs) (fun h => nomatch h) (fun h => nomatch h) (fun x hx => hp x (List.mem_cons_of_mem _ hx)) (fun x hx => hq x (List.mem_cons_of_mem _ hx)) (str_ext h2)]
theorem split_of (c : Nat) {ps : List Str} (hne : ps ≠ []) (hf : ∀ p ∈ ps, c ∉ p.cps.toList) : Txt.split (Str.join ⟨#[c]⟩ ps) ⟨#[c]⟩ = ps := by
  refine join_uniq c _ _ (fun q => ?_) hne (StrLaws.split_free _ c) hf (StrLaws.join_split _ _)
  have := PyProof.Rows.split_pos (Str.join ⟨#[c]⟩ ps) ⟨#[c]⟩
  rw [q] at this
  exact absurd this (by decide)
end Mine

/-! P12c -/
namespace Mine.L12
open Mine PySem

noncomputable def Is (x r : RS) : Prop := r = x
theorem runDef_is {Γ : Fn} {d : Def} {vs : List V} {ρ : Rho} {H H' : Hp} {v : V} (e : setAll d.params vs [] = some ρ) (h : Is (.ret v H') (exSs Γ d.body ρ H)) : runDef Γ d vs H = .ok v H' := by
  have h' : exSs Γ d.body ρ H = .ret v H' := h
  unfold runDef
  rw [e]
  dsimp only
  rw [h']
theorem ss_while {T : RS → Prop} {Γ : Fn} {ρ ρ1 : Rho} {t : E} {b ss : List S} {H H1 : Hp} (h : whileL (fun ρ H => evT Γ ρ t H) (fun ρ H => exSs Γ b ρ H) 64 ρ H = .next ρ1 H1) (k : T (exSs Γ ss ρ1 H1)) : T (exSs Γ (.whil t b :: ss) ρ H) := by
  have q : exSs Γ (.whil t b :: ss) ρ H = exSs Γ ss ρ1 H1 := by rw [exSs_cons, exS_whil, h]; rfl
  rw [q]; exact k
theorem bin_add_str {x y : Str} (H : Hp) (h : x.length + y.length ≤ line) : bin .add (.str x) (.str y) H = .ok (.str (x ++ y)) H := if_pos h
theorem fig_cps : (Str.ofString "0123456789").cps.toList = [48, 49, 50, 51, 52, 53, 54, 55, 56, 57] := by decide +kernel
theorem fig_idx (d : Nat) (hd : d < 10) (H : Hp) : index (.str (Str.ofString "0123456789")) (.int d) H = .ok (.str ⟨#[48 + d]⟩) H := by
  have hl : (Str.ofString "0123456789").length ≤ line := by decide +kernel
  have q : index (.str (Str.ofString "0123456789")) (.int d) H = (if (Str.ofString "0123456789").length ≤ line then itemAt (signs (Str.ofString "0123456789")) d H else .stuck) := rfl
  rw [q, if_pos hl]
  unfold itemAt signs
  rw [fig_cps]
  match d, hd with
  | 0, _ => rfl
  | 1, _ => rfl
  | 2, _ => rfl
  | 3, _ => rfl
  | 4, _ => rfl
  | 5, _ => rfl
  | 6, _ => rfl
  | 7, _ => rfl
  | 8, _ => rfl
  | 9, _ => rfl
noncomputable abbrev figR (k : Nat) (acc : Str) : Rho := [("_law_number", .int k), ("_law_figures_here", .str acc)]
noncomputable abbrev figT : E := .cmp (.var "_law_number") .gt (.int 9)
noncomputable abbrev figB : List S := [.asg "_law_figures_here" (.bin .add (.idx (.str "0123456789") (.bin .mod (.var "_law_number") (.int 10))) (.var "_law_figures_here")), .asg "_law_number" (.bin .fdiv (.var "_law_number") (.int 10))]
theorem fig_step (n k j d : Nat) (acc : Str) (H : Hp) (hj : j < 10) (e1 : bin .mod (.int k) (.int 10) H = .ok (.int j) H) (e2 : bin .fdiv (.int k) (.int 10) H = .ok (.int d) H) (hl : 1 + acc.length ≤ line) : exSs (G n) figB (figR k acc) H = .next (figR d (⟨#[48 + j]⟩ ++ acc)) H := by
  have e3 := fig_idx j hj H
  have e4 := bin_add_str (x := ⟨#[48 + j]⟩) (y := acc) H hl
  simp [setL, e1, e2, e3, e4]
theorem fig_while (n : Nat) (H : Hp) : ∀ (f k : Nat) (acc : Str), k < 10 ^ (f + 1) → acc.length + f ≤ 64 →
    ∃ (k' : Nat) (acc' : Str), k' < 10 ∧ num k ++ acc = num k' ++ acc' ∧ acc'.length ≤ 64 ∧ whileL (fun ρ H => evT (G n) ρ figT H) (fun ρ H => exSs (G n) figB ρ H) (f + 1) (figR k acc) H = .next (figR k' acc') H := by
  intro f
  have stop : ∀ (f k : Nat) (acc : Str), k < 10 → whileL (fun ρ H => evT (G n) ρ figT H) (fun ρ H => exSs (G n) figB ρ H) (f + 1) (figR k acc) H = .next (figR k acc) H := fun f k acc h => by
    have : ¬ (9 : Int) < k := by omega
    simp [whileL, evT, cmp_gt, this]
  induction f with
  | zero => intro k acc hk hl; exact ⟨k, acc, by simpa using hk, rfl, by omega, stop 0 k acc (by simpa using hk)⟩
  | succ f ih =>
    intro k acc hk hl
    by_cases h : k < 10
    · exact ⟨k, acc, h, rfl, by omega, stop (f + 1) k acc h⟩
    · obtain ⟨k', acc', h1, h2, h3, h4⟩ := ih (k / 10) (⟨#[48 + k % 10]⟩ ++ acc) (by rw [Nat.pow_succ] at hk; omega) (by rw [Str.length_append]; show 1 + acc.length + f ≤ 64; omega)
      refine ⟨k', acc', h1, ?_, h3, ?_⟩
      · rw [num_step (by omega), Str.append_assoc, h2]
      · have gt : (9 : Int) < k := by omega
        have e1 := bin_mod (a := (k : Int)) (b := 10) H (by decide)
        have e2 := bin_fdiv (a := (k : Int)) (b := 10) H (by decide) (by decide)
        have m1 : (k : Int).fmod 10 = ((k % 10 : Nat) : Int) := by rw [Int.fmod_eq_emod_of_nonneg _ (by decide)]; rfl
        have m2 : (k : Int).fdiv 10 = ((k / 10 : Nat) : Int) := by rw [Int.fdiv_eq_ediv_of_nonneg _ (by decide)]; rfl
        rw [m1] at e1
        rw [m2] at e2
        rw [whileL]
        simp only [evT, evE_cmp, evE_var, evE_int, lookup_here, ofO_some, R.bind_ok, cmp_gt, Option.map_some, truthR_ok, ofR_ok, gt, decide_true, if_true]
        rw [fig_step n k (k % 10) (k / 10) acc H (Nat.mod_lt _ (by decide)) e1 e2 (by unfold line; omega), RS.bind_next]
        exact h4
theorem c_figures (n m : Nat) (H : Hp) (hm : m ≤ 1000000000000) : (G (n + 1)).call "_law_figures" [.int m] H = .ok (.str (num m)) H := by
  rw [lk_call (d := d__law_figures) (by kernel_rfl)]
  obtain ⟨k', acc', h1, h2, h3, h4⟩ := fig_while n H 63 m Str.empty (Nat.lt_of_le_of_lt hm (by decide +kernel)) (by decide)
  rw [Str.append_empty] at h2
  have e3 := fig_idx k' h1 H
  have e4 := bin_add_str (x := ⟨#[48 + k']⟩) (y := acc') H (by show 1 + acc'.length ≤ line; unfold line; omega)
  rw [num_small h1] at h2
  have es : Str.ofString "" = Str.empty := by decide +kernel
  have e5 : evE (G n) (figR k' acc') (.bin .add (.idx (.str "0123456789") (.var "_law_number")) (.var "_law_figures_here")) H = .ok (.str (num m)) H := by simp [e3, e4, h2]
  refine runDef_is (ρ := [("_law_number", .int m)]) rfl ?_
  exact ss_asg (v := .str Str.empty) (H1 := H) (by rw [evE_str, es]) (ss_while (ρ1 := figR k' acc') (H1 := H) h4 (ss_ret e5 rfl))
end Mine.L12

/-! P12d -/
namespace Mine.L12
open Mine PySem

/-! texts: parts of a row, rows -/
inductive Pt where
  | w (s : Str)
  | n (m : Nat)
noncomputable def Pt.word : Pt → Str
  | .w s => s
  | .n m => num m
noncomputable def Pt.form : Pt → V
  | .w s => .str s
  | .n _ => .none
noncomputable def Pt.found : Pt → Option V
  | .w _ => Option.none
  | .n m => some (.int m)
noncomputable def Pln (n : Nat) (x : Str) : Prop := x.length ≤ n ∧ ∀ c ∈ x.cps.toList, c ≠ 32 ∧ c ≠ 10 ∧ c < 128
noncomputable def Pt.Ok : Pt → Prop
  | .w s => Pln 13 s
  | .n m => m ≤ 1000000000000
theorem Pln.num {m : Nat} (h : m ≤ 1000000000000) : Pln 13 (num m) :=
  ⟨(num_len 12 m (by omega)).2, fun c hc => by have := num_digits m c hc; omega⟩
theorem Pt.Ok.pln {p : Pt} (h : p.Ok) : Pln 13 p.word := by
  cases p with
  | w s => exact h
  | n m => exact Pln.num h
noncomputable abbrev sp : Str := ⟨#[32]⟩
noncomputable abbrev nl : Str := ⟨#[10]⟩
theorem sp_eq : Str.ofString " " = sp := by decide +kernel
theorem nl_eq : Str.ofString "\n" = nl := by decide +kernel
theorem em_eq : Str.ofString "" = Str.empty := by decide +kernel
theorem join_mem {c x : Nat} : ∀ {ps : List Str}, x ∈ (Str.join ⟨#[c]⟩ ps).cps.toList → x = c ∨ ∃ p ∈ ps, x ∈ p.cps.toList
  | [], h => nomatch h
  | [p], h => .inr ⟨p, List.mem_cons_self .., h⟩
  | p :: q :: r, h => by
    rw [join_two, app_cps, app_cps] at h
    rcases List.mem_append.mp h with h | h
    · rcases List.mem_append.mp h with h | h
      · exact .inr ⟨p, List.mem_cons_self .., h⟩
      · exact .inl (by simpa using h)
    · rcases join_mem h with h | ⟨s, hs, h⟩
      · exact .inl h
      · exact .inr ⟨s, List.mem_cons_of_mem _ hs, h⟩
theorem join_le {c k : Nat} : ∀ {ps : List Str}, (∀ p ∈ ps, p.length ≤ k) → (Str.join ⟨#[c]⟩ ps).length ≤ (k + 1) * ps.length
  | [], _ => Nat.zero_le _
  | [p], h => by
    have := h p (List.mem_cons_self ..)
    show p.length ≤ (k + 1) * 1
    omega
  | p :: q :: r, h => by
    have h1 := h p (List.mem_cons_self ..)
    have h2 := join_le (c := c) (ps := q :: r) fun x hx => h x (List.mem_cons_of_mem _ hx)
    rw [join_two, Str.length_append, Str.length_append, List.length_cons, Nat.mul_succ]
    show p.length + 1 + _ ≤ _
    omega
noncomputable def row (ps : List Pt) : Str := Str.join sp (ps.map Pt.word)
theorem row_free {ps : List Pt} (h : ∀ p ∈ ps, p.Ok) {c : Nat} (hc : c ∈ (row ps).cps.toList) : c ≠ 10 ∧ c < 128 := by
  rcases join_mem hc with rfl | ⟨x, hx, h2⟩
  · decide
  · obtain ⟨p, hp, rfl⟩ := List.mem_map.mp hx
    exact ((h p hp).pln.2 c h2).2
theorem row_le {ps : List Pt} (h : ∀ p ∈ ps, p.Ok) : (row ps).length ≤ 14 * ps.length := by
  have := join_le (c := 32) (k := 13) (ps := ps.map Pt.word) fun x hx => by
    obtain ⟨p, hp, rfl⟩ := List.mem_map.mp hx
    exact (h p hp).pln.1
  rwa [List.length_map] at this
theorem strOk_of {x : Str} (h : ∀ c ∈ x.cps.toList, c < 128) : PyData.strOk x = true := by
  unfold PyData.strOk
  rw [Array.all_eq_true']
  intro c hc
  have := h c (Array.mem_toList_iff.mpr hc)
  exact decide_eq_true (by omega)
noncomputable def text (rs : List Str) : Str := Str.join nl (rs ++ [Str.empty])
theorem text_nil : text [] = Str.empty := rfl
theorem text_cons (r : Str) : ∀ rs : List Str, text (r :: rs) = r ++ nl ++ text rs
  | [] => rfl
  | _ :: _ => rfl
theorem text_fold : ∀ (rs : List Str) (acc : Str), rs.foldl (fun a r => a ++ (r ++ nl)) acc = acc ++ text rs
  | [], acc => (Str.append_empty acc).symm
  | r :: rs, acc => by rw [List.foldl_cons, text_fold rs, text_cons, Str.append_assoc]
theorem text_join : ∀ rs : List Str, Str.join Str.empty (rs.map (· ++ nl)) = text rs
  | [] => rfl
  | [r] => by rw [text_cons, text_nil, Str.append_empty]; rfl
  | r :: q :: rs => by
    have ih := text_join (q :: rs)
    rw [text_cons, ← ih]
    show r ++ nl ++ Str.empty ++ _ = _
    rw [Str.append_empty]
theorem split_text {rs : List Str} (h : ∀ r ∈ rs, ∀ c ∈ r.cps.toList, c ≠ 10) : Txt.split (text rs) nl = rs ++ [Str.empty] :=
  split_of 10 (by simp) fun p hp => by
    rcases List.mem_append.mp hp with hp | hp
    · exact fun hc => h p hp 10 hc rfl
    · rw [List.mem_singleton.mp hp]; exact fun hc => nomatch hc
theorem split_row {ps : List Pt} (hne : ps ≠ []) (h : ∀ p ∈ ps, p.Ok) : Txt.split (row ps) sp = ps.map Pt.word :=
  split_of 32 (by simpa using hne) fun x hx => by
    obtain ⟨p, hp, rfl⟩ := List.mem_map.mp hx
    exact fun hc => ((h p hp).pln.2 32 hc).1 rfl

/-! the rows of a day -/
noncomputable abbrev wd (s : String) : Pt := .w (Str.ofString s)
noncomputable def row0 (w : Str) (l : Nat) : List Pt := [.w w, .n l]
noncomputable def row1 (h s : Nat) : List Pt := [wd "home", .n h, wd "at", .n s]
noncomputable def rowQ (q : Q4) : List Pt := [wd "stop", .n q.1.toNat, wd "from", .n q.2.1.toNat, wd "to", .n q.2.2.1.toNat, wd "for", .n q.2.2.2.toNat]
noncomputable def rowsD (w : Str) (l h s : Nat) (qs : List Q4) : List Str := row (row0 w l) :: row (row1 h s) :: qs.map fun q => row (rowQ q)
end Mine.L12

/-! P12e -/
namespace Mine.L12
open Mine PySem

theorem ev_call {Γ : Fn} {ρ : Rho} {f : String} {es : List E} {vs : List V} {v : V} {H H1 H2 : Hp} (h : evEs Γ ρ es H = .ok vs H1) (hb : builtin f vs H1 = .stuck) (hc : Γ.call f vs H1 = .ok v H2) : evE Γ ρ (.call f es) H = .ok v H2 := by
  rw [evE_call, h, R.bind_ok, callF_def, hb]; exact hc
theorem ev_bi {Γ : Fn} {ρ : Rho} {f : String} {es : List E} {vs : List V} {v : V} {H H1 H2 : Hp} (h : evEs Γ ρ es H = .ok vs H1) (hb : builtin f vs H1 = .ok v H2) : evE Γ ρ (.call f es) H = .ok v H2 := by
  rw [evE_call, h, R.bind_ok, callF_def, hb]
theorem evs_one {Γ : Fn} {ρ : Rho} {e : E} {v : V} {H H1 : Hp} (h : evE Γ ρ e H = .ok v H1) : evEs Γ ρ [e] H = .ok [v] H1 := by
  rw [evEs_cons, h]; rfl
theorem ev_meth {Γ : Fn} {ρ : Rho} {o : E} {m T : String} {es : List E} {w v : V} {vs : List V} {H H1 H2 H3 : Hp} (ho : evE Γ ρ o H = .ok w H1) (hk : kindV w H1 = some T) (ha : evEs Γ ρ es H1 = .ok vs H2) (hm : meth T w m vs H2 = .ok v H3) : evE Γ ρ (.meth o m es) H = .ok v H3 := by
  rw [evE_meth, ho, R.bind_ok, hk, ofO_some, R.bind_ok, ha, R.bind_ok, hm]

/-! number_of -/
theorem bi_len_str {x : Str} (h : x.length ≤ line) (H : Hp) : builtin "len" [.str x] H = .ok (.int x.length) H := if_pos h
theorem bi_int_str {x : Str} {i : Int} (h : x.length ≤ 640) (e : intText? x = some i) (H : Hp) : builtin "int" [.str x] H = .ok (.int i) H := by
  have q : builtin "int" [.str x] H = (if x.length ≤ 640 then (match intText? x with | some n => .ok (.int n) H | Option.none => .stuck) else .stuck) := rfl
  rw [q, if_pos h, e]
theorem bools_true {α : Type} : ∀ cs : List α, bools (cs.map fun _ => V.bool true) = some (cs.map fun _ => true)
  | [] => rfl
  | c :: cs => by
    have ih := bools_true cs
    unfold bools at ih ⊢
    rw [List.map_cons, List.mapM_cons, ih]; rfl
theorem bi_all_true {α : Type} {cs : List α} {k : Nat} {H : Hp} (h : H[k]? = some (.list (cs.map fun _ => V.bool true))) : builtin "all" [.ref k] H = .ok (.bool true) H := by
  have q : builtin "all" [.ref k] H = (match (listAt (.ref k) H).bind bools with | some bs => .ok (.bool (bs.all id)) H | Option.none => .stuck) := rfl
  have t : (cs.map fun _ => true).all id = true := by simp
  rw [q, listAt_of h, Option.bind_some, bools_true]
  dsimp only
  rw [t]
theorem items_str {x : Str} (h : Pln 13 x) (H : Hp) : items H (.str x) = some (x.cps.toList.map fun c => .str ⟨#[c]⟩) := by
  have h1 : (x.cps.all (· < 128)) = true := by
    rw [Array.all_eq_true']
    intro c hc
    exact decide_eq_true (h.2 c (Array.mem_toList_iff.mpr hc)).2.2
  have h2 : decide (x.length ≤ line) = true := decide_eq_true (Nat.le_trans h.1 (by decide))
  have q : items H (.str x) = if (x.cps.all (· < 128) && decide (x.length ≤ line)) = true then some (signs x) else Option.none := rfl
  rw [q, h1, h2]; rfl
theorem sign_ne {c : Nat} (h : c ≠ 48) : (((⟨#[c]⟩ : Str) == Str.ofString "0") = false) := by
  have e : Str.ofString "0" = ⟨#[48]⟩ := by decide +kernel
  rw [e]
  refine beq_eq_false_iff_ne.mpr fun q => h ?_
  have := congrArg (fun x : Str => x.cps.toList) q
  simpa using this
theorem c_number (n m : Nat) (H : Hp) (hm : m ≤ 1000000000000) : ∃ o, (G (n + 1)).call "number_of" [.str (num m)] H = .ok (.int m) (H ++ [o]) := by
  rw [lk_call (d := d_number_of) (by kernel_rfl)]
  have hp := Pln.num hm
  have hl := num_len 12 m (by omega)
  have hl2 : (num m).length ≤ line := Nat.le_trans hl.2 (by decide)
  have bl := bi_len_str hl2
  generalize hx : num m = x at *
  let cs := x.cps.toList
  refine ⟨.list (cs.map fun _ => .bool true), ?_⟩
  have ec : evE (G n) [("word", .str x)] (.comp (.cmp (.var "sign") .isIn (.glob "FIGURES")) "sign" (.var "word")) H = .ok (.ref H.length) (H ++ [.list (cs.map fun _ => .bool true)]) := by
    refine ev_comp (v := .str x) (H1 := H) (by simp) (items_str hp H) ?_
    refine turns_maps (fun c => V.str ⟨#[c]⟩) (fun _ => V.bool true) _ _ H (fun _ => rfl) cs [] (fun c hc ys => ?_) (by show 0 + x.cps.toList.length ≤ line; rw [Array.length_toList]; show 0 + x.length ≤ line; omega)
    have hc' : c ∈ (num m).cps.toList := by rw [hx]; exact hc
    have ef := in_figures (num_digits m c hc')
    have ei : ∀ H, cmp .isIn (.str ⟨#[c]⟩) (.str (Str.ofString "0123456789")) H = some true := fun H => congrArg some ef
    simp [consts, constL, ei]
  have ea := bi_all_true (cs := cs) (len_app1 H _)
  have t1 : (0 : Int) < x.length := by omega
  have t2 : (x.length : Int) ≤ 15 := by omega
  refine runDef_is (ρ := [("word", .str x)]) rfl ?_
  have o1 : evE (G n) [("word", .str x)] (.not (.cmp2 (.int 0) .lt (.call "len" [(.var "word")]) .le (.glob "LONGEST_NUMBER"))) H = .ok (.bool false) H := by
    simp [bl, cmp_lt, show 0 < x.length from hl.1, cmp_le, t2, consts, constL]
  have o2 : evE (G n) [("word", .str x)] (.not (.call "all" [(.comp (.cmp (.var "sign") .isIn (.glob "FIGURES")) "sign" (.var "word"))])) H = .ok (.bool false) (H ++ [O.list (cs.map fun _ => .bool true)]) := by
    rw [evE_not, ev_bi (evs_one ec) ea]; rfl
  refine ss_if (b := false) (H1 := H ++ [O.list (cs.map fun _ => .bool true)]) (evT_of ?_) ?_
  · rw [evE_or, evOr_cons, o1]
    show evOr _ _ [_] H = _
    rw [evOr_one, o2]
  refine ss_if (b := false) (H1 := H ++ [O.list (cs.map fun _ => .bool true)]) (evT_of ?_) ?_
  · by_cases h1 : (1 : Int) < x.length
    · have hm1 : 1 ≤ m := by
        refine Nat.pos_of_ne_zero fun q => ?_
        rw [← hx, q, num_small (by decide)] at h1
        exact absurd h1 (by decide)
      obtain ⟨c, r, e, hc⟩ := num_first m hm1
      rw [hx] at e
      have ei : ∀ H, index (.str x) (.int 0) H = .ok (.str ⟨#[c]⟩) H := fun H => by
        have q : index (.str x) (.int 0) H = (if x.length ≤ line then itemAt (signs x) 0 H else .stuck) := rfl
        rw [q, if_pos hl2]
        have z : (0 : Int) < (r.length : Int) + 1 := by omega
        simp [itemAt, signs, e, place, z]
      simp [bl, cmp_gt, h1, ei, cmp_eq_str, sign_ne hc]
    · simp [bl, cmp_gt, h1]
  refine ss_ret (v := .int m) (H1 := H ++ [O.list (cs.map fun _ => .bool true)]) ?_ rfl
  exact ev_bi (evs_one (ev_var rfl)) (bi_int_str (by omega) (by rw [← hx]; exact num_int hm) _)

/-! numbers_of -/
theorem m_split {x y : Str} {ps : List Str} (H : Hp) (hx : x.length ≤ 100000) (hy : y.length ≠ 0) (hs : Txt.split x y = ps) (hl : ps.length ≤ line) (ho : ∀ p ∈ ps, ∀ c ∈ p.cps.toList, c < 128) : meth "str" (.str x) "split" [.str y] H = .ok (.ref H.length) (H ++ [.list (ps.map .str)]) := by
  have q : meth "str" (.str x) "split" [.str y] H = (if x.length ≤ 100000 ∧ y.length ≠ 0 ∧ (Txt.split x y).length ≤ line ∧ (Txt.split x y).all PyData.strOk = true then new (.list ((Txt.split x y).map .str)) H else .stuck) := rfl
  rw [q, hs, if_pos ⟨hx, hy, hl, List.all_eq_true.mpr fun p hp => strOk_of (ho p hp)⟩]; rfl
theorem m_append {xs : List V} {k : Nat} {v : V} {H : Hp} (h : H[k]? = some (.list xs)) (hl : xs.length < line) : meth "list" (.ref k) "append" [v] H = .ok .none (H.set k (.list (xs ++ [v]))) := by
  have q : meth "list" (.ref k) "append" [v] H = (match listAt (.ref k) H with | some xs => if xs.length < line then .ok .none (H.set k (.list (xs ++ [v]))) else .stuck | Option.none => .stuck) := rfl
  rw [q, listAt_of h]
  dsimp only
  rw [if_pos hl]
theorem kind_list {xs : List V} {k : Nat} {H : Hp} (h : H[k]? = some (.list xs)) : kindV (.ref k) H = some "list" := by rw [kindV_ref, listAt_of h]
noncomputable def NumH (H : Hp) (ws done : List V) (L : Hp) : Hp := H ++ .list ws :: .list done :: .own :: L
section
variable (H : Hp) (ws done : List V) (L : Hp)
theorem numH_0 : (NumH H ws done L)[H.length]? = some (.list ws) := by unfold NumH; rw [List.getElem?_append_right (by omega)]; simp
theorem numH_1 : (NumH H ws done L)[H.length + 1]? = some (.list done) := by unfold NumH; rw [List.getElem?_append_right (by omega)]; simp
theorem numH_2 : (NumH H ws done L)[H.length + 2]? = some .own := by unfold NumH; rw [List.getElem?_append_right (by omega)]; simp
theorem numH_set (d' : List V) : (NumH H ws done L).set (H.length + 1) (.list d') = NumH H ws d' L := by unfold NumH; rw [List.set_append_right _ _ (by omega)]; simp
theorem numH_app (o : O) : NumH H ws done L ++ [o] = NumH H ws done (L ++ [o]) := by unfold NumH; simp
end
noncomputable abbrev numB : List S := [.iff (.cmp (.var "wanted") .is .none) [.expr (.meth (.var "found") "append" [(.call "number_of" [(.var "word")])])] [.iff (.cmp (.var "word") .ne (.var "wanted")) [.stop] []]]
noncomputable abbrev numF (n : Nat) (v : V) (ρ1 : Rho) (H2 : Hp) : RS := unpackV ["word", "wanted"] v ρ1 H2 fun ρ2 => exSs (G (n + 1)) numB ρ2 H2
theorem num_turn (n : Nat) (H : Hp) (ws done : List V) (L : Hp) (ρ : Rho) (p : Pt) (hp : p.Ok) (hd : done.length < line) (hf : ρ.lookup "found" = some (.ref (H.length + 1))) :
    ∃ ρ' L', ρ'.lookup "found" = some (.ref (H.length + 1)) ∧ numF n (.tup [.str p.word, p.form]) ρ (NumH H ws done L) = .next ρ' (NumH H ws (done ++ p.found.toList) L') := by
  have hu : ∀ v w H k, unpackV ["word", "wanted"] (.tup [v, w]) ρ H k = k (setL "wanted" w (setL "word" v ρ)) := fun _ _ _ _ => rfl
  have l1 : ∀ v w : V, (setL "wanted" w (setL "word" v ρ)).lookup "wanted" = some w := fun v w => setL_self _ _ _
  have l2 : ∀ v w : V, (setL "wanted" w (setL "word" v ρ)).lookup "word" = some v := fun v w => by rw [lookup_setL, if_neg (by decide), setL_self]
  have l3 : ∀ v w : V, (setL "wanted" w (setL "word" v ρ)).lookup "found" = some (.ref (H.length + 1)) := fun v w => by rw [lookup_setL, if_neg (by decide), lookup_setL, if_neg (by decide), hf]
  cases p with
  | w x =>
    have i1 : ∀ (H : Hp), cmp .is (.str x) .none H = some false := fun _ => rfl
    refine ⟨setL "wanted" (.str x) (setL "word" (.str x) ρ), L, l3 _ _, ?_⟩
    show unpackV ["word", "wanted"] (.tup [.str x, .str x]) ρ _ _ = _
    rw [hu]
    simp [l1, l2, evT, i1, cmp_ne_str, Pt.found]
  | n m =>
    have i1 : ∀ (H : Hp), cmp .is .none .none H = some true := fun _ => rfl
    obtain ⟨o, e⟩ := c_number n m (NumH H ws done L) hp
    rw [numH_app] at e
    refine ⟨setL "wanted" .none (setL "word" (.str (num m)) ρ), L ++ [o], l3 _ _, ?_⟩
    show unpackV ["word", "wanted"] (.tup [.str (num m), .none]) ρ _ _ = _
    rw [hu]
    have em := ev_meth (Γ := G (n + 1)) (ρ := setL "wanted" .none (setL "word" (.str (num m)) ρ)) (o := .var "found") (m := "append") (ev_var (l3 _ _)) (kind_list (numH_1 H ws done L))
      (evs_one (ev_call (evs_one (ev_var (l2 _ _))) rfl e)) (m_append (numH_1 H ws done (L ++ [o])) hd)
    rw [numH_set] at em
    rw [exSs_cons, exS_iff, evT_of (b := true) (H1 := NumH H ws done L) (by simp [l1, i1])]
    simp only [ofR_ok, if_true, exSs_cons, exS_expr, em, RS.bind_next, exSs_nil, Pt.found, Option.toList]
theorem num_loop (n : Nat) (H : Hp) (ws : List V) (chk : Hp → Bool) (hc : ∀ d L, chk (NumH H ws d L) = true) : ∀ (ps : List Pt) (done : List V) (L : Hp) (ρ : Rho), (∀ p ∈ ps, p.Ok) → done.length + ps.length ≤ line → ρ.lookup "found" = some (.ref (H.length + 1)) →
    ∃ ρ' L', ρ'.lookup "found" = some (.ref (H.length + 1)) ∧ forL (numF n) chk (ps.map fun p => .tup [.str p.word, p.form]) ρ (NumH H ws done L) = .next ρ' (NumH H ws (done ++ ps.filterMap Pt.found) L')
  | [], done, L, ρ, _, _, hf => ⟨ρ, L, hf, by simp [forL, hc]⟩
  | p :: ps, done, L, ρ, ho, hl, hf => by
    rw [List.length_cons] at hl
    obtain ⟨ρ1, L1, f1, e1⟩ := num_turn n H ws done L ρ p (ho p (List.mem_cons_self ..)) (by omega) hf
    have hd : (done ++ p.found.toList).length + ps.length ≤ line := by
      rw [List.length_append]
      have : p.found.toList.length ≤ 1 := by cases p <;> simp [Pt.found]
      omega
    obtain ⟨ρ2, L2, f2, e2⟩ := num_loop n H ws chk hc ps (done ++ p.found.toList) L1 ρ1 (fun x hx => ho x (List.mem_cons_of_mem _ hx)) hd f1
    refine ⟨ρ2, L2, f2, ?_⟩
    rw [List.map_cons, forL, if_pos (hc _ _), e1, RS.bind_next, e2, List.append_assoc]
    cases h : p.found with
    | none => rw [List.filterMap_cons_none h]; rfl
    | some v => rw [List.filterMap_cons_some h]; rfl
theorem ss_forZ {T : RS → Prop} {Γ : Fn} {ρ ρ1 : Rho} {xs : List String} {es : List E} {b ss : List S} {H H1 H2 : Hp} {vs : List V} (he : evEs Γ ρ es H = .ok vs H1)
    (hf : forZ (fun v ρ1 H2 => unpackV xs v ρ1 H2 fun ρ2 => exSs Γ b ρ2 H2) vs ρ H1 = .next ρ1 H2) (k : T (exSs Γ ss ρ1 H2)) : T (exSs Γ (.forZ xs es b :: ss) ρ H) := by
  have q : exSs Γ (.forZ xs es b :: ss) ρ H = exSs Γ ss ρ1 H2 := by
    rw [exSs_cons, exS_forZ, he, ofR_ok, hf]; rfl
  rw [q]; exact k
theorem c_numbers (n : Nat) (ps : List Pt) (H : Hp) (hne : ps ≠ []) (ho : ∀ p ∈ ps, p.Ok) (hl : ps.length ≤ 100) :
    ∃ L, (G (n + 2)).call "numbers_of" [.str (row ps), .tup (ps.map Pt.form)] H = .ok (.ref (H.length + 1)) (NumH H (ps.map fun p => .str p.word) (ps.filterMap Pt.found) L) := by
  rw [lk_call (d := d_numbers_of) (by kernel_rfl)]
  have es := m_split H (x := row ps) (y := sp) (ps := ps.map Pt.word) (by have := row_le ho; omega) (by decide) (split_row hne ho) (by rw [List.length_map]; unfold line; omega) (fun x hx c hc => by
    obtain ⟨p, hp, rfl⟩ := List.mem_map.mp hx
    exact ((ho p hp).pln.2 c hc).2.2)
  rw [List.map_map] at es
  let ws : List V := ps.map fun p => .str p.word
  have es' : meth "str" (.str (row ps)) "split" [.str sp] H = .ok (.ref H.length) (H ++ [.list ws]) := es
  obtain ⟨ρ', L', f', e'⟩ := num_loop n H ws (fun H' => sameO (.ref H.length) (H ++ [.list ws, .list []]) H' && isOwn H'[(H ++ [O.list ws, .list []]).length]?) (fun d L => by
      have a1 : (H ++ [O.list ws, .list []])[H.length]? = some (.list ws) := by rw [List.getElem?_append_right (by omega)]; simp
      have a2 : (H ++ [O.list ws, .list []]).length = H.length + 2 := by simp
      simp [sameO, a1, a2, numH_0, numH_2, isOwn]) ps [] [] [("row", .str (row ps)), ("form", .tup (ps.map Pt.form)), ("words", .ref H.length), ("found", .ref (H.length + 1))] ho (by unfold line; simp; omega) rfl
  refine ⟨L', ?_⟩
  refine runDef_is (ρ := [("row", .str (row ps)), ("form", .tup (ps.map Pt.form))]) rfl ?_
  refine ss_asg (v := .ref H.length) (H1 := H ++ [.list ws]) ?_ ?_
  · exact ev_meth (w := .str (row ps)) (T := "str") (vs := [.str sp]) (H1 := H) (H2 := H) (by simp) rfl (evs_one (by rw [evE_str, sp_eq])) es'
  have w1 : (H ++ [.list ws])[H.length]? = some (.list ws) := len_app1 H _
  refine ss_if (b := false) (H1 := H ++ [.list ws]) (evT_of ?_) ?_
  · have b1 := bi_len_ref w1
    have b2 : ∀ vs H, builtin "len" [.tup vs] H = .ok (.int vs.length) H := fun _ _ => rfl
    rw [show ws.length = ps.length from List.length_map ..] at b1
    simp [setL, b1, b2, cmp_ne_int]
  refine ss_asg (v := .ref (H.length + 1)) (H1 := H ++ [.list ws, .list []]) ?_ ?_
  · rw [evE_list, evEs_nil, R.bind_ok]
    simp [new]
  refine ss_forZ (vs := [.ref H.length, .tup (ps.map Pt.form)]) (H1 := H ++ [.list ws, .list []]) (ρ1 := ρ') (H2 := NumH H ws (ps.filterMap Pt.found) L') (by simp [setL]) ?_ (ss_ret (ev_var f') rfl)
  have a1 : (H ++ [O.list ws, .list []])[H.length]? = some (.list ws) := by rw [List.getElem?_append_right (by omega)]; simp
  have q : ∀ body v ys ρ (H : Hp), forZ body [v, .tup ys] ρ H = (match listAt v H with | some xs => if xs.length = ys.length then forL body (fun H' => sameO v H H' && isOwn H'[H.length]?) (pairsZ xs ys) ρ (H ++ [.own]) else .stuck | Option.none => .stuck) := fun _ _ _ _ _ => rfl
  rw [q, listAt_of a1]
  dsimp only
  have z : pairsZ ws (ps.map Pt.form) = ps.map fun p => .tup [.str p.word, p.form] := by
    unfold pairsZ
    rw [show ws = ps.map fun p => V.str p.word from rfl, List.zip_map', List.map_map]; rfl
  rw [if_pos (by simp [ws]), z]
  have a3 : H ++ [O.list ws, .list []] ++ [.own] = NumH H ws [] [] := by unfold NumH; simp
  rw [a3]
  exact e'
end Mine.L12

/-! P12f -/
namespace Mine.L12
open Mine PySem

/-! _law_rows -/
structure Gv (Γ : Fn) (ρ : Rho) (H : Hp) (e : E) (x : Str) (k : Nat) : Prop where
  ev : evE Γ ρ e H = .ok (.str x) H
  le : x.length ≤ k
theorem Gv.cat {Γ : Fn} {ρ : Rho} {H : Hp} {e f : E} {x y : Str} {i j : Nat} (a : Gv Γ ρ H e x i) (b : Gv Γ ρ H f y j) (h : i + j ≤ line) : Gv Γ ρ H (.bin .add e f) (x ++ y) (i + j) :=
  ⟨by rw [ev_bin a.ev b.ev]; exact bin_add_str H (by have := a.le; have := b.le; omega), by rw [Str.length_append]; have := a.le; have := b.le; omega⟩
theorem Gv.lit {Γ : Fn} {ρ : Rho} {H : Hp} {s : String} {k : Nat} (h : (Str.ofString s).length ≤ k) : Gv Γ ρ H (.str s) (Str.ofString s) k := ⟨rfl, h⟩
theorem Gv.var {Γ : Fn} {ρ : Rho} {H : Hp} {x : String} {t : Str} {k : Nat} (h : ρ.lookup x = some (.str t)) (hl : t.length ≤ k) : Gv Γ ρ H (.var x) t k := ⟨ev_var h, hl⟩
theorem Gv.fig {n : Nat} {ρ : Rho} {H : Hp} {e : E} {i : Int} (he : evE (G (n + 1)) ρ e H = .ok (.int i) H) (h0 : 0 ≤ i) (h1 : i ≤ 1000000000000) : Gv (G (n + 1)) ρ H (.call "_law_figures" [e]) (num i.toNat) 13 := by
  obtain ⟨m, rfl⟩ := Int.eq_ofNat_of_zero_le h0
  have hm : m ≤ 1000000000000 := by omega
  exact ⟨ev_call (evs_one he) rfl (c_figures n m H hm), (Pln.num hm).1⟩
structure QOk (q : Q4) : Prop where
  a : 0 ≤ q.1 ∧ q.1 ≤ 1000000000000
  b : 0 ≤ q.2.1 ∧ q.2.1 ≤ 1000000000000
  c : 0 ≤ q.2.2.1 ∧ q.2.2.1 ≤ 1000000000000
  d : 0 ≤ q.2.2.2 ∧ q.2.2.2 ≤ 1000000000000
theorem l_stop : (Str.ofString "stop ").cps.toList = (Str.ofString "stop").cps.toList ++ [32] := by decide +kernel
theorem l_from : (Str.ofString " from ").cps.toList = 32 :: (Str.ofString "from").cps.toList ++ [32] := by decide +kernel
theorem l_to : (Str.ofString " to ").cps.toList = 32 :: (Str.ofString "to").cps.toList ++ [32] := by decide +kernel
theorem l_for : (Str.ofString " for ").cps.toList = 32 :: (Str.ofString "for").cps.toList ++ [32] := by decide +kernel
theorem l_home : (Str.ofString "home ").cps.toList = (Str.ofString "home").cps.toList ++ [32] := by decide +kernel
theorem l_at : (Str.ofString " at ").cps.toList = 32 :: (Str.ofString "at").cps.toList ++ [32] := by decide +kernel
theorem join_one (s x : Str) : Str.join s [x] = x := rfl
theorem row_q (acc : Str) (q : Q4) : acc ++ Str.ofString "stop " ++ num q.1.toNat ++ Str.ofString " from " ++ num q.2.1.toNat ++ Str.ofString " to " ++ num q.2.2.1.toNat ++ Str.ofString " for " ++ num q.2.2.2.toNat ++ Str.ofString "\n" = acc ++ (row (rowQ q) ++ nl) := str_ext (by
  simp only [row, rowQ, List.map, Pt.word, join_two, join_one, app_cps, List.append_assoc, List.cons_append, List.nil_append, l_stop, l_from, l_to, l_for, nl_eq])
theorem row_0 (w : Str) (l : Nat) : w ++ Str.ofString " " ++ num l ++ Str.ofString "\n" = row (row0 w l) ++ nl := by rw [sp_eq, nl_eq]; rfl
theorem row_1 (acc : Str) (h s : Nat) : acc ++ Str.ofString "home " ++ num h ++ Str.ofString " at " ++ num s ++ Str.ofString "\n" = acc ++ (row (row1 h s) ++ nl) := str_ext (by
  simp only [row, row1, List.map, Pt.word, join_two, join_one, app_cps, List.append_assoc, List.cons_append, List.nil_append, l_home, l_at, nl_eq])
noncomputable abbrev rB : List S := [
    .asg "_law_rows_here" (.bin .add (.bin .add (.var "_law_rows_here") (.str "stop ")) (.call "_law_figures" [(.idx (.var "_law_stop") (.int 0))])),
    .asg "_law_rows_here" (.bin .add (.bin .add (.bin .add (.bin .add (.var "_law_rows_here") (.str " from ")) (.call "_law_figures" [(.idx (.var "_law_stop") (.int 1))])) (.str " to ")) (.call "_law_figures" [(.idx (.var "_law_stop") (.int 2))])),
    .asg "_law_rows_here" (.bin .add (.bin .add (.bin .add (.var "_law_rows_here") (.str " for ")) (.call "_law_figures" [(.idx (.var "_law_stop") (.int 3))])) (.str "\n"))]
noncomputable def NextR (H' : Hp) (Q : Rho → Prop) (r : RS) : Prop := ∃ ρ, r = .next ρ H' ∧ Q ρ
theorem ev_idx {Γ : Fn} {ρ : Rho} {x : String} {k : Int} {v w : V} {H : Hp} (h : ρ.lookup x = some v) (hi : index v (.int k) H = .ok w H) : evE Γ ρ (.idx (.var x) (.int k)) H = .ok w H := by
  rw [evE_idx, ev_var h, R.bind_ok, evE_int, R.bind_ok, hi]
theorem rows_turn (n : Nat) (H : Hp) (q : Q4) (hq : QOk q) (acc : Str) (k : Nat) (hk : acc.length ≤ k) (hk2 : k ≤ 100000) (ρ : Rho) (hr : ρ.lookup "_law_rows_here" = some (.str acc)) :
    NextR H (fun ρ' => ρ'.lookup "_law_rows_here" = some (.str (acc ++ (row (rowQ q) ++ nl)))) (exSs (G (n + 1)) rB (setL "_law_stop" (tupQ q) ρ) H) := by
  have s0 : (setL "_law_stop" (tupQ q) ρ).lookup "_law_stop" = some (tupQ q) := setL_self ..
  have s1 : (setL "_law_stop" (tupQ q) ρ).lookup "_law_rows_here" = some (.str acc) := by rw [lookup_setL, if_neg (by decide), hr]
  have nx : ∀ (ρ : Rho) (x : Str), ρ.lookup "_law_stop" = some (tupQ q) → (setL "_law_rows_here" (.str x) ρ).lookup "_law_stop" = some (tupQ q) := fun ρ x h => by rw [lookup_setL, if_neg (by decide), h]
  have g1 := ((Gv.var (Γ := G (n + 1)) (H := H) s1 hk).cat (Gv.lit (s := "stop ") (k := 13) (by decide +kernel)) (by unfold line; omega)).cat (Gv.fig (ev_idx (k := 0) s0 rfl) hq.a.1 hq.a.2) (by unfold line; omega)
  refine ss_asg g1.ev ?_
  have s2 := nx _ (acc ++ Str.ofString "stop " ++ num q.1.toNat) s0
  have g2 := ((((Gv.var (Γ := G (n + 1)) (H := H) (setL_self "_law_rows_here" _ (setL "_law_stop" (tupQ q) ρ)) g1.le).cat (Gv.lit (s := " from ") (k := 13) (by decide +kernel)) (by unfold line; omega)).cat (Gv.fig (ev_idx (k := 1) s2 rfl) hq.b.1 hq.b.2) (by unfold line; omega)).cat
    (Gv.lit (s := " to ") (k := 13) (by decide +kernel)) (by unfold line; omega)).cat (Gv.fig (ev_idx (k := 2) s2 rfl) hq.c.1 hq.c.2) (by unfold line; omega)
  refine ss_asg g2.ev ?_
  have s3 := nx _ (acc ++ Str.ofString "stop " ++ num q.1.toNat ++ Str.ofString " from " ++ num q.2.1.toNat ++ Str.ofString " to " ++ num q.2.2.1.toNat) s2
  have g3 := (((Gv.var (Γ := G (n + 1)) (H := H) (setL_self "_law_rows_here" _ _) g2.le).cat (Gv.lit (s := " for ") (k := 13) (by decide +kernel)) (by unfold line; omega)).cat (Gv.fig (ev_idx (k := 3) s3 rfl) hq.d.1 hq.d.2) (by unfold line; omega)).cat
    (Gv.lit (s := "\n") (k := 13) (by decide +kernel)) (by unfold line; omega)
  refine ss_asg g3.ev ?_
  refine ⟨_, rfl, ?_⟩
  dsimp only
  rw [setL_self, row_q]
theorem QOk.rowOk {q : Q4} (h : QOk q) : ∀ p ∈ rowQ q, p.Ok := by
  have w : ∀ s ∈ [Str.ofString "stop", Str.ofString "from", Str.ofString "to", Str.ofString "for"], Pln 13 s := by unfold Pln; decide +kernel
  obtain ⟨⟨_, a⟩, ⟨_, b⟩, ⟨_, c⟩, ⟨_, d⟩⟩ := h
  intro p hp
  simp only [rowQ, List.mem_cons, List.not_mem_nil, or_false] at hp
  rcases hp with rfl | rfl | rfl | rfl | rfl | rfl | rfl | rfl
  · exact w _ (by simp)
  · exact Int.toNat_le.mpr a
  · exact w _ (by simp)
  · exact Int.toNat_le.mpr b
  · exact w _ (by simp)
  · exact Int.toNat_le.mpr c
  · exact w _ (by simp)
  · exact Int.toNat_le.mpr d
theorem QOk.len {q : Q4} (h : QOk q) : (row (rowQ q) ++ nl).length ≤ 113 := by
  have h1 : (row (rowQ q)).length ≤ 14 * 8 := row_le h.rowOk
  have h2 : nl.length = 1 := rfl
  rw [Str.length_append, h2]
  omega
theorem rows_loop (n : Nat) (H : Hp) (chk : Hp → Bool) (hc : chk H = true) (qs : List Q4) : ∀ (acc : Str) (ρ : Rho), (∀ q ∈ qs, QOk q) → acc.length + 113 * qs.length ≤ 100000 → ρ.lookup "_law_rows_here" = some (.str acc) →
    ∃ ρ', ρ'.lookup "_law_rows_here" = some (.str ((qs.map fun q => row (rowQ q)).foldl (fun a r => a ++ (r ++ nl)) acc)) ∧ forL (fun v ρ1 H2 => exSs (G (n + 1)) rB (setL "_law_stop" v ρ1) H2) chk (qs.map tupQ) ρ H = .next ρ' H := by
  induction qs with
  | nil => exact fun acc ρ _ _ hr => ⟨ρ, hr, by rw [List.map_nil, forL, if_pos hc]⟩
  | cons q qs ih =>
    intro acc ρ ho hl hr
    rw [List.length_cons] at hl
    have hq := ho q (List.mem_cons_self ..)
    obtain ⟨ρ1, e1, f1⟩ := rows_turn n H q hq acc acc.length (Nat.le_refl _) (by omega) ρ hr
    have h2 := hq.len
    obtain ⟨ρ2, f2, e2⟩ := ih (acc ++ (row (rowQ q) ++ nl)) ρ1 (fun x hx => ho x (List.mem_cons_of_mem _ hx)) (by rw [Str.length_append]; omega) f1
    refine ⟨ρ2, by rw [List.map_cons, List.foldl_cons]; exact f2, ?_⟩
    rw [List.map_cons, forL, if_pos hc, e1, RS.bind_next, e2]
theorem StopOk.q {w : Str} {l : Int} {q : Q4} (hl : l ≤ 1000000000) (h : StopOk w l q.1 q.2.1 q.2.2.1 q.2.2.2) : QOk q := by
  obtain ⟨p0, p1, o0, oc, c1, s0, s1⟩ := h
  have hm : many w l ≤ l + 1 := by unfold many; split <;> omega
  exact ⟨⟨p0, by omega⟩, ⟨o0, by omega⟩, ⟨by omega, c1⟩, ⟨s0, s1⟩⟩
structure Nums (w : Str) (l h s : Int) (qs : List Q4) : Prop where
  w : w = sLine ∨ w = sRing
  l : 1 ≤ l ∧ l ≤ 1000000000
  h : 0 ≤ h ∧ h ≤ 1000000000000
  s : 0 ≤ s ∧ s ≤ 1000000000000
  few : qs.length ≤ 7
  q : ∀ q ∈ qs, QOk q
noncomputable abbrev txtD (w : Str) (l h s : Int) (qs : List Q4) : Str := text (rowsD w l.toNat h.toNat s.toNat qs)
theorem Nums.pln {w : Str} (h : w = sLine ∨ w = sRing) : Pln 13 w := by
  have : ∀ s ∈ [sLine, sRing], Pln 13 s := by unfold Pln; decide +kernel
  rcases h with rfl | rfl
  · exact this _ (by simp)
  · exact this _ (by simp)
theorem c_rows (n : Nat) (w : Str) (l h s : Int) (qs : List Q4) (j : Nat) (H : Hp) (hj : H[j]? = some (.list (qs.map tupQ))) (ok : Nums w l h s qs) :
    (G (n + 2)).call "_law_rows" [.tup [.str w, .int l], .int h, .int s, .ref j] H = .ok (.str (txtD w l h s qs)) H := by
  rw [lk_call (d := d__law_rows) (by kernel_rfl)]
  have hw := (Nums.pln ok.w).1
  obtain ⟨ρ0, hρ0⟩ : ∃ ρ0 : Rho, ρ0 = [("_law_road", .tup [.str w, .int l]), ("_law_home", .int h), ("_law_start", .int s), ("_law_stops", .ref j)] := ⟨_, rfl⟩
  have r1 : ρ0.lookup "_law_road" = some (.tup [.str w, .int l]) := by rw [hρ0]; rfl
  have g1 := (((Gv.mk (Γ := G (n + 1)) (H := H) (ev_idx (k := 0) (w := .str w) r1 rfl) hw).cat (Gv.lit (s := " ") (k := 13) (by decide +kernel)) (by unfold line; omega)).cat (Gv.fig (ev_idx (k := 1) r1 rfl) (by have := ok.l; omega) (by have := ok.l; omega)) (by unfold line; omega)).cat
    (Gv.lit (s := "\n") (k := 13) (by decide +kernel)) (by unfold line; omega)
  rw [row_0] at g1
  refine runDef_is (ρ := ρ0) (by rw [hρ0]; rfl) ?_
  refine ss_asg g1.ev ?_
  have v1 : ∀ x v, x ≠ "_law_rows_here" → (setL "_law_rows_here" v ρ0).lookup x = ρ0.lookup x := fun x v hx => by rw [lookup_setL, if_neg hx]
  have g2 := (((((Gv.var (Γ := G (n + 1)) (H := H) (setL_self "_law_rows_here" _ ρ0) g1.le).cat (Gv.lit (s := "home ") (k := 13) (by decide +kernel)) (by unfold line; omega)).cat (Gv.fig (ev_var ((v1 "_law_home" _ (by decide)).trans (by rw [hρ0]; rfl))) ok.h.1 ok.h.2) (by unfold line; omega)).cat
    (Gv.lit (s := " at ") (k := 13) (by decide +kernel)) (by unfold line; omega)).cat (Gv.fig (ev_var ((v1 "_law_start" _ (by decide)).trans (by rw [hρ0]; rfl))) ok.s.1 ok.s.2) (by unfold line; omega)).cat (Gv.lit (s := "\n") (k := 13) (by decide +kernel)) (by unfold line; omega)
  rw [row_1] at g2
  refine ss_asg g2.ev ?_
  obtain ⟨ρ', f', e'⟩ := rows_loop n H (sameO (.ref j) H) (sameO_ext hj (Ext.refl H)) qs (row (row0 w l.toNat) ++ nl ++ (row (row1 h.toNat s.toNat) ++ nl)) _ ok.q (by have := g2.le; have := ok.few; omega) (setL_self "_law_rows_here" _ (setL "_law_rows_here" (.str (row (row0 w l.toNat) ++ nl)) ρ0))
  refine ss_for (v := .ref j) (H1 := H) (ev_var (by rw [lookup_setL, if_neg (by decide), v1 _ _ (by decide), hρ0]; rfl)) (listAt_of hj) e' ?_
  refine ss_ret (ev_var f') ?_
  rw [text_fold]
  show RS.ret _ _ = _
  refine congrArg (fun x => RS.ret (.str x) H) ?_
  rw [txtD, rowsD, text_cons, text_cons, Str.append_assoc, Str.append_assoc, Str.append_assoc]
end Mine.L12

/-! P12g -/
namespace Mine.L12
open Mine PySem

/-! written -/
theorem catS_ok : ∀ (ys : List Str) (x : Str), (∀ y ∈ ys, y.length ≤ 13) → x.length + 13 * ys.length ≤ line → catS (ys.map .str) x = some (ys.foldl (· ++ ·) x)
  | [], x, _, _ => rfl
  | y :: ys, x, h, hl => by
    rw [List.length_cons] at hl
    have hy := h y (List.mem_cons_self ..)
    have q : catS ((y :: ys).map .str) x = (if (x ++ y).length ≤ line then catS (ys.map .str) (x ++ y) else Option.none) := rfl
    rw [q, if_pos (by rw [Str.length_append]; omega), catS_ok ys (x ++ y) (fun z hz => h z (List.mem_cons_of_mem _ hz)) (by rw [Str.length_append]; omega), List.foldl_cons]
theorem ev_fstr {Γ : Fn} {ρ : Rho} {es : List E} {ys : List Str} {H : Hp} (h : evEs Γ ρ es H = .ok (ys.map .str) H) (hy : ∀ y ∈ ys, y.length ≤ 13) (hl : ys.length ≤ 20) : evE Γ ρ (.fstr es) H = .ok (.str (ys.foldl (· ++ ·) Str.empty)) H := by
  rw [evE_fstr, h, R.bind_ok, catS_ok ys Str.empty hy (by show 0 + 13 * ys.length ≤ line; unfold line; omega)]; rfl
theorem ev_fmt {Γ : Fn} {ρ : Rho} {x : String} {i : Int} {H : Hp} (h : ρ.lookup x = some (.int i)) (h0 : 0 ≤ i) (h1 : i ≤ 1000000000000) : evE Γ ρ (.fmt (.var x)) H = .ok (.str (num i.toNat)) H := by
  have q : fmtV (.int i) H = (if i.natAbs < 10 ^ 30 then .ok (.str (num i)) H else .stuck) := rfl
  rw [evE_fmt, ev_var h, R.bind_ok, q, if_pos (by omega), Int.toNat_of_nonneg h0]
theorem ev_fmts {Γ : Fn} {ρ : Rho} {x : String} {t : Str} {H : Hp} (h : ρ.lookup x = some (.str t)) (hl : t.length ≤ line) : evE Γ ρ (.fmt (.var x)) H = .ok (.str t) H := by
  have q : fmtV (.str t) H = (if t.length ≤ line then .ok (.str t) H else .stuck) := rfl
  rw [evE_fmt, ev_var h, R.bind_ok, q, if_pos hl]
theorem len_num {i : Int} (h1 : i ≤ 1000000000000) : (num i.toNat).length ≤ 13 := (Pln.num (Int.toNat_le.mpr h1)).1
noncomputable abbrev wE : E := .fstr [(.str "stop "), (.fmt (.var "place")), (.str " from "), (.fmt (.var "opens")), (.str " to "), (.fmt (.var "closes")), (.str " for "), (.fmt (.var "stay")), (.str "\n")]
theorem ev_q {Γ : Fn} {ρ : Rho} {q : Q4} {H : Hp} (hq : QOk q) (h1 : ρ.lookup "place" = some (.int q.1)) (h2 : ρ.lookup "opens" = some (.int q.2.1)) (h3 : ρ.lookup "closes" = some (.int q.2.2.1)) (h4 : ρ.lookup "stay" = some (.int q.2.2.2)) : evE Γ ρ wE H = .ok (.str (row (rowQ q) ++ nl)) H := by
  have e := ev_fstr (Γ := Γ) (ρ := ρ) (H := H) (ys := [Str.ofString "stop ", num q.1.toNat, Str.ofString " from ", num q.2.1.toNat, Str.ofString " to ", num q.2.2.1.toNat, Str.ofString " for ", num q.2.2.2.toNat, Str.ofString "\n"])
    (es := [(.str "stop "), (.fmt (.var "place")), (.str " from "), (.fmt (.var "opens")), (.str " to "), (.fmt (.var "closes")), (.str " for "), (.fmt (.var "stay")), (.str "\n")])
    (by simp only [evEs_cons, evEs_nil, evE_str, R.bind_ok, ev_fmt h1 hq.a.1 hq.a.2, ev_fmt h2 hq.b.1 hq.b.2, ev_fmt h3 hq.c.1 hq.c.2, ev_fmt h4 hq.d.1 hq.d.2]; rfl)
    (by
      intro y hy
      simp only [List.mem_cons, List.not_mem_nil, or_false] at hy
      rcases hy with rfl | rfl | rfl | rfl | rfl | rfl | rfl | rfl | rfl
      · decide +kernel
      · exact len_num hq.a.2
      · decide +kernel
      · exact len_num hq.b.2
      · decide +kernel
      · exact len_num hq.c.2
      · decide +kernel
      · exact len_num hq.d.2
      · decide +kernel) (show 9 ≤ 20 by decide)
  rw [wE, e]
  refine congrArg (fun x => R.ok (V.str x) H) ?_
  rw [← Str.empty_append (row (rowQ q) ++ nl), ← row_q]; rfl
noncomputable abbrev wB : List S := [.expr (.meth (.var "rows") "append" [wE])]
noncomputable abbrev wF (n : Nat) (v : V) (ρ1 : Rho) (H2 : Hp) : RS := unpackV ["place", "opens", "closes", "stay"] v ρ1 H2 fun ρ2 => exSs (G n) wB ρ2 H2
noncomputable abbrev q4 (q : Q4) (ρ : Rho) : Rho := setL "stay" (.int q.2.2.2) (setL "closes" (.int q.2.2.1) (setL "opens" (.int q.2.1) (setL "place" (.int q.1) ρ)))
theorem look4 (q : Q4) (ρ : Rho) : (q4 q ρ).lookup "place" = some (.int q.1) ∧ (q4 q ρ).lookup "opens" = some (.int q.2.1) ∧ (q4 q ρ).lookup "closes" = some (.int q.2.2.1) ∧ (q4 q ρ).lookup "stay" = some (.int q.2.2.2) := by
  refine ⟨?_, ?_, ?_, ?_⟩ <;> simp [lookup_setL]
theorem look4n (q : Q4) (ρ : Rho) {x : String} (h : x ∉ ["place", "opens", "closes", "stay"]) : (q4 q ρ).lookup x = ρ.lookup x := by
  simp only [List.mem_cons, List.not_mem_nil, or_false, not_or] at h
  obtain ⟨h1, h2, h3, h4⟩ := h
  rw [lookup_setL, if_neg h4, lookup_setL, if_neg h3, lookup_setL, if_neg h2, lookup_setL, if_neg h1]
theorem w_loop (n : Nat) (H : Hp) (chk : Hp → Bool) (hc : ∀ xs, chk (H ++ [.list xs]) = true) : ∀ (qs : List Q4) (done : List V) (ρ : Rho), (∀ q ∈ qs, QOk q) → done.length + qs.length ≤ line → ρ.lookup "rows" = some (.ref H.length) →
    ∃ ρ', ρ'.lookup "rows" = some (.ref H.length) ∧ forL (wF n) chk (qs.map tupQ) ρ (H ++ [.list done]) = .next ρ' (H ++ [.list (done ++ qs.map fun q => .str (row (rowQ q) ++ nl))])
  | [], done, ρ, _, _, hr => ⟨ρ, hr, by simp [forL, hc]⟩
  | q :: qs, done, ρ, ho, hl, hr => by
    rw [List.length_cons] at hl
    have hq := ho q (List.mem_cons_self ..)
    have hu : ∀ H k, unpackV ["place", "opens", "closes", "stay"] (tupQ q) ρ H k = k (q4 q ρ) := fun _ _ => rfl
    have hr' : (q4 q ρ).lookup "rows" = some (.ref H.length) := (look4n q ρ (by decide)).trans hr
    obtain ⟨l1, l2, l3, l4⟩ := look4 q ρ
    obtain ⟨ρ', f', e'⟩ := w_loop n H chk hc qs (done ++ [.str (row (rowQ q) ++ nl)]) (q4 q ρ) (fun x hx => ho x (List.mem_cons_of_mem _ hx)) (by rw [List.length_append]; simp; omega) hr'
    refine ⟨ρ', f', ?_⟩
    have em := ev_meth (Γ := G n) (m := "append") (ev_var hr') (kind_list (len_app1 H (.list done))) (evs_one (ev_q hq l1 l2 l3 l4)) (m_append (len_app1 H (.list done)) (by omega))
    rw [set_app1] at em
    have e1 : wF n (tupQ q) ρ (H ++ [.list done]) = .next (q4 q ρ) (H ++ [.list (done ++ [.str (row (rowQ q) ++ nl)])]) := by
      show unpackV _ (tupQ q) ρ _ _ = _
      rw [hu, exSs_cons, exS_expr, em]; rfl
    rw [List.map_cons, forL, if_pos (hc _), e1, RS.bind_next, e', List.map_cons, List.append_assoc]; rfl
theorem ss_unpack {T : RS → Prop} {Γ : Fn} {ρ ρ1 : Rho} {xs : List String} {e : E} {ss : List S} {H H1 : Hp} {v : V} {vs : List V} (h : evE Γ ρ e H = .ok v H1) (hp : partsV v H1 = some vs) (hs : setAll xs vs ρ = some ρ1) (k : T (exSs Γ ss ρ1 H1)) : T (exSs Γ (.unpack xs e :: ss) ρ H) := by
  have q : exSs Γ (.unpack xs e :: ss) ρ H = exSs Γ ss ρ1 H1 := by
    rw [exSs_cons, exS_unpack, h, ofR_ok, unpackV, hp]
    dsimp only
    rw [hs]; rfl
  rw [q]; exact k
theorem ss_forT {T : RS → Prop} {Γ : Fn} {ρ ρ1 : Rho} {xs : List String} {e : E} {b ss : List S} {H H1 H2 : Hp} {v : V} {vs : List V} (he : evE Γ ρ e H = .ok v H1) (hx : listAt v H1 = some vs) (hi : items H1 v = some vs)
    (hf : forL (fun v ρ1 H2 => unpackV xs v ρ1 H2 fun ρ2 => exSs Γ b ρ2 H2) (sameO v H1) vs ρ H1 = .next ρ1 H2) (k : T (exSs Γ ss ρ1 H2)) : T (exSs Γ (.forT xs e b :: ss) ρ H) := by
  have q : exSs Γ (.forT xs e b :: ss) ρ H = exSs Γ ss ρ1 H2 := by
    rw [exSs_cons, exS_forT, he, ofR_ok, forVL, hx]
    dsimp only
    rw [forV, hi]
    dsimp only
    rw [hf]; rfl
  rw [q]; exact k
theorem textsV_ok : ∀ ys : List Str, textsV (ys.map .str) = some ys
  | [] => rfl
  | y :: ys => by
    have ih := textsV_ok ys
    unfold textsV at ih ⊢
    rw [List.map_cons, List.mapM_cons, ih]; rfl
theorem sum_le {k : Nat} : ∀ {ys : List Str}, (∀ y ∈ ys, y.length ≤ k) → (ys.map (·.length)).sum ≤ k * ys.length
  | [], _ => Nat.zero_le _
  | y :: ys, h => by
    have h1 := h y (List.mem_cons_self ..)
    have h2 := sum_le (ys := ys) fun z hz => h z (List.mem_cons_of_mem _ hz)
    rw [List.map_cons, List.sum_cons, List.length_cons, Nat.mul_succ]
    omega
theorem m_join {ys : List Str} {k : Nat} {H : Hp} (h : H[k]? = some (.list (ys.map .str))) (hl : ∀ y ∈ ys, y.length ≤ 113) (hn : ys.length ≤ 100) (ho : PyData.strOk (Str.join Str.empty ys) = true) : meth "str" (.str Str.empty) "join" [.ref k] H = .ok (.str (Str.join Str.empty ys)) H := by
  have q : meth "str" (.str Str.empty) "join" [.ref k] H = (match (listAt (.ref k) H).bind textsV with
      | some ys => if JoinOk Str.empty ys = true ∧ PyData.strOk (Txt.join Str.empty ys) = true then .ok (.str (Txt.join Str.empty ys)) H else .stuck
      | Option.none => .stuck) := rfl
  have j : Txt.join Str.empty ys = Str.join Str.empty ys := StrLaws.glued_eq_join _ _
  have j2 : JoinOk Str.empty ys = true := by
    have := sum_le hl
    unfold JoinOk
    rw [StrLaws.joinTotal, show Str.empty.length = 0 from rfl, Bool.not_eq_true']
    refine decide_eq_false ?_
    rw [show sizeLine = 16777216 from rfl]
    omega
  rw [q, listAt_of h, Option.bind_some, textsV_ok]
  dsimp only
  rw [if_pos ⟨j2, by rw [j]; exact ho⟩, j]
theorem Nums.row0 {w : Str} {l h s : Int} {qs : List Q4} (ok : Nums w l h s qs) : ∀ p ∈ L12.row0 w l.toNat, p.Ok := by
  intro p hp
  simp only [L12.row0, List.mem_cons, List.not_mem_nil, or_false] at hp
  rcases hp with rfl | rfl
  · exact Nums.pln ok.w
  · exact Int.toNat_le.mpr (by have := ok.l; omega)
theorem Nums.row1 {w : Str} {l h s : Int} {qs : List Q4} (ok : Nums w l h s qs) : ∀ p ∈ L12.row1 h.toNat s.toNat, p.Ok := by
  have w : ∀ s ∈ [Str.ofString "home", Str.ofString "at"], Pln 13 s := by unfold Pln; decide +kernel
  intro p hp
  simp only [L12.row1, List.mem_cons, List.not_mem_nil, or_false] at hp
  rcases hp with rfl | rfl | rfl | rfl
  · exact w _ (by simp)
  · exact Int.toNat_le.mpr ok.h.2
  · exact w _ (by simp)
  · exact Int.toNat_le.mpr ok.s.2
theorem Nums.rows {w : Str} {l h s : Int} {qs : List Q4} (ok : Nums w l h s qs) : ∀ r ∈ rowsD w l.toNat h.toNat s.toNat qs, r.length ≤ 112 ∧ ∀ c ∈ r.cps.toList, c ≠ 10 ∧ c < 128 := by
  intro r hr
  simp only [rowsD, List.mem_cons, List.mem_map] at hr
  have go : ∀ ps : List Pt, ps.length ≤ 8 → (∀ p ∈ ps, p.Ok) → (row ps).length ≤ 112 ∧ ∀ c ∈ (row ps).cps.toList, c ≠ 10 ∧ c < 128 := fun ps hl ho => ⟨by have := row_le ho; omega, fun c hc => row_free ho hc⟩
  rcases hr with rfl | rfl | ⟨q, hq, rfl⟩
  · exact go _ (show 2 ≤ 8 by decide) ok.row0
  · exact go _ (show 4 ≤ 8 by decide) ok.row1
  · exact go _ (show 8 ≤ 8 by decide) (ok.q q hq).rowOk
theorem text_chars {rs : List Str} (h : ∀ r ∈ rs, ∀ c ∈ r.cps.toList, c < 128) : ∀ c ∈ (text rs).cps.toList, c < 128 := fun c hc => by
  rcases join_mem hc with rfl | ⟨p, hp, hc⟩
  · decide
  · rcases List.mem_append.mp hp with hp | hp
    · exact h p hp c hc
    · rw [List.mem_singleton.mp hp] at hc; exact nomatch hc
theorem c_written (n : Nat) {w : Str} {l h s : Int} {qs : List Q4} {d dn k : Nat} {H : Hp} (D : DayAt w l h s qs d dn k H) (ok : Nums w l h s qs) :
    ∃ o, (G (n + 1)).call "written" [.ref d] H = .ok (.str (txtD w l h s qs)) (H ++ [o]) := by
  rw [lk_call (d := d_written) (by kernel_rfl)]
  have e0 := D.road
  have e1 := D.home
  have e2 := D.start
  have hw : w.length ≤ 13 := (Nums.pln ok.w).1
  obtain ⟨ρ0, hρ⟩ : ∃ ρ0 : Rho, ρ0 = [("day", .ref d), ("word", .str w), ("length", .int l), ("home", .int h), ("start", .int s)] := ⟨_, rfl⟩
  have v1 : ρ0.lookup "word" = some (.str w) := by rw [hρ]; rfl
  have v2 : ρ0.lookup "length" = some (.int l) := by rw [hρ]; rfl
  have v3 : ρ0.lookup "home" = some (.int h) := by rw [hρ]; rfl
  have v4 : ρ0.lookup "start" = some (.int s) := by rw [hρ]; rfl
  have l1 : 0 ≤ l := by have := ok.l; omega
  have l2 : l ≤ 1000000000000 := by have := ok.l; omega
  have f0 : evE (G n) ρ0 (.fstr [(.fmt (.var "word")), (.str " "), (.fmt (.var "length")), (.str "\n")]) H = .ok (.str (row (L12.row0 w l.toNat) ++ nl)) H := by
    rw [ev_fstr (ys := [w, Str.ofString " ", num l.toNat, Str.ofString "\n"]) (by simp only [evEs_cons, evEs_nil, evE_str, R.bind_ok, ev_fmts v1 (Nat.le_trans hw (by decide)), ev_fmt v2 l1 l2]; rfl) (by
      intro y hy
      simp only [List.mem_cons, List.not_mem_nil, or_false] at hy
      rcases hy with rfl | rfl | rfl | rfl
      · exact hw
      · decide +kernel
      · exact len_num l2
      · decide +kernel) (show 4 ≤ 20 by decide)]
    refine congrArg (fun x => R.ok (V.str x) H) ?_
    rw [← row_0]
    show Str.empty ++ w ++ _ ++ _ ++ _ = _
    rw [Str.empty_append]
  have f1 : evE (G n) ρ0 (.fstr [(.str "home "), (.fmt (.var "home")), (.str " at "), (.fmt (.var "start")), (.str "\n")]) H = .ok (.str (row (L12.row1 h.toNat s.toNat) ++ nl)) H := by
    rw [ev_fstr (ys := [Str.ofString "home ", num h.toNat, Str.ofString " at ", num s.toNat, Str.ofString "\n"]) (by simp only [evEs_cons, evEs_nil, evE_str, R.bind_ok, ev_fmt v3 ok.h.1 ok.h.2, ev_fmt v4 ok.s.1 ok.s.2]; rfl) (by
      intro y hy
      simp only [List.mem_cons, List.not_mem_nil, or_false] at hy
      rcases hy with rfl | rfl | rfl | rfl | rfl
      · decide +kernel
      · exact len_num ok.h.2
      · decide +kernel
      · exact len_num ok.s.2
      · decide +kernel) (show 5 ≤ 20 by decide)]
    refine congrArg (fun x => R.ok (V.str x) H) ?_
    rw [← Str.empty_append (row (L12.row1 h.toNat s.toNat) ++ nl), ← row_1]; rfl
  let ys : List Str := (rowsD w l.toNat h.toNat s.toNat qs).map (· ++ nl)
  refine ⟨.list (ys.map .str), ?_⟩
  let d0 : List V := [.str (row (L12.row0 w l.toNat) ++ nl), .str (row (L12.row1 h.toNat s.toNat) ++ nl)]
  have kl := D.list
  have hs : ∀ xs, sameO (.ref k) (H ++ [.list d0]) (H ++ [.list xs]) = true := fun xs => by
    have a := (ext_app H [.list d0]).get kl
    have b := (ext_app H [.list xs]).get kl
    simp [sameO, a, b]
  obtain ⟨ρ', f', e'⟩ := w_loop n H (sameO (.ref k) (H ++ [.list d0])) hs qs d0 (setL "rows" (.ref H.length) ρ0) ok.q (by have := ok.few; show 2 + qs.length ≤ line; unfold line; omega) (setL_self ..)
  refine runDef_is (ρ := [("day", .ref d)]) rfl ?_
  refine ss_unpack (v := .tup [.str w, .int l]) (H1 := H) (ρ1 := [("day", .ref d), ("word", .str w), ("length", .int l)]) (by simp [e0]) rfl rfl ?_
  refine ss_asg (v := .int h) (H1 := H) (by simp [e1]) ?_
  refine ss_asg (v := .int s) (H1 := H) (by simp [setL, e2]) ?_
  have hρ' : setL "start" (.int s) (setL "home" (.int h) [("day", .ref d), ("word", .str w), ("length", .int l)]) = ρ0 := by rw [hρ]; rfl
  rw [hρ']
  refine ss_asg (v := .ref H.length) (H1 := H ++ [.list d0]) (by rw [evE_list, evEs_cons, f0, R.bind_ok, evs_one f1]; rfl) ?_
  have a := (ext_app H [.list d0]).get kl
  refine ss_forT (v := .ref k) (H1 := H ++ [.list d0]) ?_ (listAt_of a) (listAt_of a) e' ?_
  · have e3 := (D.ext (ext_app H [.list d0])).stops
    rw [evE_attr, ev_var (v := .ref d) (by rw [lookup_setL, if_neg (by decide), hρ]; rfl), R.bind_ok, e3]
  have ey : d0 ++ qs.map (fun q => V.str (row (rowQ q) ++ nl)) = ys.map .str := by
    show _ = ((rowsD w l.toNat h.toNat s.toNat qs).map (· ++ nl)).map V.str
    simp [rowsD, d0]
  rw [ey]
  have tj : Str.join Str.empty ys = txtD w l h s qs := text_join _
  have hr := ok.rows
  refine ss_ret (v := .str (txtD w l h s qs)) (H1 := H ++ [O.list (ys.map .str)]) ?_ rfl
  rw [← tj]
  refine ev_meth (w := .str Str.empty) (T := "str") (H1 := H ++ [O.list (ys.map .str)]) (by rw [evE_str, em_eq]) rfl (evs_one (ev_var f')) (m_join (len_app1 H _) ?_ ?_ ?_)
  · intro y hy
    obtain ⟨r, h1, rfl⟩ := List.mem_map.mp hy
    rw [Str.length_append]
    show r.length + 1 ≤ 113
    have := (hr r h1).1
    omega
  · have := ok.few
    show ((rowsD w l.toNat h.toNat s.toNat qs).map (· ++ nl)).length ≤ 100
    simp [rowsD]; omega
  · rw [tj]
    exact strOk_of (text_chars fun r h1 c hc => ((hr r h1).2 c hc).2)
end Mine.L12

/-! P12h -/
namespace Mine.L12
open Mine PySem

/-! read -/
theorem numH_ext (H : Hp) (ws done : List V) (L : Hp) : Ext H (NumH H ws done L) := ext_app _ _
noncomputable def RdH (P : Hp) (done sl : List V) (L : Hp) : Hp := P ++ .list done :: .list sl :: L
section
variable (P : Hp) (done sl : List V) (L : Hp)
theorem rdH_0 : (RdH P done sl L)[P.length]? = some (.list done) := by unfold RdH; rw [List.getElem?_append_right (by omega)]; simp
theorem rdH_1 : (RdH P done sl L)[P.length + 1]? = some (.list sl) := by unfold RdH; rw [List.getElem?_append_right (by omega)]; simp
theorem rdH_set (d' : List V) : (RdH P done sl L).set P.length (.list d') = RdH P d' sl L := by unfold RdH; rw [List.set_append_right _ _ (by omega)]; simp
theorem rdH_num (ws ds : List V) (M : Hp) : NumH (RdH P done sl L) ws ds M = RdH P done sl (L ++ .list ws :: .list ds :: .own :: M) := by unfold RdH NumH; simp
theorem rdH_ext : Ext P (RdH P done sl L) := ext_app _ _
end
noncomputable abbrev fmE : E := .tup [(.str "stop"), .none, (.str "from"), .none, (.str "to"), .none, (.str "for"), .none]
noncomputable abbrev rdB : List S := [
    .unpack ["place", "opens", "closes", "stay"] (.call "numbers_of" [(.var "row"), fmE]),
    .expr (.meth (.var "stops") "append" [(.tup [(.var "place"), (.var "opens"), (.var "closes"), (.var "stay")])])]
noncomputable abbrev rdF (n : Nat) (v : V) (ρ1 : Rho) (H2 : Hp) : RS := exSs (G (n + 2)) rdB (setL "row" v ρ1) H2
structure RdV (P : Hp) (a b c d : V) (ρ : Rho) : Prop where
  stops : ρ.lookup "stops" = some (.ref P.length)
  word : ρ.lookup "word" = some a
  length : ρ.lookup "length" = some b
  home : ρ.lookup "home" = some c
  start : ρ.lookup "start" = some d
theorem rd_turn (n : Nat) (P : Hp) (done sl : List V) (L : Hp) (ρ : Rho) (a b c d : V) (q : Q4) (hq : QOk q) (hd : done.length < line) (hv : RdV P a b c d ρ) :
    ∃ ρ' L', RdV P a b c d ρ' ∧ rdF n (.str (row (rowQ q))) ρ (RdH P done sl L) = .next ρ' (RdH P (done ++ [tupQ q]) sl L') := by
  obtain ⟨M, e⟩ := c_numbers n (rowQ q) (RdH P done sl L) (by simp [rowQ]) hq.rowOk (show 8 ≤ 100 by decide)
  rw [rdH_num] at e
  obtain ⟨L', hL'⟩ : ∃ L', L' = L ++ .list ((rowQ q).map fun p => .str p.word) :: .list ((rowQ q).filterMap Pt.found) :: .own :: M := ⟨_, rfl⟩
  have hg : (RdH P done sl L')[(RdH P done sl L).length + 1]? = some (.list [.int q.1, .int q.2.1, .int q.2.2.1, .int q.2.2.2]) := by
    have fl : (rowQ q).filterMap Pt.found = [.int (q.1.toNat : Int), .int (q.2.1.toNat : Int), .int (q.2.2.1.toNat : Int), .int (q.2.2.2.toNat : Int)] := rfl
    rw [hL', ← rdH_num, numH_1, fl, Int.toNat_of_nonneg hq.a.1, Int.toNat_of_nonneg hq.b.1, Int.toNat_of_nonneg hq.c.1, Int.toNat_of_nonneg hq.d.1]
  rw [← hL'] at e
  let ρ1 := setL "row" (.str (row (rowQ q))) ρ
  have n1 : ∀ x, x ≠ "row" → x ∉ ["place", "opens", "closes", "stay"] → (q4 q ρ1).lookup x = ρ.lookup x := fun x h1 h2 => by rw [look4n q ρ1 h2, lookup_setL, if_neg h1]
  obtain ⟨l1, l2, l3, l4⟩ := look4 q ρ1
  have st : (q4 q ρ1).lookup "stops" = some (.ref P.length) := (n1 _ (by decide) (by decide)).trans hv.stops
  refine ⟨q4 q ρ1, L', ⟨st, (n1 _ (by decide) (by decide)).trans hv.word, (n1 _ (by decide) (by decide)).trans hv.length, (n1 _ (by decide) (by decide)).trans hv.home, (n1 _ (by decide) (by decide)).trans hv.start⟩, ?_⟩
  refine ss_unpack (T := fun r => r = _) (v := .ref ((RdH P done sl L).length + 1)) (H1 := RdH P done sl L') (ev_call (vs := [.str (row (rowQ q)), .tup ((rowQ q).map Pt.form)]) (H1 := RdH P done sl L) ?_ rfl e) (listAt_of hg) (ρ1 := q4 q ρ1) rfl ?_
  · rw [evEs_cons, ev_var (setL_self ..), R.bind_ok, evs_one (v := .tup ((rowQ q).map Pt.form)) (by rfl)]; rfl
  · refine ss_expr (T := fun r => r = _) (v := .none) (H1 := RdH P (done ++ [tupQ q]) sl L') ?_ rfl
    have em := ev_meth (Γ := G (n + 2)) (m := "append") (ev_var st) (kind_list (rdH_0 P done sl L')) (es := [(.tup [(.var "place"), (.var "opens"), (.var "closes"), (.var "stay")])]) (vs := [tupQ q]) (H2 := RdH P done sl L')
      (evs_one (by rw [evE_tup, evEs_cons, ev_var l1, R.bind_ok, evEs_cons, ev_var l2, R.bind_ok, evEs_cons, ev_var l3, R.bind_ok, evs_one (ev_var l4)]; rfl)) (m_append (rdH_0 P done sl L') hd)
    rw [rdH_set] at em
    exact em
theorem rd_loop (n : Nat) (P : Hp) (sl : List V) (a b c d : V) (chk : Hp → Bool) (hc : ∀ d L, chk (RdH P d sl L) = true) : ∀ (qs : List Q4) (done : List V) (L : Hp) (ρ : Rho), (∀ q ∈ qs, QOk q) → done.length + qs.length ≤ line → RdV P a b c d ρ →
    ∃ ρ' L', RdV P a b c d ρ' ∧ forL (rdF n) chk (qs.map fun q => .str (row (rowQ q))) ρ (RdH P done sl L) = .next ρ' (RdH P (done ++ qs.map tupQ) sl L')
  | [], done, L, ρ, _, _, hv => ⟨ρ, L, hv, by simp [forL, hc]⟩
  | q :: qs, done, L, ρ, ho, hl, hv => by
    rw [List.length_cons] at hl
    obtain ⟨ρ1, L1, v1, e1⟩ := rd_turn n P done sl L ρ a b c d q (ho q (List.mem_cons_self ..)) (by omega) hv
    obtain ⟨ρ2, L2, v2, e2⟩ := rd_loop n P sl a b c d chk hc qs (done ++ [tupQ q]) L1 ρ1 (fun x hx => ho x (List.mem_cons_of_mem _ hx)) (by rw [List.length_append]; simp; omega) v1
    refine ⟨ρ2, L2, v2, ?_⟩
    rw [List.map_cons, forL, if_pos (hc _ _), e1, RS.bind_next, e2, List.append_assoc]; rfl
theorem not_in {w : Str} (h : w = sLine ∨ w = sRing) (H : Hp) : cmp .notIn (.str w) (.tup [.str sLine, .str sRing]) H = some false := by
  have e : cmp .notIn (.str w) (.tup [.str sLine, .str sRing]) H = some (!((sLine == w) || ((sRing == w) || false))) := rfl
  rw [e]
  rcases h with rfl | rfl <;> simp
theorem c_read (n : Nat) (w : Str) (l h s : Int) (qs : List Q4) (H : Hp) (ok : Nums w l h s qs) (day : DayOk w l h s qs) :
    ∃ d dn k H', (G (n + 6)).call "read" [.str (txtD w l h s qs)] H = .ok (.ref d) H' ∧ DayAt w l h s qs d dn k H' ∧ Ext H H' := by
  rw [lk_call (d := d_read) (by kernel_rfl)]
  have hr := ok.rows
  have few := ok.few
  let rs := rowsD w l.toNat h.toNat s.toNat qs
  have lrs : rs.length = qs.length + 2 := by simp [rs, rowsD]
  have es := m_split H (x := txtD w l h s qs) (y := nl) (ps := rs ++ [Str.empty]) (by
      have := join_le (c := 10) (k := 112) (ps := rs ++ [Str.empty]) fun p hp => by
        rcases List.mem_append.mp hp with hp | hp
        · exact (hr p hp).1
        · rw [List.mem_singleton.mp hp]; decide
      rw [List.length_append, lrs] at this
      have q : (txtD w l h s qs).length = (Str.join ⟨#[10]⟩ (rs ++ [Str.empty])).length := rfl
      have : (Str.join ⟨#[10]⟩ (rs ++ [Str.empty])).length ≤ 113 * (qs.length + 2 + 1) := this
      omega) (by decide) (split_text fun r h1 c hc => ((hr r h1).2 c hc).1) (by rw [List.length_append, lrs]; show qs.length + 2 + 1 ≤ line; unfold line; omega) (fun p hp c hc => by
        rcases List.mem_append.mp hp with hp | hp
        · exact ((hr p hp).2 c hc).2
        · rw [List.mem_singleton.mp hp] at hc; exact nomatch hc)
  let vs : List V := (rs ++ [Str.empty]).map .str
  have lvs : vs.length = qs.length + 3 := by simp [vs, lrs]
  let H1 := H ++ [O.list vs]
  have g1 : H1[H.length]? = some (.list vs) := len_app1 H _
  have b1 : ∀ H', Ext H1 H' → builtin "len" [.ref H.length] H' = .ok (.int (qs.length + 3 : Nat)) H' := fun H' x => by
    have := bi_len_ref (x.get g1)
    rwa [lvs] at this
  suffices hh : ∃ v H', runDef (G (n + 5)) d_read [.str (txtD w l h s qs)] H = .ok v H' ∧ ∃ d dn k, v = .ref d ∧ DayAt w l h s qs d dn k H' ∧ Ext H H' by
    obtain ⟨v, H', e, d, dn, k, rfl, hd⟩ := hh
    exact ⟨d, dn, k, H', e, hd⟩
  refine runDef_T (ρ := [("text", .str (txtD w l h s qs))]) rfl ?_
  refine ss_if (b := false) (H1 := H) (evT_of (by simp [show ∀ x H, isinst (.str x) "str" H = some true from fun _ _ => rfl])) ?_
  refine ss_asg (v := .ref H.length) (H1 := H1) (ev_meth (w := .str (txtD w l h s qs)) (T := "str") (vs := [.str nl]) (H1 := H) (H2 := H) (ev_var rfl) rfl (evs_one (by rw [evE_str, nl_eq])) es) ?_
  let ρ1 : Rho := [("text", .str (txtD w l h s qs)), ("rows", .ref H.length)]
  have v1 : ρ1.lookup "rows" = some (.ref H.length) := rfl
  have lastv : vs[((qs.length : Int) + 3 - 1).toNat]? = some (.str Str.empty) := by
    have : ((qs.length : Int) + 3 - 1).toNat = rs.length := by rw [lrs]; omega
    rw [this]
    simp [vs]
  refine ss_if (b := false) (H1 := H1) (evT_of ?_) ?_
  · have t1 : ¬ ((qs.length + 3 : Nat) : Int) < 3 := by omega
    have i1 := idx_ref g1 (k := (qs.length : Int) + 3 - 1) (by omega) lastv
    have c1 : ∀ H, cmp .ne (.str Str.empty) (.str (Str.ofString "")) H = some false := fun H => by rw [em_eq, cmp_ne_str]; simp
    have bb := b1 H1 (Ext.refl _)
    have ca : ((qs.length + 3 : Nat) : Int) = (qs.length : Int) + 3 := by omega
    rw [ca] at bb t1
    simp only [evE_or, evOr_cons, evOr_one, evE_cmp, evE_call, evEs_cons, evEs_nil, evE_idx, evE_bin, evE_int, evE_str, ev_var (show List.lookup "rows" (setL "rows" (.ref H.length) [("text", .str (txtD w l h s qs))]) = _ from rfl), R.bind_ok, callF_def, bb, cmp_lt, t1, decide_false, Option.map_some, ofO_some, truthR_ok, bin_sub, i1, c1]
    rfl
  have gr0 : vs[(0 : Int).toNat]? = some (.str (row (L12.row0 w l.toNat))) := rfl
  have gr1 : vs[(1 : Int).toNat]? = some (.str (row (L12.row1 h.toNat s.toNat))) := rfl
  have es0 := m_split H1 (x := row (L12.row0 w l.toNat)) (y := sp) (ps := (L12.row0 w l.toNat).map Pt.word) (by have := row_le ok.row0; have : (L12.row0 w l.toNat).length = 2 := rfl; omega) (by decide) (split_row (by simp [L12.row0]) ok.row0) (show 2 ≤ line by decide) (fun x hx c hc => by
    obtain ⟨p, hp, rfl⟩ := List.mem_map.mp hx
    exact ((ok.row0 p hp).pln.2 c hc).2.2)
  let H2 := H1 ++ [O.list (((L12.row0 w l.toNat).map Pt.word).map .str)]
  have x12 : Ext H1 H2 := ext_app _ _
  have g2 : H2[H1.length]? = some (.list (((L12.row0 w l.toNat).map Pt.word).map .str)) := len_app1 H1 _
  refine ss_asg (v := .str w) (H1 := H2) ?_ ?_
  · have i0 := idx_ref g1 (k := 0) (by decide) gr0
    have i2 := idx_ref g2 (k := 0) (v := .str w) (by decide) rfl
    have em := ev_meth (Γ := G (n + 5)) (ρ := ρ1) (o := .idx (.var "rows") (.int 0)) (m := "split") (es := [.str " "]) (ev_idx v1 i0) (T := "str") rfl (evs_one (v := .str sp) (H1 := H1) (by rw [evE_str, sp_eq])) es0
    show evE (G (n + 5)) ρ1 _ H1 = _
    rw [evE_idx, em, R.bind_ok, evE_int, R.bind_ok]
    exact i2
  let ρ2 : Rho := [("text", .str (txtD w l h s qs)), ("rows", .ref H.length), ("word", .str w)]
  refine ss_if (b := false) (H1 := H2) (evT_of ?_) ?_
  · show evE (G (n + 5)) ρ2 _ H2 = _
    have c1 := not_in ok.w H2
    simp only [evE_cmp, ev_var (show ρ2.lookup "word" = some (.str w) from rfl), R.bind_ok, evE_tup, evEs_cons, evEs_nil, evE_glob, lk_const, show consts "LINE" = some (.str sLine) from rfl, show consts "RING" = some (.str sRing) from rfl, ofO_some, c1]
    rfl
  obtain ⟨L3, e3⟩ := c_numbers (n + 3) (L12.row0 w l.toNat) H2 (by simp [L12.row0]) ok.row0 (show 2 ≤ 100 by decide)
  have fl : (L12.row0 w l.toNat).filterMap Pt.found = [.int l] := by
    have := ok.l
    have z : (L12.row0 w l.toNat).filterMap Pt.found = [.int (l.toNat : Int)] := rfl
    rw [z, Int.toNat_of_nonneg (by omega)]
  rw [fl] at e3
  obtain ⟨H3, hH3⟩ : ∃ H3, H3 = NumH H2 ((L12.row0 w l.toNat).map fun p => .str p.word) [.int l] L3 := ⟨_, rfl⟩
  rw [← hH3] at e3
  have x13 : Ext H1 H3 := x12.trans (by rw [hH3]; exact numH_ext ..)
  refine ss_asg (v := .int l) (H1 := H3) ?_ ?_
  · have i0 := idx_ref (x12.get g1) (k := 0) (by decide) gr0
    have i2 := idx_ref (H := H3) (i := H2.length + 1) (xs := [.int l]) (k := 0) (v := .int l) (by rw [hH3]; exact numH_1 ..) (by decide) rfl
    show evE (G (n + 5)) ρ2 _ H2 = _
    rw [evE_idx, ev_call (vs := [.str (row (L12.row0 w l.toNat)), .tup ((L12.row0 w l.toNat).map Pt.form)]) (H1 := H2) ?_ rfl e3, R.bind_ok, evE_int, R.bind_ok]
    · exact i2
    · rw [evEs_cons, ev_idx (show ρ2.lookup "rows" = some (.ref H.length) from rfl) i0, R.bind_ok, evs_one (v := .tup ((L12.row0 w l.toNat).map Pt.form)) (H1 := H2) (by rfl)]; rfl
  obtain ⟨L4, e4⟩ := c_numbers (n + 3) (L12.row1 h.toNat s.toNat) H3 (by simp [L12.row1]) ok.row1 (show 4 ≤ 100 by decide)
  have fl : (L12.row1 h.toNat s.toNat).filterMap Pt.found = [.int h, .int s] := by
    have z : (L12.row1 h.toNat s.toNat).filterMap Pt.found = [.int (h.toNat : Int), .int (s.toNat : Int)] := rfl
    rw [z, Int.toNat_of_nonneg ok.h.1, Int.toNat_of_nonneg ok.s.1]
  rw [fl] at e4
  obtain ⟨H4, hH4⟩ : ∃ H4, H4 = NumH H3 ((L12.row1 h.toNat s.toNat).map fun p => .str p.word) [.int h, .int s] L4 := ⟨_, rfl⟩
  rw [← hH4] at e4
  have x14 : Ext H1 H4 := x13.trans (by rw [hH4]; exact numH_ext ..)
  have g4 : H4[H3.length + 1]? = some (.list [.int h, .int s]) := by rw [hH4]; exact numH_1 ..
  let ρ3 : Rho := [("text", .str (txtD w l h s qs)), ("rows", .ref H.length), ("word", .str w), ("length", .int l)]
  let ρ4 : Rho := [("text", .str (txtD w l h s qs)), ("rows", .ref H.length), ("word", .str w), ("length", .int l), ("home", .int h), ("start", .int s)]
  refine ss_unpack (v := .ref (H3.length + 1)) (H1 := H4) (ρ1 := ρ4) ?_ (listAt_of g4) rfl ?_
  · have i0 := idx_ref (x13.get g1) (k := 1) (by decide) gr1
    show evE (G (n + 5)) ρ3 _ H3 = _
    refine ev_call (vs := [.str (row (L12.row1 h.toNat s.toNat)), .tup ((L12.row1 h.toNat s.toNat).map Pt.form)]) (H1 := H3) ?_ rfl e4
    rw [evEs_cons, ev_idx (show ρ3.lookup "rows" = some (.ref H.length) from rfl) i0, R.bind_ok, evs_one (v := .tup ((L12.row1 h.toNat s.toNat).map Pt.form)) (H1 := H3) (by rfl)]; rfl
  refine ss_asg (v := .ref H4.length) (H1 := H4 ++ [.list []]) (by rw [evE_list, evEs_nil, R.bind_ok]; rfl) ?_
  let ρ5 : Rho := [("text", .str (txtD w l h s qs)), ("rows", .ref H.length), ("word", .str w), ("length", .int l), ("home", .int h), ("start", .int s), ("stops", .ref H4.length)]
  let sl : List V := qs.map fun q => .str (row (rowQ q))
  have x15 : Ext H1 (H4 ++ [.list []]) := x14.trans (ext_app _ _)
  have es5 : evE (G (n + 5)) ρ5 (.slice (.var "rows") (.int 2) (.bin .sub (.call "len" [(.var "rows")]) (.int 1))) (H4 ++ [.list []]) = .ok (.ref (H4.length + 1)) (RdH H4 [] sl []) := by
    have q : ∀ H', sliceV (.ref H.length) (.int 2) (.int ((qs.length + 3 : Nat) - 1)) H' = (match listAt (.ref H.length) H' with
      | some xs => if (0 : Int) ≤ 2 ∧ (2 : Int) ≤ ((qs.length + 3 : Nat) : Int) - 1 ∧ ((qs.length + 3 : Nat) : Int) - 1 ≤ xs.length then new (.list ((xs.drop (2 : Int).toNat).take ((((qs.length + 3 : Nat) : Int) - 1) - 2).toNat)) H' else .stuck
      | Option.none => .stuck) := fun _ => rfl
    have t : (vs.drop (2 : Int).toNat).take ((((qs.length + 3 : Nat) : Int) - 1) - 2).toNat = sl := by
      have : ((((qs.length + 3 : Nat) : Int) - 1) - 2).toNat = sl.length := by simp [sl]; omega
      rw [this]
      have : vs.drop (2 : Int).toNat = sl ++ [.str Str.empty] := by
        show ((rowsD w l.toNat h.toNat s.toNat qs ++ [Str.empty]).map V.str).drop 2 = _
        simp [rowsD, sl]
      rw [this, List.take_left']; rfl
    have bb := b1 _ x15
    simp only [evE_slice, ev_var (show ρ5.lookup "rows" = some (.ref H.length) from rfl), R.bind_ok, evE_int, evE_bin, evE_call, evEs_cons, evEs_nil, callF_def, bb, bin_sub]
    rw [q, listAt_of (x15.get g1)]
    dsimp only
    rw [if_pos (by rw [lvs]; omega), t]
    simp [new, RdH]
  have hs : ∀ d L, sameO (.ref (H4.length + 1)) (RdH H4 [] sl []) (RdH H4 d sl L) = true := fun d L => by
    have a := rdH_1 H4 [] sl []
    have b := rdH_1 H4 d sl L
    simp [sameO, a, b]
  obtain ⟨ρ6, L6, r6, e6⟩ := rd_loop (n + 3) H4 sl (.str w) (.int l) (.int h) (.int s) _ hs qs [] [] ρ5 ok.q (by unfold line; simp; omega) ⟨rfl, rfl, rfl, rfl, rfl⟩
  rw [List.nil_append] at e6
  refine ss_for (v := .ref (H4.length + 1)) es5 (listAt_of (rdH_1 ..)) e6 ?_
  have g6 := rdH_0 H4 (qs.map tupQ) sl L6
  have ed := c_day n w l h s qs H4.length (RdH H4 (qs.map tupQ) sl L6) g6 day
  obtain ⟨H6, hH6⟩ : ∃ H6, H6 = RdH H4 (qs.map tupQ) sl L6 := ⟨_, rfl⟩
  have x6 : Ext H H6 := (ext_app H [.list vs]).trans (x14.trans (by rw [hH6]; exact rdH_ext ..))
  rw [← hH6] at ed
  rw [← hH6]
  refine ss_ret (v := .ref (H6.length + 1)) (H1 := DayH H6 (dayFs w l h s (H6.length + 2)) [.list (qs.map tupQ)]) (ev_call (vs := [.tup [.str w, .int l], .int h, .int s, .ref H4.length]) (H1 := H6) ?_ rfl ed) ?_
  · rw [evEs_cons, evE_tup, evEs_cons, ev_var r6.word, R.bind_ok, evs_one (ev_var r6.length), R.bind_ok, R.bind_ok, R.bind_ok, evEs_cons, ev_var r6.home, R.bind_ok, evEs_cons, ev_var r6.start, R.bind_ok, evs_one (ev_var r6.stops)]; rfl
  · refine ⟨_, _, rfl, H6.length + 1, H6.length, H6.length + 2, rfl, ⟨dayH_inst .., dayH_ns .., ?_⟩, x6.trans (dayH_ext ..)⟩
    unfold DayH
    rw [List.getElem?_append_right (by omega)]
    simp
end Mine.L12

/-! P12i -/
namespace Mine.L12
open Mine PySem

/-! _law_tuples -/
noncomputable abbrev tuB : List S := [
    .iff (.not (.isinst (.var "_law_stop") "tuple")) [
      .ret (.bool false)] [],
    .for1 "_law_number" (.var "_law_stop") [
      .iff (.not (.call "_law_whole" [(.var "_law_number")])) [
        .ret (.bool false)] []]]
theorem tu_turn (n : Nat) (H : Hp) (q : Q4) (ρ : Rho) : NextT H (exSs (G (n + 1)) tuB (setL "_law_stop" (tupQ q) ρ) H) := by
  have s0 : (setL "_law_stop" (tupQ q) ρ).lookup "_law_stop" = some (tupQ q) := setL_self ..
  have it : ∀ H, isinst (tupQ q) "tuple" H = some true := fun _ => rfl
  refine ss_if (b := false) (H1 := H) (evT_of (by rw [evE_not, evE_isinst, ev_var s0, R.bind_ok, it]; rfl)) ?_
  obtain ⟨ρ', H', e0, e⟩ := forL_all (fun _ _ H' => H' = H) (fun v ρ1 H2 => exSs (G (n + 1)) [.iff (.not (.call "_law_whole" [(.var "_law_number")])) [.ret (.bool false)] []] (setL "_law_number" v ρ1) H2) (sameO (tupQ q) H) (fun _ _ _ _ => rfl) 4 [.int q.1, .int q.2.1, .int q.2.2.1, .int q.2.2.2] 0 (show 0 + 4 ≤ 4 by decide) (by
      intro y hy i ρ H' _ hH
      obtain ⟨i, rfl⟩ : ∃ i, y = .int i := by
        simp only [List.mem_cons, List.not_mem_nil, or_false] at hy
        rcases hy with rfl | rfl | rfl | rfl <;> exact ⟨_, rfl⟩
      rw [hH]
      refine ⟨setL "_law_number" (.int i) ρ, H, rfl, ?_⟩
      refine ss_if (T := fun r => r = _) (b := false) (H1 := H) (evT_of ?_) rfl
      rw [evE_not, ev_call (evs_one (ev_var (setL_self ..))) rfl (c_whole n i H)]; rfl) (setL "_law_stop" (tupQ q) ρ) H rfl
  rw [e0] at e
  exact ss_for (v := tupQ q) (H1 := H) (ev_var s0) rfl e ⟨_, rfl⟩
theorem c_tuples (n : Nat) (qs : List Q4) (k : Nat) (H : Hp) (hk : H[k]? = some (.list (qs.map tupQ))) : (G (n + 2)).call "_law_tuples" [.ref k] H = .ok (.bool true) H := by
  rw [lk_call (d := d__law_tuples) (by kernel_rfl)]
  refine runDef_is (ρ := [("_law_found", .ref k)]) rfl ?_
  have it : isinst (.ref k) "list" H = some true := by
    have q : isinst (.ref k) "list" H = (kindV (.ref k) H).map fun k => k == "list" || (k == "bool" && "list" == "int") := rfl
    rw [q, kind_list hk]; rfl
  refine ss_if (b := false) (H1 := H) (evT_of (by rw [evE_not, evE_isinst, ev_var rfl, R.bind_ok, it]; rfl)) ?_
  obtain ⟨ρ', H', e0, e⟩ := forL_all (fun _ _ H' => H' = H) (fun v ρ1 H2 => exSs (G (n + 1)) tuB (setL "_law_stop" v ρ1) H2) (sameO (.ref k) H) (fun i ρ H' z => by rw [z]; exact sameO_ext hk (Ext.refl H)) (qs.map tupQ).length (qs.map tupQ) 0 (by omega) (by
      intro y hy i ρ H' _ hH
      obtain ⟨q, _, rfl⟩ := List.mem_map.mp hy
      rw [hH]
      obtain ⟨ρ', e⟩ := tu_turn n H q ρ
      exact ⟨ρ', H, rfl, e⟩) [("_law_found", .ref k)] H rfl
  rw [e0] at e
  exact ss_for (v := .ref k) (H1 := H) (ev_var rfl) (listAt_of hk) e (ss_ret rfl rfl)

/-! equal data -/
theorem eqvAll_self : ∀ xs : List PyData, (∀ x ∈ xs, PyData.eqv x x = true) → PyData.eqvAll xs xs = true
  | [], _ => rfl
  | x :: xs, h => by
    show (PyData.eqv x x && PyData.eqvAll xs xs) = true
    rw [h x (List.mem_cons_self ..), eqvAll_self xs fun y hy => h y (List.mem_cons_of_mem _ hy)]; rfl
theorem eqv_str (a : Str) : PyData.eqv (.str a) (.str a) = true := beq_self_eq_true a
theorem ne_road (w : Str) (l : Int) (H : Hp) : cmp .ne (.tup [.str w, .int l]) (.tup [.str w, .int l]) H = some false := by
  have e : eqV H (.tup [.str w, .int l]) (.tup [.str w, .int l]) = some true := eqV_of (x := .tuple [.str w, .int l]) (y := .tuple [.str w, .int l]) rfl rfl (eqvAll_self [.str w, .int l] fun x hx => by
    simp only [List.mem_cons, List.not_mem_nil, or_false] at hx
    rcases hx with rfl | rfl
    · exact eqv_str w
    · exact eqv_int l)
  exact congrArg (Option.map (!·)) e
noncomputable def dQ (q : Q4) : PyData := .tuple [.int q.1, .int q.2.1, .int q.2.2.1, .int q.2.2.2]
theorem eqv_dQ (q : Q4) : PyData.eqv (dQ q) (dQ q) = true := eqvAll_self _ fun x hx => by
  simp only [List.mem_cons, List.not_mem_nil, or_false] at hx
  rcases hx with rfl | rfl | rfl | rfl <;> exact eqv_int _
theorem snap_dQs (H : Hp) : ∀ qs : List Q4, (qs.map tupQ).mapM (snap 7 H) = some (qs.map dQ)
  | [] => rfl
  | q :: qs => by rw [List.map_cons, List.mapM_cons, snap_dQs H qs]; rfl
theorem eq_stops {qs : List Q4} {i j : Nat} {H : Hp} (hi : H[i]? = some (.list (qs.map tupQ))) (hj : H[j]? = some (.list (qs.map tupQ))) : cmp .eq (.ref i) (.ref j) H = some true := by
  have a : ∀ k, H[k]? = some (.list (qs.map tupQ)) → snap 8 H (.ref k) = some (.list (qs.map dQ)) := fun k hk => by
    have q : snap 8 H (.ref k) = (listAt (.ref k) H).bind fun vs => (vs.mapM (snap 7 H)).map .list := rfl
    rw [q, listAt_of hk, Option.bind_some, snap_dQs]; rfl
  exact eqV_of (a i hi) (a j hj) (eqvAll_self _ fun x hx => by obtain ⟨q, _, rfl⟩ := List.mem_map.mp hx; exact eqv_dQ q)
theorem quads {w : Str} {l : Int} : ∀ vs : List V, (∀ v ∈ vs, ∃ p o c s, v = .tup [.int p, .int o, .int c, .int s] ∧ StopOk w l p o c s) → ∃ qs : List Q4, vs = qs.map tupQ ∧ ∀ q ∈ qs, StopOk w l q.1 q.2.1 q.2.2.1 q.2.2.2
  | [], _ => ⟨[], rfl, fun _ q => nomatch q⟩
  | v :: vs, h => by
    obtain ⟨p, o, c, s, rfl, ok⟩ := h v (List.mem_cons_self ..)
    obtain ⟨qs, rfl, oks⟩ := quads vs fun u hu => h u (List.mem_cons_of_mem _ hu)
    refine ⟨(p, o, c, s) :: qs, rfl, fun q hq => ?_⟩
    rcases List.mem_cons.mp hq with rfl | hq
    · exact ok
    · exact oks q hq
theorem isinst_day {H : Hp} {d dn : Nat} (h : H[d]? = some (.inst "Day" dn)) : isinst (.ref d) "Day" H = some true := by
  have q : isinst (.ref d) "Day" H = (match H[d]? with | some (.inst c _) => if c = "Day" then some true else Option.none | _ => Option.none) := rfl
  rw [q, h]; rfl
noncomputable def RetTrue (r : RS) : Prop := ∃ H', r = .ret (.bool true) H'
theorem law_true (n : Nat) (ns : List Int) (hl : ns.length ≤ 63) : ∃ H', (G (n + 7)).call "law" [.scr ns] [] = .ok (.bool true) H' := by
  rw [lk_call (d := d_law) (by kernel_rfl)]
  have cell : ∀ k : Int, 0 ≤ k → ∃ c, (G (n + 6)).call "_law_cell_at" [.scr ns, .int k] [] = .ok (.int c) [] := fun k hk => c_cell (n + 5) ns k [] hk hl
  obtain ⟨c0, e0⟩ := cell 0 (by decide)
  obtain ⟨c1, e1⟩ := cell 1 (by decide)
  obtain ⟨c2, e2⟩ := cell 2 (by decide)
  obtain ⟨c3, e3⟩ := cell 3 (by decide)
  obtain ⟨w, l, er, hw, l0, l1⟩ := c_road (n + 4) c0 []
  obtain ⟨h, eh, h0, h1⟩ := c_place (n + 4) w l c1 [] l0
  obtain ⟨s, es, s0, s1⟩ := c_start (n + 4) w l c2 [] l0 l1
  obtain ⟨vs, ev, lv, pv⟩ := c_stops (n + 2) w l s (c3.fmod 8) ns [] l0 l1 s0 s1 (fmod_lt c3 (by decide)).1 (by have := (fmod_lt c3 (b := 8) (by decide)).2; omega) hl
  obtain ⟨qs, rfl, sq⟩ := quads vs pv
  rw [List.length_map] at lv
  have few : qs.length ≤ 7 := by have := (fmod_lt c3 (b := 8) (by decide)).2; omega
  have hm : many w l ≤ l + 1 := by unfold many; split <;> omega
  have N : Nums w l h s qs := ⟨hw, ⟨l0, l1⟩, ⟨h0, by omega⟩, ⟨s0, s1⟩, few, fun q hq => StopOk.q l1 (sq q hq)⟩
  have D0 : DayOk w l h s qs := ⟨by rcases hw with rfl | rfl <;> simp [roadOk, l0, l1], by simp [inP, h0, h1], by simp [inT, s0, s1], few, sq⟩
  let H1 : Hp := [.list (qs.map tupQ)]
  have g1 : H1[0]? = some (.list (qs.map tupQ)) := rfl
  let ρ : Rho := [("_law_script", .scr ns), ("_law_road", .tup [.str w, .int l]), ("_law_home", .int h), ("_law_start", .int s), ("_law_stops", .ref 0)]
  have q : ∃ v H', runDef (G (n + 6)) d_law [.scr ns] [] = .ok v H' ∧ v = .bool true := by
    refine runDef_T (ρ := [("_law_script", .scr ns)]) rfl ?_
    have ec : ∀ (ρ : Rho) (k : Int) (c : Int), ρ.lookup "_law_script" = some (.scr ns) → (G (n + 6)).call "_law_cell_at" [.scr ns, .int k] [] = .ok (.int c) [] → evE (G (n + 6)) ρ (.call "_law_cell_at" [(.var "_law_script"), (.int k)]) [] = .ok (.int c) [] := fun ρ k c hx e =>
      ev_call (by rw [evEs_cons, ev_var hx, R.bind_ok, evs_one (evE_int ..)]; rfl) rfl e
    refine ss_asg (ev_call (evs_one (ec _ 0 c0 rfl e0)) rfl er) ?_
    refine ss_asg (ev_call (vs := [.tup [.str w, .int l], .int c1]) (H1 := []) (by rw [evEs_cons, ev_var (v := .tup [.str w, .int l]) rfl, R.bind_ok, evs_one (ec _ 1 c1 rfl e1)]; rfl) rfl eh) ?_
    refine ss_asg (ev_call (vs := [.tup [.str w, .int l], .int c2]) (H1 := []) (by rw [evEs_cons, ev_var (v := .tup [.str w, .int l]) rfl, R.bind_ok, evs_one (ec _ 2 c2 rfl e2)]; rfl) rfl es) ?_
    refine ss_asg (v := .ref 0) (H1 := H1) (ev_call (vs := [.tup [.str w, .int l], .int s, .scr ns, .int (c3.fmod 8)]) (H1 := []) ?_ rfl ev) ?_
    · rw [evEs_cons, ev_var (v := .tup [.str w, .int l]) rfl, R.bind_ok, evEs_cons, ev_var (v := .int s) rfl, R.bind_ok, evEs_cons, ev_var (v := .scr ns) rfl, R.bind_ok, evs_one (ev_bin (ec _ 3 c3 rfl e3) (evE_int ..) |>.trans (bin_mod [] (by decide)))]; rfl
    let H2 : Hp := H1 ++ [.list (qs.map tupQ)]
    have ed := c_day (n + 1) w l h s qs 1 H2 rfl D0
    obtain ⟨H3, hH3⟩ : ∃ H3, H3 = DayH H2 (dayFs w l h s (H2.length + 2)) [.list (qs.map tupQ)] := ⟨_, rfl⟩
    have D3 : DayAt w l h s qs (H2.length + 1) H2.length (H2.length + 2) H3 := by
      rw [hH3]
      refine ⟨dayH_inst .., dayH_ns .., ?_⟩
      unfold DayH
      rw [List.getElem?_append_right (by omega)]
      simp
    have x3 : Ext H1 H3 := by rw [hH3]; exact (ext_app H1 _).trans (dayH_ext ..)
    rw [← hH3] at ed
    obtain ⟨o4, e4⟩ := c_written (n + 5) D3 N
    have x4 : Ext H1 (H3 ++ [o4]) := x3.trans (ext_app _ _)
    refine ss_asg (v := .str (txtD w l h s qs)) (H1 := H3 ++ [o4]) (ev_call (evs_one (ev_call (vs := [.tup [.str w, .int l], .int h, .int s, .ref 1]) (H1 := H2) ?_ rfl ed)) rfl e4) ?_
    · have bl : builtin "list" [.ref 0] H1 = .ok (.ref 1) H2 := bi_list_ref g1
      rw [evEs_cons, ev_var (v := .tup [.str w, .int l]) rfl, R.bind_ok, evEs_cons, ev_var (v := .int h) rfl, R.bind_ok, evEs_cons, ev_var (v := .int s) rfl, R.bind_ok, evs_one (ev_bi (evs_one (ev_var (v := .ref 0) rfl)) bl)]; rfl
    obtain ⟨H4, hH4⟩ : ∃ H4, H4 = H3 ++ [o4] := ⟨_, rfl⟩
    rw [← hH4] at x4
    rw [← hH4]
    have g4 := x4.get g1
    have er4 : ∀ ρ : Rho, ρ.lookup "_law_road" = some (.tup [.str w, .int l]) → ρ.lookup "_law_home" = some (.int h) → ρ.lookup "_law_start" = some (.int s) → ρ.lookup "_law_stops" = some (.ref 0) →
        evE (G (n + 6)) ρ (.call "_law_rows" [(.var "_law_road"), (.var "_law_home"), (.var "_law_start"), (.var "_law_stops")]) H4 = .ok (.str (txtD w l h s qs)) H4 := fun ρ a b c d =>
      ev_call (by rw [evEs_cons, ev_var a, R.bind_ok, evEs_cons, ev_var b, R.bind_ok, evEs_cons, ev_var c, R.bind_ok, evs_one (ev_var d)]; rfl) rfl (c_rows (n + 4) w l h s qs 0 H4 g4 N)
    have is : ∀ x H, isinst (.str x) "str" H = some true := fun _ _ => rfl
    refine ss_if (b := false) (H1 := H4) (evT_of ?_) ?_
    · rw [evE_or, evOr_cons, evE_not, evE_isinst, ev_var (v := .str (txtD w l h s qs)) rfl, R.bind_ok, is]
      show evOr _ _ [_] H4 = _
      rw [evOr_one, evE_cmp, ev_var (v := .str (txtD w l h s qs)) rfl, R.bind_ok, er4 _ rfl rfl rfl rfl, R.bind_ok, cmp_ne_str, beq_self_eq_true]; rfl
    obtain ⟨d, dn, k, H5, e5, D5, x5⟩ := c_read n w l h s qs H4 N D0
    refine ss_asg (v := .ref d) (H1 := H5) (ev_call (evs_one (er4 _ rfl rfl rfl rfl)) rfl e5) ?_
    let ρ5 : Rho := [("_law_script", .scr ns), ("_law_road", .tup [.str w, .int l]), ("_law_home", .int h), ("_law_start", .int s), ("_law_stops", .ref 0), ("_law_text", .str (txtD w l h s qs)), ("_law_day", .ref d)]
    have ea : ∀ (a : String) (v : V), attrV (.ref d) a H5 = .ok v H5 → evE (G (n + 6)) ρ5 (.attr (.var "_law_day") a) H5 = .ok v H5 := fun a v e => by rw [evE_attr, ev_var (show ρ5.lookup "_law_day" = some (.ref d) from rfl), R.bind_ok, e]
    have a1 := ea _ _ D5.road
    have a2 := ea _ _ D5.home
    have a3 := ea _ _ D5.start
    have a4 := ea _ _ D5.stops
    have wh : ∀ (e : E) (i : Int), evE (G (n + 6)) ρ5 e H5 = .ok (.int i) H5 → evE (G (n + 6)) ρ5 (.not (.call "_law_whole" [e])) H5 = .ok (.bool false) H5 := fun e i he => by
      rw [evE_not, ev_call (evs_one he) rfl (c_whole (n + 5) i H5)]; rfl
    have it : ∀ vs H, isinst (.tup vs) "tuple" H = some true := fun _ _ => rfl
    refine ss_if (b := false) (H1 := H5) (evT_of ?_) ?_
    · show evE (G (n + 6)) ρ5 _ H5 = _
      rw [evE_or, evOr_cons, evE_not, evE_isinst, ev_var (show ρ5.lookup "_law_day" = some (.ref d) from rfl), R.bind_ok, isinst_day D5.inst]
      show evOr _ _ [_] H5 = _
      rw [evOr_one, evE_not, evE_isinst, a1, R.bind_ok, it]; rfl
    refine ss_if (b := false) (H1 := H5) (evT_of ?_) ?_
    · show evE (G (n + 6)) ρ5 _ H5 = _
      rw [evE_or, evOr_cons, evE_cmp, a1, R.bind_ok, ev_var (show ρ5.lookup "_law_road" = some (.tup [.str w, .int l]) from rfl), R.bind_ok, ne_road]
      show evOr _ _ [_] H5 = _
      rw [evOr_one]
      exact wh _ l (by rw [evE_idx, a1, R.bind_ok, evE_int, R.bind_ok]; rfl)
    refine ss_if (b := false) (H1 := H5) (evT_of ?_) ?_
    · show evE (G (n + 6)) ρ5 _ H5 = _
      rw [evE_or, evOr_cons, wh _ h a2]
      show evOr _ _ [_, _, _] H5 = _
      rw [evOr_cons, evE_cmp, a2, R.bind_ok, ev_var (show ρ5.lookup "_law_home" = some (.int h) from rfl), R.bind_ok, cmp_ne_int, beq_self_eq_true]
      show evOr _ _ [_, _] H5 = _
      rw [evOr_cons, wh _ s a3]
      show evOr _ _ [_] H5 = _
      rw [evOr_one, evE_cmp, a3, R.bind_ok, ev_var (show ρ5.lookup "_law_start" = some (.int s) from rfl), R.bind_ok, cmp_ne_int, beq_self_eq_true]; rfl
    obtain ⟨o6, e6⟩ := c_written (n + 5) D5 N
    refine ss_ret (v := .bool true) (H1 := H5 ++ [o6]) ?_ ⟨_, _, rfl, rfl⟩
    show evE (G (n + 6)) ρ5 _ H5 = _
    rw [evE_and, evAnd_cons, ev_call (evs_one a4) rfl (c_tuples (n + 4) qs k H5 D5.list)]
    show evAnd _ _ [_, _] H5 = _
    rw [evAnd_cons, evE_cmp, a4, R.bind_ok, ev_var (show ρ5.lookup "_law_stops" = some (.ref 0) from rfl), R.bind_ok, eq_stops D5.list (x5.get g4)]
    show evAnd _ _ [_] H5 = _
    rw [evAnd_one, evE_cmp, ev_call (evs_one (ev_var (show ρ5.lookup "_law_day" = some (.ref d) from rfl))) rfl e6, R.bind_ok, ev_var (show ρ5.lookup "_law_text" = some (.str (txtD w l h s qs)) from rfl), R.bind_ok, cmp_eq_str, beq_self_eq_true]; rfl
  obtain ⟨v, H', e, rfl⟩ := q
  exact ⟨H', e⟩
end Mine.L12

set_option maxRecDepth 100000
set_option maxHeartbeats 8000000
namespace Mine.L12
open PySem PySem.W PyProof.Rows
noncomputable abbrev r2 : OpenRow := PySem.Challenge.rw_uf040004_12.row
noncomputable abbrev p2 : Program := r2.prog
noncomputable def view : Program := { p2 with main := { p2.main with body := p2.main.body.filter fun s => match s with | .Assign [.Name n _] _ _ => !(n == ("__name__" : Str)) | _ => true } }
noncomputable def U : List String := ["LINE", "RING", "LONGEST", "LATEST", "MOST", "FIGURES", "LONGEST_NUMBER", "is_within", "is_road", "is_place", "Day", "looked_at", "written", "number_of", "numbers_of", "read", "_law_cell_at", "_law_wide", "_law_whole", "_law_road_by", "_law_places", "_law_place_by", "_law_start_by", "_law_stop_by", "_law_stops_by", "_law_figures", "_law_rows", "_law_tuples", "law"]
noncomputable def B : List String := ["len", "all", "min", "max", "isinstance", "range", "list", "tuple", "int", "bool", "str", "zip"]
theorem left : LeftO p2 view ["LONGEST", "LATEST"] (fun s => recOk (RowW.records r2.toRowW) s) (fun s => seenOk U B constL clss (fragOf s.heap)) (fun _ => true) 4000 := fun w => by
  unfold openEnds fencedOpening topFrom
  rw [PySem.W.Fast.te14082659384304107361, PySem.W.Fast.te10274390034422433532, PySem.W.Fast.te14289696077712309145, PySem.W.Fast.te4187177175401517315, PySem.W.Fast.te1435165496053646825, PySem.W.Fast.te14364793385576792824]
  kernel_rfl
theorem isDef : (defOf view r2.name).isSome = true := by kernel_rfl
noncomputable def dk : DefRec × List (Str × Expr) := (defOf view r2.name).get isDef
theorem hd12 (hc : WalkO view ["LONGEST", "LATEST"] (fun _ _ => True) (fun _ h => Says U B constL clss h) r2.toRowW dk.1 dk.2 fun f vs => PySem.call f vs) : PySem.Challenge.rw_uf040004_12.Holds := by
  refine holds_law (by decide +kernel) fun said => ?_
  refine holds_open (q := view) (loose := ["LONGEST", "LATEST"]) (Xt := fun s => recOk (RowW.records r2.toRowW) s) (XP := fun _ _ => True) (Yf := fun s => seenOk U B constL clss (fragOf s.heap)) (Ya := fun _ => true) (YP := fun _ h => Says U B constL clss h) (N := 4000) left
    (fun w s e => ⟨_, fragOf_in _, e⟩) (fun w h h' x k => x.keeps k) (fun s e => trivial) (fun _ _ _ _ _ => trivial) (d := dk.1) (kwd := dk.2) (Option.some_get isDef).symm (by kernel_rfl) (by kernel_rfl) (fun s e => recFacts_of e) (by first | rfl | decide) said (by decide +kernel) ⟨rfl, rfl, rfl, rfl, rfl, by decide +kernel⟩ ?hw hc
  case hw => w_witness2
end Mine.L12

open PySem PySem.W PyProof.Rows Mine in
theorem PySem.Challenge.cw_uf040004_12_holds : PySem.Challenge.rw_uf040004_12.Holds := by
  refine L12.hd12 ?_
  intro w s₀ s₁ mg mb G Y fa o pm cd doc dV kV ho hd hcd hD hmg hg args vals as hpre hlay hrd hwl hlo
  obtain ⟨K, KX, seen⟩ := Y
  have T := G.T
  clear ho hd hcd hD
  wrow_args hpre hlay hrd hwl hlo
  rename_i ns _ _ _ _ _ _ _ l vs _ hL _ _ _ hI _ hlen _
  have hlen' : ns.length ≤ 63 := by omega
  simp only [seenOk, Bool.and_eq_true] at seen
  obtain ⟨⟨⟨hu, hb⟩, hc⟩, hcl⟩ := seen
  let X : Cx := cxOf (U := L12.U) (B := L12.B) Challenge.rw_uf040004_12.row.prog w T KX L12.clss hu hb hcl
  have S : SoundFn X 7 (lk L12.defs L12.clss L12.consts 7) := lk_sound (X := X) T (okC_at T KX hc X rfl) (by kernel_rfl) (cls_at _ w T KX L12.clss hu hb hcl) 7
  obtain ⟨H', run⟩ := L12.law_true 0 ns hlen'
  refine law_call (X := X) rfl S (by decide) hmg run hL hI hlen' fun s' ⟨h', tk, e, k⟩ => ?_
  subst e
  exact GoodW.toG ⟨.inl ⟨_, .bool true, [], rfl, fun cls => rfl, .bool true, (by kernel_rfl), fun _ => ⟨List.nodup_nil, fun _ q => nomatch q⟩⟩, k, rfl, hg⟩

import PyProof.Rows.All
import PyProof.P3Statements
import PyProof.TableCode
import PyProof.StrCalls2
import KE.IntText
import PyProof.Rows.Top
import PyProof.Rows.TupIn
import PyProof.RangeIter
import PyProof.DictKinds
import PyProof.Cells
import PyProof.CompFree
import OpenK.KWalk
import OpenK.KOwn
import OpenK.KMake
import PyProof.DictStraight
import KE.KIsAll
import KE.KIntText
import PyProof.StrOps2
import PyProof.Conv_int_bool
import PyProof.Rows.StrKeys3
import PyProof.RangeFor
import PyProof.Rows.Range3
import PyProof.ListCopy
import PyProof.ListRange
import KE.LcSums
import PyProof.StrLoop
import PyProof.SliceMore
import PyProof.StrBlockI
import PyProof.CallRoads
import PyProof.AutoListH
import PyProof.AutoSeq1
import PyProof.DictRoads
import PyProof.ExcArgsOwn
import PyProof.ExcAttrAll.ValueError
import PyProof.Rows.CountFlat
import PyProof.CompMap
import PyProof.WalksMore
import PyProof.TupleIter
import PyProof.Rows.TupAssign
import PyProof.ForAny
import PyProof.WalksPairs
import KE.KUnpack
import PyProof.CompUse
import PyProof.ZipIter
import PyProof.StrCalls6
import PyProof.MeetsStr3
import PyProof.AssignAttr
import OpenK.KLine
import Wide.All
import OpenK.AllK
import Wide.FinOn
import PyProof.StrLawsTight
import PyProof.Rows.CatFin
import Lean
import PySem.Challenge.RW_uf040004_13
set_option Elab.async false
set_option autoImplicit false
set_option linter.all false
set_option genSizeOf false
/-! REv -/
namespace Mine
open PySem
noncomputable section

inductive V where
  | none
  | bool (b : Bool)
  | int (i : Int)
  | str (s : Str)
  | tup (vs : List V)
  | ref (n : Nat)
  | exc (c : String)
  | rng (a b c : Int)
  | scr (ns : List Int)
  | lst (vs : List V)

noncomputable instance : DecidableEq V := fun a b => Classical.propDecidable (a = b)

inductive O where
  | list (vs : List V)
  | inst (c : String) (d : Nat)
  | ns (fs : List (String × V))
  /-- the pair that a zip keeps for itself -/
  | own

noncomputable abbrev Hp := List O
noncomputable abbrev Rho := List (String × V)

inductive R (α : Type) where
  | ok (a : α) (H : Hp)
  | raise (c : String) (H : Hp)
  | stuck

noncomputable def R.bind {α β : Type} : R α → (α → Hp → R β) → R β
  | .ok a H, f => f a H
  | .raise c H, _ => .raise c H
  | .stuck, _ => .stuck
@[simp] theorem R.bind_ok {α β : Type} (a : α) (H : Hp) (f : α → Hp → R β) : (R.ok a H).bind f = f a H := rfl
@[simp] theorem R.bind_raise {α β : Type} (c : String) (H : Hp) (f : α → Hp → R β) : (R.raise c H : R α).bind f = .raise c H := rfl
@[simp] theorem R.bind_stuck {α β : Type} (f : α → Hp → R β) : (R.stuck : R α).bind f = .stuck := rfl

inductive RS where
  | next (r : Rho) (H : Hp)
  | ret (v : V) (H : Hp)
  | raise (c : String) (r : Rho) (H : Hp)
  | stuck

inductive Op | add | sub | mul | fdiv | mod | pow
  deriving DecidableEq
inductive Cm | eq | ne | lt | le | gt | isIn | notIn | is
  deriving DecidableEq

set_option genInjectivity false in
inductive E where
  | var (x : String)
  | glob (x : String)
  | none
  | bool (b : Bool)
  | int (i : Int)
  | str (s : String)
  | bin (op : Op) (l r : E)
  | neg (e : E)
  | not (e : E)
  | and (es : List E)
  | or (es : List E)
  | cmp (l : E) (op : Cm) (r : E)
  | cmp2 (l : E) (op : Cm) (m : E) (op' : Cm) (r : E)
  | call (f : String) (args : List E)
  | isinst (e : E) (T : String)
  | meth (o : E) (m : String) (args : List E)
  | attr (o : E) (a : String)
  | idx (o i : E)
  | slice (o lo hi : E)
  | list (es : List E)
  | tup (es : List E)
  | menu (es : List E) (i : E)
  | comp (elt : E) (x : String) (it : E)

set_option genInjectivity false in
inductive S where
  | asg (x : String) (e : E)
  | unpack (xs : List String) (e : E)
  | setattr (o : E) (a : String) (e : E)
  | ret (e : E)
  | iff (t : E) (a b : List S)
  | for1 (x : String) (e : E) (b : List S)
  | forZ (xs : List String) (es : List E) (b : List S)
  | expr (e : E)
  | raise (c : String) (msg : String)
  /-- if l == k: return x.replace(a, b) or x.replace(a, b, 1) -/
  | ifRep (l : E) (k : Int) (x a b : String) (one : Bool)
  | tryE (b : List S) (hs : List (String × Option String × List S))

/-! primitive operations -/
noncomputable def line : Nat := 4194304

noncomputable def new (o : O) (H : Hp) : R V := .ok (.ref H.length) (H ++ [o])

noncomputable def place (i : Int) (n : Nat) : Option Nat :=
  if 0 ≤ i then (if i < n then some i.toNat else none) else (if -(n : Int) ≤ i then some (i + n).toNat else none)

noncomputable def listAt (v : V) (H : Hp) : Option (List V) := match v with
  | .ref n => (match H[n]? with | some (.list xs) => some xs | _ => Option.none)
  | _ => Option.none
noncomputable def flatD : V → Option PyData
  | .none => some .none
  | .bool b => some (.bool b)
  | .int i => some (.int i)
  | .str s => some (.str s)
  | _ => Option.none
noncomputable def snap : Nat → Hp → V → Option PyData
  | 0, _, v => flatD v
  | n + 1, H, v => match v with
    | .tup vs => (vs.mapM (snap n H)).map .tuple
    | .ref k => (listAt (.ref k) H).bind fun vs => (vs.mapM (snap n H)).map .list
    | v => flatD v

noncomputable def eqData (H : Hp) (a b : V) : Option Bool := do
  let x ← snap 8 H a
  let y ← snap 8 H b
  return PyData.eqv x y

noncomputable def eqV (H : Hp) (a b : V) : Option Bool := eqData H a b

noncomputable def Txt_swap (x y z : Str) (one : Bool) : Str :=
  if ((Builtin.Str.occurrences x y 0 x.length (if one then 1 else x.length + 1)).isEmpty || (y.length == 0 && z.length == 0)) = true then x
  else Builtin.Str.glued z (Builtin.Str.partsBetween x (Builtin.Str.occurrences x y 0 x.length (if one then 1 else x.length + 1)) y.length)
noncomputable def Txt_times (x : Str) (k : Nat) : Str := ⟨(List.replicate k x.cps).foldl (· ++ ·) #[]⟩
noncomputable def intOp (op : Op) (x y : Int) : Option Int := match op with
  | .add => some (x + y)
  | .sub => some (x - y)
  | .mul => if x.natAbs < 2 ^ 64 ∨ y.natAbs < 2 ^ 64 then some (x * y) else Option.none
  | .fdiv => if y ≠ 0 ∧ y.natAbs < 1073741824 then some (x.fdiv y) else Option.none
  | .mod => if y ≠ 0 then some (x.fmod y) else Option.none
  | .pow => if 0 ≤ x ∧ x ≤ 10 ∧ 0 ≤ y ∧ y ≤ 100 then some (x ^ y.toNat) else Option.none
noncomputable def intAt : V → Option Int
  | .int i => some i
  | _ => Option.none
noncomputable def strAt : V → Option Str
  | .str s => some s
  | _ => Option.none
noncomputable def addL (a b : V) (H : Hp) : R V := match listAt a H with
  | some x => (match listAt b H with
    | some y => if x.length + y.length ≤ line then new (.list (x ++ y)) H else .stuck
    | Option.none => .stuck)
  | Option.none => .stuck
noncomputable def addS (a b : V) (H : Hp) : R V := match strAt a with
  | some x => (match strAt b with
    | some y => if x.length + y.length ≤ line then .ok (.str (x ++ y)) H else .stuck
    | Option.none => .stuck)
  | Option.none => addL a b H
noncomputable def mulS (a b : V) (H : Hp) : R V := match strAt a with
  | some x => (match intAt b with
    | some k => if 1 < k ∧ k ≤ 10000 ∧ x.length = 1 ∧ PyData.strOk (Txt_times x k.toNat) = true then .ok (.str (Txt_times x k.toNat)) H else .stuck
    | Option.none => .stuck)
  | Option.none => .stuck
noncomputable def bin (op : Op) (a b : V) (H : Hp) : R V := match intAt a with
  | some x => (match intAt b with
    | some y => (match intOp op x y with | some z => .ok (.int z) H | Option.none => .stuck)
    | Option.none => .stuck)
  | Option.none => if op = .add then addS a b H else if op = .mul then mulS a b H else .stuck

noncomputable def inTup (H : Hp) (x : V) (vs : List V) : Option Bool := (snap 8 H x).bind fun d => (vs.mapM (snap 8 H)).map fun ys => ys.any fun y => PyData.eqv y d
noncomputable def isIn (H : Hp) (a b : V) : Option Bool :=
  match b with
  | .tup vs => inTup H a vs
  | .str y => (strAt a).map fun x => !(Builtin.Str.occurrences y x 0 y.length 1).isEmpty
  | _ => Option.none

noncomputable def isNoneV : V → Bool
  | .none => true
  | _ => false
noncomputable def cmpI (op : Cm) (x y : Int) : Option Bool := match op with
  | .lt => some (decide (x < y))
  | .le => some (decide (x ≤ y))
  | .gt => some (decide (y < x))
  | _ => Option.none
noncomputable def cmp (op : Cm) (a b : V) (H : Hp) : Option Bool :=
  match op with
  | .eq => eqV H a b
  | .ne => (eqV H a b).map (!·)
  | .isIn => isIn H a b
  | .notIn => (isIn H a b).map (!·)
  | .is => match b with
    | .none => some (isNoneV a)
    | .bool y => match a with
      | .bool x => some (x == y)
      | _ => Option.none
    | _ => Option.none
  | op => match intAt a with
    | some x => (match intAt b with | some y => cmpI op x y | Option.none => Option.none)
    | Option.none => Option.none

noncomputable def truth (v : V) : Option Bool :=
  match v with
  | .bool b => some b
  | _ => Option.none

noncomputable def ofO {α : Type} (H : Hp) : Option α → R α
  | some a => .ok a H
  | Option.none => .stuck

noncomputable def rangeL (a b c : Int) : List Int :=
  if 0 < c ∧ a < b then (List.range ((b - a - 1) / c + 1).toNat).map fun (k : Nat) => a + c * k else []
noncomputable def rngOk (a b c : Int) : Bool := decide (0 < c) && decide (c ≤ 1000) && decide (-500000 ≤ a) && decide (a ≤ 500000) && decide (-500000 ≤ b) && decide (b ≤ 500000)

noncomputable def signs (x : Str) : List V := x.cps.toList.map fun c => .str ⟨#[c]⟩
noncomputable def items (H : Hp) : V → Option (List V)
  | .tup vs => some vs
  | .rng a b c => if rngOk a b c then some ((rangeL a b c).map .int) else Option.none
  | .str x => if x.cps.all (· < 128) && decide (x.length ≤ line) then some (signs x) else Option.none
  | v => listAt v H

noncomputable def biLen (vs : List V) (H : Hp) : R V := match vs with
  | [v] => (match v with
    | .scr xs => .ok (.int xs.length) H
    | .tup xs => .ok (.int xs.length) H
    | .str x => if x.length ≤ line then .ok (.int x.length) H else .stuck
    | v => (match listAt v H with | some xs => .ok (.int xs.length) H | Option.none => .stuck))
  | _ => .stuck
noncomputable def two' (vs : List V) : Option (Int × Int) := match vs with
  | [a, b] => (match intAt a with | some x => (match intAt b with | some y => some (x, y) | Option.none => Option.none) | Option.none => Option.none)
  | _ => Option.none
noncomputable def biMax (vs : List V) (H : Hp) : R V := match vs with
  | a :: r => (match intAt a with
    | some x => (match two' r with
      | some p => .ok (.int (if (if x < p.1 then p.1 else x) < p.2 then p.2 else (if x < p.1 then p.1 else x))) H
      | Option.none => .stuck)
    | Option.none => .stuck)
  | _ => .stuck
noncomputable def biRange (vs : List V) (H : Hp) : R V := match vs with
  | [] => .stuck
  | v :: r => (match intAt v with
    | some a => (match r with
      | [] => .ok (.rng 0 a 1) H
      | r => (match two' r with
        | some p => if p.2 ≠ 0 ∧ p.2.natAbs < 1073741824 then .ok (.rng a p.1 p.2) H else .stuck
        | Option.none => .stuck))
    | Option.none => .stuck)
noncomputable def biList (vs : List V) (H : Hp) : R V := match vs with
  | [v] => (match listAt v H with | some xs => new (.list xs) H | Option.none => .stuck)
  | _ => .stuck
noncomputable def boolAt : V → Option Bool
  | .bool b => some b
  | _ => Option.none
noncomputable def biInt (vs : List V) (H : Hp) : R V := match vs with
  | [v] => (match boolAt v with
    | some b => .ok (.int (if b then 1 else 0)) H
    | Option.none => (match strAt v with
      | some x => if x.length ≤ 640 then (match intText? x with | some n => .ok (.int n) H | Option.none => .stuck) else .stuck
      | Option.none => .stuck))
  | _ => .stuck
noncomputable def biStr (vs : List V) (H : Hp) : R V := match vs with
  | [v] => (match intAt v with
    | some i => if 0 ≤ i ∧ i < 1000000 then .ok (.str (Str.ofString (toString i))) H else .stuck
    | Option.none => .stuck)
  | _ => .stuck
noncomputable def bools (vs : List V) : Option (List Bool) := vs.mapM truth
noncomputable def biAll (vs : List V) (H : Hp) : R V := match vs with
  | [v] => (match (listAt v H).bind bools with
    | some bs => .ok (.bool (bs.all id)) H
    | Option.none => .stuck)
  | _ => .stuck
noncomputable def builtin (f : String) (vs : List V) (H : Hp) : R V :=
  if f = "len" then biLen vs H else if f = "all" then biAll vs H else if f = "max" then biMax vs H
  else if f = "range" then biRange vs H else if f = "list" then biList vs H else if f = "int" then biInt vs H else if f = "str" then biStr vs H else .stuck

noncomputable def kindV (v : V) (H : Hp) : Option String :=
  match v with
  | .bool _ => some "bool"
  | .int _ => some "int"
  | .tup _ => some "tuple"
  | .str _ => some "str"
  | v => (match listAt v H with | some _ => some "list" | Option.none => Option.none)
noncomputable def mAppend (o : V) (vs : List V) (H : Hp) : R V := match o with
  | .ref n => (match listAt (.ref n) H with
    | some xs => (match vs with | [v] => if xs.length < line then .ok .none (H.set n (.list (xs ++ [v]))) else .stuck | _ => .stuck)
    | Option.none => .stuck)
  | _ => .stuck
noncomputable def mCount (o : V) (vs : List V) (H : Hp) : R V := match (listAt o H).bind bools with
  | some bs => (match vs with
    | [v] => (match boolAt v with
      | some b => .ok (.int (bs.count b)) H
      | Option.none => .stuck)
    | _ => .stuck)
  | Option.none => .stuck
noncomputable def mSplit (o : V) (vs : List V) (H : Hp) : R V := match strAt o with
  | some x => (match vs with
    | [v] => (match strAt v with
      | some y => if x.length ≤ line ∧ y.length ≠ 0 ∧ (Txt.split x y).length ≤ line ∧ (Txt.split x y).all PyData.strOk = true then new (.list ((Txt.split x y).map .str)) H else .stuck
      | Option.none => .stuck)
    | _ => .stuck)
  | Option.none => .stuck
noncomputable def mFind (o : V) (vs : List V) (H : Hp) : R V := match strAt o with
  | some x => (match vs with
    | [v] => (match strAt v with
      | some y => .ok (.int (match Builtin.Str.occurrences x y 0 x.length 1 with | i :: _ => (i : Int) | [] => -1)) H
      | Option.none => .stuck)
    | _ => .stuck)
  | Option.none => .stuck
noncomputable def mName (m : String) : Bool := m == "append" || m == "count" || m == "split" || m == "find"
noncomputable def mType (m : String) : String := if m = "append" ∨ m = "count" then "list" else "str"
noncomputable def meth (o : V) (m : String) (vs : List V) (H : Hp) : R V :=
  if m = "append" then mAppend o vs H else if m = "count" then mCount o vs H else if m = "split" then mSplit o vs H else if m = "find" then mFind o vs H else .stuck

noncomputable def itemAt (xs : List V) (k : Int) (H : Hp) : R V := ofO H ((place k xs.length).bind (xs[·]?))
noncomputable def index (o i : V) (H : Hp) : R V :=
  match intAt i with
  | some k => (match o with
    | .tup xs => itemAt xs k H
    | .scr xs => itemAt (xs.map .int) k H
    | .lst xs => itemAt xs k H
    | .str x => if x.length ≤ line then itemAt (signs x) k H else .stuck
    | o => (match listAt o H with
      | some xs => itemAt xs k H
      | Option.none => .stuck))
  | Option.none => .stuck

noncomputable def intO : V → Option (Option Int)
  | .none => some Option.none
  | .int i => some (some i)
  | _ => Option.none
noncomputable def sliceS (x : Str) (l u : V) (H : Hp) : R V := match intO l with
  | some a => (match intO u with
    | some b => if x.length ≤ line ∧ PyData.strOk (Txt.slice x a b) = true then .ok (.str (Txt.slice x a b)) H else .stuck
    | Option.none => .stuck)
  | Option.none => .stuck
noncomputable def sliceV (o l u : V) (H : Hp) : R V := match strAt o with
  | some x => sliceS x l u H
  | Option.none => (match listAt o H with
    | some xs => (match intAt l with
      | some a => (match intAt u with
        | some b => if 0 ≤ a ∧ a ≤ b ∧ b ≤ xs.length then new (.list ((xs.drop a.toNat).take (b - a).toNat)) H else .stuck
        | Option.none => .stuck)
      | Option.none => .stuck)
    | Option.none => .stuck)

noncomputable def attrName (a : String) : Bool := a == "road" || a == "home" || a == "start" || a == "stops"
noncomputable def attrV (o : V) (a : String) (H : Hp) : R V :=
  match o with
  | .ref n => match H[n]? with
    | some (.inst _ d) => match H[d]? with
      | some (.ns fs) => ofO H (fs.lookup a)
      | _ => .stuck
    | _ => .stuck
  | _ => .stuck

noncomputable def setL (x : String) (v : V) : Rho → Rho
  | [] => [(x, v)]
  | (y, w) :: r => if y = x then (y, v) :: r else (y, w) :: setL x v r

noncomputable def setA (o : V) (a : String) (v : V) (H : Hp) : R Unit :=
  match o with
  | .ref n => match H[n]? with
    | some (.inst _ d) => match H[d]? with
      | some (.ns fs) => if fs.length ≤ 20 then .ok () (H.set d (.ns (setL a v fs))) else .stuck
      | _ => .stuck
    | _ => .stuck
  | _ => .stuck

noncomputable def excIs (c T : String) : Bool := c == T || T == "RouteError" || T == "ValueError"
noncomputable def exName (T : String) : Bool := T == "RouteError" || T == "BadRoad" || T == "OffRoad" || T == "BadTime" || T == "TooMany" || T == "BadOrder" || T == "Missed" || T == "NoDay" || T == "ValueError"

noncomputable def bTypes : List String := ["int", "bool", "tuple", "list", "str"]

noncomputable def isinst (v : V) (T : String) (H : Hp) : Option Bool :=
  if bTypes.contains T then (kindV v H).map fun k => k == T || (k == "bool" && T == "int")
  else match v with
    | .exc c => if exName T then some (excIs c T) else Option.none
    | .ref n => match H[n]? with
      | some (.inst c _) => if c = T then some true else Option.none
      | _ => Option.none
    | _ => Option.none

set_option genInjectivity false in
structure Fn where
  call : String → List V → Hp → R V
  const : String → Option V
  /-- within a handler: no calls, no loops, no raise -/
  hd : Bool := false

noncomputable def turns (f : V → Hp → R V) (chk : Hp → Bool) (k : Nat) : List V → Hp → R Unit
  | [], H => if chk H then .ok () H else .stuck
  | v :: vs, H => if chk H then match f v H with
      | .ok w H1 => match H1[k]? with
        | some (.list ys) => if ys.length < line then turns f chk k vs (H1.set k (.list (ys ++ [w]))) else .stuck
        | _ => .stuck
      | _ => .stuck
    else .stuck

noncomputable def sameO (o : V) (H : Hp) (H' : Hp) : Bool :=
  match o with
  | .ref n => match H[n]?, H'[n]? with
    | some (.list xs), some (.list ys) => decide (xs = ys)
    | _, _ => false
  | _ => true

noncomputable def truthR (x : R V) : R Bool := x.bind fun v H => ofO H (truth v)

noncomputable def compV (f : V → Hp → R V) (v : V) (H1 : Hp) : R V := match items H1 v with
  | some xs => (turns f (sameO v H1) H1.length xs (H1 ++ [.list []])).bind fun _ H5 => .ok (.ref H1.length) H5
  | Option.none => .stuck
noncomputable def callF (Γ : Fn) (f : String) (vs : List V) (H : Hp) : R V := if Γ.hd then .stuck else match builtin f vs H with
  | .stuck => Γ.call f vs H
  | r => r
noncomputable def negV (v : V) (H : Hp) : R V := match intAt v with
  | some i => .ok (.int (-i)) H
  | Option.none => .stuck

mutual
noncomputable def evE (Γ : Fn) (ρ : Rho) : E → Hp → R V
  | .var x, H => ofO H (ρ.lookup x)
  | .glob x, H => ofO H (Γ.const x)
  | .none, H => .ok .none H
  | .bool b, H => .ok (.bool b) H
  | .int i, H => .ok (.int i) H
  | .str s, H => .ok (.str (Str.ofString s)) H
  | .bin op l r, H => (evE Γ ρ l H).bind fun a H1 => (evE Γ ρ r H1).bind fun b H2 => bin op a b H2
  | .neg e, H => (evE Γ ρ e H).bind fun v H1 => negV v H1
  | .not e, H => (truthR (evE Γ ρ e H)).bind fun b H1 => .ok (.bool (!b)) H1
  | .and es, H => evAnd Γ ρ es H
  | .or es, H => evOr Γ ρ es H
  | .cmp l op r, H => (evE Γ ρ l H).bind fun a H1 => (evE Γ ρ r H1).bind fun b H2 => ofO H2 ((cmp op a b H2).map .bool)
  | .cmp2 l op m op' r, H => (evE Γ ρ l H).bind fun a H1 => (evE Γ ρ m H1).bind fun b H2 => (ofO H2 (cmp op a b H2)).bind fun t H3 =>
      if t then (evE Γ ρ r H3).bind fun c H4 => ofO H4 ((cmp op' b c H4).map .bool) else .ok (.bool false) H3
  | .call f args, H => (evEs Γ ρ args H).bind fun vs H1 => callF Γ f vs H1
  | .isinst e T, H => (evE Γ ρ e H).bind fun v H1 => ofO H1 ((isinst v T H1).map .bool)
  | .meth o m args, H => (evE Γ ρ o H).bind fun v H1 => if kindV v H1 = some (mType m) then (evEs Γ ρ args H1).bind fun vs H2 => meth v m vs H2 else .stuck
  | .attr o a, H => (evE Γ ρ o H).bind fun v H1 => attrV v a H1
  | .idx o i, H => (evE Γ ρ o H).bind fun v H1 => (evE Γ ρ i H1).bind fun k H2 => index v k H2
  | .slice o lo hi, H => (evE Γ ρ o H).bind fun v H1 => (evE Γ ρ lo H1).bind fun l H2 => (evE Γ ρ hi H2).bind fun u H3 => sliceV v l u H3
  | .list es, H => (evEs Γ ρ es H).bind fun vs H1 => new (.list vs) H1
  | .tup es, H => (evEs Γ ρ es H).bind fun vs H1 => .ok (.tup vs) H1
  | .menu es i, H => (evEs Γ ρ es H).bind fun vs H1 => (evE Γ ρ i H1).bind fun k H2 => index (.lst vs) k H2
  | .comp elt x it, H => if Γ.hd then .stuck else (evE Γ ρ it H).bind fun v H1 => compV (fun y H2 => evE Γ ((x, y) :: ρ) elt H2) v H1
noncomputable def evAnd (Γ : Fn) (ρ : Rho) : List E → Hp → R V
  | [], _ => .stuck
  | [e], H => evE Γ ρ e H
  | e :: es, H => (truthR (evE Γ ρ e H)).bind fun t H2 => if t then evAnd Γ ρ es H2 else .ok (.bool false) H2
noncomputable def evOr (Γ : Fn) (ρ : Rho) : List E → Hp → R V
  | [], _ => .stuck
  | [e], H => evE Γ ρ e H
  | e :: es, H => (truthR (evE Γ ρ e H)).bind fun t H2 => if t then .ok (.bool true) H2 else evOr Γ ρ es H2
noncomputable def evEs (Γ : Fn) (ρ : Rho) : List E → Hp → R (List V)
  | [], H => .ok [] H
  | e :: es, H => (evE Γ ρ e H).bind fun v H1 => (evEs Γ ρ es H1).bind fun vs H2 => .ok (v :: vs) H2
end
@[simp] theorem evE_var (Γ : Fn) (ρ : Rho) (x : String) (H : Hp) : evE Γ ρ (.var x) H = (ofO H (ρ.lookup x)) := rfl
@[simp] theorem evE_glob (Γ : Fn) (ρ : Rho) (x : String) (H : Hp) : evE Γ ρ (.glob x) H = (ofO H (Γ.const x)) := rfl
@[simp] theorem evE_none (Γ : Fn) (ρ : Rho)  (H : Hp) : evE Γ ρ (.none) H = (.ok .none H) := rfl
@[simp] theorem evE_bool (Γ : Fn) (ρ : Rho) (b : Bool) (H : Hp) : evE Γ ρ (.bool b) H = (.ok (.bool b) H) := rfl
@[simp] theorem evE_int (Γ : Fn) (ρ : Rho) (i : Int) (H : Hp) : evE Γ ρ (.int i) H = (.ok (.int i) H) := rfl
@[simp] theorem evE_str (Γ : Fn) (ρ : Rho) (s : String) (H : Hp) : evE Γ ρ (.str s) H = (.ok (.str (Str.ofString s)) H) := rfl
@[simp] theorem evE_bin (Γ : Fn) (ρ : Rho) (op : Op) (l r : E) (H : Hp) : evE Γ ρ (.bin op l r) H = ((evE Γ ρ l H).bind fun a H1 => (evE Γ ρ r H1).bind fun b H2 => bin op a b H2) := rfl
@[simp] theorem evE_neg (Γ : Fn) (ρ : Rho) (e : E) (H : Hp) : evE Γ ρ (.neg e) H = ((evE Γ ρ e H).bind fun v H1 => negV v H1) := rfl
@[simp] theorem evE_not (Γ : Fn) (ρ : Rho) (e : E) (H : Hp) : evE Γ ρ (.not e) H = ((truthR (evE Γ ρ e H)).bind fun b H1 => .ok (.bool (!b)) H1) := rfl
@[simp] theorem evE_and (Γ : Fn) (ρ : Rho) (es : List E) (H : Hp) : evE Γ ρ (.and es) H = (evAnd Γ ρ es H) := rfl
@[simp] theorem evE_or (Γ : Fn) (ρ : Rho) (es : List E) (H : Hp) : evE Γ ρ (.or es) H = (evOr Γ ρ es H) := rfl
@[simp] theorem evE_cmp (Γ : Fn) (ρ : Rho) (l : E) (op : Cm) (r : E) (H : Hp) : evE Γ ρ (.cmp l op r) H = ((evE Γ ρ l H).bind fun a H1 => (evE Γ ρ r H1).bind fun b H2 => ofO H2 ((cmp op a b H2).map .bool)) := rfl
@[simp] theorem evE_cmp2 (Γ : Fn) (ρ : Rho) (l : E) (op : Cm) (m : E) (op' : Cm) (r : E) (H : Hp) : evE Γ ρ (.cmp2 l op m op' r) H = ((evE Γ ρ l H).bind fun a H1 => (evE Γ ρ m H1).bind fun b H2 => (ofO H2 (cmp op a b H2)).bind fun t H3 =>
      if t then (evE Γ ρ r H3).bind fun c H4 => ofO H4 ((cmp op' b c H4).map .bool) else .ok (.bool false) H3) := rfl
@[simp] theorem evE_call (Γ : Fn) (ρ : Rho) (f : String) (args : List E) (H : Hp) : evE Γ ρ (.call f args) H = ((evEs Γ ρ args H).bind fun vs H1 => callF Γ f vs H1) := rfl
@[simp] theorem evE_isinst (Γ : Fn) (ρ : Rho) (e : E) (T : String) (H : Hp) : evE Γ ρ (.isinst e T) H = ((evE Γ ρ e H).bind fun v H1 => ofO H1 ((isinst v T H1).map .bool)) := rfl
@[simp] theorem evE_meth (Γ : Fn) (ρ : Rho) (o : E) (m : String) (args : List E) (H : Hp) : evE Γ ρ (.meth o m args) H = ((evE Γ ρ o H).bind fun v H1 => if kindV v H1 = some (mType m) then (evEs Γ ρ args H1).bind fun vs H2 => meth v m vs H2 else .stuck) := rfl
@[simp] theorem evE_attr (Γ : Fn) (ρ : Rho) (o : E) (a : String) (H : Hp) : evE Γ ρ (.attr o a) H = ((evE Γ ρ o H).bind fun v H1 => attrV v a H1) := rfl
@[simp] theorem evE_idx (Γ : Fn) (ρ : Rho) (o i : E) (H : Hp) : evE Γ ρ (.idx o i) H = ((evE Γ ρ o H).bind fun v H1 => (evE Γ ρ i H1).bind fun k H2 => index v k H2) := rfl
@[simp] theorem evE_slice (Γ : Fn) (ρ : Rho) (o lo hi : E) (H : Hp) : evE Γ ρ (.slice o lo hi) H = ((evE Γ ρ o H).bind fun v H1 => (evE Γ ρ lo H1).bind fun l H2 => (evE Γ ρ hi H2).bind fun u H3 => sliceV v l u H3) := rfl
@[simp] theorem evE_list (Γ : Fn) (ρ : Rho) (es : List E) (H : Hp) : evE Γ ρ (.list es) H = ((evEs Γ ρ es H).bind fun vs H1 => new (.list vs) H1) := rfl
@[simp] theorem evE_tup (Γ : Fn) (ρ : Rho) (es : List E) (H : Hp) : evE Γ ρ (.tup es) H = ((evEs Γ ρ es H).bind fun vs H1 => .ok (.tup vs) H1) := rfl
@[simp] theorem evE_menu (Γ : Fn) (ρ : Rho) (es : List E) (i : E) (H : Hp) : evE Γ ρ (.menu es i) H = ((evEs Γ ρ es H).bind fun vs H1 => (evE Γ ρ i H1).bind fun k H2 => index (.lst vs) k H2) := rfl
@[simp] theorem evE_comp (Γ : Fn) (ρ : Rho) (elt : E) (x : String) (it : E) (H : Hp) : evE Γ ρ (.comp elt x it) H = (if Γ.hd then .stuck else (evE Γ ρ it H).bind fun v H1 => compV (fun y H2 => evE Γ ((x, y) :: ρ) elt H2) v H1) := rfl
@[simp] theorem evAnd_one (Γ : Fn) (ρ : Rho) (e : E) (H : Hp) : evAnd Γ ρ [e] H = evE Γ ρ e H := rfl
@[simp] theorem evOr_one (Γ : Fn) (ρ : Rho) (e : E) (H : Hp) : evOr Γ ρ [e] H = evE Γ ρ e H := rfl
@[simp] theorem evAnd_cons (Γ : Fn) (ρ : Rho) (e e2 : E) (es : List E) (H : Hp) : evAnd Γ ρ (e :: e2 :: es) H = (truthR (evE Γ ρ e H)).bind fun t H2 => if t then evAnd Γ ρ (e2 :: es) H2 else .ok (.bool false) H2 := rfl
@[simp] theorem evOr_cons (Γ : Fn) (ρ : Rho) (e e2 : E) (es : List E) (H : Hp) : evOr Γ ρ (e :: e2 :: es) H = (truthR (evE Γ ρ e H)).bind fun t H2 => if t then .ok (.bool true) H2 else evOr Γ ρ (e2 :: es) H2 := rfl
@[simp] theorem evEs_nil (Γ : Fn) (ρ : Rho) (H : Hp) : evEs Γ ρ [] H = .ok [] H := rfl
@[simp] theorem evEs_cons (Γ : Fn) (ρ : Rho) (e : E) (es : List E) (H : Hp) : evEs Γ ρ (e :: es) H = (evE Γ ρ e H).bind fun v H1 => (evEs Γ ρ es H1).bind fun vs H2 => .ok (v :: vs) H2 := rfl
noncomputable def evT (Γ : Fn) (ρ : Rho) (e : E) (H : Hp) : R Bool := truthR (evE Γ ρ e H)
noncomputable def setAll : List String → List V → Rho → Option Rho
  | [], [], ρ => some ρ
  | x :: xs, v :: vs, ρ => setAll xs vs (setL x v ρ)
  | _, _, _ => Option.none

noncomputable def RS.bind (r : RS) (k : Rho → Hp → RS) : RS := match r with
  | .next ρ H => k ρ H
  | .ret v H => .ret v H
  | .raise c ρ H => .raise c ρ H
  | .stuck => .stuck
noncomputable def forL (body : V → Rho → Hp → RS) (chk : Hp → Bool) : List V → Rho → Hp → RS
  | [], ρ, H => if chk H then .next ρ H else .stuck
  | v :: vs, ρ, H => if chk H then (body v ρ H).bind fun ρ1 H1 => forL body chk vs ρ1 H1 else .stuck
noncomputable def forV (body : V → Rho → Hp → RS) (v : V) (ρ : Rho) (H : Hp) : RS := match items H v with
  | some xs => forL body (sameO v H) xs ρ H
  | Option.none => .stuck
noncomputable def isOwn : Option O → Bool
  | some .own => true
  | _ => false
noncomputable def pairsZ (xs ys : List V) : List V := (xs.zip ys).map fun p => .tup [p.1, p.2]
noncomputable def forZ (body : V → Rho → Hp → RS) (vs : List V) (ρ : Rho) (H : Hp) : RS := match vs with
  | [v, w] => (match listAt v H with
    | some xs => (match w with
      | .tup ys => if xs.length = ys.length then forL body (fun H' => sameO v H H' && isOwn H'[H.length]?) (pairsZ xs ys) ρ (H ++ [.own]) else .stuck
      | _ => .stuck)
    | Option.none => .stuck)
  | _ => .stuck
noncomputable def ofR {α : Type} (ρ : Rho) (x : R α) (k : α → Hp → RS) : RS :=
  match x with
  | .ok a H => k a H
  | .raise c H => .raise c ρ H
  | .stuck => .stuck
noncomputable def partsV (v : V) (H : Hp) : Option (List V) := match v with
  | .tup vs => some vs
  | v => listAt v H
noncomputable def unpackV (xs : List String) (v : V) (ρ : Rho) (H : Hp) (k : Rho → RS) : RS := match partsV v H with
  | some vs => (match setAll xs vs ρ with
    | some ρ1 => k ρ1
    | Option.none => .stuck)
  | Option.none => .stuck

noncomputable def swapOk' (x : Str) (a b : String) (one : Bool) : Bool := decide (x.length + (x.length + 1) * (Str.ofString b).length ≤ 16777216) && (!(Str.ofString a == Str.ofString b) && (PyData.strOk (Str.ofString a) && (PyData.strOk (Str.ofString b) && PyData.strOk (Txt_swap x (Str.ofString a) (Str.ofString b) one))))
noncomputable def ifRepV (c : Option Int) (k : Int) (o : Option V) (a b : String) (one : Bool) (ρ : Rho) (H : Hp) : RS := match c with
  | some i => if i = k then (match o.bind strAt with
    | some x => if swapOk' x a b one = true then .ret (.str (Txt_swap x (Str.ofString a) (Str.ofString b) one)) H else .stuck
    | Option.none => .stuck) else .next ρ H
  | Option.none => .stuck
noncomputable def tryV (r : RS) (k : String → Rho → Hp → RS) : RS := match r with
  | .raise c ρ H => k c ρ H
  | r => r
noncomputable def noR (r : RS) : RS := match r with
  | .raise _ _ _ => .stuck
  | r => r
noncomputable def retR (r : RS) : RS := match r with
  | .ret v H => .ret v H
  | _ => .stuck
mutual
noncomputable def exS (Γ : Fn) : S → Rho → Hp → RS
  | .asg x e, ρ, H => ofR ρ (evE Γ ρ e H) fun v H1 => .next (setL x v ρ) H1
  | .unpack xs e, ρ, H => if Γ.hd then .stuck else ofR ρ (evE Γ ρ e H) fun v H1 => unpackV xs v ρ H1 fun ρ1 => .next ρ1 H1
  | .setattr o a e, ρ, H => ofR ρ (evE Γ ρ e H) fun v H1 => ofR ρ (evE Γ ρ o H1) fun w H2 => ofR ρ (setA w a v H2) fun _ H3 => .next ρ H3
  | .ret e, ρ, H => ofR ρ (evE Γ ρ e H) fun v H1 => .ret v H1
  | .iff t a b, ρ, H => ofR ρ (evT Γ ρ t H) fun c H1 => if c then exSs Γ a ρ H1 else exSs Γ b ρ H1
  | .for1 x e b, ρ, H => if Γ.hd then .stuck else ofR ρ (evE Γ ρ e H) fun v H1 => forV (fun v ρ1 H2 => exSs Γ b (setL x v ρ1) H2) v ρ H1
  | .forZ xs es b, ρ, H => if Γ.hd then .stuck else ofR ρ (evEs Γ ρ es H) fun vs H1 => forZ (fun v ρ1 H2 => unpackV xs v ρ1 H2 fun ρ2 => exSs Γ b ρ2 H2) vs ρ H1
  | .expr e, ρ, H => ofR ρ (evE Γ ρ e H) fun _ H1 => .next ρ H1
  | .raise c _, ρ, H => if Γ.hd then .stuck else .raise c ρ H
  | .ifRep l k x a b one, ρ, H => if Γ.hd then .stuck else ofR ρ (evE Γ ρ l H) fun c H1 => ifRepV (intAt c) k (ρ.lookup x) a b one ρ H1
  | .tryE b hs, ρ, H => if Γ.hd then .stuck else tryV (exSs Γ b ρ H) fun c ρ1 H1 => exH { Γ with hd := true } c hs ρ1 H1
noncomputable def exSs (Γ : Fn) : List S → Rho → Hp → RS
  | [], ρ, H => .next ρ H
  | s :: ss, ρ, H => (exS Γ s ρ H).bind fun ρ1 H1 => exSs Γ ss ρ1 H1
noncomputable def exH (Γ : Fn) (c : String) : List (String × Option String × List S) → Rho → Hp → RS
  | [], ρ, H => .raise c ρ H
  | (T, Option.none, b) :: r, ρ, H => if excIs c T then noR (exSs Γ b ρ H) else exH Γ c r ρ H
  | (T, some x, b) :: r, ρ, H => if excIs c T then retR (exSs Γ b (setL x (.exc c) ρ) H) else exH Γ c r ρ H
end
@[simp] theorem exS_asg (Γ : Fn) (x : String) (e : E) (ρ : Rho) (H : Hp) : exS Γ (.asg x e) ρ H = (ofR ρ (evE Γ ρ e H) fun v H1 => .next (setL x v ρ) H1) := rfl
@[simp] theorem exS_unpack (Γ : Fn) (xs : List String) (e : E) (ρ : Rho) (H : Hp) : exS Γ (.unpack xs e) ρ H = (if Γ.hd then .stuck else ofR ρ (evE Γ ρ e H) fun v H1 => unpackV xs v ρ H1 fun ρ1 => .next ρ1 H1) := rfl
@[simp] theorem exS_setattr (Γ : Fn) (o : E) (a : String) (e : E) (ρ : Rho) (H : Hp) : exS Γ (.setattr o a e) ρ H = (ofR ρ (evE Γ ρ e H) fun v H1 => ofR ρ (evE Γ ρ o H1) fun w H2 => ofR ρ (setA w a v H2) fun _ H3 => .next ρ H3) := rfl
@[simp] theorem exS_ret (Γ : Fn) (e : E) (ρ : Rho) (H : Hp) : exS Γ (.ret e) ρ H = (ofR ρ (evE Γ ρ e H) fun v H1 => .ret v H1) := rfl
@[simp] theorem exS_iff (Γ : Fn) (t : E) (a b : List S) (ρ : Rho) (H : Hp) : exS Γ (.iff t a b) ρ H = (ofR ρ (evT Γ ρ t H) fun c H1 => if c then exSs Γ a ρ H1 else exSs Γ b ρ H1) := rfl
@[simp] theorem exS_for1 (Γ : Fn) (x : String) (e : E) (b : List S) (ρ : Rho) (H : Hp) : exS Γ (.for1 x e b) ρ H = (if Γ.hd then .stuck else ofR ρ (evE Γ ρ e H) fun v H1 => forV (fun v ρ1 H2 => exSs Γ b (setL x v ρ1) H2) v ρ H1) := rfl
@[simp] theorem exS_forZ (Γ : Fn) (xs : List String) (es : List E) (b : List S) (ρ : Rho) (H : Hp) : exS Γ (.forZ xs es b) ρ H = (if Γ.hd then .stuck else ofR ρ (evEs Γ ρ es H) fun vs H1 => forZ (fun v ρ1 H2 => unpackV xs v ρ1 H2 fun ρ2 => exSs Γ b ρ2 H2) vs ρ H1) := rfl
@[simp] theorem exS_expr (Γ : Fn) (e : E) (ρ : Rho) (H : Hp) : exS Γ (.expr e) ρ H = (ofR ρ (evE Γ ρ e H) fun _ H1 => .next ρ H1) := rfl
@[simp] theorem exS_raise (Γ : Fn) (c m : String) (ρ : Rho) (H : Hp) : exS Γ (.raise c m) ρ H = (if Γ.hd then .stuck else .raise c ρ H) := rfl
@[simp] theorem exS_ifRep (Γ : Fn) (l : E) (k : Int) (x a b : String) (one : Bool) (ρ : Rho) (H : Hp) : exS Γ (.ifRep l k x a b one) ρ H = (if Γ.hd then .stuck else ofR ρ (evE Γ ρ l H) fun c H1 => ifRepV (intAt c) k (ρ.lookup x) a b one ρ H1) := rfl
@[simp] theorem exS_tryE (Γ : Fn) (b : List S) (hs : List (String × Option String × List S)) (ρ : Rho) (H : Hp) : exS Γ (.tryE b hs) ρ H = (if Γ.hd then .stuck else tryV (exSs Γ b ρ H) fun c ρ1 H1 => exH { Γ with hd := true } c hs ρ1 H1) := rfl
@[simp] theorem exSs_nil (Γ : Fn) (ρ : Rho) (H : Hp) : exSs Γ [] ρ H = .next ρ H := rfl
@[simp] theorem exSs_cons (Γ : Fn) (s : S) (ss : List S) (ρ : Rho) (H : Hp) : exSs Γ (s :: ss) ρ H = (exS Γ s ρ H).bind fun ρ1 H1 => exSs Γ ss ρ1 H1 := rfl
@[simp] theorem exH_nil (Γ : Fn) (c : String) (ρ : Rho) (H : Hp) : exH Γ c [] ρ H = .raise c ρ H := rfl
@[simp] theorem exH_cons (Γ : Fn) (c T : String) (b : List S) (r : List (String × Option String × List S)) (ρ : Rho) (H : Hp) : exH Γ c ((T, Option.none, b) :: r) ρ H = if excIs c T then noR (exSs Γ b ρ H) else exH Γ c r ρ H := rfl
@[simp] theorem exH_as (Γ : Fn) (c T x : String) (b : List S) (r : List (String × Option String × List S)) (ρ : Rho) (H : Hp) : exH Γ c ((T, some x, b) :: r) ρ H = if excIs c T then retR (exSs Γ b (setL x (.exc c) ρ) H) else exH Γ c r ρ H := rfl

set_option genInjectivity false in
structure Def where
  name : String
  params : List String
  body : List S

noncomputable def runDef (Γ : Fn) (d : Def) (vs : List V) (H : Hp) : R V :=
  match setAll d.params vs [] with
  | some ρ => match exSs Γ d.body ρ H with
    | .next _ H1 => .ok .none H1
    | .ret v H1 => .ok v H1
    | .raise c _ H1 => .raise c H1
    | _ => .stuck
  | Option.none => .stuck

noncomputable def runClass (Γ : Fn) (c : String) (d : Def) (vs : List V) (H : Hp) : R V :=
  (runDef Γ d (.ref (H.length + 1) :: vs) (H ++ [.ns [], .inst c H.length])).bind fun v H1 => match v with | .none => .ok (.ref (H.length + 1)) H1 | _ => .stuck

noncomputable def lk (defs : List Def) (cls : List (String × Def)) (const : String → Option V) : Nat → Fn
  | 0 => { call := fun _ _ _ => .stuck, const }
  | n + 1 => { const, call := fun f vs H => match defs.find? (fun d => d.name == f) with
      | some d => runDef (lk defs cls const n) d vs H
      | Option.none => match cls.lookup f with
        | some d => runClass (lk defs cls const n) f d vs H
        | Option.none => .stuck }
end
end Mine

/-! R1 -/
namespace Mine
open PySem PyProof.Rows

theorem ofString_inj {a b : String} (h : Str.ofString a = Str.ofString b) : a = b := by
  rw [Str.ofString_eq_toList, Str.ofString_eq_toList] at h
  have h1 := congrArg (fun s : Str => s.cps.toList) h
  simp only at h1
  have inj : ∀ l l' : List Char, l.map Char.toNat = l'.map Char.toNat → l = l' := by
    intro l
    induction l with
    | nil => intro l' h; cases l' with | nil => rfl | cons => cases h
    | cons c l ih =>
      intro l' h
      cases l' with
      | nil => cases h
      | cons d l' =>
        simp only [List.map_cons, List.cons.injEq] at h
        rw [ih l' h.2]
        have : c = d := by
          have h3 : c.val.toNat = d.val.toNat := h.1
          exact Char.ext (UInt32.toNat_inj.mp h3)
        rw [this]
  exact String.toList_inj.mp (inj _ _ h1)

noncomputable def biTable : List (String × Value) := [("len", .builtin "len"), ("all", .builtin "all"), ("tuple", .type "tuple"), ("str", .type "str"), ("zip", .type "zip"), ("max", .builtin "max"), ("isinstance", .builtin "isinstance"), ("range", .type "range"), ("list", .type "list"), ("int", .type "int"), ("bool", .type "bool"), ("ValueError", .type "ValueError")]
noncomputable def biVal (f : String) : Option Value := biTable.lookup f
theorem biVal_noRef {f : String} {v : Value} (h : biVal f = some v) (a : Addr) : v ≠ .ref a := by
  have key : ∀ (l : List (String × Value)), (l.all fun p => match p.2 with | .ref _ => false | _ => true) = true → l.lookup f = some v → v ≠ .ref a := by
    intro l
    induction l with
    | nil => intro _ e; cases e
    | cons p l ih =>
      intro ha e
      rw [List.all_cons, Bool.and_eq_true] at ha
      rw [List.lookup_cons] at e
      cases hb : f == p.1 with
      | true => rw [hb] at e; cases e; intro q; rw [q] at ha; exact nomatch ha.1
      | false => rw [hb] at e; exact ih ha.2 e
  exact key biTable (by decide) h

noncomputable def Loads (mg mb : Str → Option Value) (f : String) (v : Value) : Prop := mg (Str.ofString f) = some v ∨ (mg (Str.ofString f) = Option.none ∧ mb (Str.ofString f) = some v)

noncomputable abbrev bmVE : List Value := [.type "ValueError", .type "Exception", .type "BaseException", .type "object"]

inductive OwnExc (mg : Str → Option Value) (h : Heap) (ex : String → Bool) (c : String) : Prop
  | mk (C : Addr) (bm : List Value) (N : Addr) (nm q : Str) (bs : List Value) (hdct : Bool) (sn : List Str) (sub : List Value) (ab : Bool) (col : Option Bool) (dd : Option Addr) (k0 k1 k2 k3 k5 : Option Value) (mN : Str → Option Value)
    (e : mg (Str.ofString c) = some (.ref C)) (hC : h.get? C = some (excClassObj nm q C N bs bm hdct sn sub ab col dd k0 k1 k2 k3 k5 "ValueError.__new__")) (hN : h.Ns N mN) (hi : mN "__init__" = Option.none) (TL : OwnTail h bmVE bm)
    (hs : ∀ T D, ex T = true → mg (Str.ofString T) = some (.ref D) → (Value.ref C :: bm).contains (.ref D) = excIs c T) : OwnExc mg h ex c

structure ClsOk (K : PySem.W.Frag) (C fI : Addr) : Prop where
  makes : PySem.W.makesIn K C = true
  init : PySem.W.findIn K (.ref C) "__init__" = some (some (.ref fI))
  fn : PySem.W.typeIn K (.ref fI) = some (.type "function")
  get : PySem.W.findIn K (.ref C) "__getattribute__" = some (some (.builtin "object.__getattribute__"))
  set : PySem.W.findIn K (.ref C) "__setattr__" = some (some (.builtin "object.__setattr__"))
  over : PySem.W.plainOver K C = true
  dict : (PySem.W.clsIn K C).any (·.hasDict) = true
  names : ∀ a, attrName a = true → PySem.W.findIn K (.ref C) (Str.ofString a) = some Option.none

structure ExcGet (K : PySem.W.Frag) (C : Addr) : Prop where
  cls : (PySem.W.clsIn K C).isSome = true
  ga : PySem.W.findIn K (.ref C) "__getattribute__" = some (some (.builtin "BaseException.__getattribute__"))
  nga : PySem.W.findIn K (.ref C) "__getattr__" = some Option.none
  find : PySem.W.findObj K C Option.none "__class__" = some (.bind (.builtin "getset_descriptor.__get__") (.builtin "object.__class__"))
  obj : PySem.W.mroIn K C (.type "object") = some true
  bexc : PySem.W.mroIn K C (.type "BaseException") = some true

set_option genInjectivity false in
structure Cx where
  prog : Program
  w : World
  base : Heap
  mg : Str → Option Value
  mb : Str → Option Value
  g : base.Ns mainGlobals mg
  b : base.Ns builtinsNs mb
  nolimit : base.NoLimit
  /-- the names that the text's defs name out of themselves -/
  kn : String → Bool
  known : ∀ f, kn f = true → ∃ v, Loads mg mb f v
  bi : ∀ f v, biVal f = some v → kn f = true → mg (Str.ofString f) = Option.none ∧ mb (Str.ofString f) = some v
  /-- the text's own exception classes -/
  ex : String → Bool
  own : ∀ c, ex c = true → OwnExc mg base ex c
  /-- the text's own plain classes, and the names of their attributes -/
  K : PySem.W.Frag
  kin : K.In base
  exk : ∀ c T C tv, ex c = true → exName T = true → kn T = true → mg (Str.ofString c) = some (.ref C) → Loads mg mb T tv → ExcGet K C ∧ PySem.W.kitOne K (.ref C) tv = some (excIs c T)
  cl : String → Bool
  cls : ∀ c, cl c = true → ∃ C fI, mg (Str.ofString c) = some (.ref C) ∧ ClsOk K C fI
  /-- each of them may be called plainly -/
  kp : ∀ f v, kn f = true → Loads mg mb f v → ∀ h : Heap, (∀ b o, base.get? b = some o → h.get? b = some o) →
    ∃ k, (k = Keeper.frame ∨ k = Keeper.machine ∨ k = Keeper.boundFrame) ∧ PySem.W.Looks (model prog w) h (keeperOf v) k

noncomputable abbrev Cx.M (X : Cx) : Model := model X.prog X.w

noncomputable def ExCls (X : Cx) (c : String) (C : Addr) : Prop := X.mg (Str.ofString c) = some (.ref C) ∧ X.ex c = true
noncomputable def ObjCls (o : Obj) (C : Addr) : Prop := o.cls = .ref C ∧ o.dict = Option.none

mutual
inductive VR (X : Cx) (η : List Addr) (h : Heap) : V → Value → Prop
  | none : VR X η h .none .none
  | bool (b : Bool) : VR X η h (.bool b) (.bool b)
  | int (i : Int) (t : Tok) : VR X η h (.int i) (.int i t)
  | str (s : Str) (t : Tok) : PyData.strOk s = true → VR X η h (.str s) (.str s t)
  | tup {a : Addr} {items : Array Value} {n : Nat} {vs : List V} : h.get? a = some { cls := .type "tuple", data := .seq items n } → a ∉ η → VRs X η h vs items.toList → vs.length ≤ line → VR X η h (.tup vs) (.ref a)
  | ref {n : Nat} {a : Addr} : η[n]? = some a → VR X η h (.ref n) (.ref a)
  | exc {c : String} {a C : Addr} {o : Obj} {fs : Array Value} : h.get? a = some o → ObjCls o C → o.data = .fields fs → ExCls X c C → a ∉ η → VR X η h (.exc c) (.ref a)
  | rng {a b c : Int} {t u v : Tok} {r : Addr} : IsRange h r a b c t u v → r ∉ η → VR X η h (.rng a b c) (.ref r)
  | lst {a : Addr} {items : Array Value} {n : Nat} {vs : List V} : h.get? a = some { cls := .type "list", data := .seq items n } → a ∉ η → VRs X η h vs items.toList → vs.length ≤ line → VR X η h (.lst vs) (.ref a)
  | scr {a : Addr} {items : Array Value} {ns : List Int} : X.base.IsList a items → IntsAre items.toList ns → ns.length ≤ line → VR X η h (.scr ns) (.ref a)
inductive VRs (X : Cx) (η : List Addr) (h : Heap) : List V → List Value → Prop
  | nil : VRs X η h [] []
  | cons {v : V} {vs : List V} {m : Value} {ms : List Value} : VR X η h v m → VRs X η h vs ms → VRs X η h (v :: vs) (m :: ms)
end

structure Step (fr own η : List Addr) (h : Heap) (η' : List Addr) (h' : Heap) : Prop where
  pre : ∃ l, η' = η ++ l ∧ ∀ a ∈ l, h.get? a = Option.none
  alive : ∀ b o, h.get? b = some o → ∃ o', h'.get? b = some o'
  data : ∀ b o, h.get? b = some o → b ∉ η → b ∉ own → ∃ sl, h'.get? b = some { o with slots := sl } ∧ (b ∉ fr → sl = o.slots)
  dicts : ∀ b o, h.get? b = some o → b ∉ η → ∀ es n, o.data = .dict es n → ∃ o' es' n', h'.get? b = some o' ∧ o'.data = .dict es' n'
  cells : ∀ b o, h.get? b = some o → b ∉ η → ∀ v, o.data = .cell v → ∃ o' v', h'.get? b = some o' ∧ o'.data = .cell v'

section
variable {fr own η η' : List Addr} {h h' : Heap}
theorem Step.same (x : Step fr own η h η' h') (b : Addr) (o : Obj) (e : h.get? b = some o) (hb : b ∉ η) (ho : b ∉ own) (hf : b ∉ fr) : h'.get? b = some o := by
  obtain ⟨sl, e', q⟩ := x.data b o e hb ho
  rw [q hf] at e'; exact e'
theorem Step.mem (x : Step fr own η h η' h') {b : Addr} {o : Obj} (e : h.get? b = some o) (hb : b ∉ η) : b ∉ η' := by
  obtain ⟨l, rfl, hl⟩ := x.pre
  intro hm
  rcases List.mem_append.mp hm with hm | hm
  · exact hb hm
  · rw [hl b hm] at e; cases e
theorem Step.old (x : Step fr own η h η' h') {b : Addr} (e : h'.get? b = Option.none) : h.get? b = Option.none := by
  cases q : h.get? b with
  | none => rfl
  | some o => obtain ⟨o', e'⟩ := x.alive b o q; rw [e] at e'; cases e'

theorem Step.trans {η1 η2 : List Addr} {h1 h2 : Heap} (x : Step fr own η h η1 h1) (y : Step fr own η1 h1 η2 h2) : Step fr own η h η2 h2 := by
  refine ⟨?_, fun b o e => let ⟨o1, e1⟩ := x.alive b o e; y.alive b o1 e1, fun b o e hb ho => let ⟨sl, e1, q1⟩ := x.data b o e hb ho; let ⟨sl2, e2, q2⟩ := y.data b _ e1 (x.mem e hb) ho; ⟨sl2, e2, fun hf => (q2 hf).trans (q1 hf)⟩,
    fun b o e hb es k d => let ⟨o1, es1, n1, e1, d1⟩ := x.dicts b o e hb es k d; y.dicts b o1 e1 (x.mem e hb) es1 n1 d1, fun b o e hb v d => let ⟨o1, v1, e1, d1⟩ := x.cells b o e hb v d; y.cells b o1 e1 (x.mem e hb) v1 d1⟩
  obtain ⟨l1, rfl, h1'⟩ := x.pre
  obtain ⟨l2, rfl, h2'⟩ := y.pre
  refine ⟨l1 ++ l2, List.append_assoc .., fun a ha => ?_⟩
  rcases List.mem_append.mp ha with ha | ha
  · exact h1' a ha
  · exact x.old (h2' a ha)

theorem Step.weak {own' : List Addr} (x : Step fr own η h η' h') (ho : ∀ a ∈ own, a ∈ own') : Step fr own' η h η' h' :=
  ⟨x.pre, x.alive, fun b o e hb hb' => x.data b o e hb (fun q => hb' (ho b q)), x.dicts, x.cells⟩
end

theorem Step.grow (fr own η : List Addr) {l : List Addr} {h h' : Heap} (hl : ∀ a ∈ l, h.get? a = Option.none) (k : ∀ b o, h.get? b = some o → h'.get? b = some o) : Step fr own η h (η ++ l) h' :=
  ⟨⟨l, rfl, hl⟩, fun b o e => ⟨o, k b o e⟩, fun b o e _ _ => ⟨o.slots, k b o e, fun _ => rfl⟩, fun b o e _ es n d => ⟨o, es, n, k b o e, d⟩, fun b o e _ v d => ⟨o, v, k b o e, d⟩⟩
theorem Step.ext (fr own η : List Addr) {h h' : Heap} (k : ∀ b o, h.get? b = some o → h'.get? b = some o) : Step fr own η h η h' := by
  have := Step.grow fr own η (l := []) (fun _ q => nomatch q) k
  rwa [List.append_nil] at this
theorem Step.refl (fr own η : List Addr) (h : Heap) : Step fr own η h η h := Step.ext fr own η fun _ _ e => e
theorem Step.make (fr own η : List Addr) {h h' : Heap} {a : Addr} (k : ∀ b o, h.get? b = some o → h'.get? b = some o) (ha : h.get? a = Option.none) : Step fr own η h (η ++ [a]) h' :=
  Step.grow fr own η (fun _ hb => List.mem_singleton.mp hb ▸ ha) k

noncomputable def Frm (h : Heap) (l : List Addr) : Prop := ∀ b ∈ l, ∃ o, h.get? b = some o ∧ ((∃ es n, o.data = .dict es n) ∨ ∃ v, o.data = .cell v)

theorem Frm.not {h : Heap} {l : List Addr} (x : Frm h l) {b : Addr} {o : Obj} (e : h.get? b = some o) (hd : (∀ es n, o.data ≠ .dict es n) ∧ ∀ v, o.data ≠ .cell v) : b ∉ l := by
  intro hm
  obtain ⟨o', e', hq⟩ := x b hm
  rw [e] at e'; cases e'
  rcases hq with ⟨es, n, q⟩ | ⟨v, q⟩
  · exact hd.1 es n q
  · exact hd.2 v q

theorem getElem?_pre {η l : List Addr} {n : Nat} {a : Addr} (e : η[n]? = some a) : (η ++ l)[n]? = some a := by
  rw [List.getElem?_append_left (List.getElem?_eq_some_iff.mp e).1]; exact e

structure Holds (η : List Addr) (h : Heap) (η' : List Addr) (h' : Heap) : Prop where
  seq : ∀ a o, h.get? a = some o → a ∉ η → ((∃ xs n, o.data = .seq xs n) ∨ o.cls = .type "range" ∧ ∃ fs, o.data = .fields fs) → h'.get? a = some o ∧ a ∉ η'
  exc : ∀ a o C fs, h.get? a = some o → a ∉ η → ObjCls o C → o.data = .fields fs → a ∉ η' ∧ ∃ fs', h'.get? a = some { o with data := .fields fs' }
section
variable {X : Cx} {fr own η η' : List Addr} {h h' : Heap}
theorem VR.map (hp : ∃ l, η' = η ++ l) (x : Holds η h η' h') {v : V} {m : Value} (r : VR X η h v m) : VR X η' h' v m := by
  refine VR.rec (motive_1 := fun v m _ => VR X η' h' v m) (motive_2 := fun v m _ => VRs X η' h' v m) .none .bool .int .str (fun e hn _ l ih => ?_) (fun e => ?_) (fun e c d q hn => ?_) (fun e hn => ?_) (fun e hn _ l ih => ?_) (fun e i l => .scr e i l) .nil (fun _ _ a b => .cons a b) r
  · exact .tup (x.seq _ _ e hn (.inl ⟨_, _, rfl⟩)).1 (x.seq _ _ e hn (.inl ⟨_, _, rfl⟩)).2 ih l
  · obtain ⟨l, rfl⟩ := hp
    exact .ref (getElem?_pre e)
  · obtain ⟨n', fs', e'⟩ := x.exc _ _ _ _ e hn c d
    exact .exc e' ⟨c.1, c.2⟩ rfl q n'
  · exact .rng (x.seq _ _ e hn (.inr ⟨rfl, _, rfl⟩)).1 (x.seq _ _ e hn (.inr ⟨rfl, _, rfl⟩)).2
  · exact .lst (x.seq _ _ e hn (.inl ⟨_, _, rfl⟩)).1 (x.seq _ _ e hn (.inl ⟨_, _, rfl⟩)).2 ih l
theorem VRs.map (hp : ∃ l, η' = η ++ l) (x : Holds η h η' h') : ∀ {v : List V} {m : List Value}, VRs X η h v m → VRs X η' h' v m
  | _, _, .nil => .nil
  | _, _, .cons a b => .cons (a.map hp x) (b.map hp x)
theorem Frm.of {l l' : List Addr} (x : Frm h l) (y : Frm h l') : Frm h (l ++ l') := fun b hb => (List.mem_append.mp hb).elim (x b) (y b)
theorem Step.holds (x : Step fr own η h η' h') (f : Frm h (own ++ fr)) : Holds η h η' h' := by
  have go : ∀ a o, h.get? a = some o → a ∉ η → ((∀ es n, o.data ≠ .dict es n) ∧ ∀ v, o.data ≠ .cell v) → h'.get? a = some o ∧ a ∉ η' := fun a o e hn hd =>
    have q := f.not e hd
    ⟨x.same a o e hn (fun z => q (List.mem_append.mpr (.inl z))) (fun z => q (List.mem_append.mpr (.inr z))), x.mem e hn⟩
  refine ⟨fun a o e hn hs => go a o e hn (by rcases hs with ⟨xs, n, d⟩ | ⟨_, fs, d⟩ <;> rw [d] <;> exact ⟨fun _ _ q => (nomatch q), fun _ q => (nomatch q)⟩), fun a o C fs e hn c d => ?_⟩
  obtain ⟨e', n'⟩ := go a o e hn (by rw [d]; exact ⟨fun _ _ q => (nomatch q), fun _ q => (nomatch q)⟩)
  exact ⟨n', fs, by rw [e']; cases o; simp only at d; subst d; rfl⟩
theorem Step.pre' (x : Step fr own η h η' h') : ∃ l, η' = η ++ l := let ⟨l, e, _⟩ := x.pre; ⟨l, e⟩
theorem Frm.nil (h : Heap) : Frm h [] := fun _ q => nomatch q
theorem VR.step (x : Step fr own η h η' h') (f : Frm h (own ++ fr)) {v : V} {m : Value} (r : VR X η h v m) : VR X η' h' v m := r.map x.pre' (x.holds f)
theorem VRs.step (x : Step fr own η h η' h') (f : Frm h (own ++ fr)) {v : List V} {m : List Value} (r : VRs X η h v m) : VRs X η' h' v m := r.map x.pre' (x.holds f)
theorem VR.up (x : Step fr [] η h η' h') (f : Frm h fr) {v : V} {m : Value} (r : VR X η h v m) : VR X η' h' v m := r.step x f
theorem VR.grow (x : Step [] [] η h η' h') {v : V} {m : Value} (r : VR X η h v m) : VR X η' h' v m := r.step x (Frm.nil h)
theorem VRs.grow (x : Step [] [] η h η' h') {v : List V} {m : List Value} (r : VRs X η h v m) : VRs X η' h' v m := r.step x (Frm.nil h)
end

inductive NRs (X : Cx) (η : List Addr) (h : Heap) : List (String × V) → List DictEntry → Prop
  | nil : NRs X η h [] []
  | cons {k : String} {v : V} {t : Tok} {es : List (String × V)} {e : DictEntry} {ds : List DictEntry} : e.key = .str (Str.ofString k) t → VR X η h v e.val → NRs X η h es ds → NRs X η h ((k, v) :: es) (e :: ds)

inductive OR (X : Cx) (η : List Addr) (h : Heap) : O → Obj → Prop
  | list {vs : List V} {items : Array Value} {n : Nat} : VRs X η h vs items.toList → vs.length ≤ line → OR X η h (.list vs) { cls := .type "list", data := .seq items n }
  | inst {c : String} {d : Nat} {C dx : Addr} : X.cl c = true → X.mg (Str.ofString c) = some (.ref C) → η[d]? = some dx → OR X η h (.inst c d) { cls := .ref C, dict := some dx, data := .plain }
  | ns {fs : List (String × V)} {ds : Array DictEntry} {n : Nat} : NRs X η h fs ds.toList → fs.length ≤ 21 → OR X η h (.ns fs) { cls := .type "dict", data := .dict ds n }
  | own {a b : Value} : OR X η h .own { cls := .type "tuple", data := .seq #[a, b] }

structure Inv (X : Cx) (η : List Addr) (H : Hp) (h : Heap) : Prop where
  keep : ∀ b o, X.base.get? b = some o → h.get? b = some o
  len : η.length = H.length
  fresh : ∀ a ∈ η, X.base.get? a = Option.none
  nodup : η.Nodup
  objs : ∀ (n : Nat) (a : Addr) (o : O), η[n]? = some a → H[n]? = some o → ∃ ob, h.get? a = some ob ∧ OR X η h o ob

section
variable {X : Cx} {fr own η η' : List Addr} {h h' : Heap} {H : Hp}
theorem NRs.map (hp : ∃ l, η' = η ++ l) (x : Holds η h η' h') {es : List (String × V)} {ds : List DictEntry} (r : NRs X η h es ds) : NRs X η' h' es ds := by
  induction r with
  | nil => exact .nil
  | cons a c _ ih => exact .cons a (c.map hp x) ih
theorem OR.map (hp : ∃ l, η' = η ++ l) (x : Holds η h η' h') {o : O} {ob : Obj} (r : OR X η h o ob) : OR X η' h' o ob := by
  cases r with
  | list d e => exact .list (d.map hp x) e
  | inst a a' b =>
    obtain ⟨l, rfl⟩ := hp
    exact .inst a a' (getElem?_pre b)
  | ns d e => exact .ns (d.map hp x) e
  | own => exact .own

theorem Inv.still (i : Inv X η H h) (x : Step fr own η h η h') (f : Frm h (own ++ fr)) (hm : ∀ a ∈ η, ∀ o, h.get? a = some o → h'.get? a = some o) (hf : ∀ b ∈ own ++ fr, X.base.get? b = Option.none) : Inv X η H h' := by
  refine ⟨fun b o e => ?_, i.len, i.fresh, i.nodup, fun n a o ha ho => ?_⟩
  · have no : b ∉ own ++ fr := fun q => by rw [hf b q] at e; cases e
    exact x.same b o (i.keep b o e) (fun q => by rw [i.fresh b q] at e; cases e) (fun q => no (List.mem_append.mpr (.inl q))) fun q => no (List.mem_append.mpr (.inr q))
  · obtain ⟨ob, e, r⟩ := i.objs n a o ha ho
    exact ⟨ob, hm a (List.mem_of_getElem? ha) ob e, r.map x.pre' (x.holds f)⟩

theorem Inv.ext (i : Inv X η H h) (k : ∀ b o, h.get? b = some o → h'.get? b = some o) : Inv X η H h' :=
  i.still (fr := []) (own := []) (Step.ext _ _ _ k) (Frm.nil h) (fun _ _ o e => k _ o e) fun _ q => nomatch q
end

theorem Inv.alive {X : Cx} {η : List Addr} {H : Hp} {h : Heap} (i : Inv X η H h) {a : Addr} (ha : a ∈ η) : ∃ ob, h.get? a = some ob := by
  obtain ⟨n, hn, e⟩ := List.getElem_of_mem ha
  have hH : n < H.length := i.len ▸ hn
  obtain ⟨ob, e', _⟩ := i.objs n a H[n] (by rw [List.getElem?_eq_getElem hn, e]) (List.getElem?_eq_getElem hH)
  exact ⟨ob, e'⟩

theorem push_keeps (h : Heap) (ob : Obj) : ∀ b o, h.get? b = some o → (h.push ob).get? b = some o := fun _ _ e => Heap.get?_push_of_some ob e
theorem size_none (h : Heap) : h.get? h.objs.size = Option.none := by
  cases e : h.get? h.objs.size with
  | none => rfl
  | some o => exact absurd (Heap.lt_size e) (Nat.lt_irrefl _)

theorem Inv.size_off {X : Cx} {η : List Addr} {H : Hp} {h : Heap} (i : Inv X η H h) : h.objs.size ∉ η := fun q => by
  obtain ⟨ob, e⟩ := i.alive q
  rw [size_none] at e; cases e

theorem Inv.make {X : Cx} {η : List Addr} {h h' : Heap} {H : Hp} {a : Addr} {o : O} {ob : Obj} (i : Inv X η H h) (k : ∀ b o, h.get? b = some o → h'.get? b = some o) (ha : h.get? a = Option.none) (e : h'.get? a = some ob) (r : OR X (η ++ [a]) h' o ob) : Inv X (η ++ [a]) (H ++ [o]) h' := by
  have an : a ∉ η := fun q => by obtain ⟨ob', z⟩ := i.alive q; rw [ha] at z; cases z
  refine ⟨fun b o e => k b o (i.keep b o e), by simp [i.len], fun b hb => ?_, ?_, fun n b o' hb ho => ?_⟩
  · rcases List.mem_append.mp hb with hb | hb
    · exact i.fresh b hb
    · rw [List.mem_singleton] at hb; subst hb
      cases g : X.base.get? b with
      | none => rfl
      | some o => have := i.keep _ _ g; rw [ha] at this; cases this
  · rw [List.nodup_append]
    refine ⟨i.nodup, List.nodup_cons.mpr ⟨(fun q => nomatch q), List.nodup_nil⟩, fun b hb c hc => ?_⟩
    rw [List.mem_singleton] at hc; subst hc
    rintro rfl
    exact an hb
  · by_cases hn : n < η.length
    · rw [List.getElem?_append_left hn] at hb
      rw [List.getElem?_append_left (i.len ▸ hn)] at ho
      obtain ⟨ob', e', r'⟩ := i.objs n b o' hb ho
      exact ⟨ob', k _ _ e', r'.map ⟨_, rfl⟩ ((Step.make [] [] η k ha).holds (Frm.nil h))⟩
    · have hn' := Nat.le_of_not_lt hn
      rw [List.getElem?_append_right hn'] at hb
      rw [List.getElem?_append_right (i.len ▸ hn')] at ho
      have e0 : n - η.length = 0 := by
        cases q : n - η.length with
        | zero => rfl
        | succ j => rw [q] at hb; cases hb
      rw [e0] at hb
      rw [← i.len, e0] at ho
      cases hb; cases ho
      exact ⟨ob, e, r⟩
theorem Step.push (fr own η : List Addr) (h : Heap) (ob : Obj) : Step fr own η h (η ++ [h.objs.size]) (h.push ob) := Step.make fr own η (push_keeps h ob) (size_none h)
theorem Inv.alloc {X : Cx} {η : List Addr} {h : Heap} {H : Hp} (i : Inv X η H h) {o : O} {ob : Obj} (r : OR X (η ++ [h.objs.size]) (h.push ob) o ob) (hfree : ob.isFreed = false) : Inv X (η ++ [h.objs.size]) (H ++ [o]) (h.push ob) :=
  i.make (push_keeps h ob) (size_none h) (Heap.get?_push_size _ hfree) r
end Mine

/-! R2 -/
namespace Mine
open PySem PyProof.Rows

theorem Frm.step {fr own η η' : List Addr} {h h' : Heap} {l : List Addr} (x : Step fr own η h η' h') (f : Frm h l) (hl : ∀ b ∈ l, b ∉ η) : Frm h' l := by
  intro b hb
  obtain ⟨o, e, q⟩ := f b hb
  rcases q with ⟨es, n, d⟩ | ⟨v, d⟩
  · obtain ⟨o', es', n', e', d'⟩ := x.dicts b o e (hl b hb) es n d
    exact ⟨o', e', .inl ⟨es', n', d'⟩⟩
  · obtain ⟨o', v', e', d'⟩ := x.cells b o e (hl b hb) v d
    exact ⟨o', e', .inr ⟨v', d'⟩⟩

theorem Step.data' {fr η η' : List Addr} {h h' : Heap} (x : Step fr [] η h η' h') {b : Addr} {o : Obj} (e : h.get? b = some o) (hb : b ∉ η) : ∃ sl, h'.get? b = some { o with slots := sl } := let ⟨sl, e, _⟩ := x.data b o e hb (fun q => nomatch q); ⟨sl, e⟩
noncomputable def frs (st : List Env) : List Addr := st.filterMap (·.frame)

structure Stk (X : Cx) (η : List Addr) (A : Around) (st : List Env) (h : Heap) : Prop where
  frames : A.frames = some st
  ok : h.FunFrames X.base st
  off : ∀ a ∈ frs st, a ∉ η
  frm : Frm h (frs st)

noncomputable def ownOf (env : Env) : List Addr := env.locals :: env.cells.map (·.2)

noncomputable def isVar (sc : Scope) (x : Str) : Bool := !(x == (".0" : Str)) && match sc.names.lookup x with
  | some .local | some .cell | some .free => true
  | _ => false

noncomputable def Held (h : Heap) (env : Env) (x : Str) (mv : Value) : Prop :=
  (env.kindOf x = some .local ∧ ∃ m, h.Ns env.locals m ∧ m x = some mv) ∨
  ((env.kindOf x = some .cell ∨ env.kindOf x = some .free) ∧ ∃ c o, env.cells.lookup x = some c ∧ h.get? c = some o ∧ o.data = .cell (some mv))

structure FrameOK (X : Cx) (η : List Addr) (h : Heap) (env : Env) : Prop where
  kind : env.scope.kind = .function
  glob : env.globals = mainGlobals
  blt : env.builtins = builtinsNs
  ns : ∃ m, h.Ns env.locals m
  cell : ∀ p ∈ env.cells, ∃ o v, h.get? p.2 = some o ∧ o.data = .cell v
  cells : ∀ x, env.kindOf x = some .cell → ∃ c, env.cells.lookup x = some c
  inj : ∀ x y c, env.cells.lookup x = some c → env.cells.lookup y = some c → x = y
  off : ∀ a ∈ ownOf env, a ∉ η ∧ X.base.get? a = Option.none

structure Room (n : Nat) (A : Around) : Prop where
  depth : A.depth + 2 * n < recursionLimit
  units : A.units + 8 * n + 300 < cLine

noncomputable def RhoR (X : Cx) (η : List Addr) (h : Heap) (env : Env) (ρ : Rho) : Prop := ∀ x v, ρ.lookup x = some v → isVar env.scope (Str.ofString x) = true → ∃ mv, Held h env (Str.ofString x) mv ∧ VR X η h v mv

set_option genInjectivity false in
structure Ct where
  X : Cx
  n : Nat
  A : Around
  env : Env
  st : List Env
  Γ : Fn

noncomputable abbrev Ct.inn (κ : Ct) (e : Env) : Ct := { κ with env := e }
noncomputable abbrev Ct.mark (κ : Ct) (e : Addr) : Ct := { κ with A := κ.A.mark (some (.ref e)), Γ := { κ.Γ with hd := true } }

structure At (κ : Ct) (η : List Addr) (ρ : Rho) (H : Hp) (s : Shared) : Prop where
  inv : Inv κ.X η H s.heap
  fok : FrameOK κ.X η s.heap κ.env
  rho : RhoR κ.X η s.heap κ.env ρ
  stk : Stk κ.X η κ.A κ.st s.heap
  room : Room κ.n κ.A
  hand : κ.Γ.hd = false → κ.A.handled = Option.none

theorem lookup_mem {α β : Type} [BEq α] [LawfulBEq α] {l : List (α × β)} {a : α} {b : β} (e : l.lookup a = some b) : (a, b) ∈ l := by
  induction l with
  | nil => cases e
  | cons p l ih =>
    obtain ⟨x, y⟩ := p
    rw [List.lookup_cons] at e
    by_cases h : (a == x) = true
    · simp only [h] at e
      cases e
      rw [eq_of_beq h]; exact List.Mem.head _
    · simp only [h] at e
      exact List.Mem.tail _ (ih e)

section
variable {X : Cx} {A : Around} {env : Env} {st : List Env} {κ : Ct} {η η' : List Addr} {ρ : Rho} {H H' : Hp} {s : Shared} {h' : Heap} {fr : List Addr}

theorem FrameOK.frm (x : FrameOK X η s.heap env) : Frm s.heap (ownOf env) := by
  intro b hb
  rcases List.mem_cons.mp hb with rfl | hb
  · obtain ⟨m, o, es, ep, e, d, _⟩ := x.ns
    exact ⟨o, e, .inl ⟨es, ep, d⟩⟩
  · obtain ⟨p, hp, rfl⟩ := List.mem_map.mp hb
    obtain ⟨o, v, e, d⟩ := x.cell p hp
    exact ⟨o, e, .inr ⟨v, d⟩⟩

theorem Ns.step {a : Addr} {m : Str → Option Value} (x : Step fr [] η s.heap η' h') (hn : s.heap.Ns a m) (ha : a ∉ η) : h'.Ns a m := by
  obtain ⟨o, es, ep, e, d, r⟩ := hn
  obtain ⟨sl, e'⟩ := x.data' e ha
  exact ⟨_, es, ep, e', d, r⟩

theorem Held.step {x : Str} {mv : Value} (st' : Step fr [] η s.heap η' h') (f : FrameOK X η s.heap env) (hh : Held s.heap env x mv) : Held h' env x mv := by
  rcases hh with ⟨hk, m, hn, hm⟩ | ⟨hk, c, o, hc, e, d⟩
  · exact .inl ⟨hk, m, Ns.step st' hn (f.off _ (List.Mem.head _)).1, hm⟩
  · obtain ⟨sl, e'⟩ := st'.data' e (f.off c (List.mem_cons.mpr (.inr (List.mem_map.mpr ⟨(x, c), lookup_mem hc, rfl⟩)))).1
    exact .inr ⟨hk, c, _, hc, e', d⟩


theorem FrameOK.step (st' : Step fr [] η s.heap η' h') (f : FrameOK X η s.heap env) : FrameOK X η' h' env := by
  have al : ∀ a ∈ ownOf env, ∃ o, s.heap.get? a = some o := fun a ha => let ⟨o, e, _⟩ := f.frm a ha; ⟨o, e⟩
  refine ⟨f.kind, f.glob, f.blt, ?_, fun p hp => ?_, f.cells, f.inj, fun a ha => ⟨?_, (f.off a ha).2⟩⟩
  · obtain ⟨m, hn⟩ := f.ns
    exact ⟨m, Ns.step st' hn (f.off _ (List.Mem.head _)).1⟩
  · obtain ⟨o, v, e, d⟩ := f.cell p hp
    obtain ⟨sl, e'⟩ := st'.data' e (f.off p.2 (List.mem_cons.mpr (.inr (List.mem_map.mpr ⟨p, hp, rfl⟩)))).1
    exact ⟨_, v, e', d⟩
  · obtain ⟨o, e⟩ := al a ha
    exact st'.mem e (f.off a ha).1

theorem Stk.step {own : List Addr} (x : Step fr own η s.heap η' h') (k : Stk X η A st s.heap) : Stk X η' A st h' := by
  refine ⟨k.frames, ?_, fun a ha => ?_, k.frm.step x k.off⟩
  · have : ∀ l : List Env, (∀ a ∈ frs l, a ∉ η) → Frm s.heap (frs l) → s.heap.FunFrames X.base l → h'.FunFrames X.base l := by
      intro l
      induction l with
      | nil => intro _ _ _; trivial
      | cons e l ih =>
        intro ho hf ⟨hk, ⟨L, o, hfr, hn, hg, hd⟩, hr⟩
        have hL : L ∈ frs (e :: l) := by unfold frs; rw [List.filterMap_cons, hfr]; exact List.Mem.head _
        have sub : ∀ a ∈ frs l, a ∈ frs (e :: l) := by intro a ha; unfold frs at *; rw [List.filterMap_cons, hfr]; exact List.Mem.tail _ ha
        refine ⟨hk, ?_, ih (fun a ha => ho a (sub a ha)) (fun a ha => hf a (sub a ha)) hr⟩
        obtain ⟨o', e', q⟩ := (Frm.step x hf ho) L hL
        refine ⟨L, o', hfr, hn, e', fun vs z => ?_⟩
        rcases q with ⟨_, _, q⟩ | ⟨_, q⟩ <;> (rw [z] at q; cases q)
    exact this st k.off k.frm k.ok
  · obtain ⟨o, e, _⟩ := k.frm a ha
    exact x.mem e (k.off a ha)

theorem Stk.fresh (k : Stk X η A st s.heap) : ∀ a ∈ frs st, X.base.get? a = Option.none := fun _ ha => (k.ok.mem ha).1

theorem At.step (a : At κ η ρ H s) (x : Step (frs κ.st) [] η s.heap η' h') (i : Inv κ.X η' H' h') (tk : Nat) : At κ η' ρ H' { s with heap := h', toks := tk } :=
  ⟨i, a.fok.step x, fun y v e hv => let ⟨mv, hh, r⟩ := a.rho y v e hv; ⟨mv, hh.step x a.fok, r.up x a.stk.frm⟩, a.stk.step x, a.room, a.hand⟩
end

inductive Post (X : Cx) (fr own η : List Addr) (s : Shared) (H' : Hp) (P : List Addr → Heap → Prop) (s' : Shared) : Prop
  | mk (η' : List Addr) (h' : Heap) (tk : Nat) (e : s' = { s with heap := h', toks := tk }) (i : Inv X η' H' h') (x : Step fr own η s.heap η' h') (p : P η' h') : Post X fr own η s H' P s'

inductive TbAt (X : Cx) (st : List Env) (h0 : Heap) (e : Addr) (vs : Array Value) (η' : List Addr) (h' : Heap) : Prop
  | mk (T : Addr) (oT : Obj) (ts : Array Value) (fl : Value) (q1 : vs[1]? = some (.ref T)) (q2 : T ≠ e) (q3 : h'.get? T = some oT) (q4 : oT.cls = .type "traceback") (q5 : oT.data = .fields ts) (q6 : T ∉ η') (q7 : h0.get? T = Option.none) (q8 : ts[3]? = some fl)
    (q9 : fl = .none ∨ ∃ L, (frs st).head? = some L ∧ fl = rawInt L) : TbAt X st h0 e vs η' h'
inductive ExcAt (X : Cx) (st : List Env) (h0 : Heap) (ev : Value) (c : String) (η' : List Addr) (h' : Heap) : Prop
  | mk (e : Addr) (oe : Obj) (vs : Array Value) (C : Addr) (q1 : ev = .ref e) (q2 : h'.get? e = some oe) (q3 : ExCls X c C) (q4 : ObjCls oe C) (q5 : oe.data = .fields vs) (q6 : e ∉ η') (q7 : h0.get? e = Option.none) (q8 : 4 < vs.size)
    (q9 : vs[1]? = some .none ∨ TbAt X st h0 e vs η' h') : ExcAt X st h0 ev c η' h'

theorem ExcAt.older {X : Cx} {st : List Env} {h0 h1 : Heap} {ev : Value} {c : String} {η : List Addr} {h : Heap} (x : ExcAt X st h1 ev c η h) (k : ∀ b o, h0.get? b = some o → ∃ o', h1.get? b = some o') : ExcAt X st h0 ev c η h := by
  have old : ∀ b, h1.get? b = Option.none → h0.get? b = Option.none := fun b hb => by
    cases e : h0.get? b with
    | none => rfl
    | some o => obtain ⟨o', e'⟩ := k b o e; rw [hb] at e'; cases e'
  obtain ⟨e, oe, vs, C, h1, h2, h3, h4, h5, h6, h7, h8, h9⟩ := x
  refine ⟨e, oe, vs, C, h1, h2, h3, h4, h5, h6, old _ h7, h8, ?_⟩
  rcases h9 with h9 | ⟨T, oT, ts, fl, g1, g2, g3, g4, g5, g5', g6, g7, g8⟩
  · exact .inl h9
  · exact .inr ⟨T, oT, ts, fl, g1, g2, g3, g4, g5, g5', old _ g6, g7, g8⟩

noncomputable abbrev noE : Value → Shared → Prop := fun _ _ => False
theorem monoN {M : Model} {A : Around} {α : Type} {m : Sem α} {Q Q' : α → Shared → Prop} {E : Value → Shared → Prop} {s : Shared} (h : wpAny M A m Q noE s) (hq : ∀ a s, Q a s → Q' a s) : wpAny M A m Q' E s := wpAny_mono h hq fun _ _ q => q.elim

inductive OkAt (X : Cx) (st : List Env) {α β : Type} (rel : β → α → Prop × List (V × Value)) (η : List Addr) (s : Shared) (r : R β) (a : α) (s' : Shared) : Prop
  | mk (b : β) (H' : Hp) (e : r = .ok b H') (q : (rel b a).1) (p : Post X (frs st) [] η s H' (fun η' h' => ∀ p ∈ (rel b a).2, VR X η' h' p.1 p.2) s') : OkAt X st rel η s r a s'
inductive RaiseAt (X : Cx) (st : List Env) {β : Type} (η : List Addr) (s : Shared) (r : R β) (ev : Value) (s' : Shared) : Prop
  | mk (c : String) (H' : Hp) (e : r = .raise c H') (p : Post X (frs st) [] η s H' (fun η' h' => ExcAt X st s.heap ev c η' h') s') : RaiseAt X st η s r ev s'

noncomputable def Tri (κ : Ct) (ρ : Rho) {α β : Type} (vs : List (V × Value)) (m : Sem α) (H : Hp) (r : R β) (rel : β → α → Prop × List (V × Value)) : Prop :=
  r ≠ .stuck → ∀ η s, At κ η ρ H s → (∀ p ∈ vs, VR κ.X η s.heap p.1 p.2) → wpAny κ.X.M κ.A m (OkAt κ.X κ.st rel η s r) (RaiseAt κ.X κ.st η s r) s

section
variable {X : Cx} {κ : Ct} {ρ : Rho} {α β γ δ : Type} {vs : List (V × Value)} {H : Hp}

theorem Post.trans {fr own η η1 : List Addr} {s : Shared} {h1 : Heap} {tk : Nat} {H' : Hp} {P P' : List Addr → Heap → Prop} {s' : Shared} (x : Step fr own η s.heap η1 h1)
    (y : Post X fr own η1 { s with heap := h1, toks := tk } H' P s') (hp : ∀ η' h', P η' h' → P' η' h') : Post X fr own η s H' P' s' := by
  obtain ⟨η', h', tk', rfl, i, st, p⟩ := y
  exact ⟨η', h', tk', rfl, i, x.trans st, hp _ _ p⟩
section
variable {st : List Env} {η η1 : List Addr} {s : Shared} {h1 : Heap} {tk : Nat} {r : R β} {s' : Shared}
theorem OkAt.after {rel : β → α → Prop × List (V × Value)} {a : α} (x : Step (frs st) [] η s.heap η1 h1) (y : OkAt X st rel η1 { s with heap := h1, toks := tk } r a s') : OkAt X st rel η s r a s' := by
  obtain ⟨b, H', e, q, p⟩ := y
  exact ⟨b, H', e, q, p.trans x fun _ _ q => q⟩
theorem RaiseAt.after {ev : Value} (x : Step (frs st) [] η s.heap η1 h1) (y : RaiseAt X st η1 { s with heap := h1, toks := tk } r ev s') : RaiseAt X st η s r ev s' := by
  obtain ⟨c, H', e, p⟩ := y
  exact ⟨c, H', e, p.trans x fun _ _ q => q.older x.alive⟩
end

theorem Tri.via {m : Sem α} {m' : Sem γ} {W : α → (γ → Shared → Prop) → (Value → Shared → Prop) → Shared → Prop} {r : R β} {f : β → Hp → R δ} {rel : β → α → Prop × List (V × Value)} {rel' : δ → γ → Prop × List (V × Value)}
    (hw : ∀ Q E s, wpAny κ.X.M κ.A m (fun a s1 => W a Q E s1) E s → wpAny κ.X.M κ.A m' Q E s) (h1 : Tri κ ρ vs m H r rel)
    (h2 : ∀ b H1 a, r = .ok b H1 → (rel b a).1 → f b H1 ≠ .stuck → ∀ η s Q E, At κ η ρ H1 s → (∀ p ∈ vs ++ (rel b a).2, VR κ.X η s.heap p.1 p.2) → (∀ d s', OkAt κ.X κ.st rel' η s (f b H1) d s' → Q d s') → (∀ ev s', RaiseAt κ.X κ.st η s (f b H1) ev s' → E ev s') → W a Q E s) :
    Tri κ ρ vs m' H (r.bind f) rel' := by
  intro hs η s a hv
  have hr : r ≠ .stuck := by rintro rfl; exact hs rfl
  refine hw _ _ _ (wpAny_mono (h1 hr η s a hv) (fun x s1 hx => ?_) fun ev s1 hx => ?_)
  · obtain ⟨b, H1, rfl, hrel, η1, h', tk, rfl, i, stp, hp⟩ := hx
    refine h2 b H1 x rfl hrel hs η1 _ _ _ (a.step stp i tk) (fun p hm => ?_) (fun d s' o => o.after stp) fun ev s' o => o.after stp
    rcases List.mem_append.mp hm with hm | hm
    · exact (hv p hm).up stp a.stk.frm
    · exact hp p hm
  · obtain ⟨c, H1, rfl, hP⟩ := hx
    exact ⟨c, H1, rfl, hP⟩

theorem Tri.bind {m : Sem α} {k : α → Sem γ} {r : R β} {f : β → Hp → R δ} {rel : β → α → Prop × List (V × Value)} {rel' : δ → γ → Prop × List (V × Value)}
    (h1 : Tri κ ρ vs m H r rel) (h2 : ∀ b H1 a, r = .ok b H1 → (rel b a).1 → Tri κ ρ (vs ++ (rel b a).2) (k a) H1 (f b H1) rel') :
    Tri κ ρ vs (m >>= k) H (r.bind f) rel' :=
  Tri.via (W := fun a Q E s => wpAny κ.X.M κ.A (k a) Q E s) (fun _ _ _ q => wpAny_bind q) h1 fun b H1 a e q hs η s Q E at' hv hq he => wpAny_mono (h2 b H1 a e q hs η s at' hv) hq he

theorem Tri.skip {m : Sem α} {k : α → Sem γ} {r : R δ} {rel' : δ → γ → Prop × List (V × Value)} {a₀ : α}
    (hm : ∀ (Q : α → Shared → Prop) (E : Value → Shared → Prop) (s : Shared), Q a₀ s → wpAny κ.X.M κ.A m Q E s) (h : Tri κ ρ vs (k a₀) H r rel') : Tri κ ρ vs (m >>= k) H r rel' :=
  fun hs η s a hv => wpAny_bind (hm _ _ _ (h hs η s a hv))

theorem Tri.holding {m : Sem α} {l : List Value} {r : R β} {rel : β → α → Prop × List (V × Value)} (h : Tri κ ρ vs m H r rel) : Tri κ ρ vs (PySem.holding l m) H r rel :=
  fun hs η s a hv => wpAny_holding (h hs η s a hv)

theorem Tri.stand {pos : Pos} {k : Unit → Sem γ} {r : R δ} {rel' : δ → γ → Prop × List (V × Value)} (h : Tri κ ρ vs (k ()) H r rel') : Tri κ ρ vs (standAt pos >>= k) H r rel' :=
  Tri.skip (a₀ := ()) (fun _ _ _ q => wpAny_standAt q) h

theorem Tri.pure {a : α} {b : β} {rel : β → α → Prop × List (V × Value)} (h1 : (rel b a).1) (h2 : ∀ p ∈ (rel b a).2, p ∈ vs) : Tri κ ρ vs (Pure.pure a) H (.ok b H) rel :=
  fun _ η s at' hv => wpAny_pure ⟨b, H, rfl, h1, η, s.heap, s.toks, rfl, at'.inv, Step.refl _ _ _ _, fun p hp => hv p (h2 p hp)⟩

theorem Tri.fewer {m : Sem α} {r : R β} {rel : β → α → Prop × List (V × Value)} {vs' : List (V × Value)} (h : Tri κ ρ vs' m H r rel) (h1 : ∀ p ∈ vs', p ∈ vs) : Tri κ ρ vs m H r rel :=
  fun hs η s a hv => h hs η s a fun p hp => hv p (h1 p hp)
theorem Tri.any {m : Sem α} {r : R β} {rel : β → α → Prop × List (V × Value)} (h : Tri κ ρ [] m H r rel) : Tri κ ρ vs m H r rel := h.fewer fun _ q => nomatch q
theorem Tri.rel_of {m : Sem α} {r r' : R β} {rel : β → α → Prop × List (V × Value)} (h : Tri κ ρ vs m H r rel) (e : r = r') : Tri κ ρ vs m H r' rel := e ▸ h
theorem Tri.stuck {m : Sem α} {rel : β → α → Prop × List (V × Value)} : Tri κ ρ vs m H .stuck rel := fun h => absurd rfl h
theorem Tri.operate {m : Sem Value} {l : List Value} {r : R β} {rel : β → Value → Prop × List (V × Value)} (h : Tri κ ρ vs m H r rel) : Tri κ ρ vs (PySem.operate l m) H r rel :=
  fun hs η s a hv => wpAny_operating (h hs η s a hv)

theorem Tri.reads {m : Sem α} {b : β} {rel : β → α → Prop × List (V × Value)}
    (h : ∀ (η : List Addr) (s : Shared) (Q : α → Shared → Prop) (E : Value → Shared → Prop), At κ η ρ H s → (∀ p ∈ vs, VR κ.X η s.heap p.1 p.2) →
      (∀ a h' tk, (∀ b o, s.heap.get? b = some o → h'.get? b = some o) → (rel b a).1 → (∀ p ∈ (rel b a).2, VR κ.X η h' p.1 p.2) → Q a { s with heap := h', toks := tk }) → wpAny κ.X.M κ.A m Q E s) :
    Tri κ ρ vs m H (.ok b H) rel :=
  fun _ η s at' hv => h η s _ _ at' hv fun a h' tk k h1 h2 => ⟨b, H, rfl, h1, η, h', tk, rfl, at'.inv.ext k, Step.ext _ _ _ k, h2⟩
end

noncomputable def rV (v : V) (m : Value) : Prop × List (V × Value) := (True, [(v, m)])
theorem rV1 {X : Cx} {η : List Addr} {h : Heap} {v : V} {m : Value} {p : V × Value} (hp : p ∈ (rV v m).2) (r : VR X η h v m) : VR X η h p.1 p.2 := List.mem_singleton.mp hp ▸ r
theorem m0 {α : Type} {a : α} {l : List α} : a ∈ l ++ [a] := List.mem_append.mpr (.inr (List.Mem.head _))
theorem m1 {α : Type} {a : α} {l k : List α} (h : a ∈ l) : a ∈ l ++ k := List.mem_append.mpr (.inl h)
noncomputable def rL (vs : List V) (ms : List Value) : Prop × List (V × Value) := (vs.length = ms.length, vs.zip ms)
noncomputable def rB (b : Bool) (a : Bool) : Prop × List (V × Value) := (a = b, [])

theorem VRs.of_zip {X : Cx} {η : List Addr} {h : Heap} : ∀ {vs : List V} {ms : List Value}, vs.length = ms.length → (∀ p ∈ vs.zip ms, VR X η h p.1 p.2) → VRs X η h vs ms
  | [], [], _, _ => .nil
  | _ :: _, _ :: _, e, hp => .cons (hp (_, _) (List.Mem.head _)) (VRs.of_zip (Nat.succ.inj e) fun p hm => hp p (List.Mem.tail _ hm))
  | [], _ :: _, e, _ => nomatch e
  | _ :: _, [], e, _ => nomatch e
theorem VRs.length {X : Cx} {η : List Addr} {h : Heap} : ∀ {vs : List V} {ms : List Value}, VRs X η h vs ms → vs.length = ms.length
  | _, _, .nil => rfl
  | _, _, .cons _ r => congrArg Nat.succ r.length
theorem VRs.zip {X : Cx} {η : List Addr} {h : Heap} : ∀ {vs : List V} {ms : List Value}, VRs X η h vs ms → ∀ p ∈ vs.zip ms, VR X η h p.1 p.2
  | _, _, .nil, _, hp => nomatch hp
  | _, _, .cons a r, p, hp => by
    rcases List.mem_cons.mp hp with rfl | hp
    · exact a
    · exact r.zip p hp
noncomputable def Ends (X : Cx) (env : Env) (ρ : Rho) (η : List Addr) (h : Heap) : Prop := FrameOK X η h env ∧ RhoR X η h env ρ
end Mine

/-! R3 -/
namespace Mine
open PySem PyProof.Rows

/-! data read off -/
inductive Rd (h : Heap) (n : Nat) (m : Value) (d : PyData) : Prop
  | mk (as : List Addr) (r : Reads h m d as) (c : d.canLay0 = true) (e : d.depth ≤ n) : Rd h n m d
inductive Rds (h : Heap) (n : Nat) (ms : List Value) (ds : List PyData) : Prop
  | mk (as : List Addr) (r : ReadsAll h ms ds as) (c : PyData.canLayAll0 ds = true) (e : PyData.depthAll ds ≤ n) : Rds h n ms ds

section
variable {X : Cx} {η : List Addr} {H : Hp} {h : Heap}
theorem flat_reads {n : Nat} {v : V} {m : Value} {d : PyData} (r : VR X η h v m) (e : flatD v = some d) : Rd h n m d := by
  cases r with
  | none => cases e; exact ⟨_, .none, by simp [PyData.canLay0], by simp [PyData.depth]⟩
  | bool b => cases e; exact ⟨_, .bool b, by simp [PyData.canLay0], by simp [PyData.depth]⟩
  | int b t => cases e; exact ⟨_, .int b t, by simp [PyData.canLay0], by simp [PyData.depth]⟩
  | str b t q => cases e; exact ⟨_, .str b t, by simp [PyData.canLay0, q], by simp [PyData.depth]⟩
  | _ => cases e
theorem mapM_reads {n : Nat} {f : V → Option PyData} (ih : ∀ {v : V} {m : Value} {d : PyData}, VR X η h v m → f v = some d → Rd h n m d) : ∀ {vs : List V} {ms : List Value} {ds : List PyData}, VRs X η h vs ms → vs.mapM f = some ds → Rds h n ms ds
  | [], _, ds, .nil, e => by
    cases e
    exact ⟨_, .nil, by simp [PyData.canLayAll0], by simp [PyData.depthAll]⟩
  | v :: vs, _, ds, .cons a r, e => by
    rw [List.mapM_cons] at e
    obtain ⟨d, e1, e⟩ := Option.bind_eq_some_iff.mp e
    obtain ⟨es, e2, e⟩ := Option.bind_eq_some_iff.mp e
    cases e
    obtain ⟨as, q, c, dd⟩ := ih a e1
    obtain ⟨bs, p, c', dd'⟩ := mapM_reads ih r e2
    exact ⟨_, .cons q p, by simp [PyData.canLayAll0, c, c'], by simp only [PyData.depthAll]; omega⟩
theorem line_lt : line ≤ sizeLine := by unfold line sizeLine; decide

theorem list_of_H {k : Nat} {a : Addr} {xs : List V} (i : Inv X η H h) (ha : η[k]? = some a) (hk : H[k]? = some (.list xs)) :
    ∃ items n, h.get? a = some { cls := .type "list", data := .seq items n } ∧ VRs X η h xs items.toList ∧ xs.length ≤ line := by
  obtain ⟨ob, g, o⟩ := i.objs k a _ ha hk
  cases o with
  | list r l => exact ⟨_, _, g, r, l⟩
theorem listAt_inv {v : V} {xs : List V} (e : listAt v H = some xs) : ∃ k, v = .ref k ∧ H[k]? = some (.list xs) := by
  cases v with
  | ref k =>
    cases hk : H[k]? with
    | none => rw [listAt, hk] at e; cases e
    | some o =>
      cases o with
      | list ys => rw [listAt, hk] at e; cases e; exact ⟨k, rfl, hk⟩
      | _ => rw [listAt, hk] at e; cases e
  | _ => cases e
theorem vr_list {v : V} {m : Value} {xs : List V} (i : Inv X η H h) (r : VR X η h v m) (e : listAt v H = some xs) : ∃ a items c, m = .ref a ∧ h.get? a = some { cls := .type "list", data := .seq items c } ∧ VRs X η h xs items.toList ∧ xs.length ≤ line := by
  obtain ⟨k, rfl, hk⟩ := listAt_inv e
  cases r with
  | ref ea =>
    obtain ⟨items, c, g, r, l⟩ := list_of_H i ea hk
    exact ⟨_, items, c, rfl, g, r, l⟩
theorem vr_int {v : V} {m : Value} {i : Int} (r : VR X η h v m) (e : intAt v = some i) : ∃ t, m = .int i t := by
  cases r with
  | int j t => cases e; exact ⟨t, rfl⟩
  | _ => cases e
theorem vr_str {v : V} {m : Value} {x : Str} (r : VR X η h v m) (e : strAt v = some x) : ∃ t, m = .str x t ∧ PyData.strOk x = true := by
  cases r with
  | str j t q => cases e; exact ⟨t, rfl, q⟩
  | _ => cases e
theorem snap_reads (i : Inv X η H h) : ∀ (n : Nat) {v : V} {m : Value} {d : PyData}, VR X η h v m → snap n H v = some d → Rd h n m d
  | 0, _, _, _, r, e => flat_reads r e
  | n + 1, v, m, d, r, e => by
    cases v with
    | tup vs =>
      cases r with
      | tup g hn r _ =>
        obtain ⟨ds, e2, rfl⟩ := Option.map_eq_some_iff.mp e
        obtain ⟨as, q, c, dd⟩ := mapM_reads (snap_reads i n) r e2
        exact ⟨as, .tuple g rfl rfl q, by simpa [PyData.canLay0] using c, by simp only [PyData.depth]; omega⟩
    | ref k =>
      obtain ⟨vs, e1, e⟩ := Option.bind_eq_some_iff.mp e
      obtain ⟨ds, e2, rfl⟩ := Option.map_eq_some_iff.mp e
      obtain ⟨a, items, c0, rfl, g, r, _⟩ := vr_list i r e1
      obtain ⟨as, q, c, dd⟩ := mapM_reads (snap_reads i n) r e2
      exact ⟨_, .list g rfl rfl q, by simpa [PyData.canLay0] using c, by simp only [PyData.depth]; omega⟩
    | _ => exact flat_reads r e

theorem shaped_of {d : PyData} {n : Nat} (c : d.canLay0 = true) (e : d.depth ≤ n) (hn : n ≤ 64) : SeqAt.shaped d = true := by
  unfold SeqAt.shaped
  rw [c, Bool.true_and]
  exact decide_eq_true (Nat.le_trans e hn)
theorem VRs.append : ∀ {xs ys : List V} {ms ns : List Value}, VRs X η h xs ms → VRs X η h ys ns → VRs X η h (xs ++ ys) (ms ++ ns)
  | _, _, _, _, .nil, r => r
  | _, _, _, _, .cons a l, r => .cons a (l.append r)
theorem VRs.size {xs : List V} {ms : Array Value} (r : VRs X η h xs ms.toList) : ms.size = xs.length := by rw [r.length]; simp
theorem strOk_append {x y : Str} (a : PyData.strOk x = true) (b : PyData.strOk y = true) : PyData.strOk (x ++ y) = true := by
  unfold PyData.strOk at *
  show (x.cps ++ y.cps).all _ = true
  rw [Array.all_append, a, b]; rfl
end

section
variable {κ : Ct} {X : Cx} {A : Around} {ρ : Rho} {vs : List (V × Value)} {H : Hp}

theorem Tri.plain {m : Sem Value} {v : V} (h : ∀ (η : List Addr) (s : Shared) (Q : Value → Shared → Prop) (E : Value → Shared → Prop), At κ η ρ H s → (∀ p ∈ vs, VR κ.X η s.heap p.1 p.2) →
      (∀ a tk, VR κ.X η s.heap v a → Q a { s with toks := tk }) → wpAny κ.X.M κ.A m Q E s) : Tri κ ρ vs m H (.ok v H) rV :=
  Tri.reads fun η s Q E at' hv hq => h η s Q E at' hv fun a tk r => hq a s.heap tk (fun _ _ e => e) trivial fun p hp => rV1 hp r

noncomputable def opOf : Op → Operator
  | .add => .Add
  | .sub => .Sub
  | .mul => .Mult
  | .fdiv => .FloorDiv
  | .mod => .Mod
  | .pow => .Pow

theorem Tri.made {m : Sem Value} {o : O}
    (h : ∀ (η : List Addr) (s : Shared) (Q : Value → Shared → Prop) (E : Value → Shared → Prop), At κ η ρ H s → (∀ p ∈ vs, VR κ.X η s.heap p.1 p.2) →
      (∀ a h' ob tk, s.heap.get? a = Option.none → (∀ b o, s.heap.get? b = some o → h'.get? b = some o) → h'.get? a = some ob → OR κ.X (η ++ [a]) h' o ob → Q (.ref a) { s with heap := h', toks := tk }) → wpAny κ.X.M κ.A m Q E s) :
    Tri κ ρ vs m H (new o H) rV := by
  intro _ η s a hv
  refine h η s _ _ a hv fun b h' ob tk hb k e r => ⟨_, _, rfl, trivial, η ++ [b], h', tk, rfl, a.inv.make k hb e r, Step.make _ _ _ k hb, fun p hp => rV1 hp (.ref ?_)⟩
  rw [← a.inv.len, List.getElem?_append_right (Nat.le_refl _), Nat.sub_self]; rfl
theorem Tri.madeL {m : Sem Value} {ws : List V} (hl : ws.length ≤ line)
    (h : ∀ (η : List Addr) (s : Shared) (Q : Value → Shared → Prop) (E : Value → Shared → Prop), At κ η ρ H s → (∀ p ∈ vs, VR κ.X η s.heap p.1 p.2) →
      (∀ a h' items c tk, s.heap.get? a = Option.none → (∀ b o, s.heap.get? b = some o → h'.get? b = some o) → h'.get? a = some { cls := .type "list", data := .seq items c } → VRs κ.X η s.heap ws items.toList → Q (.ref a) { s with heap := h', toks := tk }) → wpAny κ.X.M κ.A m Q E s) :
    Tri κ ρ vs m H (new (.list ws) H) rV :=
  Tri.made fun η s Q E at' hv hq => h η s Q E at' hv fun a h' items c tk ha k e r => hq a h' _ tk ha k e (.list (r.grow (Step.make [] [] η k ha)) hl)

theorem times_fold (c : Array Nat) : ∀ (k : Nat) (acc : Array Nat), ((List.replicate k c).foldl (· ++ ·) acc).size = acc.size + c.size * k
  | 0, acc => rfl
  | k + 1, acc => by
    rw [List.replicate_succ, List.foldl_cons, times_fold c k, Array.size_append, Nat.mul_succ]; omega
theorem times_le {x : Str} {k : Nat} (h : x.length * k ≤ sizeLine) : (Txt_times x k).length ≤ sizeLine := by
  have := times_fold x.cps k #[]
  show ((List.replicate k x.cps).foldl (· ++ ·) #[]).size ≤ sizeLine
  rw [this]; show 0 + x.length * k ≤ sizeLine; omega
theorem intOp_ok {op : Op} {x y z : Int} {t u : Tok} {s : Shared} {Q : Value → Shared → Prop} {E : Value → Shared → Prop} (e : intOp op x y = some z) (hq : ∀ tk w, Q (.int z w) { s with toks := tk }) : wpAny X.M A (binaryOp (opOf op) (.int x t) (.int y u)) Q E s := by
  cases op with
  | add => cases e; exact PyProof.Rows.add_int (hq _ _)
  | sub => cases e; exact PyProof.Rows.sub_int (hq _ _)
  | mul =>
    have e : (if x.natAbs < 2 ^ 64 ∨ y.natAbs < 2 ^ 64 then some (x * y) else Option.none) = some z := e
    split at e
    · rename_i hm
      cases e
      refine PyProof.Rows.mul_int (hq _ _) ?_
      rcases hm with hm | hm
      · exact .of_left (intBits_le_64 (by omega) (by omega))
      · exact .of_right (intBits_le_64 (by omega) (by omega))
    · cases e
  | fdiv =>
    have e : (if y ≠ 0 ∧ y.natAbs < 1073741824 then some (x.fdiv y) else Option.none) = some z := e
    split at e
    · rename_i hm
      cases e
      refine PyProof.Rows.floordiv_int hm.1 (hq _ _) (Or.inl (PyProof.noPylong_small ?_))
      omega
    · cases e
  | mod =>
    have e : (if y ≠ 0 then some (x.fmod y) else Option.none) = some z := e
    split at e
    · rename_i hm
      cases e
      exact PyProof.Rows.mod_int' hm (hq _ _)
    · cases e
  | pow =>
    have e : (if 0 ≤ x ∧ x ≤ 10 ∧ 0 ≤ y ∧ y ≤ 100 then some (x ^ y.toNat) else Option.none) = some z := e
    split at e
    · rename_i hm
      cases e
      exact PyProof.Rows.pow_int_small hm.2.2.1 (by omega) (by omega) (hq _ _)
    · cases e
theorem addL_ok {a b : V} {ma mb : Value} (ha : (a, ma) ∈ vs) (hb : (b, mb) ∈ vs) : Tri κ ρ vs (binaryOp .Add ma mb) H (addL a b H) rV := by
  unfold addL
  cases hx : listAt a H with
  | none => exact Tri.stuck
  | some x =>
    cases hy : listAt b H with
    | none => exact Tri.stuck
    | some y =>
      dsimp only
      split
      · rename_i hm
        refine Tri.madeL (by rw [List.length_append]; exact hm) fun η s Q E at' hv hq => ?_
        obtain ⟨a1, i1, m1, rfl, g1, r1, l1⟩ := vr_list at'.inv (hv _ ha) hx
        obtain ⟨a2, i2, m2, rfl, g2, r2, l2⟩ := vr_list at'.inv (hv _ hb) hy
        exact P.add_list g1 g2 (hq _ _ _ _ s.toks (size_none _) (push_keeps _ _) (Heap.get?_push_size _ rfl) (by rw [Array.toList_append]; exact r1.append r2)) (by rw [r1.size, r2.size]; exact Nat.le_trans hm line_lt)
      · exact Tri.stuck
theorem addS_ok {a b : V} {ma mb : Value} (ha : (a, ma) ∈ vs) (hb : (b, mb) ∈ vs) : Tri κ ρ vs (binaryOp .Add ma mb) H (addS a b H) rV := by
  unfold addS
  cases hx : strAt a with
  | none => exact addL_ok ha hb
  | some x =>
    cases hy : strAt b with
    | none => exact Tri.stuck
    | some y =>
      dsimp only
      split
      · rename_i hm
        refine Tri.plain fun η s Q E at' hv hq => ?_
        obtain ⟨t, rfl, o1⟩ := vr_str (hv _ ha) hx
        obtain ⟨u, rfl, o2⟩ := vr_str (hv _ hb) hy
        exact PyProof.Rows.add_str (fun t' tk => hq _ _ (.str _ _ (strOk_append o1 o2))) (Nat.le_trans hm line_lt)
      · exact Tri.stuck
theorem mulS_ok {a b : V} {ma mb : Value} (ha : (a, ma) ∈ vs) (hb : (b, mb) ∈ vs) : Tri κ ρ vs (binaryOp .Mult ma mb) H (mulS a b H) rV := by
  unfold mulS
  cases hx : strAt a with
  | none => exact Tri.stuck
  | some x =>
    cases hy : intAt b with
    | none => exact Tri.stuck
    | some k =>
      dsimp only
      split
      · rename_i hm
        obtain ⟨h1, h2, h3, h4⟩ := hm
        refine Tri.plain fun η s Q E at' hv hq => ?_
        obtain ⟨t, rfl, o1⟩ := vr_str (hv _ ha) hx
        obtain ⟨u, rfl⟩ := vr_int (hv _ hb) hy
        have n1 : ¬ k < 1 := by omega
        have n2 : ¬ ((k == 1 || x.length == 0) = true) := by
          rw [h3, Bool.or_eq_true, beq_iff_eq]
          rintro (q | q)
          · omega
          · exact nomatch q
        have sz : x.length * k.toNat ≤ sizeLine := by rw [h3, sizeLine_eq]; omega
        refine PySem.P.mul_str (by rw [decide_eq_false (by omega), decide_eq_false (by omega)]; rfl) (fun _ _ => ?_) (fun _ _ => decide_eq_false (by omega)) ?_
        · have : (1 : Int) ≤ (2 ^ 63 - 1) / k := by rw [Int.le_ediv_iff_mul_le (by omega)]; omega
          rw [h3]; omega
        · rw [if_neg n1, if_neg n2]
          refine ⟨?_, hq _ _ (.str _ _ h4)⟩
          exact times_le sz
      · exact Tri.stuck
theorem bin_ok {op : Op} {a b : V} {ma mb : Value} (ha : (a, ma) ∈ vs) (hb : (b, mb) ∈ vs) : Tri κ ρ vs (binaryOp (opOf op) ma mb) H (bin op a b H) rV := by
  unfold bin
  cases hx : intAt a with
  | some x =>
    cases hy : intAt b with
    | none => exact Tri.stuck
    | some y =>
      dsimp only
      cases hz : intOp op x y with
      | none => exact Tri.stuck
      | some z =>
        refine Tri.plain fun η s Q E at' hv hq => ?_
        obtain ⟨t, rfl⟩ := vr_int (hv _ ha) hx
        obtain ⟨u, rfl⟩ := vr_int (hv _ hb) hy
        exact intOp_ok hz fun tk w => hq _ tk (.int _ _)
  | none =>
    dsimp only
    by_cases ho : op = .add
    · rw [if_pos ho]; subst ho; exact addS_ok ha hb
    · rw [if_neg ho]
      by_cases h2 : op = .mul
      · rw [if_pos h2]; subst h2; exact mulS_ok ha hb
      · rw [if_neg h2]; exact Tri.stuck
end
end Mine

/-! R4 -/
namespace Mine
open PySem PyProof.Rows
section
variable {κ : Ct} {ρ : Rho} {vs : List (V × Value)} {H : Hp}

noncomputable def cmOf : Cm → CmpOp
  | .eq => .Eq
  | .ne => .NotEq
  | .lt => .Lt
  | .le => .LtE
  | .gt => .Gt
  | .isIn => .In
  | .notIn => .NotIn
  | .is => .Is

theorem At.units {η : List Addr} {s : Shared} (a : At κ η ρ H s) : κ.A.units + 64 < cLine := by
  have := a.room.units
  omega

theorem eqV_ok {op : Cm} {a b : V} {ma mb : Value} {r : Bool} (hop : op = .eq ∨ op = .ne) (ha : (a, ma) ∈ vs) (hb : (b, mb) ∈ vs) (he : eqV H a b = some r) :
    Tri κ ρ vs (compareOp (cmOf op) ma mb) H (.ok (.bool (if op = .eq then r else !r)) H) rV := by
  refine Tri.plain fun η s Q E at' hv hq => ?_
  obtain ⟨x, e1, he⟩ := Option.bind_eq_some_iff.mp (show (snap 8 H a).bind (fun x => (snap 8 H b).bind fun y => some (PyData.eqv x y)) = some r from he)
  obtain ⟨y, e2, he⟩ := Option.bind_eq_some_iff.mp he
  cases he
  obtain ⟨as, ra, c1, d1⟩ := snap_reads at'.inv 8 (hv _ ha) e1
  obtain ⟨bs, rb, c2, d2⟩ := snap_reads at'.inv 8 (hv _ hb) e2
  rcases hop with rfl | rfl
  · exact PySem.SeqAt.compareEq_shaped ra rb (shaped_of c1 d1 (by decide)) (shaped_of c2 d2 (by decide)) at'.units (hq _ s.toks (.bool _))
  · exact PySem.SeqAt.compareNe_shaped ra rb (shaped_of c1 d1 (by decide)) (shaped_of c2 d2 (by decide)) at'.units (hq _ s.toks (.bool _))

theorem isIn_ok {op : Cm} {a b : V} {ma mb : Value} {r : Bool} (hop : op = .isIn ∨ op = .notIn) (ha : (a, ma) ∈ vs) (hb : (b, mb) ∈ vs) (he : isIn H a b = some r) : Tri κ ρ vs (compareOp (cmOf op) ma mb) H (.ok (.bool (if op = .isIn then r else !r)) H) rV := by
  refine Tri.plain fun η s Q E at' hv hq => ?_
  have vb := hv _ hb
  cases b with
  | tup ws =>
    cases vb with
    | tup g nn r _ =>
      obtain ⟨x, e1, he⟩ := Option.bind_eq_some_iff.mp (show inTup H a ws = some _ from he)
      obtain ⟨ys, e2, rfl⟩ := Option.map_eq_some_iff.mp he
      obtain ⟨as, ra, c1, d1⟩ := snap_reads at'.inv 8 (hv _ ha) e1
      obtain ⟨bs, rb, c2, d2⟩ := mapM_reads (snap_reads at'.inv 8) r e2
      have hu : κ.A.units + 1 + min (PyData.depthAll ys) x.depth < cLine := by have := at'.units; have := Nat.min_le_right (PyData.depthAll ys) x.depth; omega
      rcases hop with rfl | rfl
      · exact PySem.SeqAt.in_tuple_reads (.tuple g rfl rfl rb) ra c2 c1 hu (hq _ s.toks (.bool _))
      · exact PySem.SeqAt.notIn_tuple_reads (.tuple g rfl rfl rb) ra c2 c1 hu (hq _ s.toks (.bool _))
  | str y =>
    obtain ⟨x, e1, rfl⟩ := Option.map_eq_some_iff.mp (show (strAt a).map _ = some _ from he)
    obtain ⟨t, rfl, _⟩ := vr_str (hv _ ha) e1
    cases vb
    rcases hop with rfl | rfl
    · exact PyProof.Rows.in_str (hq _ s.toks (.bool _))
    · exact PyProof.Rows.notIn_str (hq _ s.toks (.bool _))
  | _ => cases he

theorem cmpI_ok {op : Cm} {a b : V} {ma mb : Value} {r : Bool} (ho : op = .lt ∨ op = .le ∨ op = .gt) (ha : (a, ma) ∈ vs) (hb : (b, mb) ∈ vs) (he : (match intAt a with | some x => (match intAt b with | some y => cmpI op x y | Option.none => Option.none) | Option.none => Option.none) = some r) :
    Tri κ ρ vs (compareOp (cmOf op) ma mb) H (.ok (.bool r) H) rV := by
  cases hx : intAt a with
  | none => rw [hx] at he; cases he
  | some x =>
    cases hy : intAt b with
    | none => rw [hx, hy] at he; cases he
    | some y =>
      rw [hx, hy] at he
      refine Tri.plain fun η s Q E at' hv hq => ?_
      obtain ⟨t, rfl⟩ := vr_int (hv _ ha) hx
      obtain ⟨u, rfl⟩ := vr_int (hv _ hb) hy
      rcases ho with rfl | rfl | rfl
      · cases he; exact PyProof.Rows.lt_int (hq _ s.toks (.bool _))
      · cases he; exact PyProof.Rows.le_int (hq _ s.toks (.bool _))
      · cases he; exact PyProof.Rows.gt_int (hq _ s.toks (.bool _))
theorem cmp_ok {op : Cm} {a b : V} {ma mb : Value} {r : Bool} (ha : (a, ma) ∈ vs) (hb : (b, mb) ∈ vs) (he : cmp op a b H = some r) :
    Tri κ ρ vs (compareOp (cmOf op) ma mb) H (.ok (.bool r) H) rV := by
  cases op with
  | eq => exact eqV_ok (.inl rfl) ha hb he
  | ne =>
    obtain ⟨q, he', rfl⟩ := Option.map_eq_some_iff.mp he
    exact eqV_ok (op := .ne) (.inr rfl) ha hb he'
  | isIn => exact isIn_ok (.inl rfl) ha hb he
  | notIn =>
    obtain ⟨q, he', rfl⟩ := Option.map_eq_some_iff.mp he
    exact isIn_ok (op := .notIn) (.inr rfl) ha hb he'
  | is =>
    refine Tri.plain fun η s Q E at' hv hq => ?_
    have va := hv _ ha; have vb := hv _ hb
    cases b with
    | none =>
      cases vb
      cases he
      cases va
      · exact wpAny_is_self rfl (hq _ s.toks (.bool _))
      all_goals exact PyProof.Rows.is_none_ne (by intro q; cases q) (hq _ s.toks (.bool _))
    | bool y =>
      cases vb
      cases va with
      | bool x =>
        cases he
        exact PyProof.Rows.is_bool (hq _ s.toks (.bool _))
      | _ => cases he
    | _ => cases he
  | lt => exact cmpI_ok (.inl rfl) ha hb he
  | le => exact cmpI_ok (.inr (.inl rfl)) ha hb he
  | gt => exact cmpI_ok (.inr (.inr rfl)) ha hb he
end
end Mine

/-! R5 -/
namespace Mine
open PySem PyProof.Rows PySem.W

theorem Loads.det {mg mb : Str → Option Value} {f : String} {v w : Value} (a : Loads mg mb f v) (b : Loads mg mb f w) : v = w := by
  rcases a with a | a <;> rcases b with b | b
  · rw [a] at b; exact Option.some.inj b
  · rw [a] at b; cases b.1
  · rw [a.1] at b; cases b
  · exact Option.some.inj (a.2.symm.trans b.2)

noncomputable def Keepable (X : Cx) (f : Value) : Prop := ∀ h : Heap, (∀ b o, X.base.get? b = some o → h.get? b = some o) → ∃ k, (k = Keeper.frame ∨ k = Keeper.machine ∨ k = Keeper.boundFrame) ∧ Looks X.M h (keeperOf f) k

theorem keepable_builtin (X : Cx) (id : String) : Keepable X (.builtin id) := fun _ _ => ⟨.machine, .inr (.inl rfl), Looks.now⟩
theorem keepable_func {X : Cx} {a : Addr} {o : Obj} {fd : FuncData} (e : X.base.get? a = some o) (d : o.data = .func fd) : Keepable X (.ref a) := fun h k => by
  refine ⟨.frame, .inl rfl, (Looks.ld (part := none) (k _ _ e)).andThen ?_⟩
  simp only [d]
  exact Looks.now

noncomputable def isGlob (sc : Scope) (x : Str) : Bool := sc.names.lookup x == some .globalImplicit

section
variable {κ : Ct} {X : Cx} {n : Nat} {hd : Bool} {A : Around} {env : Env} {st : List Env} {ρ : Rho} {vs : List (V × Value)} {H : Hp}

noncomputable def rEq (v : Value) (m : Value) : Prop × List (V × Value) := (m = v, [])

theorem Tri.name {x : String} {id : Str} {pos : Pos} (hi : id = Str.ofString x) (hv : isVar κ.env.scope id = true) (hd1 : (id == ("__debug__" : Str)) = false) (hd2 : (id == ("__classdict__" : Str)) = false) :
    Tri κ ρ vs (eval (.Name id pos) κ.env) H (ofO H (ρ.lookup x)) rV := by
  cases e : ρ.lookup x with
  | none => exact Tri.stuck
  | some v =>
    refine Tri.plain fun η s Q E at' _ hq => wpAny_Name ?_ hd1
    subst hi
    obtain ⟨mv, hh, r⟩ := at'.rho x v e hv
    rcases hh with ⟨hk, m, hn, hm⟩ | ⟨hk | hk, c, o, hc, g, d⟩
    · exact wpAny_loadName_local at'.fok.kind hk hn hm (hq mv s.toks r)
    · exact wpAny_loadName_cell at'.fok.kind hk hc ⟨o, g, d⟩ (hq mv s.toks r)
    · exact wpAny_loadName_free at'.fok.kind hk hc ⟨o, g, d⟩ (hq mv s.toks r) hd2

theorem wpAny_glob {id : Str} {pos : Pos} {x : String} {v : Value} {η : List Addr} {s : Shared} {Q : Value → Shared → Prop} {E : Value → Shared → Prop} (at' : At κ η ρ H s) (hi : id = Str.ofString x) (hg : isGlob κ.env.scope id = true)
    (hd1 : (id == ("__debug__" : Str)) = false) (hl : Loads κ.X.mg κ.X.mb x v) (hq : Q v s) : wpAny κ.X.M κ.A (eval (.Name id pos) κ.env) Q E s := by
  subst hi
  refine PySem.Calls.Name_function_global at'.fok.kind (by unfold isGlob at hg; exact beq_iff_eq.mp hg) ?_ hd1
  have g1 : s.heap.Ns κ.env.globals κ.X.mg := by rw [at'.fok.glob]; exact κ.X.g.keeps at'.inv.keep
  have b1 : s.heap.Ns κ.env.builtins κ.X.mb := by rw [at'.fok.blt]; exact κ.X.b.keeps at'.inv.keep
  rcases hl with hl | ⟨hl, hl2⟩
  · exact PySem.Calls.loadGlobal_global g1 hl hq
  · exact PySem.Calls.loadGlobal_builtin g1 hl b1 hl2 hq

theorem Tri.glob {x : String} {id : Str} {pos : Pos} {v : Value} (hi : id = Str.ofString x) (hg : isGlob κ.env.scope id = true) (hd1 : (id == ("__debug__" : Str)) = false) (hl : Loads κ.X.mg κ.X.mb x v) :
    Tri κ ρ vs (eval (.Name id pos) κ.env) H (.ok v H) rEq :=
  Tri.reads fun _ s _ _ at' _ hq => wpAny_glob at' hi hg hd1 hl (hq v s.heap s.toks (fun _ _ e => e) rfl fun _ hp => nomatch hp)

theorem Tri.const_int {i : Int} {k : Nat} {pos : Pos} : Tri κ ρ vs (eval (.Constant (.int i) k pos) κ.env) H (.ok (.int i) H) rV :=
  Tri.plain fun _ _ _ _ _ _ hq => wpAny_Constant_int (hq _ _ (.int _ _))
theorem Tri.const_str {x : Str} {k : Nat} {pos : Pos} (ok : PyData.strOk x = true) : Tri κ ρ vs (eval (.Constant (.str x) k pos) κ.env) H (.ok (.str x) H) rV :=
  Tri.plain fun _ _ _ _ _ _ hq => PySem.Calls.Constant_str (hq _ _ (.str _ _ ok))
theorem Tri.const_none {k : Nat} {pos : Pos} : Tri κ ρ vs (eval (.Constant .none k pos) κ.env) H (.ok .none H) rV :=
  Tri.plain fun _ s _ _ _ _ hq => wpAny_pure (hq _ s.toks .none)
theorem Tri.const_bool {b : Bool} {k : Nat} {pos : Pos} : Tri κ ρ vs (eval (.Constant (.bool b) k pos) κ.env) H (.ok (.bool b) H) rV :=
  Tri.plain fun _ s _ _ _ _ hq => wpAny_pure (hq _ s.toks (.bool b))

theorem Tri.truthy {v : V} {m : Value} (hm : (v, m) ∈ vs) : Tri κ ρ vs (PySem.truthy m) H (ofO H (truth v)) rB := by
  cases v with
  | bool b =>
    refine Tri.reads fun _ s _ _ _ hv hq => ?_
    have r := hv _ hm
    cases r
    exact wpAny_truthy_bool (hq _ s.heap s.toks (fun _ _ e => e) rfl fun _ hp => nomatch hp)
  | _ => exact Tri.stuck

theorem Tri.spliced_nil : Tri κ ρ vs (spliced []) H (.ok ([] : List V) H) rL := Tri.pure rfl (fun _ hp => nomatch hp)

theorem Tri.spliced_cons {t : Sem Value} {rest : List (Bool × Sem Value)} {r1 : R V} {f : V → Hp → R (List V)}
    (h1 : Tri κ ρ vs t H r1 rV) (h2 : ∀ v H1 m, r1 = .ok v H1 → Tri κ ρ (vs ++ [(v, m)]) (spliced rest) H1 (f v H1) rL) :
    Tri κ ρ vs (spliced ((false, t) :: rest)) H (r1.bind fun v H1 => (f v H1).bind fun ws H2 => .ok (v :: ws) H2) rL := by
  rw [spliced]
  refine Tri.bind h1 fun v H1 m e _ => ?_
  simp only [Bool.false_eq_true, if_false]
  show Tri _ _ _ (Pure.pure [m] >>= _) _ _ _
  refine Tri.skip (a₀ := [m]) (fun _ _ _ q => wpAny_pure q) ?_
  refine Tri.bind (Tri.holding (h2 v H1 m e)) fun ws H2 ms _ hl => ?_
  refine Tri.pure ?_ ?_
  · show (v :: ws).length = ([m] ++ ms).length
    have : ws.length = ms.length := hl
    simp [this]
  · intro p hp
    rcases List.mem_cons.mp hp with rfl | hp
    · exact m1 m0
    · exact List.mem_append.mpr (.inr hp)

theorem backTo_cons {pos : Pos} {t : Sem Value} {rest : List (Bool × Sem Value)} : backTo pos ((false, t) :: rest) = (false, t) :: backTo pos rest := rfl

theorem Tri.args {fv : Value} {args : List (Bool × Sem Value)} {r1 : R (List V)} (hp : args.any (·.1) = false) (h1 : Tri κ ρ vs (spliced args) H r1 rL) :
    Tri κ ρ vs (evalArgs fv true args []) H r1 (fun ws (a : Args) => (ws.length = a.pos.length ∧ a.kw = [], ws.zip a.pos)) := by
  intro hs1 η s a hv
  have hm := h1 hs1 η s a hv
  cases args with
  | nil =>
    unfold evalArgs
    show wpAny κ.X.M κ.A (spliced [] >>= _) _ _ s
    refine wpAny_bind (wpAny_mono hm (fun ms s' ⟨ws, H', e, hl, P⟩ => ?_) fun _ _ q => q)
    refine wpAny_holding ?_
    exact wpAny_bind (wpAny_pure (wpAny_bind (wpAny_pure (wpAny_pure ⟨ws, H', e, ⟨hl, rfl⟩, P⟩))))
  | cons x rest =>
    obtain ⟨b, t⟩ := x
    have hb : b = false := by simp only [List.any_cons, Bool.or_eq_false_iff] at hp; exact hp.1
    subst hb
    exact PySem.Calls.evalArgs_plain (wpAny_mono hm (fun ms s' ⟨ws, H', e, hl, P⟩ => ⟨ws, H', e, ⟨hl, rfl⟩, P⟩) fun _ _ q => q)
theorem Tri.callWith {pos : Pos} {fv : Value} {first : List Value} {args : List (Bool × Sem Value)} {r1 : R (List V)} {f : List V → Hp → R V} (hk : Keepable κ.X fv) (hp : args.any (·.1) = false)
    (h1 : Tri κ ρ vs (spliced args) H r1 rL) (h2 : ∀ ws H1 ms, r1 = .ok ws H1 → ws.length = ms.length → Tri κ ρ (vs ++ ws.zip ms) (PySem.call fv (first ++ ms)) H1 (f ws H1) rV) :
    Tri κ ρ vs (PySem.callWith pos fv first args []) H (r1.bind f) rV := by
  refine Tri.via (fun Q E s q => callWith_of (P := fun h => ∀ b o, κ.X.base.get? b = some o → h.get? b = some o) (by rw [hp]; rfl) hk q) (Tri.args hp h1) fun ws H1 ar e hl hs η s Q E at' hv hq he => ⟨at'.inv.keep, ?_⟩
  rw [hl.2]
  exact wpAny_mono (h2 ws H1 ar.pos e hl.1 hs η s at' hv) hq he
end
end Mine

/-! R6 -/
namespace Mine
open PySem PyProof.Rows PySem.W

theorem rng_facts {a b c : Int} (h : rngOk a b c = true) : Builtin.Range.rangeSize a b c = ((rangeL a b c).length : Int) ∧ Builtin.Range.small a b c = true ∧ (rangeL a b c).length ≤ line := by
  unfold rngOk at h
  simp only [Bool.and_eq_true, decide_eq_true_eq] at h
  obtain ⟨⟨⟨⟨⟨h1, h2⟩, h3⟩, h4⟩, h5⟩, h6⟩ := h
  have hd : a < b → 0 ≤ (b - a - 1) / c ∧ (b - a - 1) / c ≤ b - a - 1 := fun hab => ⟨Int.ediv_nonneg (by omega) (by omega), Int.ediv_le_self _ (by omega)⟩
  have e1 : Builtin.Range.rangeSize a b c = ((rangeL a b c).length : Int) := by
    unfold Builtin.Range.rangeSize rangeL
    rw [if_pos h1]
    by_cases hab : a < b
    · have := hd hab
      rw [if_pos hab, if_pos ⟨h1, hab⟩, List.length_map, List.length_range]; omega
    · rw [if_neg hab, if_neg (fun q => hab q.2)]; rfl
  have l1 : ((rangeL a b c).length : Int) ≤ 1000000 := by
    rw [← e1]
    unfold Builtin.Range.rangeSize
    rw [if_pos h1]
    by_cases hab : a < b
    · have := hd hab
      rw [if_pos hab]; omega
    · rw [if_neg hab]; decide
  refine ⟨e1, ?_, by unfold line; omega⟩
  unfold Builtin.Range.small
  rw [e1]
  unfold Builtin.Range.rangeFitsLong
  rw [if_pos h1]
  simp only [Bool.and_eq_true, Bool.or_eq_true, decide_eq_true_eq]
  refine ⟨⟨⟨⟨?_, ?_⟩, ?_⟩, ?_⟩, .inr ?_⟩ <;> (constructor <;> omega)

theorem rangeL_get {a b c : Int} {i : Nat} (h : i < (rangeL a b c).length) : (rangeL a b c)[i] = a + c * i := by
  unfold rangeL at h ⊢
  split at h
  · rename_i hc; simp [hc]
  · rename_i hc; rw [if_neg hc] at *; simp at h

section
variable {κ : Ct} {X : Cx} {ρ : Rho} {vs : List (V × Value)} {H : Hp}

theorem line_63 : (line : Int) < 2 ^ 63 := by decide

theorem one_of {α : Type} {v : V} {ms : List α} (h : [v].length = ms.length) : ∃ m, ms = [m] := match ms, h with | [m], _ => ⟨m, rfl⟩
theorem two_of {α : Type} {v w : V} {ms : List α} (h : [v, w].length = ms.length) : ∃ m k, ms = [m, k] := match ms, h with | [m, k], _ => ⟨m, k, rfl⟩
theorem two'_inv {vs : List V} {p : Int × Int} (h : two' vs = some p) : ∃ a b, vs = [a, b] ∧ intAt a = some p.1 ∧ intAt b = some p.2 := by
  cases vs with
  | nil => cases h
  | cons a r =>
    cases r with
    | nil => cases h
    | cons b r =>
      cases r with
      | cons => cases h
      | nil =>
        cases ha : intAt a with
        | none => rw [two', ha] at h; cases h
        | some x =>
          cases hb : intAt b with
          | none => rw [two', ha, hb] at h; cases h
          | some y => rw [two', ha, hb] at h; cases h; exact ⟨a, b, rfl, ha, hb⟩
theorem two'_vr {ws : List V} {ms : List Value} {p : Int × Int} {η : List Addr} {h : Heap} (e : two' ws = some p) (hl : ws.length = ms.length) (hw : ∀ q ∈ ws.zip ms, VR X η h q.1 q.2) : ∃ t u, ms = [.int p.1 t, .int p.2 u] := by
  obtain ⟨a, b, rfl, ha, hb⟩ := two'_inv e
  obtain ⟨m, k, rfl⟩ := two_of hl
  obtain ⟨t, rfl⟩ := vr_int (hw _ (List.Mem.head _)) ha
  obtain ⟨u, rfl⟩ := vr_int (hw _ (List.Mem.tail _ (List.Mem.head _))) hb
  exact ⟨t, u, rfl⟩


theorem len_ok {ws : List V} {ms : List Value} (hl : ws.length = ms.length) (hw : ∀ p ∈ ws.zip ms, p ∈ vs) : Tri κ ρ vs (PySem.call (.builtin "len") ms) H (biLen ws H) rV := by
  unfold biLen
  split
  · rename_i v
    obtain ⟨m, rfl⟩ := one_of hl
    have key : Tri κ ρ vs (PySem.call (.builtin "len") [m]) H (match listAt v H with | some xs => .ok (.int xs.length) H | Option.none => .stuck) rV := by
      cases hx : listAt v H with
      | none => exact Tri.stuck
      | some xs =>
        refine Tri.plain fun η s Q E at' hv hq => ?_
        obtain ⟨a, items, c, rfl, g, r, l⟩ := vr_list at'.inv (hv _ (hw _ (List.Mem.head _))) hx
        have e := r.size
        refine PySem.Calls.call_len_list ⟨_, g, rfl, c, rfl⟩ (by rw [e]; have := line_63; omega) ?_
        rw [e]
        exact hq _ _ (.int _ _)
    cases v with
    | scr ns =>
      refine Tri.plain fun η s Q E at' hv hq => ?_
      have r := hv _ (hw _ (List.Mem.head _))
      cases r with
      | @scr a items ns hb hi hln =>
        have e := (Array.length_toList (xs := items)).symm.trans hi.length
        have hl' : s.heap.IsList a items := let ⟨o, ho, q⟩ := hb; ⟨o, at'.inv.keep _ _ ho, q⟩
        refine PySem.Calls.call_len_list hl' (by rw [e]; have := line_63; omega) ?_
        rw [e]
        exact hq _ _ (.int _ _)
    | tup xs =>
      refine Tri.plain fun η s Q E at' hv hq => ?_
      have r := hv _ (hw _ (List.Mem.head _))
      cases r with
      | tup g hn r l =>
        have e := r.size
        refine PyProof.Rows.len_tuple ⟨_, g, rfl, _, rfl⟩ (by rw [e]; have := line_63; omega) ?_
        rw [e]
        exact hq _ _ (.int _ _)
    | str x =>
      dsimp only
      split
      · rename_i hle
        refine Tri.plain fun η s Q E at' hv hq => ?_
        have r := hv _ (hw _ (List.Mem.head _))
        cases r
        exact PyProof.Rows.len_str (by have := line_63; omega) (hq _ _ (.int _ _))
      · exact Tri.stuck
    | _ => exact key
  · exact Tri.stuck

theorem bools_get {η : List Addr} {h : Heap} : ∀ {xs : List V} {ms : List Value} {bs : List Bool}, VRs X η h xs ms → bools xs = some bs → ms.length = bs.length ∧ ∀ (i : Nat) (v : Value), ms[i]? = some v → ∃ b : Bool, bs[i]? = some b ∧ v = Value.bool b
  | _, _, _, .nil, e => by cases e; exact ⟨rfl, fun i v q => by simp at q⟩
  | _, _, _, .cons a r, e => by
    unfold bools at e
    rw [List.mapM_cons] at e
    obtain ⟨b, e1, e⟩ := Option.bind_eq_some_iff.mp e
    obtain ⟨cs, e2, e⟩ := Option.bind_eq_some_iff.mp e
    cases e
    obtain ⟨l, ih⟩ := bools_get r e2
    refine ⟨congrArg Nat.succ l, fun i v q => ?_⟩
    cases i with
    | zero =>
      cases q
      cases a with
      | bool c => cases e1; exact ⟨_, rfl, rfl⟩
      | _ => cases e1
    | succ i => exact ih i v q

theorem all_ok {ws : List V} {ms : List Value} (hh : κ.Γ.hd = false) (hl : ws.length = ms.length) (hw : ∀ p ∈ ws.zip ms, p ∈ vs) : Tri κ ρ vs (PySem.call (.builtin "all") ms) H (biAll ws H) rV := by
  unfold biAll
  split
  · rename_i v
    obtain ⟨m, rfl⟩ := one_of hl
    cases hx : (listAt v H).bind bools with
    | none => exact Tri.stuck
    | some bs =>
      obtain ⟨xs, e1, e2⟩ := Option.bind_eq_some_iff.mp hx
      refine Tri.reads fun η s Q E at' hv hq => ?_
      obtain ⟨a, items, c, rfl, g, r, l⟩ := vr_list at'.inv (hv _ (hw _ (List.Mem.head _))) e1
      obtain ⟨hn, hb⟩ := bools_get r e2
      have hL : s.heap.IsList a items := ⟨_, g, rfl, c, rfl⟩
      refine call_all_walk (wpAny_pyIter_list hL ⟨s.heap.objs.size, [s.heap.objs.size, a], [s.heap.objs.size], items.size, _, _, fun i => (bs[i]?).getD true, rfl, Walks.list (A := κ.A.in1) (at'.hand hh) _ a (Nat.ne_of_lt (Heap.lt_size g)) items,
        ⟨⟨_, Heap.get?_push_size _ rfl, rfl, rfl⟩, hL.push _⟩, fun i v s' Q' E' hP hQ => ?_, fun h' tk hk => ?_⟩)
      · obtain ⟨b, e, rfl⟩ := hb i v (by simpa using hP)
        simp only [e, Option.getD_some] at hQ
        exact wpAny_truthy_bool hQ
      · have e : ((List.range items.size).all fun i => (bs[i]?).getD true) = bs.all id := by
          rw [← Array.length_toList, hn]; exact LSm.range_all bs
        rw [e]
        exact hq _ h' tk (LSm.kept_iter hk) trivial fun p hp => rV1 hp (.bool _)
  · exact Tri.stuck

theorem max_ok {ws : List V} {ms : List Value} (hh : κ.Γ.hd = false) (hl : ws.length = ms.length) (hw : ∀ p ∈ ws.zip ms, p ∈ vs) : Tri κ ρ vs (PySem.call (.builtin "max") ms) H (biMax ws H) rV := by
  unfold biMax
  cases ws with
  | nil => exact Tri.stuck
  | cons v r =>
    cases ms with
    | nil => cases hl
    | cons m ms =>
      dsimp only
      cases hx : intAt v with
      | none => exact Tri.stuck
      | some a =>
        cases hp : two' r with
        | none => exact Tri.stuck
        | some p =>
          refine Tri.reads fun η s Q E at' hv hq => ?_
          obtain ⟨t, rfl⟩ := vr_int (hv _ (hw _ (List.Mem.head _))) hx
          obtain ⟨t2, u2, rfl⟩ := two'_vr hp (Nat.succ.inj hl) fun q hq => hv _ (hw _ (List.Mem.tail _ hq))
          refine max_three_ints (at'.hand hh) fun h' tk hk => hq _ h' tk hk trivial fun q hq => rV1 hq ?_
          by_cases h1 : a < p.1
          · by_cases h2 : p.1 < p.2
            · rw [if_pos h1, if_pos h2, if_pos (show p.1 > a from h1), if_pos (show p.2 > p.1 from h2)]; exact .int _ _
            · rw [if_pos h1, if_neg h2, if_pos (show p.1 > a from h1), if_neg (show ¬ p.2 > p.1 from h2)]; exact .int _ _
          · by_cases h2 : a < p.2
            · rw [if_neg h1, if_pos h2, if_neg (show ¬ p.1 > a from h1), if_pos (show p.2 > a from h2)]; exact .int _ _
            · rw [if_neg h1, if_neg h2, if_neg (show ¬ p.1 > a from h1), if_neg (show ¬ p.2 > a from h2)]; exact .int _ _

theorem range_ok {ws : List V} {ms : List Value} (hl : ws.length = ms.length) (hw : ∀ p ∈ ws.zip ms, p ∈ vs) : Tri κ ρ vs (PySem.call (.type "range") ms) H (biRange ws H) rV := by
  unfold biRange
  cases ws with
  | nil => exact Tri.stuck
  | cons v r =>
    cases ms with
    | nil => cases hl
    | cons m ms =>
      dsimp only
      cases hx : intAt v with
      | none => exact Tri.stuck
      | some a =>
        cases r with
        | nil =>
          cases ms with
          | cons => cases hl
          | nil =>
            refine Tri.reads fun η s Q E at' hv hq => ?_
            obtain ⟨t, rfl⟩ := vr_int (hv _ (hw _ (List.Mem.head _))) hx
            refine call_range_1 (hq _ _ _ (push_keeps _ _) trivial fun p hp => ?_)
            rw [rV, List.mem_singleton] at hp; subst hp
            exact .rng (Heap.get?_push_size _ rfl) at'.inv.size_off
        | cons v2 r2 =>
          dsimp only
          cases hp : two' (v2 :: r2) with
          | none => exact Tri.stuck
          | some p =>
            dsimp only
            split
            · rename_i hc
              refine Tri.reads fun η s Q E at' hv hq => ?_
              obtain ⟨t, rfl⟩ := vr_int (hv _ (hw _ (List.Mem.head _))) hx
              obtain ⟨t2, u2, rfl⟩ := two'_vr hp (Nat.succ.inj hl) fun q hq => hv _ (hw _ (List.Mem.tail _ hq))
              refine call_range_3 hc.1 (hq _ _ _ (push_keeps _ _) trivial fun p hp => ?_) (.inl (PyProof.noPylong_small hc.2))
              rw [rV, List.mem_singleton] at hp; subst hp
              exact .rng (Heap.get?_push_size _ rfl) at'.inv.size_off
            · exact Tri.stuck

theorem int_ok {ws : List V} {ms : List Value} (hl : ws.length = ms.length) (hw : ∀ p ∈ ws.zip ms, p ∈ vs) : Tri κ ρ vs (PySem.call (.type "int") ms) H (biInt ws H) rV := by
  unfold biInt
  split
  · rename_i v
    obtain ⟨m, rfl⟩ := one_of hl
    cases hb : boolAt v with
    | some b =>
      refine Tri.plain fun η s Q E at' hv hq => ?_
      have r := hv _ (hw _ (List.Mem.head _))
      cases r with
      | bool c => cases hb; exact call_int_bool (hq _ _ (.int _ _))
      | _ => cases hb
    | none =>
      dsimp only
      cases hx : strAt v with
      | none => exact Tri.stuck
      | some x =>
        dsimp only
        split
        · rename_i hle
          cases hn : PySem.intText? x with
          | none => exact Tri.stuck
          | some n =>
            refine Tri.plain fun η s Q E at' hv hq => ?_
            obtain ⟨t, rfl, _⟩ := vr_str (hv _ (hw _ (List.Mem.head _))) hx
            exact KIN.call_text hn hle (hq _ _ (.int _ _))
        · exact Tri.stuck
  · exact Tri.stuck

theorem strOk_int (i : Int) (h0 : 0 ≤ i) : PyData.strOk (Str.ofString (toString i)) = true := by
  obtain ⟨m, rfl⟩ := Int.eq_ofNat_of_zero_le h0
  unfold PyData.strOk
  rw [Array.all_eq_true']
  intro c hc
  have hc' := Array.mem_toList_iff.mpr hc
  rw [KIN.signs_num] at hc'
  obtain ⟨ch, hch, rfl⟩ := List.mem_map.mp hc'
  have := digit_range (Nat.isDigit_of_mem_toDigits (by decide) (by decide) hch)
  exact decide_eq_true (by omega)
theorem str_ok {ws : List V} {ms : List Value} (hl : ws.length = ms.length) (hw : ∀ p ∈ ws.zip ms, p ∈ vs) : Tri κ ρ vs (PySem.call (.type "str") ms) H (biStr ws H) rV := by
  unfold biStr
  split
  · rename_i v
    obtain ⟨m, rfl⟩ := one_of hl
    cases hx : intAt v with
    | none => exact Tri.stuck
    | some i =>
      dsimp only
      split
      · rename_i hi
        refine Tri.plain fun η s Q E at' hv hq => ?_
        obtain ⟨t, rfl⟩ := vr_int (hv _ (hw _ (List.Mem.head _))) hx
        exact str_of_int_fit (N := 1000000) (by rw [if_neg (by omega)]; exact hi.2) (by decide) fun _ => hq _ _ (.str _ _ (strOk_int i hi.1))
      · exact Tri.stuck
  · exact Tri.stuck

theorem list_ok {ws : List V} {ms : List Value} (hl : ws.length = ms.length) (hw : ∀ p ∈ ws.zip ms, p ∈ vs) : Tri κ ρ vs (PySem.call (.type "list") ms) H (biList ws H) rV := by
  unfold biList
  split
  · rename_i v
    obtain ⟨m, rfl⟩ := one_of hl
    cases hx : listAt v H with
    | none => exact Tri.stuck
    | some xs =>
      by_cases hle : xs.length ≤ line
      · refine Tri.madeL hle fun η s Q E at' hv hq => ?_
        obtain ⟨a, items, c, rfl, g, r, l⟩ := vr_list at'.inv (hv _ (hw _ (List.Mem.head _))) hx
        exact call_list_seq _ (.inl rfl) g rfl rfl (fun h' c' k e => hq _ h' _ _ s.toks (size_none _) k e r) (by rw [r.size]; unfold sizeLine; unfold line at l; omega)
      · intro _ η s at' hv
        obtain ⟨a, items, c, rfl, g, r, l⟩ := vr_list at'.inv (hv _ (hw _ (List.Mem.head _))) hx
        exact absurd l hle
  · exact Tri.stuck

theorem builtin_ok {f : String} {fv : Value} {ws : List V} {ms : List Value} (hh : κ.Γ.hd = false) (hf : biVal f = some fv) (hl : ws.length = ms.length) (hw : ∀ p ∈ ws.zip ms, p ∈ vs) :
    Tri κ ρ vs (PySem.call fv ms) H (builtin f ws H) rV := by
  unfold builtin
  by_cases h1 : f = "len"
  · subst h1; cases hf; rw [if_pos rfl]; exact len_ok hl hw
  rw [if_neg h1]
  by_cases h2 : f = "all"
  · subst h2; cases hf; rw [if_pos rfl]; exact all_ok hh hl hw
  rw [if_neg h2]
  by_cases h4 : f = "max"
  · subst h4; cases hf; rw [if_pos rfl]; exact max_ok hh hl hw
  rw [if_neg h4]
  by_cases h5 : f = "range"
  · subst h5; cases hf; rw [if_pos rfl]; exact range_ok hl hw
  rw [if_neg h5]
  by_cases h6 : f = "list"
  · subst h6; cases hf; rw [if_pos rfl]; exact list_ok hl hw
  rw [if_neg h6]
  by_cases h7 : f = "int"
  · subst h7; cases hf; rw [if_pos rfl]; exact int_ok hl hw
  rw [if_neg h7]
  by_cases h8 : f = "str"
  · subst h8; cases hf; rw [if_pos rfl]; exact str_ok hl hw
  rw [if_neg h8]
  exact Tri.stuck
end
end Mine

/-! R7 -/
namespace Mine
open PySem PyProof.Rows PySem.W

theorem place_eq (k : Int) (n : Nat) : place k n = seqIndex? k n := by
  unfold place seqIndex?
  by_cases h0 : 0 ≤ k
  · have h1 : ¬ k < 0 := by omega
    simp only [h0, h1, if_true, if_false, decide_true, Bool.true_and, decide_eq_true_eq]
  · have h1 : k < 0 := by omega
    simp only [h0, h1, if_true, if_false]
    by_cases h2 : -(n : Int) ≤ k
    · rw [if_pos h2, if_pos (by simp only [Bool.and_eq_true, decide_eq_true_eq]; omega)]
    · rw [if_neg h2, if_neg (by simp only [Bool.and_eq_true, decide_eq_true_eq]; omega)]

theorem place_lt {k : Int} {n j : Nat} (h : place k n = some j) : j < n ∧ -(n : Int) ≤ k ∧ k < n := by
  unfold place at h
  split at h <;> split at h <;> first | (cases h; omega) | cases h

theorem VRs.get {X : Cx} {η : List Addr} {h : Heap} : ∀ {vs : List V} {ms : List Value} (_ : VRs X η h vs ms) {j : Nat} {v : V}, vs[j]? = some v → ∃ m, ms[j]? = some m ∧ VR X η h v m
  | _, _, .nil, j, v, e => by simp at e
  | _, _, .cons a r, 0, v, e => by cases e; exact ⟨_, rfl, a⟩
  | _, _, .cons a r, j + 1, v, e => VRs.get r e

theorem IntsAre.get' : ∀ {vs : List Value} {ns : List Int} (_ : IntsAre vs ns) {j : Nat} {n : Int}, ns[j]? = some n → ∃ t, vs[j]? = some (.int n t)
  | _, _, .nil, j, v, e => by simp at e
  | _, _, .cons a t r, 0, v, e => by cases e; exact ⟨_, rfl⟩
  | _, _, .cons a t r, j + 1, v, e => IntsAre.get' r e

section
variable {κ : Ct} {ρ : Rho} {vs : List (V × Value)} {H : Hp}

theorem wpAny_item_list {X : Cx} {A : Around} {s : Shared} {a : Addr} {items : Array Value} {k : Int} {u : Tok} {j : Nat} {m : Value} {value slice : Expr} {Q : Value → Shared → Prop} {E : Value → Shared → Prop}
    (hl : s.heap.IsList a items) (hn : items.size ≤ line) (hj : place k items.size = some j) (hm : items[j]? = some m) (hs : subscripted slice false (.ref a) (.int k u) = operate [.ref a, .int k u] (getItem (.ref a) (.int k u))) (hq : Q m s) :
    wpAny X.M A (subscriptTail value slice (.ref a) (.int k u)) Q E s := by
  have hlt := place_lt hj
  have hln : (items.size : Int) ≤ 4194304 := by unfold line at hn; omega
  refine tail_any hl.typeIs slot_list_getitem.lookup ?_ hs
  unfold place at hj
  split at hj
  · rename_i h0
    rw [if_pos hlt.2.2] at hj
    cases hj
    exact wpAny_getItem_list hl h0 (by omega) hm hq
  · rename_i h0
    rw [if_pos hlt.2.1] at hj
    cases hj
    exact wpAny_getItem_list_neg hl (by omega) hlt.2.1 (by omega) hm hq


theorem itemAt_ok {xs : List V} {k : Int} {m : Sem Value} (h : ∀ (j : Nat) (v : V), place k xs.length = some j → xs[j]? = some v → Tri κ ρ vs m H (.ok v H) rV) : Tri κ ρ vs m H (itemAt xs k H) rV := by
  unfold itemAt
  cases e : (place k xs.length).bind (xs[·]?) with
  | none => exact Tri.stuck
  | some v =>
    obtain ⟨j, e1, e2⟩ := Option.bind_eq_some_iff.mp e
    exact h j v e1 e2
theorem strOk_one {x : Str} {j c : Nat} (o : PyData.strOk x = true) (e : x.cps[j]? = some c) : PyData.strOk ⟨#[c]⟩ = true := by
  unfold PyData.strOk at *
  obtain ⟨hj, rfl⟩ := Array.getElem?_eq_some_iff.mp e
  simpa using (Array.all_eq_true.mp o) j hj

theorem index_ok {o i : V} {mo mi : Value} {value slice : Expr} (ho : (o, mo) ∈ vs) (hi : (i, mi) ∈ vs) (hs : ∀ a b, subscripted slice false a b = operate [a, b] (getItem a b)) :
    Tri κ ρ vs (subscriptTail value slice mo mi) H (index o i H) rV := by
  unfold index
  cases hk : intAt i with
  | none => exact Tri.stuck
  | some k =>
    have key : Tri κ ρ vs (subscriptTail value slice mo mi) H (match listAt o H with | some xs => itemAt xs k H | Option.none => .stuck) rV := by
      cases hx : listAt o H with
      | none => exact Tri.stuck
      | some xs =>
        refine itemAt_ok fun j v e1 e2 => Tri.plain fun η s Q E at' hv hq => ?_
        obtain ⟨u, rfl⟩ := vr_int (hv _ hi) hk
        obtain ⟨a, items, c, rfl, g, r, l⟩ := vr_list at'.inv (hv _ ho) hx
        obtain ⟨m, e3, rm⟩ := r.get e2
        exact wpAny_item_list ⟨_, g, rfl, c, rfl⟩ (by rw [r.size]; exact l) (by rw [r.size]; exact e1) (by simpa using e3) (hs _ _) (hq _ s.toks rm)
    cases o with
    | tup xs =>
      refine itemAt_ok fun j v e1 e2 => Tri.plain fun η s Q E at' hv hq => ?_
      obtain ⟨u, rfl⟩ := vr_int (hv _ hi) hk
      have vo := hv _ ho
      cases vo with
      | tup g nn r l =>
        obtain ⟨m, e3, rm⟩ := r.get e2
        have hlt := place_lt e1
        have hln : (xs.length : Int) ≤ 4194304 := by unfold line at l; omega
        refine tail_any (T := "tuple") ⟨_, g, rfl⟩ F.slot_tuple_getitem.lookup (P.getItem_tuple g (by omega) (by omega) (by rw [← place_eq, r.size]; exact e1) (by simpa using e3) (hq _ s.toks rm)) (hs _ _)
    | scr ns =>
      refine itemAt_ok fun j v e1 e2 => Tri.plain fun η s Q E at' hv hq => ?_
      obtain ⟨u, rfl⟩ := vr_int (hv _ hi) hk
      rw [List.length_map] at e1
      rw [List.getElem?_map] at e2
      obtain ⟨z, e4, rfl⟩ := Option.map_eq_some_iff.mp e2
      have vo := hv _ ho
      cases vo with
      | scr hb hi' hln =>
        rename_i a items
        have es := (Array.length_toList (xs := items)).symm.trans hi'.length
        obtain ⟨t, e3⟩ := IntsAre.get' hi' e4
        have hl' : s.heap.IsList a items := let ⟨o, ho, q⟩ := hb; ⟨o, at'.inv.keep _ _ ho, q⟩
        exact wpAny_item_list hl' (by rw [es]; exact hln) (by rw [es]; exact e1) (by simpa using e3) (hs _ _) (hq _ s.toks (.int _ _))
    | lst xs =>
      refine itemAt_ok fun j v e1 e2 => Tri.plain fun η s Q E at' hv hq => ?_
      obtain ⟨u, rfl⟩ := vr_int (hv _ hi) hk
      have vo := hv _ ho
      cases vo with
      | lst g nn r l =>
        obtain ⟨m, e3, rm⟩ := r.get e2
        exact wpAny_item_list ⟨_, g, rfl, _, rfl⟩ (by rw [r.size]; exact l) (by rw [r.size]; exact e1) (by simpa using e3) (hs _ _) (hq _ s.toks rm)
    | str x =>
      dsimp only
      split
      · rename_i hle
        refine itemAt_ok fun j v e1 e2 => Tri.plain fun η s Q E at' hv hq => ?_
        obtain ⟨u, rfl⟩ := vr_int (hv _ hi) hk
        unfold signs at e1 e2
        rw [List.length_map, Array.length_toList] at e1
        rw [List.getElem?_map, Array.getElem?_toList] at e2
        obtain ⟨c, e3, rfl⟩ := Option.map_eq_some_iff.mp e2
        obtain ⟨t, rfl, ok⟩ := vr_str (hv _ ho) rfl
        have hlt := place_lt e1
        have hln : (x.cps.size : Int) ≤ 4194304 := by unfold line at hle; exact Int.ofNat_le.mpr hle
        rw [place_eq] at e1
        refine tail_any (T := "str") (typeIs_str _ _ _) F.slot_str_getitem.lookup (PyProof.Rows.getItem_str ?_ (by show (seqIndex? k x.cps.size).bind _ = _; rw [e1]; exact e3) (hq _ _ (.str _ _ (strOk_one ok e3)))) (hs _ _)
        rw [Bool.or_eq_false_iff, decide_eq_false_iff_not, decide_eq_false_iff_not]
        omega
      · exact Tri.stuck
    | _ => exact key

theorem Tri.newTuple {ws : List V} {ms : List Value} (hl : ws.length = ms.length) (hw : ∀ p ∈ ws.zip ms, p ∈ vs) (hln : ws.length ≤ line) : Tri κ ρ vs (PySem.newTuple ms) H (.ok (.tup ws) H) rV :=
  Tri.reads fun η s Q E at' hv hq => wpAny_newTuple (hq _ _ s.toks (push_keeps _ _) trivial fun p hp => rV1 hp (.tup (Heap.get?_push_size _ rfl) at'.inv.size_off ((VRs.of_zip hl fun p hp => hv p (hw p hp)).grow (Step.ext [] [] η (push_keeps _ _))) hln)) (by rw [← hl]; exact Nat.le_trans hln line_lt)

theorem Tri.newList {ws : List V} {ms : List Value} (hl : ws.length = ms.length) (hw : ∀ p ∈ ws.zip ms, p ∈ vs) (hln : ws.length ≤ line) : Tri κ ρ vs (PySem.newList ms) H (new (.list ws) H) rV :=
  Tri.madeL hln fun η s Q E at' hv hq => wpAny_newList (hq _ _ _ _ s.toks (size_none _) (push_keeps _ _) (Heap.get?_push_size _ rfl) (VRs.of_zip hl fun p hp => hv p (hw p hp))) (by rw [← hl]; exact Nat.le_trans hln line_lt)

theorem Tri.hidden {ws : List V} {ms : List Value} (hl : ws.length = ms.length) (hw : ∀ p ∈ ws.zip ms, p ∈ vs) (hln : ws.length ≤ line) : Tri κ ρ vs (PySem.newList ms) H (.ok (.lst ws) H) rV :=
  Tri.reads fun η s Q E at' hv hq => wpAny_newList (hq _ _ s.toks (push_keeps _ _) trivial fun p hp => rV1 hp (.lst (Heap.get?_push_size _ rfl) at'.inv.size_off ((VRs.of_zip hl fun p hp => hv p (hw p hp)).grow (Step.ext [] [] η (push_keeps _ _))) hln)) (by rw [← hl]; exact Nat.le_trans hln line_lt)
end
end Mine

/-! R18 -/
namespace Mine
open PySem PyProof.Rows PySem.W

noncomputable def Mach (h : Heap) (b : Addr) : Prop := ∃ o, h.get? b = some o ∧ ((∃ T fs, o.cls = .type T ∧ o.data = .fields fs ∧ T ≠ "range") ∨ ∃ es n, o.data = .dict es n)

structure Turn (its η : List Addr) (H : Hp) (h h' : Heap) : Prop where
  keep : ∀ b o, b ∉ its → h.get? b = some o → h'.get? b = some o
  was : ∀ b ∈ its, (b ∉ η ∧ Mach h b) ∨ ∃ (n : Nat) (x y : Value), η[n]? = some b ∧ H[n]? = some O.own ∧ h'.get? b = some { cls := .type "tuple", data := .seq #[x, y] }

section
variable {X : Cx} {η : List Addr} {h h' : Heap} {H : Hp} {it : Addr} {its : List Addr}
theorem Turn.one (hη : it ∉ η) (hm : Mach h it) (k : ∀ b o, b ≠ it → h.get? b = some o → h'.get? b = some o) : Turn [it] η H h h' :=
  ⟨fun b o hb => k b o fun q => hb (List.mem_singleton.mpr q), fun b hb => by rw [List.mem_singleton] at hb; subst hb; exact .inl ⟨hη, hm⟩⟩
theorem Turn.holds (x : Turn its η H h h') : Holds η h η h' := by
  have go : ∀ a o, h.get? a = some o → a ∉ η → ¬ ((∃ T fs, o.cls = .type T ∧ o.data = .fields fs ∧ T ≠ "range") ∨ ∃ es n, o.data = .dict es n) → h'.get? a = some o := fun a o e hn hd => by
    refine x.keep a o (fun q => ?_) e
    rcases x.was a q with ⟨_, o', e', m⟩ | ⟨n, _, _, e1, _⟩
    · rw [e] at e'; cases e'; exact hd m
    · exact hn (List.mem_of_getElem? e1)
  refine ⟨fun a o e hn hs => ⟨go a o e hn ?_, hn⟩, fun a o C fs e hn c d => ⟨hn, fs, ?_⟩⟩
  · rintro (⟨T, fs, c, d, hT⟩ | ⟨es, n, d⟩) <;> rcases hs with ⟨xs, k, d'⟩ | ⟨c', fs', d'⟩
    · rw [d] at d'; cases d'
    · rw [c] at c'; cases c'; exact hT rfl
    · rw [d] at d'; cases d'
    · rw [d] at d'; cases d'
  · rw [go a o e hn (by
      rintro (⟨T, fs', c', d', hT⟩ | ⟨es, n, d'⟩)
      · rw [c.1] at c'; cases c'
      · rw [d] at d'; cases d')]
    cases o; simp only at d; subst d; rfl
theorem Turn.vr (x : Turn its η H h h') {v : V} {m : Value} (r : VR X η h v m) : VR X η h' v m := r.map ⟨[], (List.append_nil _).symm⟩ x.holds
theorem Turn.vrs (x : Turn its η H h h') {v : List V} {m : List Value} (r : VRs X η h v m) : VRs X η h' v m := r.map ⟨[], (List.append_nil _).symm⟩ x.holds
theorem Turn.inv (x : Turn its η H h h') (i : Inv X η H h) (hb : ∀ b ∈ its, X.base.get? b = Option.none) : Inv X η H h' := by
  refine ⟨fun b o e => x.keep b o (fun q => by rw [hb b q] at e; cases e) (i.keep b o e), i.len, i.fresh, i.nodup, fun n a o ha ho => ?_⟩
  by_cases hi : a ∈ its
  · rcases x.was a hi with ⟨hn, _⟩ | ⟨k, y, z, e1, e2, e3⟩
    · exact absurd (List.mem_of_getElem? ha) hn
    · have : n = k := by
        obtain ⟨h1, q1⟩ := List.getElem?_eq_some_iff.mp ha
        obtain ⟨h2, q2⟩ := List.getElem?_eq_some_iff.mp e1
        exact (List.getElem_inj i.nodup (h₀ := h1) (h₁ := h2)).mp (q1.trans q2.symm)
      subst this
      rw [e2] at ho; cases ho
      exact ⟨_, e3, .own⟩
  · obtain ⟨ob, e, r⟩ := i.objs n a o ha ho
    exact ⟨ob, x.keep a ob hi e, r.map ⟨[], (List.append_nil _).symm⟩ x.holds⟩
theorem Turn.step {fr own η0 : List Addr} {h0 : Heap} (x : Turn its η H h h') (s : Step fr own η0 h0 η h) (h0n : ∀ b ∈ its, h0.get? b = Option.none) : Step fr own η0 h0 η h' := by
  have ne : ∀ b o, h0.get? b = some o → b ∉ its := fun b o e q => by rw [h0n b q] at e; cases e
  refine ⟨s.pre, fun b o e => let ⟨o1, e1⟩ := s.alive b o e; ⟨o1, x.keep b o1 (ne b o e) e1⟩, fun b o e hb ho => let ⟨sl, e1, q⟩ := s.data b o e hb ho; ⟨sl, x.keep b _ (ne b o e) e1, q⟩, fun b o e hb es' k d => ?_, fun b o e hb v d => ?_⟩
  · obtain ⟨o1, es1, k1, e1, d1⟩ := s.dicts b o e hb es' k d
    exact ⟨o1, es1, k1, x.keep b _ (ne b o e) e1, d1⟩
  · obtain ⟨o1, v1, e1, d1⟩ := s.cells b o e hb v d
    exact ⟨o1, v1, x.keep b _ (ne b o e) e1, d1⟩
theorem Turn.ends {env : Env} {ρ : Rho} (x : Turn its η H h h') (e : Ends X env ρ η h) (hn : ∀ b ∈ ownOf env, b ∉ its) : Ends X env ρ η h' := by
  obtain ⟨fo, ro⟩ := e
  have ns : ∀ {m : Str → Option Value}, h.Ns env.locals m → h'.Ns env.locals m := fun {m} ⟨o, es, ep, e, d, r⟩ =>
    ⟨o, es, ep, x.keep _ _ (hn _ (List.Mem.head _)) e, d, r⟩
  have cl : ∀ {y : Str} {c : Addr} {o : Obj}, (y, c) ∈ env.cells → h.get? c = some o → h'.get? c = some o := fun {y c o} m e => x.keep _ _ (hn c (List.mem_cons.mpr (.inr (List.mem_map.mpr ⟨(y, c), m, rfl⟩)))) e
  refine ⟨⟨fo.kind, fo.glob, fo.blt, let ⟨m, hn⟩ := fo.ns; ⟨m, ns hn⟩, fun p hp => let ⟨o, v, e, d⟩ := fo.cell p hp; ⟨o, v, cl (y := p.1) hp e, d⟩, fo.cells, fo.inj, fo.off⟩, fun y v ey hy => ?_⟩
  obtain ⟨mv, hh, r⟩ := ro y v ey hy
  refine ⟨mv, ?_, x.vr r⟩
  rcases hh with ⟨hk, m, hn, hm⟩ | ⟨hk, c, o, hc, g, d⟩
  · exact .inl ⟨hk, m, ns hn, hm⟩
  · exact .inr ⟨hk, c, o, hc, cl (lookup_mem hc) g, d⟩
noncomputable def Recs (its η : List Addr) (h : Heap) : Prop := ∀ b ∈ its, b ∈ η ∨ ∃ o fs, h.get? b = some o ∧ o.data = .fields fs
theorem Recs.off {l : List Addr} (x : Recs its η h) (f : Frm h l) (hl : ∀ b ∈ l, b ∉ η) : ∀ b ∈ l, b ∉ its := fun b hb q => by
  rcases x b q with z | ⟨o, fs, e, d⟩
  · exact hl b hb z
  · exact f.not e ⟨fun es n z => (by rw [d] at z; cases z), fun v z => (by rw [d] at z; cases z)⟩ hb
theorem Turn.at {κ : Ct} {ρ : Rho} {s : Shared} {tk : Nat} (x : Turn its η H s.heap h') (a : At κ η ρ H s) (hb : ∀ b ∈ its, κ.X.base.get? b = Option.none) (hr : Recs its η s.heap) : At κ η ρ H { s with heap := h', toks := tk } := by
  have en := x.ends ⟨a.fok, a.rho⟩ (hr.off a.fok.frm fun b q => (a.fok.off b q).1)
  have of := hr.off a.stk.frm a.stk.off
  refine ⟨x.inv a.inv hb, en.1, en.2, ⟨a.stk.frames, ?_, a.stk.off, fun b hb => let ⟨o, e, q⟩ := a.stk.frm b hb; ⟨o, x.keep b o (of b hb) e, q⟩⟩, a.room, a.hand⟩
  have key : ∀ l : List Env, (∀ b ∈ frs l, b ∉ its) → s.heap.FunFrames κ.X.base l → h'.FunFrames κ.X.base l := by
    intro l
    induction l with
    | nil => intro _ _; trivial
    | cons e l ih =>
      intro ho ⟨hk, ⟨L, o, hfr, hn, hg, hd⟩, hr⟩
      have hL : L ∈ frs (e :: l) := by unfold frs; rw [List.filterMap_cons, hfr]; exact List.Mem.head _
      have sub : ∀ a ∈ frs l, a ∈ frs (e :: l) := by intro a ha; unfold frs at *; rw [List.filterMap_cons, hfr]; exact List.Mem.tail _ ha
      exact ⟨hk, ⟨L, o, hfr, hn, x.keep L o (ho L hL) hg, hd⟩, ih (fun a ha => ho a (sub a ha)) hr⟩
  exact key _ of a.stk.ok
end

inductive ItR (X : Cx) (η : List Addr) (h : Heap) (it : Addr) : V → List V → Nat → Prop
  | list {n i : Nat} {l : Addr} {xs : List V} : η[n]? = some l → h.IsListIter it l i → ItR X η h it (.ref n) xs i
  | tup {t : Addr} {i k : Nat} {items : Array Value} {xs : List V} : h.get? t = some { cls := .type "tuple", data := .seq items k } → t ∉ η → VRs X η h xs items.toList → h.IsTupleIter it t i → ItR X η h it (.tup xs) xs i
  | rng {a b c : Int} {i : Nat} : IsRangeIter h it (a + c * i) ((rangeL a b c).length - i) c → ItR X η h it (.rng a b c) ((rangeL a b c).map .int) i
  | str {x : Str} {t : Tok} {i : Nat} : PyData.strOk x = true → h.IsStrIter it "str_ascii_iterator" x t i → ItR X η h it (.str x) (signs x) i

section
variable {X : Cx} {η η' : List Addr} {h h' : Heap} {it : Addr} {src : V} {xs : List V} {i : Nat}
theorem ItR.obj (r : ItR X η h it src xs i) : ∃ o T fs, h.get? it = some o ∧ o.cls = .type T ∧ o.data = .fields fs ∧ T ≠ "range" := by
  cases r with
  | list _ q => obtain ⟨o, a, b, c⟩ := q; exact ⟨o, _, _, a, b, c, by decide⟩
  | tup _ _ _ q => obtain ⟨o, a, b, c⟩ := q; exact ⟨o, _, _, a, b, c, by decide⟩
  | rng q => exact ⟨_, _, _, q, rfl, rfl, by decide⟩
  | str _ q => obtain ⟨o, a, b, c⟩ := q; exact ⟨o, _, _, a, b, c, by decide⟩
theorem ItR.mach (r : ItR X η h it src xs i) : Mach h it := let ⟨o, T, fs, e, c, d, q⟩ := r.obj; ⟨o, e, .inl ⟨T, fs, c, d, q⟩⟩
theorem ItR.recs (r : ItR X η h it src xs i) : Recs [it] η h := fun b hb => let ⟨o, _, fs, e, _, d, _⟩ := r.obj; .inr ⟨o, fs, by rw [List.mem_singleton.mp hb]; exact e, d⟩
theorem ItR.move (r : ItR X η h it src xs i) (hp : ∃ l, η' = η ++ l) (x : Holds η h η' h') (same : ∀ o, h.get? it = some o → h'.get? it = some o) : ItR X η' h' it src xs i := by
  cases r with
  | list e1 q1 =>
    obtain ⟨o, a, b, c⟩ := q1
    obtain ⟨l', rfl⟩ := hp
    exact .list (getElem?_pre e1) ⟨o, same o a, b, c⟩
  | tup e1 e2 e3 q1 =>
    obtain ⟨o, a, b, c⟩ := q1
    exact .tup (x.seq _ _ e1 e2 (.inl ⟨_, _, rfl⟩)).1 (x.seq _ _ e1 e2 (.inl ⟨_, _, rfl⟩)).2 (e3.map hp x) ⟨o, same o a, b, c⟩
  | rng q1 => exact .rng (same _ q1)
  | str ok q1 =>
    obtain ⟨o, a, b, c⟩ := q1
    exact .str ok ⟨o, same o a, b, c⟩
theorem ItR.keep {fr own : List Addr} (r : ItR X η h it src xs i) (x : Step fr own η h η' h') (f : Frm h (own ++ fr)) (hη : it ∉ η) : ItR X η' h' it src xs i := by
  obtain ⟨o0, T, fs, e0, c0, d0, _⟩ := r.obj
  exact r.move x.pre' (x.holds f) fun o e => have q := f.not e0 ⟨fun es n q => (by rw [d0] at q; cases q), fun v q => (by rw [d0] at q; cases q)⟩; x.same it o e hη (fun z => q (List.mem_append.mpr (.inl z))) fun z => q (List.mem_append.mpr (.inr z))

theorem next_ok {A : Around} {H : Hp} {s : Shared} {Q : Option Value → Shared → Prop} {E : Value → Shared → Prop} (r : ItR X η s.heap it src xs i) (iv : Inv X η H s.heap) (hη : it ∉ η) (hh : A.handled = Option.none) (hsrc : ∀ n, src = .ref n → H[n]? = some (.list xs))
    (h1 : ∀ v mv h' tk, xs[i]? = some v → Turn [it] η H s.heap h' → VR X η h' v mv → ItR X η h' it src xs (i + 1) → Q (some mv) { s with heap := h', toks := tk })
    (h2 : ∀ h', xs[i]? = Option.none → Turn [it] η H s.heap h' → Q Option.none { s with heap := h' }) : wpAny X.M A (pyNext (.ref it)) Q E s := by
  have sb : ∀ {h'}, Heap.SameBut it s.heap h' → Turn [it] η H s.heap h' := fun {h'} q => Turn.one hη r.mach fun b o hb e => (q.2 b hb).trans e
  have eb : ∀ {h'}, Heap.ExtBut it s.heap h' → Turn [it] η H s.heap h' := fun {h'} q => Turn.one hη r.mach fun b o hb e => q b o hb e
  cases r with
  | list e1 q1 =>
    rename_i n l
    obtain ⟨items, k, g, vr, le⟩ := list_of_H iv e1 (hsrc n rfl)
    have hl : s.heap.IsList l items := ⟨_, g, rfl, k, rfl⟩
    cases e : xs[i]? with
    | none =>
      refine wpAny_pyNext_list_end hh q1 hl ?_ fun h' k => h2 h' e (eb k)
      rw [List.getElem?_eq_none_iff] at e
      rw [Array.getElem?_eq_none_iff, ← Array.length_toList, ← vr.length]; exact e
    | some v =>
      obtain ⟨mv, em, rv⟩ := vr.get e
      rw [Array.getElem?_toList] at em
      exact wpAny_pyNext_list_item q1 hl em fun h' k1 k2 => h1 v mv h' s.toks e (sb k2) ((sb k2).vr rv) (.list e1 k1)
  | tup e1 e2 e3 q1 =>
    rename_i t k items
    have ht : s.heap.IsTuple t items := ⟨_, e1, rfl, k, rfl⟩
    cases e : xs[i]? with
    | none =>
      refine wpAny_pyNext_tuple_end hh q1 ht ?_ fun h' k => h2 h' e (eb k)
      rw [List.getElem?_eq_none_iff] at e
      rw [Array.getElem?_eq_none_iff, ← Array.length_toList, ← e3.length]; exact e
    | some v =>
      obtain ⟨mv, em, rv⟩ := e3.get e
      rw [Array.getElem?_toList] at em
      exact wpAny_pyNext_tuple_item q1 ht em fun h' k1 k2 => h1 v mv h' s.toks e (sb k2) ((sb k2).vr rv) (.tup ((sb k2).holds.seq _ _ e1 e2 (.inl ⟨_, _, rfl⟩)).1 e2 ((sb k2).vrs e3) k1)
  | rng q1 =>
    rename_i a b c
    by_cases hi : i < (rangeL a b c).length
    · refine wpAny_pyNext_range_item q1 (by omega) fun h' k1 k2 => h1 (.int (a + c * i)) _ h' _ ?_ (sb k2) (.int _ _) (.rng ?_)
      · rw [List.getElem?_map, List.getElem?_eq_getElem hi, Option.map_some, rangeL_get]
      · have e1 : a + c * ((i + 1 : Nat) : Int) = a + c * i + c := by
          have : ((i + 1 : Nat) : Int) = (i : Int) + 1 := by omega
          rw [this, Int.mul_add, Int.mul_one, Int.add_assoc]
        have e2 : ((rangeL a b c).length : Int) - ((i + 1 : Nat) : Int) = (rangeL a b c).length - i - 1 := by omega
        rw [e2, e1]; exact k1
    · refine wpAny_pyNext_range_end hh q1 (by omega) fun h' k => h2 h' ?_ (eb k)
      rw [List.getElem?_eq_none_iff, List.length_map]; omega
  | str ok q1 =>
    rename_i x t
    cases e : x.cps[i]? with
    | none =>
      refine wpAny_pyNext_ascii_end hh q1 e fun h' k => h2 h' ?_ (eb k)
      unfold signs
      rw [List.getElem?_map, Array.getElem?_toList, e]; rfl
    | some c =>
      refine wpAny_pyNext_ascii_item q1 e fun h' k1 k2 => h1 (.str ⟨#[c]⟩) _ h' _ ?_ (sb k2) (.str _ _ (strOk_one ok e)) (.str ok k1)
      unfold signs
      rw [List.getElem?_map, Array.getElem?_toList, e]; rfl
end

section
variable {X : Cx} {A : Around} {η : List Addr} {H : Hp} {s : Shared}
theorem items_ref {H : Hp} {n : Nat} {xs : List V} (h : items H (.ref n) = some xs) : H[n]? = some (.list xs) := by
  obtain ⟨k, e, q⟩ := listAt_inv (show listAt (.ref n) H = some xs from h)
  cases e; exact q
theorem iter_ok {v : V} {mv : Value} {xs : List V} {Q : Value → Shared → Prop} {E : Value → Shared → Prop} (i : Inv X η H s.heap) (r : VR X η s.heap v mv) (e : items H v = some xs)
    (hq : ∀ ob, ItR X η (s.heap.push ob) s.heap.objs.size v xs 0 → Q (.ref s.heap.objs.size) { s with heap := s.heap.push ob }) : wpAny X.M A (pyIter mv) Q E s := by
  cases r with
  | tup g hn r l =>
    cases e
    exact wpAny_pyIter_tuple ⟨_, g, rfl, _, rfl⟩ (hq _ (.tup (push_keeps _ _ _ _ g) hn (r.grow (Step.ext _ _ _ (push_keeps _ _))) ⟨_, Heap.get?_push_size _ rfl, rfl, rfl⟩))
  | ref e1 =>
    obtain ⟨it, c, g, vr, le⟩ := list_of_H i e1 (items_ref e)
    exact wpAny_pyIter_list ⟨_, g, rfl, _, rfl⟩ (hq _ (.list e1 ⟨_, Heap.get?_push_size _ rfl, rfl, rfl⟩))
  | rng hr hn =>
    rename_i a b c t u w r
    have e' : (if rngOk a b c = true then some ((rangeL a b c).map V.int) else Option.none) = some xs := e
    split at e'
    · rename_i ok
      cases e'
      obtain ⟨f1, f2, f3⟩ := rng_facts ok
      refine wpAny_pyIter_range hr f2 (hq _ (.rng ?_))
      rw [f1]
      have z1 : a + c * ((0 : Nat) : Int) = a := by simp
      have z2 : ((rangeL a b c).length : Int) - ((0 : Nat) : Int) = (rangeL a b c).length := by simp
      rw [z1, z2]
      exact Heap.get?_push_size _ rfl
    · cases e'
  | str x t ok =>
    have e' : (if (x.cps.all (· < 128) && decide (x.length ≤ line)) = true then some (signs x) else Option.none) = some xs := e
    split at e'
    · rename_i hc
      cases e'
      rw [Bool.and_eq_true] at hc
      exact wpAny_pyIter_ascii hc.1 (hq _ (.str ok ⟨_, Heap.get?_push_size _ rfl, rfl, rfl⟩))
    · cases e'
  | _ => cases e
end
end Mine

/-! RA -/
namespace Mine
open PySem PyProof.Rows PySem.W
section
variable {X : Cx} {η : List Addr} {h : Heap}
theorem VRs.drop : ∀ {xs : List V} {ms : List Value}, VRs X η h xs ms → ∀ k, VRs X η h (xs.drop k) (ms.drop k)
  | _, _, r, 0 => r
  | _, _, .nil, k + 1 => .nil
  | _, _, .cons _ r, k + 1 => r.drop k
theorem VRs.take : ∀ {xs : List V} {ms : List Value}, VRs X η h xs ms → ∀ k, VRs X η h (xs.take k) (ms.take k)
  | _, _, _, 0 => .nil
  | _, _, .nil, k + 1 => .nil
  | _, _, .cons a r, k + 1 => .cons a (r.take k)
theorem part_of {l : V} {ml : Value} {a : Option Int} (r : VR X η h l ml) (e : intO l = some a) : ∃ q : Option (Int × Tok), ml = partValue q ∧ q.map (·.1) = a := by
  cases r with
  | none => cases e; exact ⟨Option.none, rfl, rfl⟩
  | int i t => cases e; exact ⟨some (i, t), rfl, rfl⟩
  | _ => cases e
theorem RaiseAt.bind {st : List Env} {α β : Type} {s : Shared} {r : R α} {f : α → Hp → R β} {ev : Value} {s' : Shared} (x : RaiseAt X st η s r ev s') : RaiseAt X st η s (r.bind f) ev s' := by
  obtain ⟨c, H', rfl, p⟩ := x
  exact ⟨c, H', rfl, p⟩
end
section
variable {κ : Ct} {ρ : Rho} {vs : List (V × Value)} {H : Hp}

noncomputable abbrev sliceObj (vl vu : Value) : Obj := { cls := .type "slice", data := .fields #[vl, vu, .none] }
theorem wpAny_slice {prog : Program} {w : World} {A : Around} {env : Env} {value : Expr} {lower upper : Option Expr} {p pos : Pos} {Q : Value → Shared → Prop} {E : Value → Shared → Prop} {s : Shared}
    (h : wpAny (model prog w) A (eval value env) (fun o s1 => wpAny (model prog w) A (evalPart lower env) (fun vl s2 => wpAny (model prog w) A (evalPart upper env) (fun vu s3 =>
      ∃ T id, typeLookup (.type T) "__getitem__" = pure (some (.builtin id)) ∧ s3.TypeIs o T ∧ wpAny (model prog w) A (getItem o (.ref s3.heap.objs.size)) Q E { s3 with heap := s3.heap.push (sliceObj vl vu) }) E s2) E s1) E s) :
    wpAny (model prog w) A (eval (.Subscript value (.Slice lower upper Option.none p) pos) env) Q E s := by
  show wpAny _ _ (eval value env >>= fun a => PySem.holding [a] (eval (.Slice lower upper Option.none p) env) >>= fun b => standAt pos >>= fun _ => subscriptTail value (.Slice lower upper Option.none p) a b) _ _ _
  refine wpAny_bind (wpAny_mono h (fun o s1 h1 => wpAny_bind (wpAny_holding (wpAny_Slice (wpAny_mono h1 (fun vl s2 h2 => wpAny_mono h2 (fun vu s3 h3 => ?_) fun _ _ e => e) fun _ _ e => e)))) fun _ _ e => e)
  obtain ⟨T, id, hl, hT, hg⟩ := h3
  rw [evalPart_none]
  refine wpAny_pure (wpAny_bind (wpAny_standAt (tail_any (T := T) ?_ hl hg rfl)))
  cases o with
  | ref a => obtain ⟨ob, e, c⟩ := hT; exact ⟨ob, push_keeps _ _ _ _ e, c⟩
  | _ => exact hT

theorem sliceV_ok {o l u : V} {mo ml mu : Value} {η : List Addr} {s : Shared} {Q : Value → Shared → Prop} {E : Value → Shared → Prop} (at' : At κ η ρ H s) (vo : VR κ.X η s.heap o mo) (vl : VR κ.X η s.heap l ml) (vu : VR κ.X η s.heap u mu) (hs : sliceV o l u H ≠ .stuck)
    (hq : ∀ d s', OkAt κ.X κ.st rV η s (sliceV o l u H) d s' → Q d s') :
    ∃ T id, typeLookup (.type T) "__getitem__" = pure (some (.builtin id)) ∧ s.TypeIs mo T ∧ wpAny κ.X.M κ.A (getItem mo (.ref s.heap.objs.size)) Q E { s with heap := s.heap.push (sliceObj ml mu) } := by
  unfold sliceV at hs hq
  cases hx : strAt o with
  | some x =>
    rw [hx] at hs hq
    dsimp only at hs hq
    unfold sliceS at hs hq
    obtain ⟨t, rfl, ok⟩ := vr_str vo hx
    cases hl : intO l with
    | none => rw [hl] at hs; exact absurd rfl hs
    | some a =>
      cases hu : intO u with
      | none => rw [hl, hu] at hs; exact absurd rfl hs
      | some b =>
        rw [hl, hu] at hs hq
        dsimp only at hs hq
        by_cases hc : x.length ≤ line ∧ PyData.strOk (Txt.slice x a b) = true
        · rw [if_pos hc] at hq
          obtain ⟨q, rfl, rfl⟩ := part_of vl hl
          obtain ⟨r, rfl, rfl⟩ := part_of vu hu
          refine ⟨"str", _, F.slot_str_getitem.lookup, typeIs_str _ _ _, wpAny_getItem_str_slice (l := q) (u := r) (st := Option.none) ⟨_, Heap.get?_push_size _ rfl, rfl, rfl⟩ rfl
            (post_val_or_str ⟨Nat.le_trans (Txt.slice_le x _ _) (Nat.le_trans hc.1 line_lt), fun t' k => hq _ _ ⟨_, _, rfl, trivial, η, _, k, rfl, at'.inv.ext (push_keeps _ _), Step.ext _ _ _ (push_keeps _ _), fun p hp => rV1 hp (.str _ _ hc.2)⟩⟩)⟩
        · rw [if_neg hc] at hs; exact absurd rfl hs
  | none =>
    rw [hx] at hs hq
    dsimp only at hs hq
    cases hx : listAt o H with
    | none => rw [hx] at hs; exact absurd rfl hs
    | some xs =>
      cases hl : intAt l with
      | none => rw [hx, hl] at hs; exact absurd rfl hs
      | some a =>
        cases hu : intAt u with
        | none => rw [hx, hl, hu] at hs; exact absurd rfl hs
        | some b =>
          rw [hx, hl, hu] at hs hq
          dsimp only at hs hq
          by_cases hab : 0 ≤ a ∧ a ≤ b ∧ b ≤ xs.length
          · rw [if_pos hab] at hq
            obtain ⟨t, rfl⟩ := vr_int vl hl
            obtain ⟨w, rfl⟩ := vr_int vu hu
            obtain ⟨x, items, c, rfl, g, r, le⟩ := vr_list at'.inv vo hx
            refine ⟨"list", _, list_getitem_lookup, ⟨_, g, rfl⟩, wpAny_getItem_list_slice (lo := some a) (hi := some b) (st := Option.none) ((show s.heap.IsList x items from ⟨_, g, rfl, c, rfl⟩).push _) (Heap.IsSliceOf.new ..) (.int _ _) (.int _ _) .none (by simp) (hq _ _ ?_) (by rw [r.size]; exact Nat.le_trans le line_lt)⟩
            have ez : (s.heap.push (sliceObj (.int a t) (.int b w))).objs.size = s.heap.objs.size + 1 := Heap.size_push ..
            generalize hh : (s.heap.push (sliceObj (.int a t) (.int b w))) = h1 at ez ⊢
            have kp : ∀ z o, s.heap.get? z = some o → (h1.push { cls := .type "list", data := .seq (slicePick items (some a) (some b) Option.none) }).get? z = some o := fun z o e => push_keeps _ _ _ _ (by rw [← hh]; exact push_keeps _ _ _ _ e)
            have nw : s.heap.get? h1.objs.size = Option.none := by
              cases e : s.heap.get? h1.objs.size with
              | none => rfl
              | some o => exact absurd (Heap.lt_size e) (by rw [ez]; exact Nat.not_lt.mpr (Nat.le_succ _))
            have ep : (slicePick items (some a) (some b) Option.none).toList = (items.toList.drop a.toNat).take (b - a).toNat := by
              have q := slicePick_run items a.toNat b.toNat (by rw [r.size]; omega) (by omega)
              rw [Int.toNat_of_nonneg hab.1, Int.toNat_of_nonneg (by omega)] at q
              rw [q, show b.toNat - a.toNat = (b - a).toNat by omega]
            refine ⟨_, _, rfl, trivial, η ++ [h1.objs.size], _, s.toks, rfl, at'.inv.make kp nw (Heap.get?_push_size _ rfl) (.list ?_ ?_), Step.make _ _ _ kp nw, fun p hp => rV1 hp (.ref ?_)⟩
            · rw [ep]
              exact ((r.drop _).take _).grow (Step.make [] [] η kp nw)
            · rw [List.length_take, List.length_drop]; omega
            · rw [← at'.inv.len]; simp
          · rw [if_neg hab] at hs; exact absurd rfl hs

theorem slice_ok {value : Expr} {lower upper : Option Expr} {p pos : Pos} {r1 : R V} {lo hi : Hp → R V} (h1 : Tri κ ρ vs (eval value κ.env) H r1 rV)
    (h2 : ∀ H1, Tri κ ρ [] (evalPart lower κ.env) H1 (lo H1) rV) (h3 : ∀ H1, Tri κ ρ [] (evalPart upper κ.env) H1 (hi H1) rV) :
    Tri κ ρ vs (eval (.Subscript value (.Slice lower upper Option.none p) pos) κ.env) H (r1.bind fun v H1 => (lo H1).bind fun l H2 => (hi H2).bind fun u H3 => sliceV v l u H3) rV := by
  refine Tri.via (fun Q E s q => wpAny_slice q) h1 fun v H1 mo _ _ hs η s Q E a hv hq he => ?_
  have hr2 : lo H1 ≠ .stuck := fun q => by rw [q] at hs; exact hs rfl
  refine wpAny_mono (h2 H1 hr2 η s a fun _ q => nomatch q) (fun ml s2 hx2 => ?_) fun ev s' q => he ev s' q.bind
  obtain ⟨l, H2, e2, _, η2, h2', tk2, rfl, i2, st2, p2⟩ := hx2
  have a2 := a.step st2 i2 tk2
  rw [e2, R.bind_ok] at hs hq he
  have hr3 : hi H2 ≠ .stuck := fun q => by rw [q] at hs; exact hs rfl
  refine wpAny_mono (h3 H2 hr3 η2 _ a2 fun _ q => nomatch q) (fun mu s3 hx3 => ?_) fun ev s' q => he ev s' (q.bind.after st2)
  obtain ⟨u, H3, e3, _, η3, h3', tk3, rfl, i3, st3, p3⟩ := hx3
  have a3 := a2.step st3 i3 tk3
  rw [e3, R.bind_ok] at hs hq
  exact sliceV_ok a3 (((hv _ m0).up st2 a.stk.frm).up st3 a2.stk.frm) ((p2 _ (List.Mem.head _)).up st3 a2.stk.frm) (p3 _ (List.Mem.head _)) hs fun d s' ok => hq d s' ((ok.after st3).after st2)
end
end Mine

/-! R22 -/
namespace Mine
open PySem PyProof.Rows PySem.W

section
variable {X : Cx} {fr own η : List Addr} {h h' : Heap} {H : Hp}
theorem Step.put (fr own : List Addr) {a : Addr} {ob : Obj} (ha : a ∈ η) (sb : Heap.SameBut a h h') (g : h'.get? a = some ob) : Step fr own η h η h' := by
  have ne : ∀ b, b ∉ η → b ≠ a := fun b hb q => hb (q ▸ ha)
  refine ⟨⟨[], by simp, fun _ q => nomatch q⟩, fun b o e => ?_, fun b o e hb _ => ⟨o.slots, (sb.2 b (ne b hb)).trans e, fun _ => rfl⟩, fun b o e hb es k d => ⟨o, es, k, (sb.2 b (ne b hb)).trans e, d⟩, fun b o e hb v d => ⟨o, v, (sb.2 b (ne b hb)).trans e, d⟩⟩
  by_cases hb : b = a
  · exact ⟨ob, hb ▸ g⟩
  · exact ⟨o, (sb.2 b hb).trans e⟩

theorem Inv.put (i : Inv X η H h) {n : Nat} {a : Addr} {o : O} {ob : Obj} (e : η[n]? = some a) (sb : Heap.SameBut a h h') (g : h'.get? a = some ob) (r : OR X η h' o ob) : Inv X η (H.set n o) h' := by
  have ha : a ∈ η := List.mem_of_getElem? e
  have x : Step [] [] η h η h' := Step.put [] [] ha sb g
  refine ⟨fun b o e => (sb.2 b (fun q => by rw [q, i.fresh a ha] at e; cases e)).trans (i.keep b o e), by rw [List.length_set]; exact i.len, i.fresh, i.nodup, fun m b o' hb ho => ?_⟩
  by_cases hm : m = n
  · subst hm
    rw [e] at hb; cases hb
    have hlt : m < H.length := i.len ▸ (List.getElem?_eq_some_iff.mp e).1
    rw [List.getElem?_set_self hlt] at ho
    cases ho
    exact ⟨ob, g, r⟩
  · rw [List.getElem?_set_ne (Ne.symm hm)] at ho
    obtain ⟨ob', e', r'⟩ := i.objs m b o' hb ho
    have hba : b ≠ a := fun q => by
      subst q
      obtain ⟨h1, q1⟩ := List.getElem?_eq_some_iff.mp e
      obtain ⟨h2, q2⟩ := List.getElem?_eq_some_iff.mp hb
      exact hm (by
        have := (List.getElem_inj i.nodup (h₀ := h2) (h₁ := h1)).mp (q2.trans q1.symm)
        exact this)
    exact ⟨ob', (sb.2 b hba).trans e', r'.map x.pre' (x.holds (Frm.nil h))⟩
end

section
variable {κ : Ct} {ρ : Rho} {vs : List (V × Value)} {H : Hp}
theorem append_ok {k : Nat} {xs : List V} {v : V} {ov mv : Value} (hm : (V.ref k, ov) ∈ vs) (hx : (v, mv) ∈ vs) (hk : H[k]? = some (.list xs)) (hlt : xs.length < line) :
    Tri κ ρ vs (PySem.call (.builtin "list.append") [ov, mv]) H (.ok .none (H.set k (.list (xs ++ [v])))) rV := by
  intro _ η s at' hv
  have r := hv _ hm
  cases r with
  | ref e =>
    rename_i l
    obtain ⟨items, c, g, vr, le⟩ := list_of_H at'.inv e hk
    refine call_meets F.slot_list_append ⟨_, g, rfl⟩ F.entry_list_append (F.args_list_append_2 _ _) (PySem.AutoListH.list_append_list_val_0 l items c mv (by rw [vr.size]; unfold sizeLine; unfold line at le; omega)) ⟨g, ?_⟩
    have sb : Heap.SameBut l s.heap (s.heap.update l (Obj.mapSeq fun x => x.push mv)) := Heap.SameBut.update ..
    have g' : (s.heap.update l (Obj.mapSeq fun x => x.push mv)).get? l = some _ := Heap.get?_update_self _ g rfl
    have st := Step.put (frs κ.st) [] (List.mem_of_getElem? e) sb g'
    refine ⟨_, _, rfl, trivial, η, _, s.toks, rfl, at'.inv.put e sb g' (.list ?_ (by rw [List.length_append]; exact hlt)), st, fun p hp => rV1 hp .none⟩
    rw [Array.toList_push]
    exact (vr.step st at'.stk.frm).append (.cons ((hv _ hx).up st at'.stk.frm) .nil)
end
end Mine

/-! RC -/
namespace Mine
open PySem PyProof.Rows PySem.W

theorem isStr_iff {v : Value} {x : Str} : v.isStr x = true ↔ ∃ t, v = .str x t := by
  cases v with
  | str s t =>
    constructor
    · intro h
      have : s = x := by simpa [Value.isStr] using h
      exact ⟨t, by rw [this]⟩
    · rintro ⟨t', e⟩
      cases e
      simp [Value.isStr]
  | _ => simp [Value.isStr]

section
variable {X : Cx} {η : List Addr} {h : Heap}
theorem NRs.find {a : String} {v : V} : ∀ {fs : List (String × V)} {ds : List DictEntry}, NRs X η h fs ds → fs.lookup a = some v → ∃ e, ds.find? (·.key.isStr (Str.ofString a)) = some e ∧ VR X η h v e.val
  | _, _, .nil, e => by cases e
  | (k, w) :: fs, e :: ds, .cons ek r rs, el => by
    rw [List.lookup_cons] at el
    by_cases hk : a = k
    · subst hk
      simp only [beq_self_eq_true] at el
      cases el
      refine ⟨e, ?_, r⟩
      rw [List.find?_cons, isStr_iff.mpr ⟨_, ek⟩]
    · have hb : (a == k) = false := by simpa using hk
      rw [hb] at el
      obtain ⟨e', h1, h2⟩ := NRs.find rs el
      refine ⟨e', ?_, h2⟩
      have : e.key.isStr (Str.ofString a) = false := Bool.eq_false_iff.mpr fun q => by
        obtain ⟨t, q⟩ := isStr_iff.mp q
        rw [ek] at q
        exact hk (ofString_inj (Value.str.inj q).1).symm
      rw [List.find?_cons, this]; exact h1
theorem NRs.noRef : ∀ {fs : List (String × V)} {ds : List DictEntry}, NRs X η h fs ds → ds.any (·.refKey) = false
  | _, _, .nil => rfl
  | _, e :: ds, .cons ek r rs => by
    rw [List.any_cons, NRs.noRef rs]
    unfold DictEntry.refKey
    rw [ek]; rfl
theorem NRs.len : ∀ {fs : List (String × V)} {ds : List DictEntry}, NRs X η h fs ds → fs.length = ds.length
  | _, _, .nil => rfl
  | _, e :: ds, .cons ek r rs => congrArg Nat.succ rs.len

theorem inst_of_H {H : Hp} {n d : Nat} {x : Addr} {c : String} {fs : List (String × V)} (i : Inv X η H h) (e : η[n]? = some x) (h1 : H[n]? = some (.inst c d)) (h2 : H[d]? = some (.ns fs)) :
    ∃ C dx fI ds k, X.mg (Str.ofString c) = some (.ref C) ∧ ClsOk X.K C fI ∧ η[d]? = some dx ∧ h.get? x = some { cls := .ref C, dict := some dx, data := .plain } ∧ h.get? dx = some { cls := .type "dict", data := .dict ds k } ∧ NRs X η h fs ds.toList ∧ fs.length ≤ 21 ∧ X.cl c = true := by
  obtain ⟨ob, g, r⟩ := i.objs n x _ e h1
  cases r with
  | inst hc hm hd =>
    rename_i C dx
    obtain ⟨od, g2, r2⟩ := i.objs d dx _ hd h2
    cases r2 with
    | ns nr le =>
      obtain ⟨C', fI, e1, ok⟩ := X.cls c hc
      rw [hm] at e1; cases e1
      exact ⟨_, _, fI, _, _, hm, ok, hd, g, g2, nr, le, hc⟩
end

section
variable {κ : Ct} {X : Cx} {ρ : Rho} {vs : List (V × Value)} {H : Hp}
theorem handed_vr {η : List Addr} {h : Heap} {v : V} {m : Value} (r : VR X η h v m) : handedIn m = true := by cases r <;> rfl

theorem attr_ok {o : V} {a : String} {m : Value} (hm : (o, m) ∈ vs) (ha : attrName a = true) : Tri κ ρ vs (getAttr m (Str.ofString a) true) H (attrV o a H) rV := by
  unfold attrV
  split
  · rename_i k
    split
    · rename_i c d hk
      split
      · rename_i fs hd2
        cases hl : fs.lookup a with
        | none => exact Tri.stuck
        | some v =>
          refine Tri.plain fun η s Q E at' hv hq => ?_
          have r := hv _ hm
          cases r with
          | ref e =>
            rename_i x
            obtain ⟨C, dx, fI, ds, k2, hmg, ok, ed, g1, g2, nr, le, _⟩ := inst_of_H at'.inv e hk hd2
            obtain ⟨en, ef, rv⟩ := nr.find hl
            refine get_value (K := κ.X.K) (C := C) (od := some _) (κ.X.kin.keeps at'.inv.keep) ⟨g1, rfl, rfl, g2⟩ ok.get ?_ (handed_vr rv) (hq _ _ rv)
            obtain ⟨cd, hcd, hdd⟩ := any_some ok.dict
            have hlk : lookIn (Str.ofString a) { cls := .type "dict", data := .dict ds k2 } = some (some en.val) := by unfold lookIn; simp only [ef]
            unfold findObj
            rw [hcd, Option.bind_some, ok.names a ha]
            simp only [Option.bind_some, PySem.W.ownOf, hdd, if_true, hlk]
      · exact Tri.stuck
    · exact Tri.stuck
  · exact Tri.stuck

noncomputable def rU (_ : Unit) (_ : Unit) : Prop × List (V × Value) := (True, [])

theorem NRs.put {η : List Addr} {h : Heap} {a : String} {v : V} {mv : Value} {hsh : Int} {t : Tok} (rv : VR X η h v mv) : ∀ {fs : List (String × V)} {ds : List DictEntry}, NRs X η h fs ds → NRs X η h (setL a v fs) (putL (Str.ofString a) hsh (.str (Str.ofString a) t) mv ds)
  | _, _, .nil => .cons rfl rv .nil
  | (k, w) :: fs, e :: ds, .cons ek r rs => by
    unfold setL putL
    by_cases hk : k = a
    · subst hk
      rw [if_pos rfl, if_pos (isStr_iff.mpr ⟨_, ek⟩)]
      exact .cons ek rv rs
    · have : ¬ e.key.isStr (Str.ofString a) = true := fun q => by
        obtain ⟨t, q⟩ := isStr_iff.mp q
        rw [ek] at q
        exact hk (ofString_inj (Value.str.inj q).1)
      rw [if_neg hk, if_neg this]
      exact .cons ek r (rs.put rv)
theorem setL_len (x : String) (v : V) : ∀ ρ : List (String × V), (setL x v ρ).length ≤ ρ.length + 1
  | [] => by simp [setL]
  | (y, w) :: r => by
    unfold setL
    split
    · simp
    · have := setL_len x v r
      simp; omega

theorem set_ok {o v : V} {a : String} {mo mv : Value} (ho : (o, mo) ∈ vs) (hv : (v, mv) ∈ vs) (ha : attrName a = true) : Tri κ ρ vs (setAttr mo (Str.ofString a) mv) H (setA o a v H) rU := by
  unfold setA
  split
  · rename_i k
    split
    · rename_i c d hk
      split
      · rename_i fs hd2
        split
        · rename_i hlen
          intro _ η s at' hvs
          have r := hvs _ ho
          have rv : VR κ.X η s.heap v mv := hvs _ hv
          cases r with
          | ref e =>
            rename_i x
            obtain ⟨C, dx, fI, ds, k2, hmg, ok, ed, g1, g2, nr, le, _⟩ := inst_of_H at'.inv e hk hd2
            have hK := κ.X.kin.keeps at'.inv.keep
            have I : InstAt s.heap x { cls := .ref C, dict := some dx, data := .plain } C (some { cls := .type "dict", data := .dict ds k2 }) := ⟨g1, rfl, rfl, g2⟩
            refine set_plain (K := κ.X.K) hK I ok.set ?_
            have ht : takerIn κ.X.K C (Str.ofString a) = some Option.none := by unfold takerIn; rw [ok.names a ha]; rfl
            refine osa_open (s := { s with toks := s.toks + 1 }) hK I ok.over ht fun b => ?_
            obtain ⟨cd, hcd, hdd⟩ := any_some ok.dict
            have sz : ds.size ≤ 21 := by rw [← Array.length_toList, ← nr.len]; exact le
            have ep : ∀ hsh key, Obj.putName (Str.ofString a) hsh key mv { cls := .type "dict", data := .dict ds k2 } = { cls := .type "dict", data := .dict (putL (Str.ofString a) hsh key mv ds.toList).toArray (putN (Str.ofString a) ds.toList k2) } := fun hsh key => by
              have := putName_dict (Str.ofString a) hsh key mv ds.toList k2
              unfold dictOf at this
              rw [Array.toArray_toList] at this
              exact this
            have fin : ∀ hsh t tk, ∃ od', (s.heap.update dx (Obj.putName (Str.ofString a) hsh (.str (Str.ofString a) t) mv)).get? dx = some od' ∧ od'.data.pastItsLine = Option.none ∧
                OkAt κ.X κ.st rU η s (R.ok () (H.set d (O.ns (setL a v fs)))) () { s with heap := s.heap.update dx (Obj.putName (Str.ofString a) hsh (.str (Str.ofString a) t) mv), toks := tk } := fun hsh t tk => by
              have g3 : (s.heap.update dx (Obj.putName (Str.ofString a) hsh (.str (Str.ofString a) t) mv)).get? dx = some { cls := .type "dict", data := .dict (putL (Str.ofString a) hsh (.str (Str.ofString a) t) mv ds.toList).toArray (putN (Str.ofString a) ds.toList k2) } := by
                rw [Heap.get?_update_self _ g2 (by rw [ep]; rfl), ep]
              have sb : Heap.SameBut dx s.heap (s.heap.update dx (Obj.putName (Str.ofString a) hsh (.str (Str.ofString a) t) mv)) := Heap.SameBut.update ..
              have xs := Step.put (frs κ.st) [] (List.mem_of_getElem? ed) sb g3
              have nr' := (nr.map xs.pre' (xs.holds at'.stk.frm)).put (a := a) (hsh := hsh) (t := t) (rv.up xs at'.stk.frm)
              have ln := setL_len a v fs
              refine ⟨_, g3, pastItsLine_dict ?_, (), _, rfl, trivial, η, _, tk, rfl, at'.inv.put ed sb g3 (.ns (by simpa using nr') (by omega)), xs, fun _ q => nomatch q⟩
              rw [List.size_toArray, ← nr'.len, sizeLine_eq]; omega
            refine wpAny_bind (wpAny_pure (wpAny_bind (wpAny_bind (wpAny_loadPart g1 (wpAny_bind (looks_clsIn hK hcd _ _ _ _ (fun _ _ e => e) ?_))))))
            rw [hdd]
            refine wpAny_pure (a := some dx) (wpAny_bind (wpAny_pure (wpAny_bind ?_)))
            unfold nsSet
            refine wpAny_bind (wpAny_bind (wpAny_askSetting (wpAny_pure (wpAny_bind (wpAny_mkText (wpAny_bind (wpAny_loadPart g2 ?_)))))))
            dsimp only
            rw [aRefKeyMayBeTheName_at, show ds.any (·.refKey) = false by rw [← Array.any_toList]; exact nr.noRef, Bool.and_false]
            simp only [Bool.false_eq_true, if_false]
            obtain ⟨od', g3, hp, out⟩ := fin _ _ _
            exact wpAny_updatePart g2 (wpAny_bind (wpAny_lookBehind g3 hp (wpAny_pure out)))
        · exact Tri.stuck
      · exact Tri.stuck
    · exact Tri.stuck
  · exact Tri.stuck
end
end Mine

/-! RD -/
set_option maxRecDepth 100000
namespace Mine
open PySem PyProof.Rows PySem.W PySem.Calls PySem.Builtin PySem.Builtin.Str

section
variable {prog : Program} {w : World} {A : Around} {E : Value → Shared → Prop} {s : Shared} {K : Frag} {x C : Addr} {ox : Obj}
theorem exc_class {Q : Option Value → Shared → Prop} (X : K.In s.heap) (I : InstAt s.heap x ox C Option.none) (hga : findIn K (.ref C) "__getattribute__" = some (some (.builtin "BaseException.__getattribute__"))) (hn : findIn K (.ref C) "__getattr__" = some Option.none)
    (hf : findObj K C Option.none "__class__" = some (.bind (.builtin "getset_descriptor.__get__") (.builtin "object.__class__"))) (hm : mroIn K C (.type "object") = some true) (hb : mroIn K C (.type "BaseException") = some true)
    (h : Q (some (.ref C)) { s with toks := s.toks + 1 }) : wpAny (model prog w) A (getAttr? (.ref x) "__class__") Q E s := by
  obtain ⟨hh, g, d, t, os⟩ := s
  have L0 := I.type (M := model prog w)
  have L1 := looks_findIn (M := model prog w) X hga
  have L2 := looks_findIn (M := model prog w) X hn
  have LF := looks_find (M := model prog w) X I hf
  unfold getAttr? getAttrBy? getAttrBy
  refine wpAny_bind (wpAny_mkText (wpAny_bind (wpAny_attempt (wpAny_holding (wpAny_bind (L0.at (wpAny_bind (L1.at ?_))))))))
  have f3 := PySem.F.attrBase_ValueError.ga.bind (.ref x)
  have hx2 : (Value.builtin "BaseException.__getattribute__" == Value.builtin "object.__getattribute__") = false := by decide +kernel
  have hx1 : (onTheHeap (Value.ref C) && Value.builtin "BaseException.__getattribute__" == Value.builtin "object.__getattribute__") = false := by rw [hx2]; rfl
  dsimp only
  rw [hx1]
  simp only [Bool.false_eq_true, if_false]
  unfold getAttrByItsOwn hookBefore callGetattribute
  refine wpAny_bind ?_
  repeat (first | with_reducible refine L2.at ?_ | wp_step)
  have sub : Looks (model prog w) hh (isInstance (.ref x) (.type "BaseException")) true := L0.andThen (looks_mroIn X hb)
  show codeAny (model prog w) A (.call (.builtin "BaseException.__getattribute__") ⟨[.ref x, .str (Str.ofString "__class__") t], []⟩) _ ⟨hh, g, d, t + 1, os⟩
  refine codeAny_call_builtin PySem.F.attrBase_ValueError.ga.plain PySem.F.entry_bexc_ga ?_
  refine @check_slot (model prog w) _ _ ⟨hh, g, d, t + 1, os⟩ "BaseException.__getattribute__" "BaseException" "__getattribute__" (.ref x) [.str (Str.ofString "__class__") t] [] _ (by decide +kernel) (by decide +kernel) sub (PySem.F.args_bexc_ga (.ref x) (.str (Str.ofString "__class__") t)) ?_
  unfold Builtin.«object.__getattribute__»
  refine wpAny_bind (wpAny_pure (wpAny_bind (wpAny_pure (wpAny_bind (L0.at (wpAny_bind (LF.at ?_)))))))
  unfold Builtin.ObjectAttr.bindTo
  refine wpAny_bind (wpAny_holding (wpAny_call (class_get (s := ⟨hh, g, d, t + 1, os⟩) (ox := ox) (od := Option.none) X I hm ?_)))
  refine wpAny_pure ?_
  show wpAny _ _ (handedOut (.ref C)) _ _ _
  rw [handedOut_of rfl]
  exact wpAny_pure (wpAny_pure h)

theorem kitx_exc (G : ExcGet K C) : KitX K (.ref x) (.ref C) (fun h => InstAt h x ox C Option.none) where
  ty := fun _ _ _ I => I.type
  it := fun _ _ X _ => by
    obtain ⟨cd, hc⟩ := Option.isSome_iff_exists.mp G.cls
    unfold clsIn at hc
    split at hc
    · rename_i ho
      intro A' Q' E' s' k q
      unfold isType loadHead
      exact wpAny_bind (wpAny_loadPart (k _ _ (X _ _ ho)) (wpAny_pure q))
    · cases hc
  ne := fun h tp dd its n sl X htp => by
    obtain ⟨cd, hc⟩ := Option.isSome_iff_exists.mp G.cls
    refine Bool.eq_false_iff.mpr fun q => ?_
    have e : C = tp := Value.ref.inj (beq_iff_eq.mp q)
    subst e
    unfold clsIn at hc
    split at hc
    · rename_i ho
      have z := (X _ _ ho).symm.trans htp
      cases z
    · cases hc
  ca := fun X I k => exc_class X I G.ga G.nga G.find G.obj G.bexc k

theorem isi_same {c : Value} {xv : Value} {Q : Value → Shared → Prop} (LT : ∀ M, Looks M s.heap (typeOf xv) c) (hx : xv ≠ .builtin "__main__.__loader__#opaque") (hq : Q (.bool true) s) : wpAny (model prog w) A (PySem.call (.builtin "isinstance") [xv, c]) Q E s := by
  refine call_isinstance (S := fun _ R s' => (∀ b o, s.heap.get? b = some o → s'.heap.get? b = some o) ∧ R (.ok (.ret (.bool true))) s') (fun prog w A R s' hs => isinstance_outer ?_ hx) ⟨fun _ _ e => e, hq⟩
  obtain ⟨h0, g, d, tt, os⟩ := s'
  obtain ⟨kp, hq⟩ := hs
  unfold Builtin.«isinstance.nested»
  refine wpAny_bind (LT _ _ _ _ _ kp ?_)
  rw [if_pos (beq_self_eq_true c)]
  first
    | exact wpAny_bind (wpAny_rule hq)
    | exact wpAny_bind (wpAny_rule (wpAny_pure hq))
theorem call_split {x y : Str} {t u : Tok} {Q : Value → Shared → Prop} (hx : x.length ≤ sizeLine) (hy : y.length ≠ 0) (hn : (Txt.split x y).length ≤ sizeLine)
    (hq : ∀ l tk, l.map (·.1) = Txt.split x y → Q (.ref s.heap.objs.size) { s with heap := s.heap.push { cls := .type "list", data := .seq (strValues l).toArray }, toks := tk }) :
    wpAny (model prog w) A (call (.builtin "str.split") [.str x t, .str y u]) Q E s := by
  have hy' : (y.length == 0) = false := by simpa using hy
  cases h1 : (decide (x.length < y.length) || decide (strKind x < strKind y))
  · cases hf : (occurrences x y 0 x.length (x.length + 1)).isEmpty
    · have es : Txt.split x y = partsBetween x (occurrences x y 0 x.length (x.length + 1)) y.length := (if_neg (ne_true_of_eq_false h1)).trans (if_neg (ne_true_of_eq_false hf))
      refine call_meets F.slot_str_split (typeIs_str _ _ _) F.entry_str_split (F.args_str_split_2 _ _) (meets_str_split_sep x y t u h1 hy' hf hx (es ▸ hn)) ?_
      have q := hq (numbered s.toks (partsBetween x (occurrences x y 0 x.length (x.length + 1)) y.length)) (s.toks + (partsBetween x (occurrences x y 0 x.length (x.length + 1)) y.length).length) ((numbered_texts _ _).trans es.symm)
      rw [← strsFrom_eq] at q
      exact q
    · exact call_meets F.slot_str_split (typeIs_str _ _ _) F.entry_str_split (F.args_str_split_2 _ _) (meets_str_split_not_found x y t u h1 hy' hf)
        (hq [(x, t)] s.toks ((if_neg (ne_true_of_eq_false h1)).trans (if_pos hf)).symm)
  · exact call_meets F.slot_str_split (typeIs_str _ _ _) F.entry_str_split (F.args_str_split_2 _ _) (meets_str_split_cannot_occur x y t u h1) (hq [(x, t)] s.toks (if_pos h1).symm)
end

section
variable {κ : Ct} {X : Cx} {ρ : Rho} {vs : List (V × Value)} {H : Hp}
theorem VRs.texts {η : List Addr} {h : Heap} : ∀ (l : List (Str × Tok)), (l.map (·.1)).all PyData.strOk = true → VRs X η h ((l.map (·.1)).map .str) (strValues l)
  | [], _ => .nil
  | p :: l, e => by
    rw [List.map_cons, List.all_cons, Bool.and_eq_true] at e
    exact .cons (.str _ _ e.1) (VRs.texts l e.2)
noncomputable def methId (m : String) : String := if m = "append" then "list.append" else if m = "count" then "list.count" else if m = "split" then "str.split" else "str.find"
theorem bools_eq : ∀ {xs : List V} {bs : List Bool}, bools xs = some bs → xs = bs.map V.bool
  | [], bs, e => by cases e; rfl
  | x :: xs, bs, e => by
    unfold bools at e
    rw [List.mapM_cons] at e
    obtain ⟨b, e1, e⟩ := Option.bind_eq_some_iff.mp e
    obtain ⟨cs, e2, e⟩ := Option.bind_eq_some_iff.mp e
    cases e
    have ih := bools_eq (xs := xs) (bs := cs) e2
    cases x with
    | bool c => cases e1; rw [ih]; rfl
    | _ => cases e1
theorem snaps_bools (n : Nat) (H : Hp) : ∀ bs : List Bool, (bs.map V.bool).mapM (snap n H) = some (bs.map PyData.bool)
  | [] => rfl
  | b :: bs => by
    have ih := snaps_bools n H bs
    have e : snap n H (V.bool b) = some (.bool b) := by cases n <;> rfl
    rw [List.map_cons, List.mapM_cons, e, ih]; rfl

theorem countIn_bools (b : Bool) : ∀ bs : List Bool, PySem.Spec.countIn (.bool b) (bs.map PyData.bool) = ((bs.count b : Nat) : Int)
  | [] => rfl
  | c :: bs => by
    have ih := countIn_bools b bs
    rw [List.map_cons, PySem.Spec.countIn, ih, List.count_cons]
    simp only [PySem.Spec.same]
    rcases Bool.eq_false_or_eq_true (c == b) with hb | hb <;> simp only [hb, Bool.false_eq_true, if_true, if_false] <;> omega


theorem count_ok {o v : V} {bs : List Bool} {b : Bool} {ov mv : Value} (hm : (o, ov) ∈ vs) (hx : (v, mv) ∈ vs) (hk : (listAt o H).bind bools = some bs) (hb : boolAt v = some b) :
    Tri κ ρ vs (PySem.call (.builtin "list.count") [ov, mv]) H (.ok (.int (bs.count b)) H) rV := by
  refine Tri.plain fun η s Q E at' hv hq => ?_
  obtain ⟨xs, e1, e2⟩ := Option.bind_eq_some_iff.mp hk
  obtain ⟨a, items, c, rfl, g, r, l⟩ := vr_list at'.inv (hv _ hm) e1
  have r2 := hv _ hx
  cases v with
  | bool b' =>
    cases hb
    cases r2
    have := bools_eq e2
    subst this
    obtain ⟨as, ra, _, _⟩ := mapM_reads (snap_reads at'.inv 8) r (snaps_bools 8 H bs)
    refine count_list_bools (vs := items.toList) ⟨_, g, rfl, c, rfl⟩ ra ?_ ?_
    · rw [List.all_eq_true]
      intro d hd
      obtain ⟨b', _, rfl⟩ := List.mem_map.mp hd
      rfl
    · rw [countIn_bools]
      exact hq _ _ (.int _ _)
  | _ => cases hb

theorem meth_ok {m : String} {o : V} {ov : Value} {ws : List V} {ms : List Value} (hm : mName m = true) (ho : (o, ov) ∈ vs) (hl : ws.length = ms.length) (hw : ∀ p ∈ ws.zip ms, p ∈ vs) :
    Tri κ ρ vs (PySem.call (.builtin (methId m)) (ov :: ms)) H (meth o m ws H) rV := by
  unfold meth methId
  by_cases hT : True
  · skip
    by_cases h1 : m = "append"
    · rw [if_pos h1, if_pos h1]
      unfold mAppend
      cases o with
      | ref n =>
        dsimp only
        cases hx : listAt (.ref n) H with
        | none => exact Tri.stuck
        | some xs =>
          dsimp only
          split
          · rename_i v
            obtain ⟨m, rfl⟩ := one_of hl
            split
            · rename_i hlt
              obtain ⟨k, e, hk⟩ := listAt_inv hx
              cases e
              exact append_ok ho (hw _ (List.Mem.head _)) hk hlt
            · exact Tri.stuck
          · exact Tri.stuck
      | _ => exact Tri.stuck
    rw [if_neg h1, if_neg h1]
    by_cases h2 : m = "count"
    · rw [if_pos h2, if_pos h2]
      unfold mCount
      cases hx : (listAt o H).bind bools with
      | none => exact Tri.stuck
      | some bs =>
        dsimp only
        split
        · rename_i v
          obtain ⟨m, rfl⟩ := one_of hl
          cases hb : boolAt v with
          | none => exact Tri.stuck
          | some b => exact count_ok ho (hw _ (List.Mem.head _)) hx hb
        · exact Tri.stuck
    rw [if_neg h2, if_neg h2]
    by_cases h3 : m = "split"
    · rw [if_pos h3, if_pos h3]
      unfold mSplit
      cases hx : strAt o with
      | none => exact Tri.stuck
      | some x =>
        dsimp only
        split
        · rename_i v
          obtain ⟨m, rfl⟩ := one_of hl
          cases hy : strAt v with
          | none => exact Tri.stuck
          | some y =>
            dsimp only
            split
            · rename_i hc
              refine Tri.madeL (by rw [List.length_map]; exact hc.2.2.1) fun η s Q E at' hv hq => ?_
              obtain ⟨t, rfl, _⟩ := vr_str (hv _ ho) hx
              obtain ⟨u, rfl, _⟩ := vr_str (hv _ (hw _ (List.Mem.head _))) hy
              refine call_split (Nat.le_trans hc.1 line_lt) hc.2.1 (Nat.le_trans hc.2.2.1 line_lt) fun l tk e => hq _ _ _ _ tk (size_none _) (push_keeps _ _) (Heap.get?_push_size _ rfl) ?_
              have q := VRs.texts (X := κ.X) (η := η) (h := s.heap) l (by rw [e]; exact hc.2.2.2)
              rw [e] at q
              exact q
            · exact Tri.stuck
        · exact Tri.stuck
    rw [if_neg h3, if_neg h3]
    by_cases h4 : m = "find"
    · rw [if_pos h4]
      unfold mFind
      cases hx : strAt o with
      | none => exact Tri.stuck
      | some x =>
        dsimp only
        split
        · rename_i v
          obtain ⟨m, rfl⟩ := one_of hl
          cases hy : strAt v with
          | none => exact Tri.stuck
          | some y =>
            refine Tri.plain fun η s Q E at' hv hq => ?_
            obtain ⟨t, rfl, _⟩ := vr_str (hv _ ho) hx
            obtain ⟨u, rfl, _⟩ := vr_str (hv _ (hw _ (List.Mem.head _))) hy
            exact call_gives F.slot_str_find (typeIs_str _ _ _) F.entry_str_find (F.args_str_find_2 _ _) (gives_str_find x y t u) (hq _ _ (.int _ _))
        · exact Tri.stuck
    rw [if_neg h4]
    exact Tri.stuck
  · exact absurd trivial hT

theorem isinst_own {v : V} {m tv : Value} {T : String} {b : Bool} (hm : (v, m) ∈ vs) (hT : ¬ bTypes.contains T = true) (hl : Loads κ.X.mg κ.X.mb T tv) (hk : κ.X.kn T = true) (he : isinst v T H = some b) :
    Tri κ ρ vs (PySem.call (.builtin "isinstance") [m, tv]) H (.ok (.bool b) H) rV := by
  unfold isinst at he
  rw [if_neg hT] at he
  refine Tri.plain fun η s Q E at' hv hq => ?_
  have r := hv _ hm
  cases v with
  | exc c =>
    simp only at he
    split at he
    · rename_i hex
      cases he
      cases r with
      | exc e oc dt ec hn =>
        rename_i x C o fs
        obtain ⟨G, k1⟩ := κ.X.exk c T C tv ec.2 hex hk ec.1 hl
        refine kia_one (kitx_exc (ox := o) G) (κ.X.kin.keeps at'.inv.keep) ⟨e, oc.1, by unfold notCls; rw [dt], by rw [oc.2]; trivial⟩ k1 (by intro q; cases q) fun tk => hq _ tk (.bool _)
    · cases he
  | ref k =>
    simp only at he
    split at he
    · rename_i c d hk2
      split at he
      · rename_i hcT
        cases he
        subst hcT
        cases r with
        | ref e =>
          rename_i x
          obtain ⟨ob, g, r2⟩ := at'.inv.objs k x _ e hk2
          cases r2 with
          | inst hc hmg hd2 =>
            have : tv = .ref _ := hl.det (.inl hmg)
            subst this
            exact isi_same (fun M => (Looks.ld g).andThen .now) (by intro q; cases q) (hq _ s.toks (.bool _))
      · cases he
    · cases he
  | _ => cases he

theorem isinst_ok {v : V} {m : Value} {T : String} {b : Bool} (hm : (v, m) ∈ vs) (hT : bTypes.contains T = true) (he : isinst v T H = some b) :
    Tri κ ρ vs (PySem.call (.builtin "isinstance") [m, .type T]) H (.ok (.bool b) H) rV := by
  unfold isinst at he
  rw [if_pos hT] at he
  obtain ⟨k, hk2, rfl⟩ := Option.map_eq_some_iff.mp he
  clear he
  refine Tri.plain fun η s Q E at' hv hq => ?_
  have r := hv _ hm
  have hT' : T = "int" ∨ T = "bool" ∨ T = "tuple" ∨ T = "list" ∨ T = "str" := by simpa [bTypes] using hT
  have lst : (match listAt v H with | some _ => some "list" | Option.none => Option.none) = some k → wpAny κ.X.M κ.A (PySem.call (.builtin "isinstance") [m, .type T]) Q E s := fun hk => by
    cases hx : listAt v H with
    | none => rw [hx] at hk; cases hk
    | some xs =>
      rw [hx] at hk
      cases hk
      obtain ⟨a, items, c, rfl, g, r, l⟩ := vr_list at'.inv r hx
      rcases hT' with rfl | rfl | rfl | rfl | rfl
      · exact IsiPair.list_int g rfl (hq _ _ (.bool _))
      · exact IsiPair.list_bool g rfl (hq _ _ (.bool _))
      · exact IsiPair.list_tuple g rfl (hq _ _ (.bool _))
      · exact IsiPair.list_list g rfl (hq _ s.toks (.bool _))
      · exact IsiPair.list_str g rfl (hq _ _ (.bool _))
  cases v with
  | bool c =>
    cases hk2
    cases r
    rcases hT' with rfl | rfl | rfl | rfl | rfl
    · exact IsiPair.bool_int (hq _ s.toks (.bool _))
    · exact IsiPair.bool_bool (hq _ s.toks (.bool _))
    · exact IsiPair.bool_tuple (hq _ _ (.bool _))
    · exact IsiPair.bool_list (hq _ _ (.bool _))
    · exact IsiPair.bool_str (hq _ _ (.bool _))
  | int c =>
    cases hk2
    cases r
    rcases hT' with rfl | rfl | rfl | rfl | rfl
    · exact IsiPair.int_int (hq _ s.toks (.bool _))
    · exact IsiPair.int_bool (hq _ _ (.bool _))
    · exact IsiPair.int_tuple (hq _ _ (.bool _))
    · exact IsiPair.int_list (hq _ _ (.bool _))
    · exact IsiPair.int_str (hq _ _ (.bool _))
  | tup ws =>
    cases hk2
    cases r with
    | tup g nn r l =>
      rcases hT' with rfl | rfl | rfl | rfl | rfl
      · exact IsiPair.tuple_int g rfl (hq _ _ (.bool _))
      · exact IsiPair.tuple_bool g rfl (hq _ _ (.bool _))
      · exact IsiPair.tuple_tuple g rfl (hq _ s.toks (.bool _))
      · exact IsiPair.tuple_list g rfl (hq _ _ (.bool _))
      · exact IsiPair.tuple_str g rfl (hq _ _ (.bool _))
  | str x =>
    cases hk2
    cases r
    rcases hT' with rfl | rfl | rfl | rfl | rfl
    · exact IsiPair.str_int (hq _ _ (.bool _))
    · exact IsiPair.str_bool (hq _ _ (.bool _))
    · exact IsiPair.str_tuple (hq _ _ (.bool _))
    · exact IsiPair.str_list (hq _ _ (.bool _))
    · exact IsiPair.str_str (hq _ s.toks (.bool _))
  | _ => exact lst hk2
end
end Mine

/-! RF -/
namespace Mine
open PySem PyProof.Rows PySem.W

noncomputable def relabelS (scope sc : Scope) : Scope :=
  { scope with names := scope.names.map fun (n, k) => if (k == .free && sc.kind == .function && sc.names.lookup n == some .cell) then (n, .cell) else (n, k) }

noncomputable def compName (sc scope : Scope) (x : Str) (p : Str × NameKind) : Bool := match p.2 with
  | .cell => false
  | .local => (p.1 == x || p.1 == (".0" : Str)) && scope.names.lookup p.1 == some .local
  | .free => sc.names.lookup p.1 == some .cell
  | _ => true
noncomputable def compOk (sc scope : Scope) (x : Str) : Bool := scope.kind == .function && sc.kind == .function && scope.names.lookup x == some .local && scope.names.all (compName sc scope x)

theorem forIn_cells {env : Env} : ∀ (names : List (Str × NameKind)) (cs : List (Str × Addr)), (∀ p ∈ names, p.2 = .free → ∃ c, env.cells.lookup p.1 = some c) → (∀ p ∈ cs, env.cells.lookup p.1 = some p.2) →
    ∃ cl, (forIn names cs (fun x __s => if (x.2 == NameKind.free) = true then do let __do_lift ← cellOf env x.1; pure (ForInStep.yield ((x.1, __do_lift) :: __s)) else pure (ForInStep.yield __s)) : Sem _) = pure cl ∧
      (∀ p ∈ cl, env.cells.lookup p.1 = some p.2) ∧ (∀ y, (∃ c, cs.lookup y = some c) ∨ (y, NameKind.free) ∈ names → ∃ c, cl.lookup y = some c)
  | [], cs, _, hc => ⟨cs, by simp, hc, fun y h => h.elim (fun h => h) (fun h => nomatch h)⟩
  | (n, k) :: names, cs, h, hc => by
    by_cases hk : k = .free
    · subst hk
      obtain ⟨c, e⟩ := h (n, .free) (List.Mem.head _) rfl
      obtain ⟨cl, e1, h1, h2⟩ := forIn_cells names ((n, c) :: cs) (fun p hp => h p (List.Mem.tail _ hp)) (fun p hp => by
        rcases List.mem_cons.mp hp with rfl | hp
        · exact e
        · exact hc p hp)
      refine ⟨cl, ?_, h1, fun y hy => h2 y ?_⟩
      · rw [List.forIn_cons]
        have : cellOf env n = pure c := by unfold cellOf; rw [e]
        simp only [beq_self_eq_true, if_true, this, pure_bind]
        exact e1
      · rcases hy with ⟨c', hy⟩ | hy
        · by_cases hyn : y = n
          · exact .inl ⟨c, by rw [hyn]; simp⟩
          · have hb : (y == n) = false := by simpa using hyn
            exact .inl ⟨c', by rw [List.lookup_cons, hb]; exact hy⟩
        · rcases List.mem_cons.mp hy with hy | hy
          · cases hy; exact .inl ⟨c, by simp⟩
          · exact .inr hy
    · obtain ⟨cl, e1, h1, h2⟩ := forIn_cells names cs (fun p hp => h p (List.Mem.tail _ hp)) hc
      refine ⟨cl, ?_, h1, fun y hy => h2 y ?_⟩
      · rw [List.forIn_cons]
        have : (k == NameKind.free) = false := by simpa using hk
        simp only [this, Bool.false_eq_true, if_false, pure_bind]
        exact e1
      · rcases hy with hy | hy
        · exact .inl hy
        · rcases List.mem_cons.mp hy with hy | hy
          · cases hy; exact absurd rfl hk
          · exact .inr hy

theorem relabel_lookup {sc : Scope} {y : Str} : ∀ {names : List (Str × NameKind)}, (∀ p ∈ names, p.2 = .free → sc.names.lookup p.1 = some .cell) → sc.kind = .function →
    (names.map fun (n, k) => if (k == NameKind.free && sc.kind == .function && sc.names.lookup n == some .cell) then (n, NameKind.cell) else (n, k)).lookup y = (names.lookup y).map fun k => if k = .free then .cell else k
  | [], _, _ => rfl
  | (n, k) :: names, h, hs => by
    have ih := relabel_lookup (sc := sc) (y := y) (names := names) (fun p hp => h p (List.Mem.tail _ hp)) hs
    show List.lookup y ((if (k == NameKind.free && sc.kind == .function && sc.names.lookup n == some .cell) = true then (n, NameKind.cell) else (n, k)) :: _) = _
    by_cases hk : k = .free
    · subst hk
      have := h (n, .free) (List.Mem.head _) rfl
      rw [if_pos (by rw [hs, this]; rfl), List.lookup_cons, List.lookup_cons]
      cases y == n
      · exact ih
      · rfl
    · have hb : (k == NameKind.free) = false := by simpa using hk
      rw [if_neg (by rw [hb]; simp), List.lookup_cons, List.lookup_cons]
      cases y == n
      · exact ih
      · simp [hk]

section
variable {κ : Ct} {X : Cx} {A : Around} {ρ : Rho} {H : Hp} {η : List Addr} {s : Shared}

theorem comp_at {scope : Scope} {x : String} {cl : List (Str × Addr)} {C : Addr} {m : Str → Option Value} {v : V} {mv : Value} (hc : compOk κ.env.scope scope (Str.ofString x) = true) (a : At κ η ρ H s) (hcl : ∀ p ∈ cl, κ.env.cells.lookup p.1 = some p.2)
    (hfr : ∀ y, scope.names.lookup y = some .free → ∃ c, cl.lookup y = some c) (hC : s.heap.Ns C m) (hm : m (Str.ofString x) = some mv) (hv : VR κ.X η s.heap v mv) (hCη : C ∉ η) (hCb : κ.X.base.get? C = Option.none) :
    At (κ.inn (compEnvC scope cl C κ.env)) η ((x, v) :: ρ) H s := by
  unfold compOk at hc
  simp only [Bool.and_eq_true, beq_iff_eq] at hc
  obtain ⟨⟨⟨hk, hsk⟩, hx⟩, hall⟩ := hc
  have hfree : ∀ p ∈ scope.names, p.2 = .free → κ.env.scope.names.lookup p.1 = some .cell := fun p hp e => by
    have := List.all_eq_true.mp hall p hp
    unfold compName at this
    rw [e] at this
    exact beq_iff_eq.mp this
  have kd : ∀ y, (compEnvC scope cl C κ.env).kindOf y = (scope.names.lookup y).map fun k => if k = .free then .cell else k := fun y => relabel_lookup (sc := κ.env.scope) hfree hsk
  have cell : ∀ y, (compEnvC scope cl C κ.env).kindOf y = some .cell → scope.names.lookup y = some .free := fun y hy => by
    rw [kd] at hy
    obtain ⟨k, e, q⟩ := Option.map_eq_some_iff.mp hy
    by_cases hkf : k = .free
    · rw [e, hkf]
    · rw [if_neg hkf] at q
      have := List.all_eq_true.mp hall (y, k) (lookup_mem e)
      unfold compName at this
      rw [q] at this; cases this
  refine ⟨a.inv, ⟨?_, a.fok.glob, a.fok.blt, ⟨m, hC⟩, fun p hp => a.fok.cell p (lookup_mem (hcl p hp)), fun y hy => hfr y (cell y hy), fun y z c h1 h2 => ?_, fun b hb => ?_⟩, fun y w ey hy => ?_, a.stk, a.room, a.hand⟩
  · show (relabel scope κ.env).kind = _
    exact hk
  · exact a.fok.inj y z c (hcl _ (lookup_mem h1)) (hcl _ (lookup_mem h2))
  · rcases List.mem_cons.mp hb with rfl | hb
    · exact ⟨hCη, hCb⟩
    · obtain ⟨p, hp, rfl⟩ := List.mem_map.mp hb
      exact a.fok.off _ (List.mem_cons.mpr (.inr (List.mem_map.mpr ⟨p, lookup_mem (hcl p hp), rfl⟩)))
  · by_cases hyx : y = x
    · subst hyx
      rw [List.lookup_cons, beq_self_eq_true] at ey
      cases ey
      exact ⟨mv, .inl ⟨by rw [kd, hx]; rfl, m, hC, hm⟩, hv⟩
    · have hb : (y == x) = false := by simpa using hyx
      rw [List.lookup_cons, hb] at ey
      unfold isVar at hy
      rw [Bool.and_eq_true, Bool.not_eq_true'] at hy
      obtain ⟨hy0, hy⟩ := hy
      have hkd : (compEnvC scope cl C κ.env).scope.names.lookup (Str.ofString y) = _ := kd (Str.ofString y)
      rw [hkd] at hy
      have : scope.names.lookup (Str.ofString y) = some .free := by
        cases e : scope.names.lookup (Str.ofString y) with
        | none => rw [e] at hy; cases hy
        | some k =>
          rw [e] at hy
          have q := List.all_eq_true.mp hall (Str.ofString y, k) (lookup_mem e)
          unfold compName at q
          cases k with
          | free => rfl
          | «local» =>
            simp only [Bool.and_eq_true, Bool.or_eq_true, beq_iff_eq] at q
            rcases q.1 with q | q
            · exact absurd (ofString_inj q) hyx
            · rw [q] at hy0; cases hy0
          | cell => cases q
          | _ => cases hy
      have hoc := hfree _ (lookup_mem this) rfl
      obtain ⟨mw, hh, rw'⟩ := a.rho y w ey (by unfold isVar; rw [hy0, hoc]; rfl)
      obtain ⟨c, hcc⟩ := hfr _ this
      refine ⟨mw, .inr ⟨.inl (by rw [kd, this]; rfl), c, ?_⟩, rw'⟩
      rcases hh with ⟨hk', _⟩ | ⟨_, c', o, hc', g, d⟩
      · unfold Env.kindOf at hk'; rw [hoc] at hk'; cases hk'
      · have e1 := hcl _ (lookup_mem hcc)
        rw [hc'] at e1; cases e1
        exact ⟨o, hcc, g, d⟩

theorem iter_self {it : Addr} {src : V} {xs : List V} {i : Nat} {Q : Value → Shared → Prop} {E : Value → Shared → Prop} (r : ItR X η s.heap it src xs i) (h : Q (.ref it) s) : wpAny X.M A (pyIter (.ref it)) Q E s := by
  cases r with
  | list _ q => exact wpAny_pyIter_listiter q h
  | tup _ _ _ q => exact wpAny_pyIter_tupleiter q h
  | rng q => exact wpAny_pyIter_rangeiter q h
  | str _ q => exact wpAny_pyIter_striter_ascii q h

inductive CompEnd (X : Cx) (fr η0 : List Addr) (s0 : Shared) (k : Nat) (D C : Addr) (H' : Hp) (s' : Shared) : Prop
  | mk (η' : List Addr) (h' : Heap) (tk : Nat) (e : s' = { s0 with heap := h', toks := tk }) (i : Inv X η' H' h') (x : Step fr [] η0 s0.heap η' h') (d : η'[k]? = some D) (c : C ∉ η') (n : s0.heap.get? C = Option.none) (m : Str → Option Value) (ns : h'.Ns C m) : CompEnd X fr η0 s0 k D C H' s'

inductive CompI (X : Cx) (fr η0 : List Addr) (s0 : Shared) (it D C : Addr) (src : V) (xs : List V) (k : Nat) (F : Nat → Hp → Prop) (mm : Nat) (s : Shared) : Prop
  | mk (i : Nat) (H : Hp) (η : List Addr) (m : Str → Option Value) (e : mm = xs.length - i) (iv : Inv X η H s.heap) (es : s = { s0 with heap := s.heap, toks := s.toks }) (x : Step fr [] η0 s0.heap η s.heap) (r : ItR X η s.heap it src xs i) (ni : it ∉ η) (dk : η[k]? = some D) (cn : C ∉ η) (ns : s.heap.Ns C m) (hf : F i H) : CompI X fr η0 s0 it D C src xs k F mm s
theorem turns_chk {f : V → Hp → R V} {chk : Hp → Bool} {k : Nat} {xs : List V} {H : Hp} (h : turns f chk k xs H ≠ .stuck) : chk H = true := by
  cases xs <;> rw [turns] at h <;> exact Classical.byContradiction fun q => h (if_neg q)
theorem turns_cons {f : V → Hp → R V} {chk : Hp → Bool} {k : Nat} {v : V} {xs : List V} {H : Hp} (h : turns f chk k (v :: xs) H ≠ .stuck) :
    ∃ w H1 ys, f v H = .ok w H1 ∧ H1[k]? = some (.list ys) ∧ ys.length < line ∧ turns f chk k (v :: xs) H = turns f chk k xs (H1.set k (.list (ys ++ [w]))) := by
  have ck := turns_chk h
  rw [turns, if_pos ck] at h ⊢
  cases e : f v H with
  | stuck => rw [e] at h; exact absurd rfl h
  | raise c H1 => rw [e] at h; exact absurd rfl h
  | ok w H1 =>
    rw [e] at h
    dsimp only at h
    cases hk : H1[k]? with
    | none => rw [hk] at h; exact absurd rfl h
    | some o =>
      cases o with
      | list ys =>
        rw [hk] at h
        dsimp only at h
        by_cases hl : ys.length < line
        · refine ⟨w, H1, ys, rfl, hk, hl, ?_⟩
          dsimp only; rw [hk]; exact if_pos hl
        · rw [if_neg hl] at h; exact absurd rfl h
      | _ => rw [hk] at h; exact absurd rfl h
theorem drop_at {α : Type} {xs : List α} {i : Nat} {v : α} (hv : xs[i]? = some v) : xs.drop i = v :: xs.drop (i + 1) := by
  obtain ⟨hlt, e⟩ := List.getElem?_eq_some_iff.mp hv
  rw [List.drop_eq_getElem_cons hlt, e]
theorem drop_end {α : Type} {xs : List α} {i : Nat} (hv : xs[i]? = Option.none) : xs.drop i = [] := List.drop_eq_nil_of_le (List.getElem?_eq_none_iff.mp hv)
theorem RaiseAt.no {X : Cx} {st : List Env} {α : Type} {η : List Addr} {s : Shared} {r : R α} {b : α} {H : Hp} {ev : Value} {s' : Shared} {P : Prop} (x : RaiseAt X st η s r ev s') (e : r = .ok b H) : P := by
  obtain ⟨c, H', e', _⟩ := x
  rw [e] at e'; cases e'
theorem At.new_fr (a : At κ η ρ H s) {b : Addr} (q : s.heap.get? b = Option.none) : b ∉ frs κ.st := fun hb => by obtain ⟨o, e, _⟩ := a.stk.frm b hb; rw [q] at e; cases e
theorem At.new (a : At κ η ρ H s) {b : Addr} (q : s.heap.get? b = Option.none) : κ.X.base.get? b = Option.none := by
  cases g : κ.X.base.get? b with
  | none => rfl
  | some o => have := a.inv.keep b o g; rw [q] at this; cases this
theorem Ns.mach {h : Heap} {C : Addr} {m : Str → Option Value} (ns : h.Ns C m) : Mach h C := let ⟨o, es', ep, g, d, _⟩ := ns; ⟨o, g, .inr ⟨es', ep, d⟩⟩
theorem one_none {h : Heap} {b : Addr} (e : h.get? b = Option.none) : ∀ c ∈ [b], h.get? c = Option.none := fun _ hc => List.mem_singleton.mp hc ▸ e

theorem comp_loop (hh : κ.Γ.hd = false) {elt iter : Expr} {x : String} {px pos : Pos} {scope : Scope} {cl : List (Str × Addr)} {f : V → Hp → R V} {src : V} {xs : List V} {chk : Hp → Bool} {k : Nat} {it D C : Addr} {RR : Result → Shared → Prop} {η0 : List Addr} {s0 : Shared}
    (hc : compOk κ.env.scope scope (Str.ofString x) = true) (hcl : ∀ p ∈ cl, κ.env.cells.lookup p.1 = some p.2) (hfr : ∀ y, scope.names.lookup y = some .free → ∃ c, cl.lookup y = some c)
    (helt : ∀ v C' H', Tri (κ.inn (compEnvC scope cl C' κ.env)) ((x, v) :: ρ) [] (eval elt (compEnvC scope cl C' κ.env)) H' (f v H') rV)
    (hchk : ∀ H, chk H = true → ∀ n, src = .ref n → H[n]? = some (.list xs)) (h0C : s0.heap.get? C = Option.none) (h0I : s0.heap.get? it = Option.none)
    {H1 : Hp} {η1 : List Addr} {s1 : Shared} {m1 : Str → Option Value} (a0 : At κ η0 ρ H s0) (i1 : Inv κ.X η1 H1 s1.heap) (e1 : s1 = { s0 with heap := s1.heap, toks := s1.toks }) (x1 : Step (frs κ.st) [] η0 s0.heap η1 s1.heap) (r1 : ItR κ.X η1 s1.heap it src xs 0) (n1 : it ∉ η1) (d1 : η1[k]? = some D) (c1 : C ∉ η1) (ns1 : s1.heap.Ns C m1)
    (hne : turns f chk k xs H1 ≠ .stuck) (hR : ∀ H' s', turns f chk k xs H1 = .ok () H' → CompEnd κ.X (frs κ.st) η0 s0 k D C H' s' → RR (.ok .next) s') :
    codeAny κ.X.M κ.A (.compLoop (.ListComp elt [⟨.Name (Str.ofString x) px, iter, [], 0⟩] scope pos) 0 (.ref it) (.ref D) (compEnvC scope cl C κ.env)) RR s1 := by
  generalize hres : turns f chk k xs H1 = res at hne hR
  have hc' := hc
  unfold compOk at hc'
  simp only [Bool.and_eq_true, beq_iff_eq] at hc'
  have hx : (compEnvC scope cl C κ.env).kindOf (Str.ofString x) = some .local := lookup_relabel_local hc'.1.2
  have hkind : (relabel scope κ.env).kind = .function := hc'.1.1.1
  refine codeAny_compLoop_tests (env := compEnvC scope cl C κ.env) (CompI κ.X (frs κ.st) η0 s0 it D C src xs k (fun i H => turns f chk k (xs.drop i) H = res))
    (fun mm s hI => ?_) xs.length ⟨0, H1, η1, m1, rfl, i1, e1, x1, r1, n1, d1, c1, ns1, hres⟩
  obtain ⟨i, H', η, m, rfl, iv, es, xx, r, ni, dk, cn, ns, hf⟩ := hI
  have ck : chk H' = true := turns_chk (by rw [hf]; exact hne)
  have nCit : C ≠ it := fun q => by
    obtain ⟨o, es', ep, g, d, _⟩ := ns
    obtain ⟨o', _, fs, g', _, d', _⟩ := r.obj
    rw [q, g'] at g; cases g; rw [d'] at d; cases d
  have nC : ∀ {b : Addr}, b = C → b ∉ [it] := fun q z => nCit (q.symm.trans (List.mem_singleton.mp z))
  refine next_ok r iv ni (a0.hand hh) (hchk H' ck) (fun v mv h' tk hv t rv r' => ?_) (fun h' hv t => ?_)
  · rw [drop_at hv] at hf
    obtain ⟨w0, H40, ys0, g1, g2, g3, g4⟩ := turns_cons (by rw [hf]; exact hne)
    rw [g4] at hf
    have iv2 : Inv κ.X η H' h' := t.inv iv (one_none (a0.new h0I))
    have xx2 : Step (frs κ.st) [] η0 s0.heap η h' := t.step xx (one_none h0I)
    have ns2 : h'.Ns C m := by
      obtain ⟨o, es', ep, g, d, q⟩ := ns
      exact ⟨o, es', ep, t.keep C o (nC rfl) g, d, q⟩
    show wpAny _ κ.A (assign (.Name (Str.ofString x) px) (compEnvC scope cl C κ.env) mv) _ _ _
    refine wpAny_assign_Name (wpAny_storeName_local hx ns2 (fun h2 hn2 hs2 => ?_) ?_)
    rotate_left
    · show ((relabel scope κ.env).kind == .class || ((relabel scope κ.env).kind == .module && _)) = false
      rw [hkind]; rfl
    have t2 : Turn [C] η H' h' h2 := Turn.one cn (Ns.mach ns2) fun b o hb e => (hs2.2 b hb).trans e
    have iv3 : Inv κ.X η H' h2 := t2.inv iv2 (one_none (a0.new h0C))
    have xx3 : Step (frs κ.st) [] η0 s0.heap η h2 := t2.step xx2 (one_none h0C)
    refine wpAny_pure ?_
    simp only [if_true]
    have out : At κ η ρ H' { s0 with heap := h2, toks := tk + 1 } := a0.step xx3 iv3 (tk + 1)
    have inn := comp_at (s := { s0 with heap := h2, toks := tk + 1 }) hc out hcl hfr hn2 (by simp) (t2.vr rv) cn (a0.new h0C)
    have es' : ({ s with heap := h2, toks := tk + 1 } : Shared) = { s0 with heap := h2, toks := tk + 1 } := by rw [es]
    show wpAny _ κ.A (eval elt (compEnvC scope cl C κ.env)) _ _ (⟨h2, s.gens, s.drawn, tk + 1, s.os⟩ : Shared)
    rw [es']
    refine wpAny_mono (helt v C H' (by rw [g1]; exact fun q => nomatch q) η _ inn fun _ q => nomatch q) (fun mw s4 hx4 => ?_) fun _ _ q => q.no g1
    obtain ⟨w, H4, e4, _, η4, h4, tk4, rfl, iv4, xx4, pv⟩ := hx4
    cases g1.symm.trans e4
    have out4 : At κ η4 ρ H40 { s0 with heap := h4, toks := tk4 } := out.step xx4 iv4 tk4
    have d4 : η4[k]? = some D := by obtain ⟨l, rfl, _⟩ := xx4.pre; exact getElem?_pre dk
    have ap := append_ok (κ := κ) (ρ := ρ) (vs := [(.ref k, .ref D), (w0, mw)]) (v := w0) (ov := .ref D) (mv := mw) (List.Mem.head _) (List.Mem.tail _ (List.Mem.head _)) g2 g3
    refine wpAny_mono (ap (fun q => nomatch q) η4 _ out4 (fun p hp => ?_)) (fun y s5 hy => ?_) fun _ _ q => q.no rfl
    · rcases List.mem_cons.mp hp with rfl | hp
      · exact .ref d4
      · rw [List.mem_singleton] at hp; subst hp; exact pv (w0, mw) (List.Mem.head _)
    · obtain ⟨_, H5, e5, _, η5, h5, tk5, rfl, iv5, xx6, _⟩ := hy
      cases e5
      have xx7 := xx4.trans xx6
      have nCx : ∀ o, h2.get? C = some o → h5.get? C = some o := fun o g => xx7.same C o g cn (fun q => nomatch q) (a0.new_fr h0C)
      have nIx : ∀ o, h2.get? it = some o → h5.get? it = some o := fun o g => xx7.same it o g ni (fun q => nomatch q) (a0.new_fr h0I)
      have r2 : ItR κ.X η h2 it src xs (i + 1) := r'.move ⟨[], (List.append_nil _).symm⟩ t2.holds fun o g => t2.keep it o (fun z => nCit (List.mem_singleton.mp z).symm) g
      have r5 : ItR κ.X η5 h5 it src xs (i + 1) := r2.keep xx7 out.stk.frm ni
      obtain ⟨oC, esC, epC, gC, dC, qC⟩ := hn2
      obtain ⟨oI, _, fI, gI, _⟩ := r2.obj
      exact ⟨xs.length - (i + 1), by have := (List.getElem?_eq_some_iff.mp hv).1; omega, i + 1, _, η5, _, rfl, iv5, rfl, xx3.trans xx7, r5, xx7.mem gI ni, by obtain ⟨l, rfl, _⟩ := xx6.pre; exact getElem?_pre d4, xx7.mem gC cn, ⟨oC, esC, epC, nCx _ gC, dC, qC⟩, hf⟩
  · rw [drop_end hv, turns, if_pos ck] at hf
    refine hR H' _ hf.symm ⟨η, h', s.toks, by rw [es], t.inv iv (one_none (a0.new h0I)), t.step xx (one_none h0I), dk, cn, h0C, m, ?_⟩
    obtain ⟨o, es', ep, g, d, q⟩ := ns
    exact ⟨o, es', ep, t.keep C o (nC rfl) g, d, q⟩
end
end Mine

/-! RG -/
namespace Mine
open PySem PyProof.Rows PySem.W

theorem same_list {H H' : Hp} {n : Nat} {xs : List V} (h : items H (.ref n) = some xs) (hs : sameO (.ref n) H H' = true) : H'[n]? = some (.list xs) := by
  have e := items_ref h
  simp only [sameO, e] at hs
  split at hs
  · rename_i q1 q2; cases q1; rw [q2, of_decide_eq_true hs]
  · cases hs
noncomputable def noSet : Expr → Bool
  | .Set .. => false
  | _ => true
theorem folded_no {e : Expr} {env : Env} (h : noSet e = true) (x : Value) : foldedSetIterable e env x = pure x := by
  cases e <;> first | rfl | cases h

section
variable {κ : Ct} {ρ : Rho} {H : Hp}

theorem comp_run (hh : κ.Γ.hd = false) {η : List Addr} {s : Shared} {elt iter : Expr} {x : String} {px pos cpos : Pos} {scope : Scope} {f : V → Hp → R V} {r1 : R V} {use : Option (Value → Sem Unit)} {Q : Value → Shared → Prop} {E : Value → Shared → Prop} (hc : compOk κ.env.scope scope (Str.ofString x) = true) (hn : noSet iter = true)
    (h1 : Tri κ ρ [] (eval iter κ.env) H r1 rV) (helt : ∀ cl v C' H', Tri (κ.inn (compEnvC scope cl C' κ.env)) ((x, v) :: ρ) [] (eval elt (compEnvC scope cl C' κ.env)) H' (f v H') rV) (a : At κ η ρ H s)
    (hne : (r1.bind fun v H1 => compV f v H1) ≠ .stuck) (hE : ∀ ev s', RaiseAt κ.X κ.st η s r1 ev s' → E ev s')
    (hK : ∀ v H1 xs H' s' D C, r1 = .ok v H1 → items H1 v = some xs → turns f (sameO v H1) H1.length xs (H1 ++ [.list []]) = .ok () H' → CompEnd κ.X (frs κ.st) η s H1.length D C H' s' → compPost κ.X.M κ.A E use Q (.ref D) C (.ok .next) s') :
    wpAny κ.X.M κ.A (comprehension (.ListComp elt [⟨.Name (Str.ofString x) px, iter, [], 0⟩] scope pos) scope κ.env cpos (newList []) false (eval iter κ.env) use) Q E s := by
  have hc' := hc
  unfold compOk at hc'
  simp only [Bool.and_eq_true, beq_iff_eq] at hc'
  obtain ⟨⟨⟨hk, hsk⟩, hx⟩, hall⟩ := hc'
  have hnm : ∀ p ∈ scope.names, compName κ.env.scope scope (Str.ofString x) p = true := fun p hp => List.all_eq_true.mp hall p hp
  obtain ⟨cl, ecl, hcl, hfr0⟩ := forIn_cells (env := κ.env) scope.names [] (fun p hp e => by
    have := hnm p hp
    unfold compName at this
    rw [e] at this
    exact a.fok.cells _ (beq_iff_eq.mp this)) (fun _ q => nomatch q)
  have hclos : closureFor scope κ.env = pure cl := by
    unfold closureFor
    dsimp only
    rw [ecl]; rfl
  have hfr : ∀ y, scope.names.lookup y = some .free → ∃ c, cl.lookup y = some c := fun y hy => hfr0 y (.inr (lookup_mem hy))
  have hcell : ∀ p ∈ scope.names, p.2 ≠ .cell := fun p hp q => by
    have := hnm p hp
    unfold compName at this
    rw [q] at this; cases this
  have hnames : ∀ p ∈ scope.names, p.2 = .local → scope.names.lookup p.1 = some .local := fun p hp q => by
    have := hnm p hp
    unfold compName at this
    rw [q] at this
    simp only [Bool.and_eq_true, beq_iff_eq] at this
    exact this.2
  refine wpAny_comprehension_free (use := use) rfl (fun x => folded_no hn x) hclos hk hnames ?_
  have hr : r1 ≠ .stuck := by rintro rfl; exact hne rfl
  refine wpAny_mono (h1 hr η s a fun _ q => nomatch q) (fun mv s1 hx1 => ?_) hE
  obtain ⟨v, H1, rfl, _, η1, h1', tk1, rfl, iv1, st1, p1⟩ := hx1
  rw [R.bind_ok] at hne
  unfold compV at hne
  cases hi : items H1 v with
  | none => rw [hi] at hne; exact absurd rfl hne
  | some xs =>
    rw [hi] at hne
    dsimp only at hne
    refine iter_ok (s := { s with heap := h1', toks := tk1 }) iv1 (p1 (v, mv) (List.Mem.head _)) hi fun ob rI => ?_
    obtain ⟨h2, eh2⟩ : ∃ h2, h2 = h1'.push ob := ⟨_, rfl⟩
    obtain ⟨it, eit⟩ : ∃ it, it = h1'.objs.size := ⟨_, rfl⟩
    have k2 : ∀ b o, h1'.get? b = some o → h2.get? b = some o := fun b o e => by rw [eh2]; exact push_keeps _ _ _ _ e
    show wpAny _ κ.A (newList []) _ _ { s with heap := h1'.push ob, toks := tk1 }
    have rI' : ItR κ.X η1 h2 it v xs 0 := by rw [eh2, eit]; exact rI
    rw [← eh2]
    show wpAny _ κ.A (newList []) (fun acc s3 => wpAny _ κ.A (newFunctionEnv scope κ.env.globals cl [] κ.env.qual Option.none .none (some κ.env)) (fun cenv s4 => codeAny _ κ.A (.compStart _ 0 (.ref h1'.objs.size) acc _) _ s4) _ s3) _ _
    rw [← eit]
    refine wpAny_newObj_type (wpAny_newFunctionEnv hcell (by intro y hy; simp at hy) (fun h4 hn4 hs4 => ?_) hk)
    dsimp only at hn4 hs4 ⊢
    obtain ⟨h3, eh3⟩ : ∃ h3, h3 = h2.push { cls := .type "list", data := .seq ([] : List Value).toArray } := ⟨_, rfl⟩
    have hn4' : h4.Ns h3.objs.size (fun x => ([] : List (Str × Value)).reverse.lookup x) := by rw [eh3]; exact hn4
    have hs4' : Heap.SameBut h3.objs.size (h3.push { cls := .type (if (some κ.env).isSome then "dict" else "frame"), data := .dict #[] }) h4 := by rw [eh3]; exact hs4
    have sz3 : h3.objs.size = h2.objs.size + 1 := by rw [eh3, Heap.size_push]
    have k3 : ∀ b o, h2.get? b = some o → h3.get? b = some o := fun b o e => by rw [eh3]; exact push_keeps _ _ _ _ e
    have k4 : ∀ b o, h3.get? b = some o → h4.get? b = some o := fun b o e => (hs4'.2 b (Nat.ne_of_lt (Heap.lt_size e))).trans (push_keeps _ _ _ _ e)
    have kk : ∀ b o, h1'.get? b = some o → h4.get? b = some o := fun b o e => k4 b o (k3 b o (k2 b o e))
    have nD : h2.get? h2.objs.size = Option.none := size_none h2
    have gD : h4.get? h2.objs.size = some { cls := .type "list", data := .seq ([] : List Value).toArray } := k4 _ _ (by rw [eh3]; exact Heap.get?_push_size _ rfl)
    have back : ∀ b, h2.objs.size ≤ b → h1'.get? b = Option.none := fun b hb => by
      cases e : h1'.get? b with
      | none => rfl
      | some o => exact absurd (Heap.lt_size (k2 b o e)) (Nat.not_lt.mpr hb)
    have nI : h1'.get? it = Option.none := by rw [eit]; exact size_none h1'
    have offη : ∀ b, h1'.get? b = Option.none → b ∉ η1 := fun b hb q => by obtain ⟨ob, e⟩ := iv1.alive q; rw [hb] at e; cases e
    have iv2 : Inv κ.X (η1 ++ [h2.objs.size]) (H1 ++ [.list []]) h4 := iv1.make kk (back _ (Nat.le_refl _)) gD (.list .nil (by simp [line]))
    have neID : it ≠ h2.objs.size := by obtain ⟨o, _, _, e, _⟩ := rI'.obj; exact Nat.ne_of_lt (Heap.lt_size e)
    have st2 : Step (frs κ.st) [] η1 h1' (η1 ++ [h2.objs.size]) h4 := Step.make _ _ _ kk (back _ (Nat.le_refl _))
    have rI4 : ItR κ.X (η1 ++ [h2.objs.size]) h4 it v xs 0 := rI'.keep (fr := []) (own := []) (Step.make _ _ _ (fun b o e => k4 b o (k3 b o e)) nD) (Frm.nil _) (offη it nI)
    have neDC : h2.objs.size ≠ h3.objs.size := by rw [sz3]; exact Nat.ne_of_lt (Nat.lt_succ_self _)
    have nC : h1'.get? h3.objs.size = Option.none := back _ (by omega)
    have off2 : ∀ b, h1'.get? b = Option.none → b ≠ h2.objs.size → b ∉ η1 ++ [h2.objs.size] := fun b hb hd q => by
      rcases List.mem_append.mp q with q | q
      · exact offη b hb q
      · exact hd (List.mem_singleton.mp q)
    have key := comp_loop hh (η0 := η) (s0 := s) (k := H1.length) (chk := sameO v H1) (f := f) (src := v) (xs := xs) (H1 := H1 ++ [.list []]) (η1 := η1 ++ [h2.objs.size]) (elt := elt) (iter := iter) (px := px) (pos := pos) (s1 := { s with heap := h4, toks := tk1 + ([] : List (Str × Value)).length }) (D := h2.objs.size) (C := h3.objs.size)
      hc hcl hfr (helt cl) (fun H' hck n hv => by subst hv; exact same_list hi hck) (st1.old nC) (st1.old nI) a iv2 rfl (st1.trans st2) rI4 (off2 it nI neID) (by rw [← iv1.len]; simp) (off2 _ nC neDC.symm) hn4' (fun q => hne (by rw [q]; rfl))
      (RR := compPost κ.X.M κ.A E use Q (.ref h2.objs.size) h3.objs.size) fun H' s' et ce => ?_
    · have fin := codeAny_compStart_list key (iter_self (s := { s with heap := h4, toks := tk1 + ([] : List (Str × Value)).length }) rI4 key)
      rw [eh3] at fin
      exact fin
    · exact hK v H1 xs H' s' _ _ rfl hi et ce
theorem comp_ok (hh : κ.Γ.hd = false) {elt iter : Expr} {x : String} {px pos : Pos} {scope : Scope} {f : V → Hp → R V} {r1 : R V} (hc : compOk κ.env.scope scope (Str.ofString x) = true) (hn : noSet iter = true)
    (h1 : Tri κ ρ [] (eval iter κ.env) H r1 rV) (helt : ∀ cl v C' H', Tri (κ.inn (compEnvC scope cl C' κ.env)) ((x, v) :: ρ) [] (eval elt (compEnvC scope cl C' κ.env)) H' (f v H') rV) :
    Tri κ ρ [] (eval (.ListComp elt [⟨.Name (Str.ofString x) px, iter, [], 0⟩] scope pos) κ.env) H (r1.bind fun v H1 => compV f v H1) rV := by
  intro hne η s a _
  rw [eval_ListComp]
  refine comp_run hh (use := Option.none) hc hn h1 helt a hne (fun ev s' q => q.bind) fun v H1 xs H' s' D C e hi et ce => ?_
  obtain ⟨η', h', tk, rfl, iv, stp, dk, cn, c0, m, ns⟩ := ce
  refine ⟨m, ns, fun h'' sb => ⟨.ref H1.length, H', by rw [e, R.bind_ok, compV, hi]; dsimp only; rw [et]; rfl, trivial, ?_⟩⟩
  have t : Turn [C] η' H' h' h'' := Turn.one cn (Ns.mach ns) fun b o hb e => (sb.2 b hb).trans e
  exact ⟨η', h'', tk, rfl, t.inv iv (one_none (a.new c0)), t.step stp (one_none c0), fun p hp => rV1 hp (.ref dk)⟩
end
end Mine

/-! R8 -/
namespace Mine
open PySem PyProof.Rows PySem.W
/-! the compact terms against the text's trees -/
noncomputable def vName (sc : Scope) (x : String) (id : Str) : Bool := id == Str.ofString x && isVar sc id && !(id == ("__debug__" : Str)) && !(id == ("__classdict__" : Str))
noncomputable def plainE : Expr → Bool
  | .Starred .. => false
  | .Set .. => false
  | .Slice .. => false
  | _ => true
theorem ff {P : Prop} (h : false = true) : P := nomatch h
noncomputable def onName (e : Expr) (f : Str → Pos → Bool) : Bool := match e with
  | .Name id p => f id p
  | _ => false
theorem onName_inv {e : Expr} {f : Str → Pos → Bool} (h : onName e f = true) : ∃ id p, e = .Name id p ∧ f id p = true := by
  cases e with
  | Name id p => exact ⟨id, p, rfl, h⟩
  | _ => exact ff h
noncomputable def onConstant (e : Expr) (f : Const → Nat → Pos → Bool) : Bool := match e with
  | .Constant c k p => f c k p
  | _ => false
theorem onConstant_inv {e : Expr} {f : Const → Nat → Pos → Bool} (h : onConstant e f = true) : ∃ c k p, e = .Constant c k p ∧ f c k p = true := by
  cases e with
  | Constant c k p => exact ⟨c, k, p, rfl, h⟩
  | _ => exact ff h
noncomputable def onBinOp (e : Expr) (f : Expr → Operator → Expr → Pos → Bool) : Bool := match e with
  | .BinOp l op r p => f l op r p
  | _ => false
theorem onBinOp_inv {e : Expr} {f : Expr → Operator → Expr → Pos → Bool} (h : onBinOp e f = true) : ∃ l op r p, e = .BinOp l op r p ∧ f l op r p = true := by
  cases e with
  | BinOp l op r p => exact ⟨l, op, r, p, rfl, h⟩
  | _ => exact ff h
noncomputable def onUnaryOp (e : Expr) (f : UnaryOp → Expr → Pos → Bool) : Bool := match e with
  | .UnaryOp op a p => f op a p
  | _ => false
theorem onUnaryOp_inv {e : Expr} {f : UnaryOp → Expr → Pos → Bool} (h : onUnaryOp e f = true) : ∃ op a p, e = .UnaryOp op a p ∧ f op a p = true := by
  cases e with
  | UnaryOp op a p => exact ⟨op, a, p, rfl, h⟩
  | _ => exact ff h
noncomputable def onBoolOp (e : Expr) (f : BoolOp → List Expr → Pos → Bool) : Bool := match e with
  | .BoolOp op es p => f op es p
  | _ => false
theorem onBoolOp_inv {e : Expr} {f : BoolOp → List Expr → Pos → Bool} (h : onBoolOp e f = true) : ∃ op es p, e = .BoolOp op es p ∧ f op es p = true := by
  cases e with
  | BoolOp op es p => exact ⟨op, es, p, rfl, h⟩
  | _ => exact ff h
noncomputable def onCompare (e : Expr) (f : Expr → List CmpOp → List Expr → Pos → Bool) : Bool := match e with
  | .Compare l ops rs p => f l ops rs p
  | _ => false
theorem onCompare_inv {e : Expr} {f : Expr → List CmpOp → List Expr → Pos → Bool} (h : onCompare e f = true) : ∃ l ops rs p, e = .Compare l ops rs p ∧ f l ops rs p = true := by
  cases e with
  | Compare l ops rs p => exact ⟨l, ops, rs, p, rfl, h⟩
  | _ => exact ff h
noncomputable def onCall (e : Expr) (f : Expr → List Expr → List Keyword → Pos → Bool) : Bool := match e with
  | .Call fn args kws p => f fn args kws p
  | _ => false
theorem onCall_inv {e : Expr} {f : Expr → List Expr → List Keyword → Pos → Bool} (h : onCall e f = true) : ∃ fn args kws p, e = .Call fn args kws p ∧ f fn args kws p = true := by
  cases e with
  | Call fn args kws p => exact ⟨fn, args, kws, p, rfl, h⟩
  | _ => exact ff h
noncomputable def onAttribute (e : Expr) (f : Expr → Str → Pos → Bool) : Bool := match e with
  | .Attribute o nm p => f o nm p
  | _ => false
theorem onAttribute_inv {e : Expr} {f : Expr → Str → Pos → Bool} (h : onAttribute e f = true) : ∃ o nm p, e = .Attribute o nm p ∧ f o nm p = true := by
  cases e with
  | Attribute o nm p => exact ⟨o, nm, p, rfl, h⟩
  | _ => exact ff h
noncomputable def onSubscript (e : Expr) (f : Expr → Expr → Pos → Bool) : Bool := match e with
  | .Subscript o i p => f o i p
  | _ => false
theorem onSubscript_inv {e : Expr} {f : Expr → Expr → Pos → Bool} (h : onSubscript e f = true) : ∃ o i p, e = .Subscript o i p ∧ f o i p = true := by
  cases e with
  | Subscript o i p => exact ⟨o, i, p, rfl, h⟩
  | _ => exact ff h
noncomputable def onList (e : Expr) (f : List Expr → Pos → Bool) : Bool := match e with
  | .List es p => f es p
  | _ => false
theorem onList_inv {e : Expr} {f : List Expr → Pos → Bool} (h : onList e f = true) : ∃ es p, e = .List es p ∧ f es p = true := by
  cases e with
  | List es p => exact ⟨es, p, rfl, h⟩
  | _ => exact ff h
noncomputable def onTuple (e : Expr) (f : List Expr → Nat → Pos → Bool) : Bool := match e with
  | .Tuple es k p => f es k p
  | _ => false
theorem onTuple_inv {e : Expr} {f : List Expr → Nat → Pos → Bool} (h : onTuple e f = true) : ∃ es k p, e = .Tuple es k p ∧ f es k p = true := by
  cases e with
  | Tuple es k p => exact ⟨es, k, p, rfl, h⟩
  | _ => exact ff h
noncomputable def onListComp (e : Expr) (f : Expr → List Comprehension → Scope → Pos → Bool) : Bool := match e with
  | .ListComp elt gs scope p => f elt gs scope p
  | _ => false
theorem onListComp_inv {e : Expr} {f : Expr → List Comprehension → Scope → Pos → Bool} (h : onListComp e f = true) : ∃ elt gs scope p, e = .ListComp elt gs scope p ∧ f elt gs scope p = true := by
  cases e with
  | ListComp elt gs scope p => exact ⟨elt, gs, scope, p, rfl, h⟩
  | _ => exact ff h
noncomputable def onSlice (e : Expr) (f : Option Expr → Option Expr → Option Expr → Pos → Bool) : Bool := match e with
  | .Slice l u st p => f l u st p
  | _ => false
theorem onSlice_inv {e : Expr} {f : Option Expr → Option Expr → Option Expr → Pos → Bool} (h : onSlice e f = true) : ∃ l u st p, e = .Slice l u st p ∧ f l u st p = true := by
  cases e with
  | Slice l u st p => exact ⟨l, u, st, p, rfl, h⟩
  | _ => exact ff h
noncomputable def gName (kn : String → Bool) (sc : Scope) (f : String) (e : Expr) : Bool := onName e fun id _ => id == Str.ofString f && isGlob sc id && !(id == ("__debug__" : Str)) && kn f
noncomputable def isName (e : Expr) : Bool := onName e fun _ _ => true
theorem isName_inv {e : Expr} (h : isName e = true) : ∃ id p, e = .Name id p := let ⟨id, p, e, _⟩ := onName_inv h; ⟨id, p, e⟩
noncomputable def one {α : Type} (l : List α) (f : α → Bool) : Bool := match l with
  | [] => false
  | a :: r => r.isEmpty && f a
noncomputable def two {α : Type} (l : List α) (f g : α → Bool) : Bool := match l with
  | [] => false
  | a :: r => f a && one r g
theorem one_inv {α : Type} {l : List α} {f : α → Bool} (h : one l f = true) : ∃ a, l = [a] ∧ f a = true := by
  cases l with
  | nil => cases h
  | cons a r =>
    have h : (r.isEmpty && f a) = true := h
    rw [Bool.and_eq_true, List.isEmpty_iff] at h
    exact ⟨a, by rw [h.1], h.2⟩
theorem two_inv {α : Type} {l : List α} {f g : α → Bool} (h : two l f g = true) : ∃ a b, l = [a, b] ∧ f a = true ∧ g b = true := by
  cases l with
  | nil => cases h
  | cons a r =>
    have h : (f a && one r g) = true := h
    rw [Bool.and_eq_true] at h
    obtain ⟨b, rfl, h2⟩ := one_inv h.2
    exact ⟨a, b, rfl, h.1, h2⟩
theorem and_inv {a b : Bool} (h : (a && b) = true) : a = true ∧ b = true := by rwa [Bool.and_eq_true] at h
noncomputable def genName (x : Str) (g : Comprehension) : Bool := onName g.target (fun id _ => id == x) && (noSet g.iter && (g.ifs.isEmpty && g.is_async == 0))
theorem genName_inv {x : Str} {t iter : Expr} {ifs : List Expr} {as : Int} (h : genName x ⟨t, iter, ifs, as⟩ = true) : ∃ p, t = .Name x p ∧ noSet iter = true ∧ ifs = [] ∧ as = 0 := by
  obtain ⟨h1, h2⟩ := and_inv h
  obtain ⟨h2, h3⟩ := and_inv h2
  obtain ⟨h3, h4⟩ := and_inv h3
  obtain ⟨id, p, e, h5⟩ := onName_inv h1
  have e1 := beq_iff_eq.mp h5
  subst e1
  exact ⟨p, e, h2, List.isEmpty_iff.mp h3, beq_iff_eq.mp h4⟩
noncomputable def isNone : E → Bool
  | .none => true
  | _ => false
theorem isNone_inv {c : E} (h : isNone c = true) : c = .none := by
  cases c <;> first | rfl | cases h
noncomputable def part (l : Option Expr) (c : E) (f : Expr → Bool) : Bool := match l with
  | some e => f e
  | Option.none => isNone c
noncomputable def baseOk : Expr → Bool
  | .Call .. => false
  | _ => true
theorem base_of {o : Expr} {nm : Str} {env : Env} {w : Sem Value} (h : baseOk o = true) : attributeBase o nm env w = w := by
  cases o <;> first | rfl | cases h
mutual
noncomputable def isE (kn : String → Bool) (sc : Scope) : E → Expr → Bool
  | .var x, e => onName e fun id _ => vName sc x id
  | .glob x, e => gName kn sc x e
  | .none, e => onConstant e fun c _ _ => c == .none
  | .bool b, e => onConstant e fun c _ _ => c == .bool b
  | .int i, e => onConstant e fun c _ _ => c == .int i
  | .str s, e => onConstant e fun c _ _ => c == .str (Str.ofString s) && PyData.strOk (Str.ofString s)
  | .bin op l r, e => onBinOp e fun l' op' r' _ => op' == opOf op && (isE kn sc l l' && isE kn sc r r')
  | .neg a, e => onUnaryOp e fun op a' _ => op == .USub && isE kn sc a a'
  | .not a, e => onUnaryOp e fun op a' _ => op == .Not && isE kn sc a a'
  | .and es, e => onBoolOp e fun op es' _ => op == .And && isEs kn sc es es'
  | .or es, e => onBoolOp e fun op es' _ => op == .Or && isEs kn sc es es'
  | .cmp l op r, e => onCompare e fun l' ops rs _ => ops == [cmOf op] && (isE kn sc l l' && one rs (isE kn sc r))
  | .cmp2 l o1 m o2 r, e => onCompare e fun l' ops rs _ => ops == [cmOf o1, cmOf o2] && (isE kn sc l l' && two rs (isE kn sc m) (isE kn sc r))
  | .call f args, e => onCall e fun fn args' kws _ => kws.isEmpty && (gName kn sc f fn && isEs kn sc args args')
  | .isinst a T, e => onCall e fun fn args' kws _ => kws.isEmpty && (gName kn sc "isinstance" fn && two args' (isE kn sc a) (gName kn sc T))
  | .meth o m args, e => onCall e fun fn args' kws p => kws.isEmpty && (onAttribute fn (fun o' nm ap => nm == Str.ofString m && (isE kn sc o o' && (baseOk o' && ap.endLine == p.line))) && (isEs kn sc args args' && (decide (args'.length < 30) && mName m)))
  | .attr o a, e => onAttribute e fun o' nm _ => isName o' && (nm == Str.ofString a && (isE kn sc o o' && attrName a))
  | .idx o i, e => onSubscript e fun o' i' _ => isE kn sc o o' && isE kn sc i i'
  | .slice o lo hi, e => onSubscript e fun o' i' _ => isE kn sc o o' && onSlice i' fun l u st _ => st.isNone && (part l lo (isE kn sc lo) && part u hi (isE kn sc hi))
  | .list es, e => onList e fun es' _ => isEs kn sc es es' && decide (es.length < 100)
  | .tup es, e => onTuple e fun es' _ _ => isEs kn sc es es' && decide (es.length < 100)
  | .menu es i, e => onSubscript e fun o' i' _ => onList o' (fun es' _ => isEs kn sc es es' && decide (es.length < 100)) && isE kn sc i i'
  | .comp elt x it, e => onListComp e fun elt' gs scope _ => one gs (fun g => genName (Str.ofString x) g && isE kn sc it g.iter) && (compOk sc scope (Str.ofString x) && isE kn (relabelS scope sc) elt elt')
noncomputable def isEs (kn : String → Bool) (sc : Scope) : List E → List Expr → Bool
  | [], es => match es with | [] => true | _ => false
  | c :: cs, es => match es with | e :: es => isE kn sc c e && isEs kn sc cs es | [] => false
end
section
variable {kn : String → Bool} {sc : Scope} {e : Expr}
theorem isE_var {x : String} (h : isE kn sc (.var x) e = true) : ∃ id p, e = .Name id p ∧ vName sc x id = true := onName_inv h
theorem isE_none (h : isE kn sc .none e = true) : ∃ k p, e = .Constant .none k p :=
  let ⟨_, k, p, e1, e2⟩ := onConstant_inv h; ⟨k, p, beq_iff_eq.mp e2 ▸ e1⟩
theorem isE_bool {b : Bool} (h : isE kn sc (.bool b) e = true) : ∃ k p, e = .Constant (.bool b) k p :=
  let ⟨_, k, p, e1, e2⟩ := onConstant_inv h; ⟨k, p, beq_iff_eq.mp e2 ▸ e1⟩
theorem isE_int {i : Int} (h : isE kn sc (.int i) e = true) : ∃ k p, e = .Constant (.int i) k p :=
  let ⟨_, k, p, e1, e2⟩ := onConstant_inv h; ⟨k, p, beq_iff_eq.mp e2 ▸ e1⟩
theorem isE_str {x : String} (h : isE kn sc (.str x) e = true) : ∃ k p, e = .Constant (.str (Str.ofString x)) k p ∧ PyData.strOk (Str.ofString x) = true :=
  let ⟨_, k, p, e1, e2⟩ := onConstant_inv h; ⟨k, p, beq_iff_eq.mp (and_inv e2).1 ▸ e1, (and_inv e2).2⟩
theorem isE_bin {op : Op} {l r : E} (h : isE kn sc (.bin op l r) e = true) : ∃ l' r' p, e = .BinOp l' (opOf op) r' p ∧ isE kn sc l l' = true ∧ isE kn sc r r' = true :=
  let ⟨l', _, r', p, e1, e2⟩ := onBinOp_inv h; ⟨l', r', p, beq_iff_eq.mp (and_inv e2).1 ▸ e1, and_inv (and_inv e2).2⟩
theorem isE_neg {a : E} (h : isE kn sc (.neg a) e = true) : ∃ a' p, e = .UnaryOp .USub a' p ∧ isE kn sc a a' = true :=
  let ⟨_, a', p, e1, e2⟩ := onUnaryOp_inv h; ⟨a', p, beq_iff_eq.mp (and_inv e2).1 ▸ e1, (and_inv e2).2⟩
theorem isE_not {a : E} (h : isE kn sc (.not a) e = true) : ∃ a' p, e = .UnaryOp .Not a' p ∧ isE kn sc a a' = true :=
  let ⟨_, a', p, e1, e2⟩ := onUnaryOp_inv h; ⟨a', p, beq_iff_eq.mp (and_inv e2).1 ▸ e1, (and_inv e2).2⟩
theorem isE_and {es : List E} (h : isE kn sc (.and es) e = true) : ∃ es' p, e = .BoolOp .And es' p ∧ isEs kn sc es es' = true :=
  let ⟨_, a', p, e1, e2⟩ := onBoolOp_inv h; ⟨a', p, beq_iff_eq.mp (and_inv e2).1 ▸ e1, (and_inv e2).2⟩
theorem isE_or {es : List E} (h : isE kn sc (.or es) e = true) : ∃ es' p, e = .BoolOp .Or es' p ∧ isEs kn sc es es' = true :=
  let ⟨_, a', p, e1, e2⟩ := onBoolOp_inv h; ⟨a', p, beq_iff_eq.mp (and_inv e2).1 ▸ e1, (and_inv e2).2⟩
theorem isE_cmp {l r : E} {op : Cm} (h : isE kn sc (.cmp l op r) e = true) : ∃ l' r' p, e = .Compare l' [cmOf op] [r'] p ∧ isE kn sc l l' = true ∧ isE kn sc r r' = true := by
  obtain ⟨l', ops, rs, p, rfl, e2⟩ := onCompare_inv h
  obtain ⟨r', rfl, h3⟩ := one_inv (and_inv (and_inv e2).2).2
  exact ⟨l', r', p, by rw [beq_iff_eq.mp (and_inv e2).1], (and_inv (and_inv e2).2).1, h3⟩
theorem isE_cmp2 {l m r : E} {o1 o2 : Cm} (h : isE kn sc (.cmp2 l o1 m o2 r) e = true) : ∃ l' m' r' p, e = .Compare l' [cmOf o1, cmOf o2] [m', r'] p ∧ isE kn sc l l' = true ∧ isE kn sc m m' = true ∧ isE kn sc r r' = true := by
  obtain ⟨l', ops, rs, p, rfl, e2⟩ := onCompare_inv h
  obtain ⟨m', r', rfl, h3, h4⟩ := two_inv (and_inv (and_inv e2).2).2
  exact ⟨l', m', r', p, by rw [beq_iff_eq.mp (and_inv e2).1], (and_inv (and_inv e2).2).1, h3, h4⟩
theorem isE_call {f : String} {args : List E} (h : isE kn sc (.call f args) e = true) : ∃ fn args' p, e = .Call fn args' [] p ∧ gName kn sc f fn = true ∧ isEs kn sc args args' = true := by
  obtain ⟨fn, args', kws, p, rfl, e2⟩ := onCall_inv h
  exact ⟨fn, args', p, by rw [List.isEmpty_iff.mp (and_inv e2).1], and_inv (and_inv e2).2⟩
theorem isE_isinst {a : E} {T : String} (h : isE kn sc (.isinst a T) e = true) : ∃ fn a' t' p, e = .Call fn [a', t'] [] p ∧ gName kn sc "isinstance" fn = true ∧ isE kn sc a a' = true ∧ gName kn sc T t' = true := by
  obtain ⟨fn, args', kws, p, rfl, e2⟩ := onCall_inv h
  obtain ⟨a', t', rfl, h3, h4⟩ := two_inv (and_inv (and_inv e2).2).2
  exact ⟨fn, a', t', p, by rw [List.isEmpty_iff.mp (and_inv e2).1], (and_inv (and_inv e2).2).1, h3, h4⟩
theorem isE_meth {o : E} {m : String} {args : List E} (h : isE kn sc (.meth o m args) e = true) : ∃ o' ap args' p, e = .Call (.Attribute o' (Str.ofString m) ap) args' [] p ∧ isE kn sc o o' = true ∧ baseOk o' = true ∧ (ap.endLine == p.line) = true ∧ isEs kn sc args args' = true ∧ args'.length < 30 ∧ mName m = true := by
  obtain ⟨fn, args', kws, p, rfl, e2⟩ := onCall_inv h
  obtain ⟨h1, e2⟩ := and_inv e2
  obtain ⟨h2, e2⟩ := and_inv e2
  obtain ⟨h3, e2⟩ := and_inv e2
  obtain ⟨h4, h5⟩ := and_inv e2
  obtain ⟨o', nm, ap, rfl, e3⟩ := onAttribute_inv h2
  obtain ⟨h6, e3⟩ := and_inv e3
  obtain ⟨h7, e3⟩ := and_inv e3
  exact ⟨o', ap, args', p, by rw [List.isEmpty_iff.mp h1, beq_iff_eq.mp h6], h7, (and_inv e3).1, (and_inv e3).2, h3, of_decide_eq_true h4, h5⟩
theorem isE_attr {o : E} {a : String} (h : isE kn sc (.attr o a) e = true) : ∃ o' p, e = .Attribute o' (Str.ofString a) p ∧ isName o' = true ∧ isE kn sc o o' = true ∧ attrName a = true := by
  obtain ⟨o', nm, p, rfl, e2⟩ := onAttribute_inv h
  obtain ⟨h1, e2⟩ := and_inv e2
  obtain ⟨h2, e2⟩ := and_inv e2
  exact ⟨o', p, by rw [beq_iff_eq.mp h2], h1, and_inv e2⟩
theorem isE_idx {o i : E} (h : isE kn sc (.idx o i) e = true) : ∃ o' i' p, e = .Subscript o' i' p ∧ isE kn sc o o' = true ∧ isE kn sc i i' = true :=
  let ⟨o', i', p, e1, e2⟩ := onSubscript_inv h; ⟨o', i', p, e1, and_inv e2⟩
theorem isE_slice {o lo hi : E} (h : isE kn sc (.slice o lo hi) e = true) : ∃ o' l u q p, e = .Subscript o' (.Slice l u Option.none q) p ∧ isE kn sc o o' = true ∧ part l lo (isE kn sc lo) = true ∧ part u hi (isE kn sc hi) = true := by
  obtain ⟨o', i', p, rfl, e2⟩ := onSubscript_inv h
  obtain ⟨h2, e2⟩ := and_inv e2
  obtain ⟨l, u, st, q, rfl, e3⟩ := onSlice_inv e2
  obtain ⟨h3, e3⟩ := and_inv e3
  exact ⟨o', l, u, q, p, by rw [Option.isNone_iff_eq_none.mp h3], h2, and_inv e3⟩
theorem isE_list {es : List E} (h : isE kn sc (.list es) e = true) : ∃ es' p, e = .List es' p ∧ isEs kn sc es es' = true ∧ es.length < 100 :=
  let ⟨es', p, e1, e2⟩ := onList_inv h; ⟨es', p, e1, (and_inv e2).1, of_decide_eq_true (and_inv e2).2⟩
theorem isE_tup {es : List E} (h : isE kn sc (.tup es) e = true) : ∃ es' k p, e = .Tuple es' k p ∧ isEs kn sc es es' = true ∧ es.length < 100 :=
  let ⟨es', k, p, e1, e2⟩ := onTuple_inv h; ⟨es', k, p, e1, (and_inv e2).1, of_decide_eq_true (and_inv e2).2⟩
theorem isE_menu {es : List E} {i : E} (h : isE kn sc (.menu es i) e = true) : ∃ es' q i' p, e = .Subscript (.List es' q) i' p ∧ isEs kn sc es es' = true ∧ es.length < 100 ∧ isE kn sc i i' = true := by
  obtain ⟨o', i', p, rfl, e2⟩ := onSubscript_inv h
  obtain ⟨es', q, rfl, e3⟩ := onList_inv (and_inv e2).1
  exact ⟨es', q, i', p, rfl, (and_inv e3).1, of_decide_eq_true (and_inv e3).2, (and_inv e2).2⟩
theorem isE_comp {el it : E} {x : String} (h : isE kn sc (.comp el x it) e = true) : ∃ elt px iter scope p, e = .ListComp elt [⟨.Name (Str.ofString x) px, iter, [], 0⟩] scope p ∧ isE kn sc it iter = true ∧ noSet iter = true ∧ compOk sc scope (Str.ofString x) = true ∧ isE kn (relabelS scope sc) el elt = true := by
  obtain ⟨elt, gs, scope, p, rfl, e2⟩ := onListComp_inv h
  obtain ⟨h1, e3⟩ := and_inv e2
  obtain ⟨g, rfl, h4⟩ := one_inv h1
  obtain ⟨h4, h5⟩ := and_inv h4
  obtain ⟨t, iter, ifs, as⟩ := g
  obtain ⟨px, rfl, h6, rfl, rfl⟩ := genName_inv h4
  exact ⟨elt, px, iter, scope, p, rfl, h5, h6, and_inv e3⟩
end
theorem isE_plain {kn : String → Bool} {sc : Scope} {c : E} {e : Expr} (h : isE kn sc c e = true) : plainE e = true := by
  cases e with
  | Starred => cases c <;> exact ff h
  | Set => cases c <;> exact ff h
  | Slice => cases c <;> exact ff h
  | _ => rfl

theorem star_plain {e : Expr} {rest : List Expr} {env : Env} (h : plainE e = true) : starEach (e :: rest) env = (false, eval e env) :: starEach rest env := by
  cases e <;> first | rfl | cases h
theorem marks_plain {op : CmpOp} {e : Expr} (h : plainE e = true) : behindInMarks op e = false := by
  cases e <;> first | rfl | cases h
theorem subscripted_plain {e : Expr} (h : plainE e = true) (a b : Value) : subscripted e false a b = operate [a, b] (getItem a b) := by
  cases e <;> first | rfl | cases h
theorem strOk_of (x : String) : PyData.strOk (Str.ofString x) = true := by
  unfold PyData.strOk
  rw [Str.ofString_eq_toList, ← Array.all_toList, List.all_eq_true]
  intro c hc
  obtain ⟨ch, _, rfl⟩ := List.mem_map.mp (show c ∈ x.toList.map Char.toNat from hc)
  have := ch.valid
  have h2 : ch.toNat = ch.val.toNat := rfl
  rcases this with q | q <;> (rw [decide_eq_true_eq, h2]; omega)
end Mine

/-! R9 -/
namespace Mine
open PySem PyProof.Rows PySem.W

inductive RetAt (X : Cx) (st : List Env) (η : List Addr) (s : Shared) (r : R V) (mv : Value) (s' : Shared) : Prop
  | mk (v : V) (H' : Hp) (e : r = .ok v H') (p : Post X (frs st) [] η s H' (fun η' h' => VR X η' h' v mv) s') : RetAt X st η s r mv s'
noncomputable def CallOK (X : Cx) (n : Nat) (f : String) (ws : List V) (H : Hp) (r : R V) : Prop :=
  ∃ fv, X.mg (Str.ofString f) = some fv ∧ ∀ (A : Around) (st : List Env) (η : List Addr) (s : Shared) (ms : List Value), Room n A → A.handled = Option.none → Inv X η H s.heap → Stk X η A st s.heap →
    ws.length = ms.length → (∀ p ∈ ws.zip ms, VR X η s.heap p.1 p.2) →
    codeAny X.M A (.call fv ⟨ms, []⟩) (fun res s' => match res with
      | .ok (.ret mv) => RetAt X st η s r mv s'
      | .ok _ => False
      | .error ev => RaiseAt X st η s r ev s') s

structure SoundFn (X : Cx) (n : Nat) (Γ : Fn) : Prop where
  const : ∀ x v, Γ.const x = some v → ∃ mv, Loads X.mg X.mb x mv ∧ ∀ η h, VR X η h v mv
  call : ∀ f ws H, Γ.call f ws H ≠ .stuck → CallOK X n f ws H (Γ.call f ws H)

theorem R.bind_assoc {α β γ : Type} (x : R α) (f : α → Hp → R β) (g : β → Hp → R γ) : (x.bind f).bind g = x.bind fun a H => (f a H).bind g := by cases x <;> rfl
theorem R.bind_ok_self {α : Type} (x : R α) : (x.bind fun a H => .ok a H) = x := by cases x <;> rfl
theorem truthR_bind {α : Type} (x : R α) (f : α → Hp → R V) : truthR (x.bind f) = x.bind fun a H => truthR (f a H) := R.bind_assoc _ _ _

section
variable {κ : Ct} {ρ : Rho} {vs : List (V × Value)} {H : Hp}

theorem Tri.callF (hh : κ.Γ.hd = false) {f : String} {fv : Value} {ws : List V} {ms : List Value} {r : R V} (C : CallOK κ.X κ.n f ws H r) (hf : κ.X.mg (Str.ofString f) = some fv) (hl : ws.length = ms.length) (hw : ∀ p ∈ ws.zip ms, p ∈ vs) :
    Tri κ ρ vs (PySem.call fv ms) H r rV := by
  intro hs η s a hv
  obtain ⟨fv', e, C⟩ := C
  rw [hf] at e; cases e
  refine wpAny_call (codeAny_mono (C κ.A κ.st η s ms a.room (a.hand hh) a.inv a.stk hl fun p hp => hv p (hw p hp)) fun res s' q => ?_)
  cases res with
  | error ev => exact q
  | ok fl =>
    cases fl with
    | ret mv =>
      obtain ⟨v, H', e, η', h', tk, q1, q2, q3, q4⟩ := q
      exact ⟨v, H', e, trivial, η', h', tk, q1, q2, q3, fun p hp => rV1 hp q4⟩
    | _ => exact q
end

theorem isEs_cons {kn : String → Bool} {sc : Scope} {c : E} {cs : List E} {e : Expr} {es : List Expr} : isEs kn sc (c :: cs) (e :: es) = (isE kn sc c e && isEs kn sc cs es) := rfl
theorem isEs_nil {kn : String → Bool} {sc : Scope} {c : E} {cs : List E} : isEs kn sc (c :: cs) [] = false := rfl

theorem gName_inv {kn : String → Bool} {sc : Scope} {f : String} {e : Expr} (h : gName kn sc f e = true) : ∃ pos, e = .Name (Str.ofString f) pos ∧ isGlob sc (Str.ofString f) = true ∧ (Str.ofString f == ("__debug__" : Str)) = false ∧ kn f = true := by
  obtain ⟨id, p, rfl, h0⟩ := onName_inv h
  simp only [Bool.and_eq_true, beq_iff_eq, Bool.not_eq_true'] at h0
  obtain ⟨⟨⟨rfl, h1⟩, h2⟩, h3⟩ := h0
  exact ⟨_, rfl, h1, h2, h3⟩

section
variable {κ : Ct} {Γ : Fn}

theorem any_plain {kn : String → Bool} {env : Env} {pos : Pos} : ∀ {cs : List E} {es : List Expr}, isEs kn env.scope cs es = true → (backTo pos (starEach es env)).any (·.1) = false
  | [], [], _ => rfl
  | [], _ :: _, h => by cases h
  | _ :: _, [], h => by rw [isEs_nil] at h; cases h
  | c :: cs, e :: es, h => by
    rw [isEs_cons, Bool.and_eq_true] at h
    rw [star_plain (isE_plain h.1), backTo_cons, List.any_cons, any_plain h.2]; rfl

theorem builtin_name {f : String} {ws : List V} {H : Hp} (h : builtin f ws H ≠ .stuck) : ∃ v, biVal f = some v := by
  unfold builtin at h
  by_cases h1 : f = "len"
  · subst h1; exact ⟨_, rfl⟩
  by_cases h2 : f = "all"
  · subst h2; exact ⟨_, rfl⟩
  by_cases h4 : f = "max"
  · subst h4; exact ⟨_, rfl⟩
  by_cases h5 : f = "range"
  · subst h5; exact ⟨_, rfl⟩
  by_cases h6 : f = "list"
  · subst h6; exact ⟨_, rfl⟩
  by_cases h7 : f = "int"
  · subst h7; exact ⟨_, rfl⟩
  by_cases h8 : f = "str"
  · subst h8; exact ⟨_, rfl⟩
  rw [if_neg h1, if_neg h2, if_neg h4, if_neg h5, if_neg h6, if_neg h7, if_neg h8] at h
  exact absurd rfl h

theorem evEs_length {ρ : Rho} : ∀ {cs : List E} {H H1 : Hp} {ws : List V}, evEs Γ ρ cs H = .ok ws H1 → ws.length = cs.length
  | [], H, H1, ws, e => by rw [evEs_nil] at e; cases e; rfl
  | c :: cs, H, H1, ws, e => by
    rw [evEs_cons] at e
    cases h1 : evE Γ ρ c H with
    | ok v H2 =>
      rw [h1, R.bind_ok] at e
      cases h2 : evEs Γ ρ cs H2 with
      | ok vs H3 =>
        rw [h2] at e
        cases e
        rw [List.length_cons, List.length_cons, evEs_length h2]
      | stuck => rw [h2] at e; cases e
      | raise => rw [h2] at e; cases e
    | stuck => rw [h1] at e; cases e
    | raise => rw [h1] at e; cases e

theorem isinst_tail {ρ : Rho} {vs : List (V × Value)} {H : Hp} {T : String} {pt : Pos} {tv : Value} {r : R V} {a' : Expr} (hgt : isGlob κ.env.scope (Str.ofString T) = true)
    (hdt : (Str.ofString T == ("__debug__" : Str)) = false) (hlt : Loads κ.X.mg κ.X.mb T tv) (hkt : κ.X.kn T = true) (pos : Pos) (ih : Tri κ ρ vs (eval a' κ.env) H r rV) :
    Tri κ ρ vs (PySem.callWith pos (.builtin "isinstance") [] (backTo pos ((false, eval a' κ.env) :: starEach [.Name (Str.ofString T) pt] κ.env)) []) H
      (r.bind fun v H1 => ofO H1 ((isinst v T H1).map .bool)) rV := by
  refine Tri.via (fun Q E s q => PySem.Calls.callWith_builtin rfl (PySem.Calls.evalArgs_plain (PySem.Calls.spliced_cons q))) ih fun v H1 m _ _ hs η s Q E a1 hv hq he => ?_
  refine PySem.Calls.spliced_cons (wpAny_glob a1 rfl hgt hdt hlt (PySem.Calls.spliced_nil ?_))
  cases hi : isinst v T H1 with
  | none => rw [hi] at hs; exact absurd rfl hs
  | some b =>
    rw [hi] at hq
    have key : Tri κ ρ (vs ++ (rV v m).2) (PySem.call (.builtin "isinstance") [m, tv]) H1 (.ok (.bool b) H1) rV := by
      by_cases hT : bTypes.contains T = true
      · have hb : biVal T = some (.type T) := by
          have hT' : T = "int" ∨ T = "bool" ∨ T = "tuple" ∨ T = "list" ∨ T = "str" := by simpa [bTypes] using hT
          rcases hT' with rfl | rfl | rfl | rfl | rfl <;> rfl
        have : tv = .type T := hlt.det (.inr (κ.X.bi T _ hb hkt))
        subst this
        exact isinst_ok m0 hT hi
      · exact isinst_own m0 hT hlt hkt hi
    exact wpAny_mono (key (fun q => nomatch q) η s a1 hv) hq fun _ _ q => q.no rfl

theorem Tri.truthy' {ρ : Rho} {vs : List (V × Value)} {H : Hp} {r : R V} {m : Sem Value} (h : Tri κ ρ vs m H r rV) :
    Tri κ ρ vs (m >>= fun c => PySem.holding [c] (PySem.truthy c)) H (truthR r) rB :=
  Tri.bind h fun v H1 mv _ _ => Tri.holding (Tri.truthy m0)


theorem kind_of {v : V} {mv : Value} {H : Hp} {η : List Addr} {s : Shared} {T : String} (hT : T = "list" ∨ T = "str") (i : Inv κ.X η H s.heap) (r : VR κ.X η s.heap v mv) (e : kindV v H = some T) : s.TypeIs mv T ∧ ∀ a, mv = .ref a → ∃ ob, s.heap.get? a = some ob ∧ ob.dict = Option.none := by
  have key : (match listAt v H with | some _ => some "list" | Option.none => Option.none) = some T → s.TypeIs mv T ∧ ∀ a, mv = .ref a → ∃ ob, s.heap.get? a = some ob ∧ ob.dict = Option.none := fun e => by
    cases hx : listAt v H with
    | none => rw [hx] at e; cases e
    | some xs =>
      rw [hx] at e
      cases e
      obtain ⟨a, items, c, rfl, g, r, l⟩ := vr_list i r hx
      exact ⟨⟨_, g, rfl⟩, fun a q => by cases q; exact ⟨_, g, rfl⟩⟩
  cases v with
  | bool => cases e; rcases hT with q | q <;> exact absurd q (by decide)
  | int => cases e; rcases hT with q | q <;> exact absurd q (by decide)
  | tup => cases e; rcases hT with q | q <;> exact absurd q (by decide)
  | str x => cases e; cases r; exact ⟨typeIs_str _ _ _, fun _ q => nomatch q⟩
  | _ => exact key e

theorem methId_of {m : String} (hm : mName m = true) : Slot (mType m) (Str.ofString m) (methId m) ∧ typeOf (.builtin (methId m)) = pure (.type "method_descriptor") ∧ PlainAttrs (mType m) ∧ (mType m = "list" ∨ mType m = "str") := by
  unfold mName at hm
  simp only [Bool.or_eq_true, beq_iff_eq] at hm
  rcases hm with ((rfl | rfl) | rfl) | rfl
  · exact ⟨F.slot_list_append, F.type_list_append, F.plainAttrs_list, .inl rfl⟩
  · exact ⟨F.slot_list_count, F.type_list_count, F.plainAttrs_list, .inl rfl⟩
  · exact ⟨F.slot_str_split, F.type_str_split, F.plainAttrs_str, .inr rfl⟩
  · exact ⟨F.slot_str_find, F.type_str_find, F.plainAttrs_str, .inr rfl⟩
theorem meth_tail {ρ : Rho} {H : Hp} {o' : Expr} {m : String} {ap p : Pos} {args' : List Expr} {r1 : R V} {f : Hp → R (List V)} (hn : baseOk o' = true) (hline : (ap.endLine == p.line) = true) (hp : (backTo p (starEach args' κ.env)).any (·.1) = false) (hlen : args'.length < 30)
    (hm : mName m = true) (h1 : Tri κ ρ [] (eval o' κ.env) H r1 rV) (h2 : ∀ H1, Tri κ ρ [] (spliced (backTo p (starEach args' κ.env))) H1 (f H1) rL) :
    Tri κ ρ [] (eval (.Call (.Attribute o' (Str.ofString m) ap) args' [] p) κ.env) H (r1.bind fun v H1 => if kindV v H1 = some (mType m) then (f H1).bind fun vs H2 => meth v m vs H2 else .stuck) rV := by
  have hall : (backTo p (starEach args' κ.env)).all (fun x => !x.1) = true := by
    rw [List.all_eq_true]
    intro y hy
    have := List.any_eq_false.mp hp y hy
    simpa using this
  obtain ⟨q1, q2, q3, q4⟩ := methId_of hm
  refine Tri.via (fun Q E s q => wpAny_Call_method (base_of hn) (by rw [hall, show backToKw p (keywordEach [] κ.env) = [] from rfl]; simpa using hlen) hline q3 q1 q2 q) h1 fun v H1 mo _ _ hs η s Q E a1 hv hq he => ?_
  by_cases hkv : kindV v H1 = some (mType m)
  · rw [if_pos hkv] at hs hq he
    obtain ⟨k1, k2⟩ := kind_of q4 a1.inv (hv _ m0) hkv
    exact ⟨k1, k2, wpAny_mono ((Tri.callWith (keepable_builtin κ.X _) hp (h2 H1).any fun ws H2 ms _ hl => meth_ok hm (m1 m0) hl fun q hq => List.mem_append.mpr (.inr hq)) hs η s a1 hv) hq he⟩
  · rw [if_neg hkv] at hs; exact absurd rfl hs

mutual
theorem evE_ok : ∀ (c : E) (e : Expr) (κ : Ct) (ρ : Rho) (H : Hp), SoundFn κ.X κ.n κ.Γ → isE κ.X.kn κ.env.scope c e = true → Tri κ ρ [] (eval e κ.env) H (evE κ.Γ ρ c H) rV
  | .var x, e, κ, ρ, H, S, h => by
    obtain ⟨id, p, rfl, hv⟩ := isE_var h
    unfold vName at hv
    simp only [Bool.and_eq_true, beq_iff_eq, Bool.not_eq_true'] at hv
    rw [evE_var]
    exact Tri.name hv.1.1.1 hv.1.1.2 hv.1.2 hv.2
  | .glob x, e, κ, ρ, H, S, h => by
    obtain ⟨pos, rfl, hg, hd1, hk⟩ := gName_inv h
    rw [evE_glob]
    cases ec : κ.Γ.const x with
    | none => exact Tri.stuck
    | some v =>
      obtain ⟨mv, hl, hr⟩ := S.const x v ec
      refine Tri.reads fun η s Q E at' hv hq => wpAny_glob at' rfl hg hd1 hl (hq mv s.heap s.toks (fun _ _ e => e) trivial fun p hp => ?_)
      exact rV1 hp (hr _ _)
  | .none, e, κ, ρ, H, S, h => by
    obtain ⟨k, p, rfl⟩ := isE_none h
    exact Tri.const_none
  | .bool b, e, κ, ρ, H, S, h => by
    obtain ⟨k, p, rfl⟩ := isE_bool h
    exact Tri.const_bool
  | .int i, e, κ, ρ, H, S, h => by
    obtain ⟨k, p, rfl⟩ := isE_int h
    exact Tri.const_int
  | .str x, e, κ, ρ, H, S, h => by
    obtain ⟨k, p, rfl, h2⟩ := isE_str h
    exact Tri.const_str h2
  | .bin op l r, e, κ, ρ, H, S, h => by
    obtain ⟨l', r', pos, rfl, h1, h2⟩ := isE_bin h
    rw [evE_bin]
    show Tri _ _ _ (eval l' κ.env >>= fun a => PySem.holding [a] (eval r' κ.env) >>= fun b => standAt pos >>= fun _ => PySem.operate [a, b] (binaryOp (opOf op) a b)) _ _ _
    refine Tri.bind (evE_ok l l' κ ρ H S h1) fun a H1 ma _ _ => ?_
    refine Tri.bind (Tri.holding ((evE_ok r r' κ ρ H1 S h2).any)) fun b H2 mb _ _ => ?_
    exact Tri.stand (Tri.operate (bin_ok (m1 m0) m0))
  | .neg a, e, κ, ρ, H, S, h => by
    obtain ⟨a', pos, rfl, h1⟩ := isE_neg h
    rw [evE_neg]
    show Tri _ _ _ (eval a' κ.env >>= fun v => standAt pos >>= fun _ => PySem.holding [v] (unaryOp .USub v)) _ _ _
    refine Tri.bind (evE_ok a a' κ ρ H S h1) fun v H1 mv _ _ => Tri.stand (Tri.holding ?_)
    unfold negV
    cases hx : intAt v with
    | none => exact Tri.stuck
    | some i =>
      refine Tri.plain fun η s Q E at' hv hq => ?_
      obtain ⟨t, rfl⟩ := vr_int (hv _ m0) hx
      exact PyProof.Rows.neg_int (hq _ _ (.int _ _))
  | .not a, e, κ, ρ, H, S, h => by
    obtain ⟨a', pos, rfl, h1⟩ := isE_not h
    rw [evE_not]; simp only [truthR, R.bind_assoc]
    show Tri _ _ _ (eval a' κ.env >>= fun v => standAt pos >>= fun _ => PySem.holding [v] (unaryOp .Not v)) _ _ _
    refine Tri.bind (evE_ok a a' κ ρ H S h1) fun v H1 mv _ _ => Tri.stand (Tri.holding ?_)
    show Tri _ _ _ (PySem.holding [mv] (PySem.truthy mv >>= fun b => Pure.pure (Value.bool (!b)))) _ _ _
    refine Tri.holding (Tri.bind (Tri.truthy m0) fun b H2 b' _ hb => ?_)
    have hb' : b' = b := hb
    subst hb'
    refine Tri.plain fun η s Q E at' hv hq => wpAny_pure (hq _ s.toks (.bool _))
  | .and es, e, κ, ρ, H, S, h => by
    obtain ⟨es', pos, rfl, h1⟩ := isE_and h
    rw [evE_and]
    exact evAnd_ok es es' κ ρ H pos S h1
  | .or es, e, κ, ρ, H, S, h => by
    obtain ⟨es', pos, rfl, h1⟩ := isE_or h
    rw [evE_or]
    exact evOr_ok es es' κ ρ H pos S h1
  | .cmp l op r, e, κ, ρ, H, S, h => by
    obtain ⟨l', r', pos, rfl, h1, h2⟩ := isE_cmp h
    rw [evE_cmp]
    rw [eval_Compare1, markedBehindIn_of_false (marks_plain (isE_plain h2))]
    refine Tri.bind (evE_ok l l' κ ρ H S h1) fun a H1 ma _ _ => ?_
    refine Tri.bind (Tri.holding ((evE_ok r r' κ ρ H1 S h2).any)) fun b H2 mb _ _ => ?_
    refine Tri.stand (Tri.operate ?_)
    cases ec : cmp op a b H2 with
    | none => exact Tri.stuck
    | some t => exact cmp_ok (m1 m0) m0 ec
  | .cmp2 l o1 m o2 r, e, κ, ρ, H, S, h => by
    obtain ⟨l', m', r', pos, rfl, h1, h2, h3⟩ := isE_cmp2 h
    rw [evE_cmp2]
    show Tri _ _ _ (eval l' κ.env >>= fun a => PySem.holding [a] (eval m' κ.env) >>= fun b => standAt pos >>= fun _ => PySem.holding [a, b] (compareOp (cmOf o1) a b) >>= fun c =>
      release [a, b] [c] >>= fun _ => PySem.holding [c, b] (PySem.truthy c) >>= fun t => if t = true then compareChain pos b [cmOf o2] [markedBehindIn (cmOf o2) r' (eval r' κ.env)] else Pure.pure c) _ _ _
    refine Tri.bind (evE_ok l l' κ ρ H S h1) fun a H1 ma _ _ => ?_
    refine Tri.bind (Tri.holding ((evE_ok m m' κ ρ H1 S h2).any)) fun b H2 mb _ _ => ?_
    refine Tri.stand ?_
    cases ec : cmp o1 a b H2 with
    | none => exact Tri.stuck
    | some t =>
      have step := fun (vs : List (V × Value)) (ha : (a, ma) ∈ vs) (hb : (b, mb) ∈ vs) => Tri.holding (l := [ma, mb]) (cmp_ok (κ := κ) (ρ := ρ) (H := H2) (vs := vs) ha hb ec)
      show Tri _ _ _ _ _ (R.bind (.ok (.bool t) H2) fun v H3 => truthR (.ok v H3) |>.bind fun t H3 => if t = true then (evE κ.Γ ρ r H3).bind fun c H4 => ofO H4 ((cmp o2 b c H4).map V.bool) else .ok (.bool false) H3) _
      refine Tri.bind (step _ (m1 m0) m0) fun v H3 mv ev _ => ?_
      refine Tri.skip (a₀ := ()) (fun Q E s q Γ' p _ => by show Sem.wp _ _ (release _ _) _ _ _ _; unfold release; rw [Sem.wp_release_go]; exact q) ?_
      refine Tri.bind (Tri.holding (Tri.truthy m0)) fun t2 H4 t2' et ht => ?_
      have ht' : t2' = t2 := ht
      subst ht'
      cases t2' with
      | false =>
        cases ev
        have et2 : R.ok t H2 = R.ok false H4 := et
        cases et2
        refine Tri.pure (a := mv) trivial fun p hp => ?_
        rw [rV, List.mem_singleton] at hp; subst hp
        exact m1 m0
      | true =>
        show Tri _ _ _ (PySem.holding [mb] (markedBehindIn (cmOf o2) r' (eval r' κ.env)) >>= fun c => standAt pos >>= fun _ => PySem.operate [mb, c] (compareOp (cmOf o2) mb c)) _ _ _
        rw [markedBehindIn_of_false (marks_plain (isE_plain h3))]
        refine Tri.bind (Tri.holding ((evE_ok r r' κ ρ H4 S h3).any)) fun c H5 mc _ _ => ?_
        refine Tri.stand (Tri.operate ?_)
        cases ec2 : cmp o2 b c H5 with
        | none => exact Tri.stuck
        | some t => exact cmp_ok (m1 (m1 (m1 m0))) m0 ec2
  | .call f args, e, κ, ρ, H, S, h => by
    obtain ⟨fn, args', pos, rfl, h0, h2⟩ := isE_call h
    obtain ⟨pf, rfl, hg, hd1, hk⟩ := gName_inv h0
    obtain ⟨fv, hl⟩ := κ.X.known f hk
    rw [evE_call]
    show Tri _ _ _ (eval (.Name (Str.ofString f) pf) κ.env >>= fun g => PySem.callWith pos g [] (backTo pos (starEach args' κ.env)) []) _ _ _
    refine Tri.rel_of (r := R.bind (.ok fv H) fun _ H1 => R.bind (evEs κ.Γ ρ args H1) fun ws H1 => callF κ.Γ f ws H1) ?_ rfl
    refine Tri.bind (Tri.glob rfl hg hd1 hl) fun g H1 mg eg hg' => ?_
    have hg2 : mg = g := hg'
    cases eg
    subst hg2
    refine Tri.callWith (κ.X.kp f mg hk hl) (any_plain h2) (evEs_ok args args' κ ρ H pos S h2).any fun ws H2 ms _ hlen => ?_
    rw [List.nil_append]
    have hw : ∀ p ∈ ws.zip ms, p ∈ [] ++ (rEq mg mg).2 ++ ws.zip ms := fun p hp => List.mem_append.mpr (.inr hp)
    unfold callF
    cases hh : κ.Γ.hd with
    | true => exact Tri.stuck
    | false =>
    rw [if_neg (by decide)]
    have bi : builtin f ws H2 ≠ .stuck → Tri κ ρ ([] ++ (rEq mg mg).2 ++ ws.zip ms) (PySem.call mg ms) H2 (builtin f ws H2) rV := fun hb => by
      obtain ⟨bv, hbv⟩ := builtin_name (f := f) (ws := ws) (H := H2) hb
      have : mg = bv := hl.det (.inr (κ.X.bi f bv hbv hk))
      subst this
      exact builtin_ok hh hbv hlen hw
    cases hb : builtin f ws H2 with
    | stuck =>
      dsimp only
      by_cases hs : κ.Γ.call f ws H2 = .stuck
      · rw [hs]; exact Tri.stuck
      · have C := S.call f ws H2 hs
        obtain ⟨fv', e', _⟩ := id C
        have : mg = fv' := hl.det (.inl e')
        subst this
        exact Tri.callF hh C e' hlen hw
    | _ => exact (bi (by rw [hb]; exact fun q => nomatch q)).rel_of hb
  | .isinst a T, e, κ, ρ, H, S, h => by
    obtain ⟨fn, a', t', pos, rfl, h0, h1, h2⟩ := isE_isinst h
    obtain ⟨pf, rfl, hg, hd1, hk⟩ := gName_inv h0
    obtain ⟨pt, rfl, hgt, hdt, hkt⟩ := gName_inv h2
    have hl : Loads κ.X.mg κ.X.mb "isinstance" (.builtin "isinstance") := .inr (κ.X.bi _ _ rfl hk)
    obtain ⟨tv, hlt⟩ := κ.X.known T hkt
    rw [evE_isinst]
    show Tri _ _ _ (eval (.Name (Str.ofString "isinstance") pf) κ.env >>= fun g => PySem.callWith pos g [] (backTo pos (starEach [a', .Name (Str.ofString T) pt] κ.env)) []) _ _ _
    refine Tri.rel_of (r := R.bind (.ok (Value.builtin "isinstance") H) fun _ H1 => (evE κ.Γ ρ a H1).bind fun v H1 => ofO H1 ((isinst v T H1).map .bool)) ?_ rfl
    refine Tri.bind (Tri.glob rfl hg hd1 hl) fun g H1 mg eg hg' => ?_
    have hg2 : mg = g := hg'
    cases eg
    subst hg2
    rw [star_plain (isE_plain h1)]
    exact isinst_tail hgt hdt hlt hkt pos (evE_ok a a' κ ρ H S h1).any
  | .idx o i, e, κ, ρ, H, S, h => by
    obtain ⟨o', i', pos, rfl, h1, h2⟩ := isE_idx h
    rw [evE_idx]
    show Tri _ _ _ (eval o' κ.env >>= fun a => PySem.holding [a] (eval i' κ.env) >>= fun b => standAt pos >>= fun _ => subscriptTail o' i' a b) _ _ _
    refine Tri.bind (evE_ok o o' κ ρ H S h1) fun a H1 ma _ _ => ?_
    refine Tri.bind (Tri.holding ((evE_ok i i' κ ρ H1 S h2).any)) fun b H2 mb _ _ => ?_
    exact Tri.stand (index_ok (m1 m0) m0 (subscripted_plain (isE_plain h2)))
  | .tup es, e, κ, ρ, H, S, h => by
    obtain ⟨es', k, pos, rfl, h1, h2⟩ := isE_tup h
    rw [evE_tup]
    show Tri _ _ _ (standAt pos >>= fun _ => spliced (backTo pos (starEach es' κ.env)) >>= fun ms => PySem.newTuple ms) _ _ _
    refine Tri.stand (Tri.bind (evEs_ok es es' κ ρ H pos S h1) fun ws H1 ms ew hl => ?_)
    exact Tri.newTuple hl (fun p hp => List.mem_append.mpr (.inr hp)) (by rw [evEs_length ew]; unfold line; omega)
  | .list es, e, κ, ρ, H, S, h => by
    obtain ⟨es', pos, rfl, h1, h2⟩ := isE_list h
    rw [evE_list]
    show Tri _ _ _ (standAt pos >>= fun _ => spliced (backTo pos (starEach es' κ.env)) >>= fun ms => PySem.newList ms) _ _ _
    refine Tri.stand (Tri.bind (evEs_ok es es' κ ρ H pos S h1) fun ws H1 ms ew hl => ?_)
    exact Tri.newList hl (fun p hp => List.mem_append.mpr (.inr hp)) (by rw [evEs_length ew]; unfold line; omega)
  | .menu es i, e, κ, ρ, H, S, h => by
    obtain ⟨es', lpos, i', pos, rfl, h1, h2, h3⟩ := isE_menu h
    rw [evE_menu]
    show Tri _ _ _ ((standAt lpos >>= fun _ => spliced (backTo lpos (starEach es' κ.env)) >>= fun ms => PySem.newList ms) >>= fun a => PySem.holding [a] (eval i' κ.env) >>= fun b => standAt pos >>= fun _ => subscriptTail (.List es' lpos) i' a b) _ _ _
    refine Tri.rel_of (r := ((evEs κ.Γ ρ es H).bind fun ws H1 => .ok (V.lst ws) H1).bind fun o H1 => (evE κ.Γ ρ i H1).bind fun k H2 => index o k H2) ?_ (by simp only [R.bind_assoc, R.bind_ok])
    refine Tri.bind (Tri.stand (Tri.bind (evEs_ok es es' κ ρ H lpos S h1) fun ws H1 ms ew hl => Tri.hidden hl (fun p hp => List.mem_append.mpr (.inr hp)) (by rw [evEs_length ew]; unfold line; omega))) fun a H1 ma _ _ => ?_
    refine Tri.bind (Tri.holding ((evE_ok i i' κ ρ H1 S h3).any)) fun b H2 mb _ _ => ?_
    exact Tri.stand (index_ok (m1 m0) m0 (subscripted_plain (isE_plain h3)))
  | .meth o m args, e, κ, ρ, H, S, h => by
    obtain ⟨o', ap, args', p, rfl, h1, h2, h3, h4, h5, h6⟩ := isE_meth h
    rw [evE_meth]
    exact meth_tail h2 h3 (any_plain h4) h5 h6 (evE_ok o o' κ ρ H S h1) fun H1 => evEs_ok args args' κ ρ H1 p S h4
  | .attr o a, e, κ, ρ, H, S, h => by
    obtain ⟨o', pos, rfl, h1, h2, h3⟩ := isE_attr h
    obtain ⟨id, p, rfl⟩ := isName_inv h1
    rw [evE_attr]
    show Tri _ _ _ (eval (.Name id p) κ.env >>= fun v => standAt pos.atName >>= fun _ => PySem.holding [v] (getAttr v (Str.ofString a) true) >>= fun r => Pure.pure () >>= fun _ => Pure.pure r) _ _ _
    refine Tri.bind (evE_ok o _ κ ρ H S h2) fun v H1 mv _ _ => Tri.stand ?_
    refine Tri.rel_of (r := (attrV v a H1).bind fun w H2 => .ok w H2) ?_ (R.bind_ok_self _)
    refine Tri.bind (Tri.holding (attr_ok m0 h3)) fun w H2 mw _ _ => ?_
    refine Tri.skip (a₀ := ()) (fun _ _ _ q => wpAny_pure q) (Tri.pure trivial fun p hp => List.mem_append.mpr (.inr hp))
  | .slice o lo hi, e, κ, ρ, H, S, h => by
    obtain ⟨o', l, u, p, pos, rfl, h2, h3, h4⟩ := isE_slice h
    rw [evE_slice]
    refine slice_ok (evE_ok o _ κ ρ H S h2) (fun H1 => ?_) fun H1 => ?_
    · cases l with
      | none => rw [isNone_inv h3]; exact Tri.plain fun _ s _ _ _ _ hq => wpAny_pure (hq _ s.toks .none)
      | some e => exact evE_ok lo e κ ρ H1 S h3
    · cases u with
      | none => rw [isNone_inv h4]; exact Tri.plain fun _ s _ _ _ _ hq => wpAny_pure (hq _ s.toks .none)
      | some e => exact evE_ok hi e κ ρ H1 S h4
  | .comp elt x it, e, κ, ρ, H, S, h => by
    obtain ⟨elt', px, iter, scope, pos, rfl, h1, h2, h3, h4⟩ := isE_comp h
    rw [evE_comp]
    cases hh : κ.Γ.hd with
    | true => exact Tri.stuck
    | false =>
    rw [if_neg (by decide)]
    exact comp_ok hh h3 h2 (evE_ok it iter κ ρ H S h1) fun cl v C' H' => evE_ok elt elt' (κ.inn (compEnvC scope cl C' κ.env)) ((x, v) :: ρ) H' S h4
theorem evAnd_ok : ∀ (cs : List E) (es : List Expr) (κ : Ct) (ρ : Rho) (H : Hp) (pos : Pos), SoundFn κ.X κ.n κ.Γ → isEs κ.X.kn κ.env.scope cs es = true → Tri κ ρ [] (boolOp pos .And (evalEach es κ.env)) H (evAnd κ.Γ ρ cs H) rV
  | [], _, _, _, _, _, _, _ => Tri.stuck
  | [c], es, κ, ρ, H, pos, S, h => by
    cases es with
    | nil => exact ff h
    | cons e es' =>
      rw [isEs_cons, Bool.and_eq_true] at h
      cases es' with
      | nil => exact evE_ok c e κ ρ H S h.1
      | cons => exact ff h.2
  | c :: c2 :: cs, es, κ, ρ, H, pos, S, h => by
    cases es with
    | nil => rw [isEs_nil] at h; cases h
    | cons e es' =>
      rw [isEs_cons, Bool.and_eq_true] at h
      obtain ⟨h1, h2⟩ := h
      cases es' with
      | nil => exact ff h2
      | cons e2 es2 =>
        rw [evAnd_cons]; simp only [truthR, R.bind_assoc]
        show Tri _ _ _ (eval e κ.env >>= fun v => standAt pos >>= fun _ => PySem.holding [v] (PySem.truthy v) >>= fun t => match BoolOp.And, t with
          | .And, false | .Or, true => Pure.pure v
          | _, _ => boolOp pos .And (evalEach (e2 :: es2) κ.env)) _ _ _
        refine Tri.bind (evE_ok c e κ ρ H S h1) fun v H1 mv _ _ => Tri.stand ?_
        cases v with
        | bool b =>
          refine Tri.bind (Tri.holding (Tri.truthy m0)) fun t H2 t' et ht => ?_
          have ht' : t' = t := ht
          subst ht'
          simp only [truth, ofO] at et
          cases et
          cases b with
          | false =>
            simp only [Bool.false_eq_true, if_false]
            refine Tri.pure trivial fun p hp => ?_
            rw [rV, List.mem_singleton] at hp; subst hp
            exact m1 m0
          | true =>
            simp only [if_true]
            exact (evAnd_ok (c2 :: cs) (e2 :: es2) κ ρ _ pos S h2).any
        | _ => exact Tri.stuck
theorem evOr_ok : ∀ (cs : List E) (es : List Expr) (κ : Ct) (ρ : Rho) (H : Hp) (pos : Pos), SoundFn κ.X κ.n κ.Γ → isEs κ.X.kn κ.env.scope cs es = true → Tri κ ρ [] (boolOp pos .Or (evalEach es κ.env)) H (evOr κ.Γ ρ cs H) rV
  | [], _, _, _, _, _, _, _ => Tri.stuck
  | [c], es, κ, ρ, H, pos, S, h => by
    cases es with
    | nil => exact ff h
    | cons e es' =>
      rw [isEs_cons, Bool.and_eq_true] at h
      cases es' with
      | nil => exact evE_ok c e κ ρ H S h.1
      | cons => exact ff h.2
  | c :: c2 :: cs, es, κ, ρ, H, pos, S, h => by
    cases es with
    | nil => rw [isEs_nil] at h; cases h
    | cons e es' =>
      rw [isEs_cons, Bool.and_eq_true] at h
      obtain ⟨h1, h2⟩ := h
      cases es' with
      | nil => exact ff h2
      | cons e2 es2 =>
        rw [evOr_cons]; simp only [truthR, R.bind_assoc]
        show Tri _ _ _ (eval e κ.env >>= fun v => standAt pos >>= fun _ => PySem.holding [v] (PySem.truthy v) >>= fun t => match BoolOp.Or, t with
          | .And, false | .Or, true => Pure.pure v
          | _, _ => boolOp pos .Or (evalEach (e2 :: es2) κ.env)) _ _ _
        refine Tri.bind (evE_ok c e κ ρ H S h1) fun v H1 mv _ _ => Tri.stand ?_
        cases v with
        | bool b =>
          refine Tri.bind (Tri.holding (Tri.truthy m0)) fun t H2 t' et ht => ?_
          have ht' : t' = t := ht
          subst ht'
          simp only [truth, ofO] at et
          cases et
          cases b with
          | true =>
            simp only [if_true]
            refine Tri.pure trivial fun p hp => ?_
            rw [rV, List.mem_singleton] at hp; subst hp
            exact m1 m0
          | false =>
            simp only [Bool.false_eq_true, if_false]
            exact (evOr_ok (c2 :: cs) (e2 :: es2) κ ρ _ pos S h2).any
        | _ => exact Tri.stuck
theorem evEs_ok : ∀ (cs : List E) (es : List Expr) (κ : Ct) (ρ : Rho) (H : Hp) (pos : Pos), SoundFn κ.X κ.n κ.Γ → isEs κ.X.kn κ.env.scope cs es = true → Tri κ ρ [] (spliced (backTo pos (starEach es κ.env))) H (evEs κ.Γ ρ cs H) rL
  | [], es, κ, ρ, H, pos, S, h => by
    cases es with
    | nil => exact Tri.spliced_nil
    | cons => cases h
  | c :: cs, es, κ, ρ, H, pos, S, h => by
    cases es with
    | nil => rw [isEs_nil] at h; cases h
    | cons e es' =>
      rw [isEs_cons, Bool.and_eq_true] at h
      rw [star_plain (isE_plain h.1)]
      exact Tri.spliced_cons (evE_ok c e κ ρ H S h.1) fun v H1 m _ => (evEs_ok cs es' κ ρ H1 pos S h.2).any
end
end
end Mine

/-! R10 -/
namespace Mine
open PySem PyProof.Rows PySem.W

/-! tests -/
section
variable {κ : Ct}

noncomputable def plainT : E → Bool
  | .not _ | .and _ | .or _ | .cmp .. | .cmp2 .. => false
  | _ => true

theorem plain_test {kn : String → Bool} {sc : Scope} {c : E} {e : Expr} {env : Env} (h : isE kn sc c e = true)
    (hc : plainT c = true) (w : Sem Value) : isTrue e env w = (w >>= fun v => standAt e.pos >>= fun _ => PySem.holding [v] (truthy v)) := by
  cases e with
  | UnaryOp op x pos =>
    cases op with
    | Not => cases c <;> first | exact ff h | exact ff hc
    | _ => rfl
  | BoolOp op xs pos => cases c <;> first | exact ff h | exact ff hc
  | IfExp => cases c <;> first | exact ff h | exact ff hc
  | Compare l ops rs pos => cases c <;> first | exact ff h | exact ff hc
  | _ => rfl

theorem plainTest_ok {ρ : Rho} {H : Hp} {c : E} {e : Expr} (h : isE κ.X.kn κ.env.scope c e = true) (hc : plainT c = true)
    (ih : Tri κ ρ [] (eval e κ.env) H (evE κ.Γ ρ c H) rV) : Tri κ ρ [] (isTrue e κ.env (eval e κ.env)) H (truthR (evE κ.Γ ρ c H)) rB := by
  rw [plain_test h hc]
  exact Tri.bind ih fun v H1 mv _ _ => Tri.stand (Tri.holding (Tri.truthy m0))

mutual
theorem testE_ok : ∀ (c : E) (e : Expr) (κ : Ct) (ρ : Rho) (H : Hp), SoundFn κ.X κ.n κ.Γ → isE κ.X.kn κ.env.scope c e = true → Tri κ ρ [] (isTrue e κ.env (eval e κ.env)) H (truthR (evE κ.Γ ρ c H)) rB
  | .not a, e, κ, ρ, H, S, h => by
    obtain ⟨a', pos, rfl, h1⟩ := isE_not h
    show Tri _ _ _ (isTrue a' κ.env (eval a' κ.env) >>= fun b => Pure.pure (!b)) _ _ _
    refine Tri.rel_of (r := (truthR (evE κ.Γ ρ a H)).bind fun b H1 => .ok (!b) H1) ?_ (by rw [evE_not, truthR_bind]; rfl)
    refine Tri.bind (testE_ok a a' κ ρ H S h1) fun b H1 b' _ hb => ?_
    have hb' : b' = b := hb
    subst hb'
    exact Tri.pure rfl fun _ q => nomatch q
  | .and es, e, κ, ρ, H, S, h => by
    obtain ⟨es', pos, rfl, h1⟩ := isE_and h
    rw [evE_and]
    exact testAnd_ok es es' κ ρ H S h1
  | .or es, e, κ, ρ, H, S, h => by
    obtain ⟨es', pos, rfl, h1⟩ := isE_or h
    rw [evE_or]
    exact testOr_ok es es' κ ρ H S h1
  | .cmp l op r, e, κ, ρ, H, S, h => by
    obtain ⟨l', r', pos, rfl, h1, h2⟩ := isE_cmp h
    rw [isTrue_Compare1, markedBehindIn_of_false (marks_plain (isE_plain h2))]
    rw [evE_cmp]; simp only [truthR_bind]
    refine Tri.bind (evE_ok l l' κ ρ H S h1) fun a H1 ma _ _ => ?_
    refine Tri.bind (Tri.holding ((evE_ok r r' κ ρ H1 S h2).any)) fun b H2 mb _ _ => ?_
    refine Tri.stand (Tri.truthy' (Tri.operate ?_))
    cases ec : cmp op a b H2 with
    | none => exact Tri.stuck
    | some t => exact cmp_ok (m1 m0) m0 ec
  | .cmp2 l o1 m o2 r, e, κ, ρ, H, S, h => by
    obtain ⟨l', m', r', pos, rfl, h1, h2, h3⟩ := isE_cmp2 h
    rw [evE_cmp2]; simp only [truthR_bind]
    show Tri _ _ _ (eval l' κ.env >>= fun a => PySem.holding [a] (eval m' κ.env) >>= fun b => standAt pos >>= fun _ => PySem.holding [a, b] (compareOp (cmOf o1) a b) >>= fun c =>
      release [a, b] [c] >>= fun _ => PySem.holding [c, b] (PySem.truthy c) >>= fun t => if t = true then testChain pos b [cmOf o2] [markedBehindIn (cmOf o2) r' (eval r' κ.env)] else Pure.pure false) _ _ _
    refine Tri.bind (evE_ok l l' κ ρ H S h1) fun a H1 ma _ _ => ?_
    refine Tri.bind (Tri.holding ((evE_ok m m' κ ρ H1 S h2).any)) fun b H2 mb _ _ => ?_
    refine Tri.stand ?_
    cases ec : cmp o1 a b H2 with
    | none => exact Tri.stuck
    | some t =>
      have step := fun (vs : List (V × Value)) (ha : (a, ma) ∈ vs) (hb : (b, mb) ∈ vs) => Tri.holding (l := [ma, mb]) (cmp_ok (κ := κ) (ρ := ρ) (H := H2) (vs := vs) ha hb ec)
      show Tri _ _ _ _ _ (R.bind (.ok (.bool t) H2) fun v H3 => truthR (.ok v H3) |>.bind fun t H3 => truthR (if t = true then (evE κ.Γ ρ r H3).bind fun c H4 => ofO H4 ((cmp o2 b c H4).map V.bool) else .ok (.bool false) H3)) _
      refine Tri.bind (step _ (m1 m0) m0) fun v H3 mv ev _ => ?_
      refine Tri.skip (a₀ := ()) (fun Q E s q Γ' p _ => by show Sem.wp _ _ (release _ _) _ _ _ _; unfold release; rw [Sem.wp_release_go]; exact q) ?_
      refine Tri.bind (Tri.holding (Tri.truthy m0)) fun t2 H4 t2' et ht => ?_
      have ht' : t2' = t2 := ht
      subst ht'
      cases t2' with
      | false => exact Tri.pure (a := false) (b := false) rfl fun _ q => nomatch q
      | true =>
        show Tri _ _ _ (PySem.holding [mb] (markedBehindIn (cmOf o2) r' (eval r' κ.env)) >>= fun c => standAt pos >>= fun _ => PySem.operate [mb, c] (compareOp (cmOf o2) mb c) >>= fun c => PySem.holding [c] (PySem.truthy c)) _ (truthR ((evE κ.Γ ρ r H4).bind fun c H4 => ofO H4 ((cmp o2 b c H4).map V.bool))) _
        rw [markedBehindIn_of_false (marks_plain (isE_plain h3)), truthR_bind]
        refine Tri.bind (Tri.holding ((evE_ok r r' κ ρ H4 S h3).any)) fun c H5 mc _ _ => ?_
        refine Tri.stand (Tri.truthy' (Tri.operate ?_))
        cases ec2 : cmp o2 b c H5 with
        | none => exact Tri.stuck
        | some t => exact cmp_ok (m1 (m1 (m1 m0))) m0 ec2
  | .var x, e, κ, ρ, H, S, h => plainTest_ok h rfl (evE_ok _ e κ ρ H S h)
  | .glob x, e, κ, ρ, H, S, h => plainTest_ok h rfl (evE_ok _ e κ ρ H S h)
  | .none, e, κ, ρ, H, S, h => plainTest_ok h rfl (evE_ok _ e κ ρ H S h)
  | .bool x, e, κ, ρ, H, S, h => plainTest_ok h rfl (evE_ok _ e κ ρ H S h)
  | .int x, e, κ, ρ, H, S, h => plainTest_ok h rfl (evE_ok _ e κ ρ H S h)
  | .str x, e, κ, ρ, H, S, h => plainTest_ok h rfl (evE_ok _ e κ ρ H S h)
  | .bin _ _ _, e, κ, ρ, H, S, h => plainTest_ok h rfl (evE_ok _ e κ ρ H S h)
  | .call _ _, e, κ, ρ, H, S, h => plainTest_ok h rfl (evE_ok _ e κ ρ H S h)
  | .isinst _ _, e, κ, ρ, H, S, h => plainTest_ok h rfl (evE_ok _ e κ ρ H S h)
  | .meth _ _ _, e, κ, ρ, H, S, h => plainTest_ok h rfl (evE_ok _ e κ ρ H S h)
  | .attr _ _, e, κ, ρ, H, S, h => plainTest_ok h rfl (evE_ok _ e κ ρ H S h)
  | .idx _ _, e, κ, ρ, H, S, h => plainTest_ok h rfl (evE_ok _ e κ ρ H S h)
  | .slice _ _ _, e, κ, ρ, H, S, h => plainTest_ok h rfl (evE_ok _ e κ ρ H S h)
  | .list _, e, κ, ρ, H, S, h => plainTest_ok h rfl (evE_ok _ e κ ρ H S h)
  | .tup _, e, κ, ρ, H, S, h => plainTest_ok h rfl (evE_ok _ e κ ρ H S h)
  | .menu _ _, e, κ, ρ, H, S, h => plainTest_ok h rfl (evE_ok _ e κ ρ H S h)
  | .comp _ _ _, e, κ, ρ, H, S, h => plainTest_ok h rfl (evE_ok _ e κ ρ H S h)
  | .neg _, e, κ, ρ, H, S, h => plainTest_ok h rfl (evE_ok _ e κ ρ H S h)
theorem testAnd_ok : ∀ (cs : List E) (es : List Expr) (κ : Ct) (ρ : Rho) (H : Hp), SoundFn κ.X κ.n κ.Γ → isEs κ.X.kn κ.env.scope cs es = true → Tri κ ρ [] (allTrue .And es κ.env) H (truthR (evAnd κ.Γ ρ cs H)) rB
  | [], _, _, _, _, _, _ => Tri.stuck
  | [c], es, κ, ρ, H, S, h => by
    cases es with
    | nil => rw [isEs_nil] at h; cases h
    | cons e es' =>
      rw [isEs_cons, Bool.and_eq_true] at h
      cases es' with
      | cons => cases h.2
      | nil =>
        show Tri _ _ _ (isTrue e κ.env (eval e κ.env) >>= fun t => match BoolOp.And, t with | .And, false => Pure.pure false | .Or, true => Pure.pure true | _, _ => allTrue .And [] κ.env) _ _ _
        refine Tri.rel_of (r := (truthR (evE κ.Γ ρ c H)).bind fun b H1 => .ok b H1) ?_ (by rw [evAnd_one, R.bind_ok_self])
        refine Tri.bind (testE_ok c e κ ρ H S h.1) fun b H1 b' _ hb => ?_
        have hb' : b' = b := hb
        subst hb'
        cases b' <;> exact Tri.pure rfl fun _ q => nomatch q
  | c :: c2 :: cs, es, κ, ρ, H, S, h => by
    cases es with
    | nil => rw [isEs_nil] at h; cases h
    | cons e es' =>
      rw [isEs_cons, Bool.and_eq_true] at h
      show Tri _ _ _ (isTrue e κ.env (eval e κ.env) >>= fun t => match BoolOp.And, t with | .And, false => Pure.pure false | .Or, true => Pure.pure true | _, _ => allTrue .And es' κ.env) _ _ _
      rw [evAnd_cons]; simp only [truthR_bind]
      refine Tri.bind (testE_ok c e κ ρ H S h.1) fun b H1 b' _ hb => ?_
      have hb' : b' = b := hb
      subst hb'
      cases b' with
      | false => exact Tri.pure (b := false) rfl fun _ q => nomatch q
      | true => exact (testAnd_ok (c2 :: cs) es' κ ρ H1 S h.2).any
theorem testOr_ok : ∀ (cs : List E) (es : List Expr) (κ : Ct) (ρ : Rho) (H : Hp), SoundFn κ.X κ.n κ.Γ → isEs κ.X.kn κ.env.scope cs es = true → Tri κ ρ [] (allTrue .Or es κ.env) H (truthR (evOr κ.Γ ρ cs H)) rB
  | [], _, _, _, _, _, _ => Tri.stuck
  | [c], es, κ, ρ, H, S, h => by
    cases es with
    | nil => rw [isEs_nil] at h; cases h
    | cons e es' =>
      rw [isEs_cons, Bool.and_eq_true] at h
      cases es' with
      | cons => cases h.2
      | nil =>
        show Tri _ _ _ (isTrue e κ.env (eval e κ.env) >>= fun t => match BoolOp.Or, t with | .And, false => Pure.pure false | .Or, true => Pure.pure true | _, _ => allTrue .Or [] κ.env) _ _ _
        refine Tri.rel_of (r := (truthR (evE κ.Γ ρ c H)).bind fun b H1 => .ok b H1) ?_ (by rw [evOr_one, R.bind_ok_self])
        refine Tri.bind (testE_ok c e κ ρ H S h.1) fun b H1 b' _ hb => ?_
        have hb' : b' = b := hb
        subst hb'
        cases b' <;> exact Tri.pure rfl fun _ q => nomatch q
  | c :: c2 :: cs, es, κ, ρ, H, S, h => by
    cases es with
    | nil => rw [isEs_nil] at h; cases h
    | cons e es' =>
      rw [isEs_cons, Bool.and_eq_true] at h
      show Tri _ _ _ (isTrue e κ.env (eval e κ.env) >>= fun t => match BoolOp.Or, t with | .And, false => Pure.pure false | .Or, true => Pure.pure true | _, _ => allTrue .Or es' κ.env) _ _ _
      rw [evOr_cons]; simp only [truthR_bind]
      refine Tri.bind (testE_ok c e κ ρ H S h.1) fun b H1 b' _ hb => ?_
      have hb' : b' = b := hb
      subst hb'
      cases b' with
      | true => exact Tri.pure (b := true) rfl fun _ q => nomatch q
      | false => exact (testOr_ok (c2 :: cs) es' κ ρ H1 S h.2).any
end
end
end Mine

/-! R11 -/
namespace Mine
open PySem PyProof.Rows PySem.W

theorem lookup_setL (x : String) (v : V) : ∀ (ρ : Rho) (y : String), (setL x v ρ).lookup y = if y = x then some v else ρ.lookup y
  | [], y => by
    simp only [setL, List.lookup_cons, List.lookup_nil]
    by_cases h : y = x
    · subst h; simp
    · have : (y == x) = false := by simpa using h
      simp [this, h]
  | (z, w) :: r, y => by
    simp only [setL]
    split
    · rename_i hz
      subst hz
      simp only [List.lookup_cons]
      by_cases h : y = z
      · subst h; simp
      · have : (y == z) = false := by simpa using h
        simp [this, h]
    · rename_i hz
      simp only [List.lookup_cons, lookup_setL x v r y]
      by_cases h : y = z
      · subst h; simp [hz]
      · have : (y == z) = false := by simpa using h
        simp [this]

inductive NextS (κ : Ct) (η : List Addr) (s : Shared) (r : RS) (s' : Shared) : Prop
  | mk (ρ' : Rho) (H' : Hp) (e : r = .next ρ' H') (p : Post κ.X (frs κ.st) (ownOf κ.env) η s H' (Ends κ.X κ.env ρ') s') : NextS κ η s r s'
inductive RetS (κ : Ct) (η : List Addr) (s : Shared) (r : RS) (mv : Value) (s' : Shared) : Prop
  | mk (v : V) (H' : Hp) (e : r = .ret v H') (p : Post κ.X (frs κ.st) (ownOf κ.env) η s H' (fun η' h' => FrameOK κ.X η' h' κ.env ∧ VR κ.X η' h' v mv) s') : RetS κ η s r mv s'
inductive ExcS (κ : Ct) (η : List Addr) (s : Shared) (r : RS) (ev : Value) (s' : Shared) : Prop
  | mk (c : String) (ρ' : Rho) (H' : Hp) (e : r = .raise c ρ' H') (p : Post κ.X (frs κ.st) (ownOf κ.env) η s H' (fun η' h' => Ends κ.X κ.env ρ' η' h' ∧ ExcAt κ.X κ.st s.heap ev c η' h') s') : ExcS κ η s r ev s'
noncomputable def OutS (κ : Ct) (η : List Addr) (s : Shared) (r : RS) (f : Flow) (s' : Shared) : Prop :=
  match f with
  | .next => NextS κ η s r s'
  | .cont => False
  | .brk => False
  | .ret mv => RetS κ η s r mv s'

noncomputable def TriS (κ : Ct) (vs : List (V × Value)) (m : Sem Flow) (ρ : Rho) (H : Hp) (r : RS) : Prop :=
  r ≠ .stuck → ∀ η s, At κ η ρ H s → (∀ p ∈ vs, VR κ.X η s.heap p.1 p.2) → wpAny κ.X.M κ.A m (OutS κ η s r) (ExcS κ η s r) s

section
variable {κ : Ct} {η η' : List Addr} {ρ ρ' : Rho} {H H' : Hp} {s : Shared} {h' : Heap} {vs : List (V × Value)}

theorem At.stepS (a : At κ η ρ H s) (x : Step (frs κ.st) (ownOf κ.env) η s.heap η' h') (i : Inv κ.X η' H' h') (e : Ends κ.X κ.env ρ' η' h') (tk : Nat) : At κ η' ρ' H' { s with heap := h', toks := tk } :=
  ⟨i, e.1, e.2, a.stk.step x, a.room, a.hand⟩
theorem At.ends (a : At κ η ρ H s) (x : Step (frs κ.st) [] η s.heap η' h') (i : Inv κ.X η' H' h') : Ends κ.X κ.env ρ η' h' := let b := a.step x i s.toks; ⟨b.fok, b.rho⟩
theorem Step.up {fr own η η' : List Addr} {h h' : Heap} (x : Step fr [] η h η' h') : Step fr own η h η' h' := x.weak fun _ q => nomatch q

theorem OutS.after {η1 : List Addr} {h1 : Heap} {tk : Nat} {r : RS} {s' : Shared} {f : Flow} (x : Step (frs κ.st) (ownOf κ.env) η s.heap η1 h1) (o : OutS κ η1 { s with heap := h1, toks := tk } r f s') : OutS κ η s r f s' := by
  cases f with
  | next => obtain ⟨ρ', H', e, P⟩ := o; exact ⟨ρ', H', e, P.trans x fun _ _ q => q⟩
  | ret mv => obtain ⟨v, H', e, P⟩ := o; exact ⟨v, H', e, P.trans x fun _ _ q => q⟩
  | _ => exact o

theorem ExcS.after {η1 : List Addr} {h1 : Heap} {tk : Nat} {r : RS} {s' : Shared} {ev : Value} (x : Step (frs κ.st) (ownOf κ.env) η s.heap η1 h1) (o : ExcS κ η1 { s with heap := h1, toks := tk } r ev s') : ExcS κ η s r ev s' := by
  obtain ⟨c, ρ', H', e, P⟩ := o
  exact ⟨c, ρ', H', e, P.trans x fun _ _ q => ⟨q.1, q.2.older x.alive⟩⟩
theorem At.frm (a : At κ η ρ H s) : Frm s.heap (ownOf κ.env ++ frs κ.st) := a.fok.frm.of a.stk.frm
theorem RaiseAt.stmt {α : Type} {r : R α} {f : α → Hp → RS} {ev : Value} {s' : Shared} (a : At κ η ρ H s) (x : RaiseAt κ.X κ.st η s r ev s') : ExcS κ η s (ofR ρ r f) ev s' := by
  obtain ⟨c, H', rfl, η', h', tk, rfl, i, st, q⟩ := x
  exact ⟨c, ρ, H', rfl, η', h', tk, rfl, i, st.up, a.ends st i, q⟩
theorem TriS.via {α β : Type} {m : Sem α} {m' : Sem Flow} {W : α → (Flow → Shared → Prop) → (Value → Shared → Prop) → Shared → Prop} {r : R β} {rel : β → α → Prop × List (V × Value)} {f : β → Hp → RS}
    (hw : ∀ Q E s, wpAny κ.X.M κ.A m (fun a s1 => W a Q E s1) E s → κ.env.scope.kind = .function → wpAny κ.X.M κ.A m' Q E s) (h1 : Tri κ ρ vs m H r rel)
    (h2 : ∀ b H1 a, r = .ok b H1 → (rel b a).1 → f b H1 ≠ .stuck → ∀ η s Q E, At κ η ρ H1 s → (∀ p ∈ vs ++ (rel b a).2, VR κ.X η s.heap p.1 p.2) → (∀ d s', OutS κ η s (f b H1) d s' → Q d s') → (∀ ev s', ExcS κ η s (f b H1) ev s' → E ev s') → W a Q E s) : TriS κ vs m' ρ H (ofR ρ r f) := by
  intro hs η s a hv
  have hr : r ≠ .stuck := by rintro rfl; exact hs rfl
  refine hw _ _ _ (wpAny_mono (h1 hr η s a hv) (fun x s1 hx => ?_) fun ev s1 hx => hx.stmt a) a.fok.kind
  obtain ⟨b, H1, rfl, hrel, η1, h', tk, rfl, i, stp, hp⟩ := hx
  refine h2 b H1 x rfl hrel hs η1 _ _ _ (a.step stp i tk) (fun p hm => ?_) (fun d s' o => o.after stp.up) fun ev s' o => o.after stp.up
  rcases List.mem_append.mp hm with hm | hm
  · exact (hv p hm).up stp a.stk.frm
  · exact hp p hm
theorem TriS.expr {α β : Type} {m : Sem α} {k : α → Sem Flow} {r : R β} {rel : β → α → Prop × List (V × Value)} {f : β → Hp → RS} (h1 : Tri κ ρ vs m H r rel)
    (h2 : ∀ b H1 a, r = .ok b H1 → (rel b a).1 → TriS κ (vs ++ (rel b a).2) (k a) ρ H1 (f b H1)) : TriS κ vs (m >>= k) ρ H (ofR ρ r f) :=
  TriS.via (W := fun a Q E s => wpAny κ.X.M κ.A (k a) Q E s) (fun _ _ _ q _ => wpAny_bind q) h1 fun b H1 a e q hs η s Q E at' hv hq he => wpAny_mono (h2 b H1 a e q hs η s at' hv) hq he

theorem TriS.stuck {m : Sem Flow} : TriS κ vs m ρ H .stuck := fun h => absurd rfl h
theorem TriS.skip {α : Type} {m : Sem α} {k : α → Sem Flow} {r : RS} {a₀ : α} (hm : ∀ (Q : α → Shared → Prop) (E : Value → Shared → Prop) (s : Shared), Q a₀ s → wpAny κ.X.M κ.A m Q E s)
    (h : TriS κ vs (k a₀) ρ H r) : TriS κ vs (m >>= k) ρ H r := fun hs η s a hv => wpAny_bind (hm _ _ _ (h hs η s a hv))
theorem TriS.stand {pos : Pos} {k : Unit → Sem Flow} {r : RS} (h : TriS κ vs (k ()) ρ H r) : TriS κ vs (standAt pos >>= k) ρ H r := TriS.skip (a₀ := ()) (fun _ _ _ q => wpAny_standAt q) h
theorem nextS (a : At κ η ρ H s) : OutS κ η s (.next ρ H) .next s := ⟨ρ, H, rfl, η, s.heap, s.toks, rfl, a.inv, Step.refl _ _ _ _, a.fok, a.rho⟩
theorem TriS.next : TriS κ vs (Pure.pure .next) ρ H (.next ρ H) := fun _ η s a _ => wpAny_pure (nextS a)
theorem TriS.ret {v : V} {m : Value} (hm : (v, m) ∈ vs) : TriS κ vs (Pure.pure (.ret m)) ρ H (.ret v H) := fun _ η s a hv => wpAny_pure ⟨v, H, rfl, η, s.heap, s.toks, rfl, a.inv, Step.refl _ _ _ _, a.fok, hv _ hm⟩
theorem TriS.any {m : Sem Flow} {r : RS} (h : TriS κ [] m ρ H r) : TriS κ vs m ρ H r := fun hs η s a _ => h hs η s a fun _ q => nomatch q

noncomputable def isSt (sc : Scope) (x : Str) : Bool := match sc.names.lookup x with
  | some .local | some .cell => true
  | _ => false

theorem wpAny_store {x : String} {v : V} {mv : Value} {Q : Unit → Shared → Prop} {E : Value → Shared → Prop} (a : At κ η ρ H s) (hx : isSt κ.env.scope (Str.ofString x) = true) (hv : VR κ.X η s.heap v mv)
    (hq : ∀ h' tk, Step (frs κ.st) (ownOf κ.env) η s.heap η h' → Inv κ.X η H h' → Ends κ.X κ.env (setL x v ρ) η h' → Q () { s with heap := h', toks := tk }) : wpAny κ.X.M κ.A (storeName κ.env (Str.ofString x) mv) Q E s := by
  have kind : κ.env.kindOf (Str.ofString x) = some .local ∨ κ.env.kindOf (Str.ofString x) = some .cell := by
    unfold isSt at hx
    unfold Env.kindOf
    split at hx
    · exact .inl ‹_›
    · exact .inr ‹_›
    · cases hx
  have stp : ∀ {c : Addr} {h' : Heap}, c ∈ ownOf κ.env → Heap.SameBut c s.heap h' → (∀ o, s.heap.get? c = some o → ∀ es n, o.data = .dict es n → ∃ o' es' n', h'.get? c = some o' ∧ o'.data = .dict es' n') →
      (∀ o, s.heap.get? c = some o → ∀ v, o.data = .cell v → ∃ o' v', h'.get? c = some o' ∧ o'.data = .cell v') → Step (frs κ.st) (ownOf κ.env) η s.heap η h' := by
    intro c h' hc hsb hd1 hc1
    have alive : ∀ b o, s.heap.get? b = some o → ∃ o', h'.get? b = some o' := by
      intro b o e
      by_cases hb : b = c
      · subst hb
        obtain ⟨o2, e2, q⟩ := a.fok.frm b hc
        rw [e] at e2; cases e2
        rcases q with ⟨es, k, d⟩ | ⟨w, d⟩
        · obtain ⟨o', _, _, e', _⟩ := hd1 o e es k d; exact ⟨o', e'⟩
        · obtain ⟨o', _, e', _⟩ := hc1 o e w d; exact ⟨o', e'⟩
      · exact ⟨o, (hsb.2 b hb).trans e⟩
    refine ⟨⟨[], by simp, fun _ q => nomatch q⟩, alive, fun b o e _ ho => ⟨o.slots, (hsb.2 b (fun q => ho (q ▸ hc))).trans e, fun _ => rfl⟩, fun b o e _ es k d => ?_, fun b o e _ w d => ?_⟩
    · by_cases hb : b = c
      · subst hb; exact hd1 o e es k d
      · exact ⟨o, es, k, (hsb.2 b hb).trans e, d⟩
    · by_cases hb : b = c
      · subst hb; exact hc1 o e w d
      · exact ⟨o, w, (hsb.2 b hb).trans e, d⟩
  have inv : ∀ {c : Addr} {h' : Heap}, c ∈ ownOf κ.env → Heap.SameBut c s.heap h' → Step (frs κ.st) (ownOf κ.env) η s.heap η h' → Inv κ.X η H h' := fun hc hsb x =>
    a.inv.still x a.frm (fun b hb o e => (hsb.2 b (fun q => (a.fok.off _ hc).1 (q ▸ hb))).trans e) fun b hb => (List.mem_append.mp hb).elim (fun q => (a.fok.off b q).2) (a.stk.fresh b)
  rcases kind with hk | hk
  · obtain ⟨m, hn⟩ := a.fok.ns
    refine wpAny_storeName_local hk hn (fun h' hn' hsb => ?_) (by rw [a.fok.kind]; rfl)
    have hc : κ.env.locals ∈ ownOf κ.env := List.Mem.head _
    have x1 := stp hc hsb (fun o e es k d => by
        obtain ⟨o', es', k', e', d', _⟩ := hn'
        exact ⟨o', es', k', e', d'⟩) (fun o e w d => by
        obtain ⟨o', es', k', e', d', _⟩ := hn
        rw [e] at e'; cases e'; rw [d] at d'; cases d')
    have cel : ∀ p ∈ κ.env.cells, p.2 ≠ κ.env.locals := fun p hp q => by
      obtain ⟨o, w, e, d⟩ := a.fok.cell p hp
      obtain ⟨o', es', k', e', d', _⟩ := hn
      rw [q, e'] at e; cases e; rw [d'] at d; cases d
    refine hq h' _ x1 (inv hc hsb x1) ⟨⟨a.fok.kind, a.fok.glob, a.fok.blt, ⟨_, hn'⟩, fun p hp => ?_, a.fok.cells, a.fok.inj, a.fok.off⟩, fun y u e hy => ?_⟩
    · obtain ⟨o, w, e, d⟩ := a.fok.cell p hp
      exact ⟨o, w, (hsb.2 _ (cel p hp)).trans e, d⟩
    · rw [lookup_setL] at e
      by_cases hyx : y = x
      · subst hyx
        rw [if_pos rfl] at e; cases e
        exact ⟨mv, .inl ⟨hk, _, hn', by simp⟩, hv.step x1 a.frm⟩
      · rw [if_neg hyx] at e
        obtain ⟨mu, hh, ru⟩ := a.rho y u e hy
        refine ⟨mu, ?_, ru.step x1 a.frm⟩
        rcases hh with ⟨hk2, m2, hn2, hm2⟩ | ⟨hk2, c, o, hc2, g, d⟩
        · refine .inl ⟨hk2, _, hn', ?_⟩
          have : Str.ofString y ≠ Str.ofString x := fun q => hyx (ofString_inj q)
          rw [if_neg this]
          obtain ⟨o1, es1, k1, e1, d1, _, f1⟩ := hn
          obtain ⟨o2, es2, k2, e2, d2, _, f2⟩ := hn2
          rw [e1] at e2; cases e2; rw [d1] at d2; cases d2
          rw [← f1, f2]; exact hm2
        · exact .inr ⟨hk2, c, o, hc2, (hsb.2 _ (cel (_, c) (lookup_mem hc2))).trans g, d⟩
  · obtain ⟨c, hc⟩ := a.fok.cells _ hk
    obtain ⟨o0, w0, e0, d0⟩ := a.fok.cell _ (lookup_mem hc)
    have hco : c ∈ ownOf κ.env := List.mem_cons.mpr (.inr (List.mem_map.mpr ⟨(Str.ofString x, c), lookup_mem hc, rfl⟩))
    refine wpAny_storeName_cell a.fok.kind hk hc ⟨o0, e0, d0⟩ fun h' hcl hsb => ?_
    have x1 := stp hco hsb (fun o e es k d => by rw [e] at e0; cases e0; rw [d] at d0; cases d0) (fun o e w d => by
      obtain ⟨o', e', d'⟩ := hcl
      exact ⟨o', _, e', d'⟩)
    have loc : κ.env.locals ≠ c := fun q => by
      obtain ⟨m, o', es', k', e', d', _⟩ := a.fok.ns
      rw [q, e0] at e'; cases e'; rw [d0] at d'; cases d'
    refine hq h' s.toks x1 (inv hco hsb x1) ⟨⟨a.fok.kind, a.fok.glob, a.fok.blt, ?_, fun p hp => ?_, a.fok.cells, a.fok.inj, a.fok.off⟩, fun y u e hy => ?_⟩
    · obtain ⟨m, hn⟩ := a.fok.ns
      exact ⟨m, hn.sameBut hsb loc⟩
    · by_cases hp2 : p.2 = c
      · obtain ⟨o', e', d'⟩ := hcl
        exact ⟨o', _, hp2 ▸ e', d'⟩
      · obtain ⟨o, w, e, d⟩ := a.fok.cell p hp
        exact ⟨o, w, (hsb.2 _ hp2).trans e, d⟩
    · rw [lookup_setL] at e
      by_cases hyx : y = x
      · subst hyx
        rw [if_pos rfl] at e; cases e
        obtain ⟨o', e', d'⟩ := hcl
        exact ⟨mv, .inr ⟨.inl hk, c, o', hc, e', d'⟩, hv.step x1 a.frm⟩
      · rw [if_neg hyx] at e
        obtain ⟨mu, hh, ru⟩ := a.rho y u e hy
        refine ⟨mu, ?_, ru.step x1 a.frm⟩
        rcases hh with ⟨hk2, m2, hn2, hm2⟩ | ⟨hk2, c2, o, hc2, g, d⟩
        · exact .inl ⟨hk2, m2, hn2.sameBut hsb loc, hm2⟩
        · have : c2 ≠ c := fun q => hyx (ofString_inj (a.fok.inj _ _ c (q ▸ hc2) hc))
          exact .inr ⟨hk2, c2, o, hc2, (hsb.2 _ this).trans g, d⟩

theorem TriS.store {x : String} {v : V} {mv : Value} {k : Unit → Sem Flow} {r : RS} (hm : (v, mv) ∈ vs) (hx : isSt κ.env.scope (Str.ofString x) = true)
    (h : TriS κ vs (k ()) (setL x v ρ) H r) : TriS κ vs (bindName κ.env (Str.ofString x) mv >>= k) ρ H r := by
  intro hs η s a hv
  refine wpAny_bind (wpAny_bindName (wpAny_store a hx (hv _ hm) fun h' tk x1 i e => ?_))
  exact wpAny_mono (h hs η _ (a.stepS x1 i e tk) fun p hp => (hv p hp).step x1 a.frm) (fun y s2 hy => hy.after x1) fun _ _ hy => hy.after x1

theorem TriS.seq {st1 : Stmt} {rest : List Stmt} {r1 : RS} {k : Rho → Hp → RS} (h1 : TriS κ vs (exec st1 κ.env) ρ H r1)
    (h2 : ∀ ρ1 H1, r1 = .next ρ1 H1 → TriS κ [] (execs rest κ.env) ρ1 H1 (k ρ1 H1)) : TriS κ vs (execs (st1 :: rest) κ.env) ρ H (r1.bind k) := by
  intro hs η s a hv
  have hs1 : r1 ≠ .stuck := by rintro rfl; exact hs rfl
  refine wpAny_execs_cons (wpAny_mono (h1 hs1 η s a hv) (fun f s1 hf => ?_) fun ev s1 hx => by obtain ⟨c, ρ', H', rfl, P⟩ := hx; exact ⟨c, ρ', H', rfl, P⟩)
  cases f with
  | next =>
    obtain ⟨ρ1, H1, rfl, η1, h', tk, rfl, i, x1, en⟩ := hf
    exact wpAny_mono (h2 ρ1 H1 rfl hs η1 _ (a.stepS x1 i en tk) fun _ q => nomatch q) (fun y s2 hy => hy.after x1) fun _ _ hy => hy.after x1
  | ret mv => obtain ⟨v, H1, rfl, P⟩ := hf; exact ⟨v, H1, rfl, P⟩
  | _ => exact hf
end
end Mine

/-! R13 -/
namespace Mine
open PySem PyProof.Rows PySem.W

structure Soft (fr es : List Addr) (h h' : Heap) : Prop where
  same : ∀ b o, h.get? b = some o → b ∉ es → b ∉ fr → h'.get? b = some o
  slots : ∀ b o, h.get? b = some o → b ∉ es → b ∈ fr → ∃ sl, h'.get? b = some { o with slots := sl }
  exc : ∀ b ∈ es, ∃ o fs, h.get? b = some o ∧ o.data = .fields fs ∧ o.cls ≠ .type "range" ∧ ∃ fs', h'.get? b = some { o with data := .fields fs' }

theorem Soft.refl (fr : List Addr) (h : Heap) : Soft fr [] h h := ⟨fun _ _ e _ _ => e, fun _ o e _ _ => ⟨o.slots, e⟩, fun _ q => nomatch q⟩

theorem Soft.more {fr es es' : List Addr} {h h' : Heap} (x : Soft fr es h h') (he : ∀ b ∈ es, b ∈ es') (hf : ∀ b ∈ es', b ∉ fr ∧ ∃ o fs, h.get? b = some o ∧ o.data = .fields fs ∧ o.cls ≠ .type "range") : Soft fr es' h h' := by
  refine ⟨fun b o e hb hf' => x.same b o e (fun q => hb (he b q)) hf', fun b o e hb hf' => x.slots b o e (fun q => hb (he b q)) hf', fun b hb => ?_⟩
  by_cases q : b ∈ es
  · exact x.exc b q
  · obtain ⟨hn, o, fs, e, d, c⟩ := hf b hb
    exact ⟨o, fs, e, d, c, fs, by rw [x.same b o e q hn]; cases o; simp only at d; subst d; rfl⟩

theorem Soft.trans {fr es : List Addr} {h h1 h2 : Heap} (x : Soft fr es h h1) (y : Soft fr es h1 h2) : Soft fr es h h2 := by
  refine ⟨fun b o e hb hf => y.same b o (x.same b o e hb hf) hb hf, fun b o e hb hf => ?_, fun b hb => ?_⟩
  · obtain ⟨sl, e1⟩ := x.slots b o e hb hf
    obtain ⟨sl2, e2⟩ := y.slots b _ e1 hb hf
    exact ⟨sl2, e2⟩
  · obtain ⟨o, fs, e, d, c, fs', e1⟩ := x.exc b hb
    obtain ⟨o1, fs1, e2, d2, c2, fs2, e3⟩ := y.exc b hb
    rw [e1] at e2; cases e2
    exact ⟨o, fs, e, d, c, fs2, e3⟩

theorem Soft.of_slots {fr : List Addr} {h h' : Heap} (x : Heap.SlotsOnly fr h h') : Soft fr [] h h' :=
  ⟨fun b o e _ hf => (x.2.1 b hf).trans e, fun b o e _ _ => x.2.2 b o e, fun _ q => nomatch q⟩
theorem Soft.push (fr : List Addr) (h : Heap) (o : Obj) : Soft fr [] h (h.push o) := ⟨fun b o' e _ _ => push_keeps h o b o' e, fun b o' e _ _ => ⟨o'.slots, push_keeps h o b o' e⟩, fun _ q => nomatch q⟩
theorem Soft.field {fr : List Addr} {h : Heap} {a : Addr} {o : Obj} {fs : Array Value} (e : h.get? a = some o) (d : o.data = .fields fs) (c : o.cls ≠ .type "range") (f : Array Value → Array Value) : Soft fr [a] h (h.update a (Obj.mapFields f)) := by
  have ne : ∀ b, b ∉ [a] → (h.update a (Obj.mapFields f)).get? b = h.get? b := fun b hb => Heap.get?_update_other _ _ (fun q => hb (by rw [q]; exact List.Mem.head _))
  refine ⟨fun b o' e' hb _ => (ne b hb).trans e', fun b o' e' hb _ => ⟨o'.slots, (ne b hb).trans e'⟩, fun b hb => ?_⟩
  rw [List.mem_singleton] at hb; subst hb
  refine ⟨o, fs, e, d, c, f fs, ?_⟩
  rw [Heap.get?_update_self _ e (Obj.isFreed_of_fields (Obj.data_mapFields d f))]
  obtain ⟨oc, od, dt, sl⟩ := o
  simp only at d; subst d; rfl

section
variable {X : Cx} {fr es η : List Addr} {h h' : Heap} {H : Hp}

theorem Soft.alive (x : Soft fr es h h') : ∀ b o, h.get? b = some o → ∃ o', h'.get? b = some o' := fun b o e => by
  by_cases h1 : b ∈ es
  · obtain ⟨_, _, _, _, _, _, q⟩ := x.exc b h1; exact ⟨_, q⟩
  · by_cases h2 : b ∈ fr
    · obtain ⟨_, q⟩ := x.slots b o e h1 h2; exact ⟨_, q⟩
    · exact ⟨o, x.same b o e h1 h2⟩

theorem Soft.not_es (x : Soft fr es h h') {b : Addr} {o : Obj} (e : h.get? b = some o) (hd : ∀ fs, o.data ≠ .fields fs) : b ∉ es := fun q => by
  obtain ⟨o', fs, e', d, _⟩ := x.exc b q
  rw [e] at e'; cases e'; exact hd fs d

theorem Soft.holds (x : Soft fr es h h') (f : Frm h fr) : Holds η h η h' := by
  refine ⟨fun a o e hn hs => ⟨x.same a o e (fun q => ?_) (f.not e ?_), hn⟩, fun a o C fs e hn c d => ⟨hn, ?_⟩⟩
  · obtain ⟨o', fs, e', d, c, _⟩ := x.exc a q
    rw [e] at e'; cases e'
    rcases hs with ⟨xs, n, d'⟩ | ⟨c', _⟩
    · rw [d] at d'; cases d'
    · exact c c'
  · rcases hs with ⟨xs, n, d⟩ | ⟨_, fs, d⟩ <;> rw [d] <;> exact ⟨fun _ _ q => (nomatch q), fun _ q => (nomatch q)⟩
  · by_cases h1 : a ∈ es
    · obtain ⟨o', fs', e', d', _, fs2, g⟩ := x.exc a h1
      rw [e] at e'; cases e'
      exact ⟨fs2, g⟩
    · refine ⟨fs, (x.same a o e h1 (f.not e (by rw [d]; exact ⟨fun _ _ q => (nomatch q), fun _ q => (nomatch q)⟩))).trans ?_⟩
      cases o; simp only at d; subst d; rfl
theorem Soft.vr (x : Soft fr es h h') (f : Frm h fr) {v : V} {m : Value} (r : VR X η h v m) : VR X η h' v m := r.map ⟨[], (List.append_nil _).symm⟩ (x.holds f)

theorem Soft.inv (x : Soft fr es h h') (f : Frm h fr) (i : Inv X η H h) (hb : ∀ b ∈ es, X.base.get? b = Option.none) (hfb : ∀ b ∈ fr, X.base.get? b = Option.none) (hη : ∀ b ∈ fr, b ∉ η) : Inv X η H h' := by
  refine ⟨fun b o e => x.same b o (i.keep b o e) (fun q => by rw [hb b q] at e; cases e) (fun q => by rw [hfb b q] at e; cases e), i.len, i.fresh, i.nodup, fun n a o ha ho => ?_⟩
  obtain ⟨ob, e, r⟩ := i.objs n a o ha ho
  refine ⟨ob, x.same a ob e (x.not_es e fun fs q => ?_) (fun q => hη a q (List.mem_of_getElem? ha)), r.map ⟨[], (List.append_nil _).symm⟩ (x.holds f)⟩
  cases r <;> cases q

theorem Soft.step {own η0 : List Addr} {h0 : Heap} (x : Soft fr es h h') (f : Frm h fr) (s : Step fr own η0 h0 η h) (hes : ∀ b ∈ es, h0.get? b = Option.none) : Step fr own η0 h0 η h' := by
  have ne : ∀ b o, h0.get? b = some o → b ∉ es := fun b o e q => by rw [hes b q] at e; cases e
  have kd : ∀ b o, h.get? b = some o → b ∉ es → ∃ sl, h'.get? b = some { o with slots := sl } := fun b o e hb => by
    by_cases h2 : b ∈ fr
    · exact x.slots b o e hb h2
    · exact ⟨o.slots, x.same b o e hb h2⟩
  refine ⟨s.pre, fun b o e => let ⟨o1, e1⟩ := s.alive b o e; x.alive b o1 e1, fun b o e hb ho => ?_, fun b o e hb es' k d => ?_, fun b o e hb v d => ?_⟩
  · obtain ⟨sl, e1, q⟩ := s.data b o e hb ho
    by_cases hf : b ∈ fr
    · obtain ⟨sl2, e2⟩ := x.slots b _ e1 (ne b o e) hf
      exact ⟨sl2, e2, fun z => absurd hf z⟩
    · exact ⟨sl, x.same b _ e1 (ne b o e) hf, q⟩
  · obtain ⟨o1, es1, k1, e1, d1⟩ := s.dicts b o e hb es' k d
    obtain ⟨sl, e2⟩ := kd b o1 e1 (ne b o e)
    exact ⟨_, es1, k1, e2, d1⟩
  · obtain ⟨o1, v1, e1, d1⟩ := s.cells b o e hb v d
    obtain ⟨sl, e2⟩ := kd b o1 e1 (ne b o e)
    exact ⟨_, v1, e2, d1⟩

theorem Soft.frm {l : List Addr} (x : Soft fr es h h') (f : Frm h l) : Frm h' l := by
  intro b hb
  obtain ⟨o, e, q⟩ := f b hb
  have hn : b ∉ es := x.not_es e fun fs z => by rcases q with ⟨_, _, q⟩ | ⟨_, q⟩ <;> (rw [z] at q; cases q)
  by_cases h2 : b ∈ fr
  · obtain ⟨sl, e2⟩ := x.slots b o e hn h2
    exact ⟨_, e2, q⟩
  · exact ⟨o, x.same b o e hn h2, q⟩

theorem Soft.data (x : Soft fr es h h') {b : Addr} {o : Obj} (e : h.get? b = some o) (hn : ∀ fs, o.data ≠ .fields fs) : ∃ sl, h'.get? b = some { o with slots := sl } := by
  have hb := x.not_es e hn
  by_cases h2 : b ∈ fr
  · exact x.slots b o e hb h2
  · exact ⟨o.slots, x.same b o e hb h2⟩

theorem Soft.ends {env : Env} {ρ : Rho} (x : Soft fr es h h') (f : Frm h fr) (e : Ends X env ρ η h) : Ends X env ρ η h' := by
  have ns : ∀ {m : Str → Option Value}, h.Ns env.locals m → h'.Ns env.locals m := fun {m} ⟨o, es, ep, e, d, r⟩ => by
    obtain ⟨sl, e'⟩ := x.data e (fun fs q => by rw [d] at q; cases q)
    exact ⟨_, es, ep, e', d, r⟩
  have cl : ∀ {c : Addr} {o : Obj} {v : Option Value}, h.get? c = some o → o.data = .cell v → ∃ o', h'.get? c = some o' ∧ o'.data = .cell v := fun {c o v} e d => by
    obtain ⟨sl, e'⟩ := x.data e (fun fs q => by rw [d] at q; cases q)
    exact ⟨_, e', d⟩
  obtain ⟨fo, ro⟩ := e
  refine ⟨⟨fo.kind, fo.glob, fo.blt, let ⟨m, hn⟩ := fo.ns; ⟨m, ns hn⟩, fun p hp => let ⟨o, v, e, d⟩ := fo.cell p hp; let ⟨o', e', d'⟩ := cl e d; ⟨o', v, e', d'⟩, fo.cells, fo.inj, fo.off⟩, fun y v ey hy => ?_⟩
  obtain ⟨mv, hh, r⟩ := ro y v ey hy
  refine ⟨mv, ?_, x.vr f r⟩
  rcases hh with ⟨hk, m, hn, hm⟩ | ⟨hk, c, o, hc, g, d⟩
  · exact .inl ⟨hk, m, ns hn, hm⟩
  · obtain ⟨o', e', d'⟩ := cl g d
    exact .inr ⟨hk, c, o', hc, e', d'⟩

theorem Soft.stk {A : Around} {st : List Env} (x : Soft (frs st) es h h') (k : Stk X η A st h) : Stk X η A st h' :=
  ⟨k.frames, k.ok.of_keeps fun b o e hn => let ⟨sl, e'⟩ := x.data e hn; ⟨_, e', rfl⟩, k.off, x.frm k.frm⟩
end

theorem dict_mapFields (f : Array Value → Array Value) (o : Obj) : (Obj.mapFields f o).dict = o.dict := by
  unfold Obj.mapFields; split <;> rfl

inductive TracedX (X : Cx) (h0 : Heap) (e : Addr) (c : String) (T : Addr) (fl : Value) (η : List Addr) (h : Heap) : Prop
  | mk (oe : Obj) (vs : Array Value) (C : Addr) (oT : Obj) (ts : Array Value) (q1 : h.get? e = some oe) (q2 : ExCls X c C) (q3 : ObjCls oe C) (q4 : oe.data = .fields vs) (q5 : e ∉ η) (q6 : h0.get? e = Option.none) (q7 : 4 < vs.size)
    (q8 : vs[1]? = some (.ref T)) (q9 : T ≠ e) (q10 : h.get? T = some oT) (q11 : oT.cls = .type "traceback") (q12 : oT.data = .fields ts) (q13 : T ∉ η) (q14 : h0.get? T = Option.none) (q15 : ts[3]? = some fl) : TracedX X h0 e c T fl η h

theorem TracedX.exc {X : Cx} {st : List Env} {h0 h : Heap} {e T : Addr} {c : String} {fl : Value} {η : List Addr} (x : TracedX X h0 e c T fl η h) (hf : fl = .none ∨ ∃ L, (frs st).head? = some L ∧ fl = rawInt L) : ExcAt X st h0 (.ref e) c η h := by
  obtain ⟨oe, vs, C, oT, ts, q1, q2, q3, q4, q5, q6, q7, q8, q9, q10, q11, q12, q13, q14, q15⟩ := x
  exact ⟨e, oe, vs, C, rfl, q1, q2, q3, q4, q5, q6, q7, .inr ⟨T, oT, ts, fl, q8, q9, q10, q11, q12, q13, q14, q15, hf⟩⟩

section
variable {X : Cx} {A : Around} {env : Env} {outer : List Env} {η : List Addr} {s : Shared} {h0 : Heap} {ev : Value} {c : String} {L : Addr}

theorem wpAny_note {E : Value → Shared → Prop} {Q : Unit → Shared → Prop} (hf : env.frame = some L) (k : Stk X η A (env :: outer) s.heap) (hη : ∀ a ∈ η, ∃ o, s.heap.get? a = some o) (x : ExcAt X (env :: outer) h0 ev c η s.heap)
    (h0k : ∀ b o, h0.get? b = some o → ∃ o', s.heap.get? b = some o')
    (hq : ∀ h' e T es, ev = .ref e → Soft (frs (env :: outer)) es s.heap h' → (∀ b ∈ es, h0.get? b = Option.none) → TracedX X h0 e c T (rawInt L) η h' → Q () { s with heap := h' }) : wpAny X.M A (noteFrame ev env) Q E s := by
  obtain ⟨e, oe, vs, C, rfl, ge, hC, ce, de, ne, fe, sz, hx⟩ := x
  have hL : (frs (env :: outer)).head? = some L := by unfold frs; rw [List.filterMap_cons, hf]; rfl
  have efr : e ∉ frs (env :: outer) := k.frm.not ge ⟨fun es n q => (by rw [de] at q; cases q), fun v q => (by rw [de] at q; cases q)⟩
  have cer : oe.cls ≠ .type "range" := by rw [ce.1]; intro q; cases q
  -- a new entry
  have entry : ∀ (s1 : Shared) (head : Value) (hadNext : Bool) (es : List Addr) (oe1 : Obj) (vs1 : Array Value), s1 = { s with heap := s1.heap } → Soft (frs (env :: outer)) es s.heap s1.heap → (∀ b ∈ es, h0.get? b = Option.none ∧ b ∉ frs (env :: outer)) → s1.heap.get? e = some oe1 → oe1.cls = oe.cls ∧ oe1.dict = oe.dict → oe1.data = .fields vs1 → vs1.size = vs.size →
      wpAny X.M A (do let a ← frameOf env; let pl ← entryPlaceOf L hadNext; let b ← EntryCells.newEntry head a .none (rawInt L) .none pl; setField (.ref e) 1 b) Q E s1 := by
    intro s1 head hadNext es oe1 vs1 hs1 sf hes ge1 ce1 de1 sz1
    have k1 := sf.stk k
    refine wpAny_bind (wpAny_frameOf_fun k1.frames k1.ok hf fun h₁ hs₁ => ?_)
    refine wpAny_bind (wpAny_entryPlaceOf fun pl hpl => ?_)
    unfold EntryCells.newEntry newFields
    refine wpAny_bind (wpAny_newObj_type ?_ (hpl.sizeOk5 _ _ _ _ _))
    have he₁ : h₁.get? e = some oe1 := (hs₁.2.1 e efr).trans ge1
    generalize hob : ({ cls := .type "traceback", dict := none, data := .fields ([head, .ref L, .none, rawInt L, .none] ++ (if pl.isEmpty then List.replicate 6 Value.none else pl)).toArray } : Obj) = ob
    have he₂ := Heap.get?_push_of_some (h := h₁) ob he₁
    refine wpAny_setField he₂ de1 (by omega) ?_
    have hTe : h₁.objs.size ≠ e := Nat.ne_of_gt (Heap.lt_size he₁)
    have free : ob.isFreed = false := by subst hob; rfl
    have sf2 : Soft (frs (env :: outer)) [e] s1.heap ((h₁.push ob).update e (Obj.mapFields (·.setIfInBounds 1 (.ref h₁.objs.size)))) := by
      have a1 := (Soft.of_slots hs₁).more (es' := [e]) (fun _ q => nomatch q) (fun b hb => by rw [List.mem_singleton] at hb; subst hb; exact ⟨efr, oe1, vs1, ge1, de1, by rw [ce1.1]; exact cer⟩)
      have a2 := (Soft.push (frs (env :: outer)) h₁ ob).more (es' := [e]) (fun _ q => nomatch q) (fun b hb => by rw [List.mem_singleton] at hb; subst hb; exact ⟨efr, oe1, vs1, he₁, de1, by rw [ce1.1]; exact cer⟩)
      exact (a1.trans a2).trans (Soft.field he₂ de1 (by rw [ce1.1]; exact cer) _)
    have alive1 : ∀ b o, s.heap.get? b = some o → ∃ o', h₁.get? b = some o' := fun b o q => by
      obtain ⟨o1, q1⟩ := sf.alive b o q
      obtain ⟨sl, q2⟩ := hs₁.2.2 b o1 q1
      exact ⟨_, q2⟩
    have Tnew : ∀ b o, s.heap.get? b = some o → h₁.objs.size ≠ b := fun b o q => by
      obtain ⟨o', q'⟩ := alive1 b o q
      exact Nat.ne_of_gt (Heap.lt_size q')
    have comb : Soft (frs (env :: outer)) (e :: es) s.heap ((h₁.push ob).update e (Obj.mapFields (·.setIfInBounds 1 (.ref h₁.objs.size)))) := by
      have q0 : ∀ b ∈ e :: es, b ∉ frs (env :: outer) ∧ ∃ o fs, s.heap.get? b = some o ∧ o.data = .fields fs ∧ o.cls ≠ .type "range" := fun b hb => by
        rcases List.mem_cons.mp hb with rfl | hb
        · exact ⟨efr, oe, vs, ge, de, cer⟩
        · obtain ⟨o, fs, g, d, cc, _⟩ := sf.exc b hb
          exact ⟨(hes b hb).2, o, fs, g, d, cc⟩
      have q1 : ∀ b ∈ e :: es, b ∉ frs (env :: outer) ∧ ∃ o fs, s1.heap.get? b = some o ∧ o.data = .fields fs ∧ o.cls ≠ .type "range" := fun b hb => by
        rcases List.mem_cons.mp hb with rfl | hb
        · exact ⟨efr, oe1, vs1, ge1, de1, by rw [ce1.1]; exact cer⟩
        · obtain ⟨o, fs, g, d, cc, fs', g'⟩ := sf.exc b hb
          exact ⟨(hes b hb).2, _, fs', g', rfl, cc⟩
      exact (sf.more (fun b hb => List.mem_cons.mpr (.inr hb)) q0).trans (sf2.more (fun b hb => by rw [List.mem_singleton] at hb; subst hb; exact List.Mem.head _) q1)
    rw [hs1]
    refine hq _ e h₁.objs.size (e :: es) rfl comb (fun b hb => ?_) ?_
    · rcases List.mem_cons.mp hb with rfl | hb
      · exact fe
      · exact (hes b hb).1
    · refine ⟨_, _, C, ob, _, Heap.get?_update_self _ he₂ (Obj.isFreed_of_fields (Obj.data_mapFields de1 _)), hC, ⟨(Obj.cls_mapFields _ _).trans (ce1.1.trans ce.1), (dict_mapFields _ _).trans (ce1.2.trans ce.2)⟩, Obj.data_mapFields de1 _, ne, fe, ?_, ?_, hTe, ?_, by subst hob; rfl, by subst hob; rfl, ?_, ?_, rfl⟩
      · rw [Array.size_setIfInBounds, sz1]; exact sz
      · rw [Array.getElem?_setIfInBounds_self_of_lt (by omega)]
      · exact (Heap.get?_update_other _ _ (Ne.symm hTe)).trans (Heap.get?_push_size _ free)
      · intro q
        obtain ⟨o, g⟩ := hη _ q
        exact Tnew _ o g rfl
      · cases g : h0.get? h₁.objs.size with
        | none => rfl
        | some o => obtain ⟨o', g'⟩ := h0k _ o g; exact absurd rfl (Tnew _ o' g')
  unfold noteFrame
  simp only [hf]
  rcases hx with h1 | ⟨T, oT, ts, fl, h1, hTe, gT, cT, dT, nT, fT, h3, hfl⟩
  · refine wpAny_bind (wpAny_field ge de h1 ?_)
    rw [if_neg (by decide)]
    exact entry s .none false [] oe vs rfl ((Soft.refl _ _)) (fun _ q => nomatch q) ge ⟨rfl, rfl⟩ de rfl
  · refine wpAny_bind (wpAny_field ge de h1 ?_)
    rw [if_pos (show (Value.ref T != Value.none) = true from by simp)]
    refine wpAny_bind (wpAny_field gT dT h3 ?_)
    rcases hfl with rfl | ⟨L', hL', rfl⟩
    · rw [if_neg (show ¬ ((Value.none == rawInt L) = true) from by simp [rawInt])]
      have tfr : T ∉ frs (env :: outer) := k.frm.not gT ⟨fun es n q => (by rw [dT] at q; cases q), fun v q => (by rw [dT] at q; cases q)⟩
      have cTr : oT.cls ≠ .type "range" := by rw [cT]; decide
      refine wpAny_bind (wpAny_setField gT dT (Array.getElem?_eq_some_iff.mp h3).1 ?_)
      refine entry { s with heap := s.heap.update T (Obj.mapFields (·.setIfInBounds 3 .none)) } (.ref T) true [T] oe vs rfl (Soft.field gT dT cTr _) (fun b hb => ?_) ((Heap.get?_update_other _ _ hTe).trans ge) ⟨rfl, rfl⟩ de rfl
      rw [List.mem_singleton] at hb; subst hb
      exact ⟨fT, tfr⟩
    · rw [hL] at hL'; cases hL'
      rw [if_pos (show (rawInt L == rawInt L) = true from by first | (simp; done) | exact beq_self_eq_true _)]
      refine wpAny_pure ?_
      have := hq s.heap e T [] rfl (Soft.refl _ _) (fun _ q => nomatch q) ⟨oe, vs, C, oT, ts, ge, hC, ce, de, ne, fe, sz, h1, hTe, gT, cT, dT, nT, fT, h3⟩
      exact this
end
section
variable {X : Cx}
theorem wpAny_land {A : Around} {env : Env} {outer : List Env} {η : List Addr} {s : Shared} {h0 : Heap} {ev : Value} {c : String} {L : Addr} {H : Hp} {E : Value → Shared → Prop} {Q : Unit → Shared → Prop} (hf : env.frame = some L)
    (k : Stk X η A (env :: outer) s.heap) (i : Inv X η H s.heap) (x : ExcAt X (env :: outer) h0 ev c η s.heap) (h0k : ∀ b o, h0.get? b = some o → ∃ o', s.heap.get? b = some o') (hb0 : ∀ b o, X.base.get? b = some o → ∃ o', h0.get? b = some o')
    (hq : ∀ h' es e T, ev = .ref e → Soft (frs (env :: outer)) es s.heap h' → (∀ b ∈ es, h0.get? b = Option.none) → Inv X η H h' → TracedX X h0 e c T .none η h' → Q () { s with heap := h' }) : wpAny X.M A (noteFrame ev env) (fun _ s₂ => wpAny X.M A (setFlight ev Option.none) Q E s₂) E s := by
  refine (wpAny_note hf k (fun a ha => i.alive ha) x h0k fun h' e T es hev sf hes tr => ?_)
  subst hev
  obtain ⟨oe, vs, C, oT, ts, q1, q2, q3, q4, q5, q6, q7, q8, q9, q10, q11, q12, q13, q14, q15⟩ := tr
  have hb : ∀ b, h0.get? b = Option.none → X.base.get? b = Option.none := fun b q => by
    cases g : X.base.get? b with
    | none => rfl
    | some o => obtain ⟨o', g'⟩ := hb0 b o g; rw [q] at g'; cases g'
  have k1 := sf.stk k
  have i1 := sf.inv k.frm i (fun b q => hb b (hes b q)) k.fresh k.off
  have szT := (Array.getElem?_eq_some_iff.mp q15).1
  refine wpAny_setFlight_none (s := { s with heap := h' }) q1 q4 q8 q10 q12 szT ?_
  have sf2 : Soft (frs (env :: outer)) [T] h' (h'.update T (Obj.mapFields (·.setIfInBounds 3 .none))) := Soft.field q10 q12 (by rw [q11]; decide) _
  have i2 := sf2.inv k1.frm i1 (fun b q => by rw [List.mem_singleton] at q; subst q; exact hb _ q14) (Stk.fresh (s := { s with heap := h' }) k1) k1.off
  have tfr : T ∉ frs (env :: outer) := k1.frm.not q10 ⟨fun es n q => (by rw [q12] at q; cases q), fun v q => (by rw [q12] at q; cases q)⟩
  -- T may be new since s: the two together
  refine hq _ (es.filter (fun b => b != T) ++ (if (s.heap.get? T).isSome then [T] else [])) e T rfl ?_ (fun b hb' => ?_) i2 ?_
  · have other : ∀ b, b ≠ T → (h'.update T (Obj.mapFields (·.setIfInBounds 3 .none))).get? b = h'.get? b := fun b hbT => Heap.get?_update_other _ _ (Ne.symm hbT)
    have memT : ∀ o, s.heap.get? T = some o → T ∈ (es.filter (fun b => b != T) ++ (if (s.heap.get? T).isSome then [T] else [])) := fun o g => by rw [g]; exact m0
    have mem : ∀ b, b ≠ T → (b ∈ (es.filter (fun b => b != T) ++ (if (s.heap.get? T).isSome then [T] else [])) ↔ b ∈ es) := fun b hbT => by
      rw [List.mem_append, List.mem_filter]
      constructor
      · rintro (⟨h1, _⟩ | h1)
        · exact h1
        · split at h1
          · rw [List.mem_singleton] at h1; exact absurd h1 hbT
          · cases h1
      · exact fun h1 => .inl ⟨h1, by simpa using hbT⟩
    refine ⟨fun b o g hb1 hb2 => ?_, fun b o g hb1 hb2 => ?_, fun b hb1 => ?_⟩
    · have hbT : b ≠ T := fun q => hb1 (q ▸ memT o (q ▸ g))
      rw [other b hbT]
      exact sf.same b o g (fun q => hb1 ((mem b hbT).mpr q)) hb2
    · have hbT : b ≠ T := fun q => hb1 (q ▸ memT o (q ▸ g))
      rw [other b hbT]
      exact sf.slots b o g (fun q => hb1 ((mem b hbT).mpr q)) hb2
    · by_cases hbT : b = T
      · subst hbT
        have sT : (s.heap.get? b).isSome = true := by
          rw [List.mem_append, List.mem_filter] at hb1
          rcases hb1 with ⟨_, h1⟩ | h1
          · simp at h1
          · split at h1
            · assumption
            · cases h1
        obtain ⟨o, g⟩ := Option.isSome_iff_exists.mp sT
        by_cases hbe : b ∈ es
        · obtain ⟨o1, fs, g1, d1, c1, fs', g2⟩ := sf.exc b hbe
          refine ⟨o1, fs, g1, d1, c1, fs'.setIfInBounds 3 .none, ?_⟩
          rw [Heap.get?_update_self _ g2 rfl]; rfl
        · have g2 := sf.same b o g hbe tfr
          rw [q10] at g2; cases g2
          refine ⟨oT, ts, g, q12, by rw [q11]; decide, ts.setIfInBounds 3 .none, ?_⟩
          rw [Heap.get?_update_self _ q10 (Obj.isFreed_of_fields (Obj.data_mapFields q12 _))]
          obtain ⟨oc, od, dt, sl⟩ := oT
          simp only at q12; subst q12; rfl
      · rw [other b hbT]
        exact sf.exc b ((mem b hbT).mp hb1)
  · rw [List.mem_append, List.mem_filter] at hb'
    rcases hb' with ⟨h1, _⟩ | h1
    · exact hes b h1
    · split at h1
      · rw [List.mem_singleton] at h1; subst h1; exact q14
      · cases h1
  · refine ⟨oe, vs, C, oT.mapFields (·.setIfInBounds 3 .none), ts.setIfInBounds 3 .none, (Heap.get?_update_other _ _ q9).trans q1, q2, q3, q4, q5, q6, q7, q8, q9, Heap.get?_update_self _ q10 (Obj.isFreed_of_fields (Obj.data_mapFields q12 _)),
      (Obj.cls_mapFields _ _).trans q11, Obj.data_mapFields q12 _, q13, q14, ?_⟩
    rw [Array.getElem?_setIfInBounds_self_of_lt szT]


theorem wpAny_land2 {A : Around} {η : List Addr} {s : Shared} {h0 : Heap} {e T : Addr} {c : String} {E : Value → Shared → Prop} {Q : Unit → Shared → Prop} (tr : TracedX X h0 e c T .none η s.heap)
    (hq : ∀ h', (∀ b, h'.get? b = s.heap.get? b) → Q () { s with heap := h' }) : wpAny X.M A (setFlight (.ref e) Option.none) Q E s := by
  obtain ⟨oe, vs, C, oT, ts, q1, q2, q3, q4, q5, q6, q7, q8, q9, q10, q11, q12, q13, q14, q15⟩ := tr
  have szT := (Array.getElem?_eq_some_iff.mp q15).1
  refine wpAny_setFlight_none q1 q4 q8 q10 q12 szT (hq _ fun b => ?_)
  by_cases hb : b = T
  · subst hb
    rw [Heap.get?_update_self _ q10 (Obj.isFreed_of_fields (Obj.data_mapFields q12 _)), q10]
    obtain ⟨oc, od, dt, sl⟩ := oT
    simp only at q12; subst q12
    have : ts.setIfInBounds 3 .none = ts := by
      apply Array.ext
      · simp
      · intro i h1 h2
        rw [Array.getElem_setIfInBounds]
        split
        · rename_i h; subst h; exact (Array.getElem?_eq_some_iff.mp q15).2.symm
        · rfl
    simp only [Obj.mapFields, this]
  · exact Heap.get?_update_other _ _ (Ne.symm hb)

theorem wpAny_passOn {α : Type} {A : Around} {env : Env} {outer : List Env} {η : List Addr} {s : Shared} {h0 : Heap} {e T L : Addr} {c : String} {H : Hp} {what : String} {E : Value → Shared → Prop} {Q : α → Shared → Prop} (hf : env.frame = some L) (tr : TracedX X h0 e c T .none η s.heap)
    (hq : ∀ h', Soft (frs (env :: outer)) [T] s.heap h' → h0.get? T = Option.none → ExcAt X (env :: outer) h0 (.ref e) c η h' → E (.ref e) { s with heap := h' }) : wpAny X.M A (PySem.passOn what (.ref e) env) Q E s := by
  obtain ⟨oe, vs, C, oT, ts, q1, q2, q3, q4, q5, q6, q7, q8, q9, q10, q11, q12, q13, q14, q15⟩ := tr
  have szT := (Array.getElem?_eq_some_iff.mp q15).1
  have hL : (frs (env :: outer)).head? = some L := by unfold frs; rw [List.filterMap_cons, hf]; rfl
  unfold PySem.passOn
  refine wpAny_bind (wpAny_field q1 q4 q8 ?_)
  rw [if_neg (show ¬ ((Value.ref T == Value.none) = true) from by simp)]
  unfold setFlight
  refine wpAny_bind (wpAny_bind (wpAny_field q1 q4 q8 ?_))
  rw [if_pos (show (Value.ref T != Value.none) = true from by simp), hf]
  refine wpAny_setField q10 q12 szT (wpAny_throw ?_)
  refine hq _ (Soft.field q10 q12 (by rw [q11]; decide) _) q14 ?_
  refine TracedX.exc (T := T) (fl := rawInt L) ⟨oe, vs, C, oT.mapFields (·.setIfInBounds 3 (rawInt L)), ts.setIfInBounds 3 (rawInt L), (Heap.get?_update_other _ _ q9).trans q1, q2, q3, q4, q5, q6, q7, q8, q9, Heap.get?_update_self _ q10 (Obj.isFreed_of_fields (Obj.data_mapFields q12 _)),
      (Obj.cls_mapFields _ _).trans q11, Obj.data_mapFields q12 _, q13, q14, ?_⟩ (.inr ⟨L, hL, rfl⟩)
  rw [Array.getElem?_setIfInBounds_self_of_lt szT]
end
theorem Soft.alike {fr es : List Addr} {h h1 h2 : Heap} (x : Soft fr es h h1) (e : ∀ b, h2.get? b = h1.get? b) : Soft fr es h h2 :=
  ⟨fun b o g hb hf => (e b).trans (x.same b o g hb hf), fun b o g hb hf => let ⟨sl, q⟩ := x.slots b o g hb hf; ⟨sl, (e b).trans q⟩,
    fun b hb => let ⟨o, fs, g, d, c, fs', q⟩ := x.exc b hb; ⟨o, fs, g, d, c, fs', (e b).trans q⟩⟩

section
variable {X : Cx} {A : Around} {env : Env} {outer : List Env} {L : Addr}

theorem noted_back {η : List Addr} {s : Shared} {h0 : Heap} {ev : Value} {c : String} {H : Hp} {E : Value → Shared → Prop} (hf : env.frame = some L) (k : Stk X η A (env :: outer) s.heap) (i : Inv X η H s.heap) (x : ExcAt X (env :: outer) h0 ev c η s.heap)
    (h0k : ∀ b o, h0.get? b = some o → ∃ o', s.heap.get? b = some o') (hb0 : ∀ b o, X.base.get? b = some o → ∃ o', h0.get? b = some o')
    (hq : ∀ h' es, Soft (frs (env :: outer)) es s.heap h' → (∀ b ∈ es, h0.get? b = Option.none) → Inv X η H h' → ExcAt X (env :: outer) h0 ev c η h' → E ev { s with heap := h' }) : notedBy X.M A env (cameBackBy X.M A env E) ev s := by
  unfold notedBy
  refine wpAny_note hf k (fun a ha => i.alive ha) x h0k fun h' e T es hev sf hes tr => ?_
  subst hev
  have tr0 := tr
  obtain ⟨oe, vs, C, oT, ts, q1, q2, q3, q4, q5, q6, q7, q8, q9, q10, q11, q12, q13, q14, q15⟩ := tr
  have szT := (Array.getElem?_eq_some_iff.mp q15).1
  have hL : (frs (env :: outer)).head? = some L := by unfold frs; rw [List.filterMap_cons, hf]; rfl
  have hb : ∀ b, h0.get? b = Option.none → X.base.get? b = Option.none := fun b q => by
    cases g : X.base.get? b with
    | none => rfl
    | some o => obtain ⟨o', g'⟩ := hb0 b o g; rw [q] at g'; cases g'
  unfold cameBackBy
  refine wpAny_bind (wpAny_field q1 q4 q8 ?_)
  rw [if_neg (show ¬ ((Value.ref T == Value.none) = true) from by simp)]
  unfold setFlight
  refine wpAny_bind (wpAny_field q1 q4 q8 ?_)
  rw [if_pos (show (Value.ref T != Value.none) = true from by simp), hf]
  have same : ∀ b, (h'.update T (Obj.mapFields (·.setIfInBounds 3 (rawInt L)))).get? b = h'.get? b := fun b => by
    by_cases hb : b = T
    · subst hb
      rw [Heap.get?_update_self _ q10 (Obj.isFreed_of_fields (Obj.data_mapFields q12 _)), q10]
      obtain ⟨oc, od, dt, sl⟩ := oT
      simp only at q12; subst q12
      have : ts.setIfInBounds 3 (rawInt L) = ts := by
        apply Array.ext
        · simp
        · intro i h1 h2
          rw [Array.getElem_setIfInBounds]
          split
          · rename_i h; subst h; exact (Array.getElem?_eq_some_iff.mp q15).2.symm
          · rfl
      simp only [Obj.mapFields, this]
    · exact Heap.get?_update_other _ _ (Ne.symm hb)
  refine wpAny_setField q10 q12 szT (hq _ es (sf.alike same) hes ?_ ?_)
  · exact (sf.alike same).inv k.frm i (fun b q => hb b (hes b q)) k.fresh k.off
  · refine TracedX.exc (T := T) (fl := rawInt L) ⟨oe, vs, C, oT, ts, (same e).trans q1, q2, q3, q4, q5, q6, q7, q8, q9, (same T).trans q10, q11, q12, q13, q14, q15⟩ (.inr ⟨L, hL, rfl⟩)

end
end Mine

/-! R21 -/
namespace Mine
open PySem PyProof.Rows PySem.W

noncomputable def noComp : Expr → Bool
  | .ListComp .. => false
  | .SetComp .. => false
  | .DictComp .. => false
  | _ => true
theorem swaps_no {e : Expr} {t : Option Expr} {l : Nat} {env : Env} (h : noComp e = true) : swapsWith e t l env = pure false := by
  cases e <;> first | rfl | cases h

noncomputable def sName (sc : Scope) (x : String) (e : Expr) : Bool := match e with
  | .Name id _ => id == Str.ofString x && isSt sc id
  | _ => false
noncomputable def sNames (sc : Scope) : List String → List Expr → Bool
  | [], es => es.isEmpty
  | x :: xs, es => match es with
    | e :: es => sName sc x e && sNames sc xs es
    | [] => false
theorem sName_inv {sc : Scope} {x : String} {e : Expr} (h : sName sc x e = true) : ∃ pos, e = .Name (Str.ofString x) pos ∧ isSt sc (Str.ofString x) = true := by
  unfold sName at h
  split at h
  · rw [Bool.and_eq_true, beq_iff_eq] at h
    obtain ⟨rfl, h⟩ := h
    exact ⟨_, rfl, h⟩
  · cases h

section
variable {κ : Ct} {env : Env} {η : List Addr} {ρ ρ' : Rho} {H : Hp} {s : Shared}
theorem stores_ok {Q : Unit → Shared → Prop} {E : Value → Shared → Prop} : ∀ (xs : List String) (es : List Expr) (ws : List V) (ms : List Value) (ρ : Rho) (s : Shared), sNames κ.env.scope xs es = true → setAll xs ws ρ = some ρ' → VRs κ.X η s.heap ws ms → At κ η ρ H s →
    (∀ h' tk, Step (frs κ.st) (ownOf κ.env) η s.heap η h' → Inv κ.X η H h' → Ends κ.X κ.env ρ' η h' → Q () { s with heap := h', toks := tk }) → wpAny κ.X.M κ.A (assignInOrder ((assignEach es κ.env).map (·.2)) ms) Q E s
  | [], es, ws, ms, ρ, s, h1, h2, h3, a, hq => by
    cases es with
    | cons => cases h1
    | nil =>
      cases ws with
      | cons => cases h2
      | nil => cases h2; exact wpAny_pure (hq s.heap s.toks (Step.refl _ _ _ _) a.inv ⟨a.fok, a.rho⟩)
  | x :: xs, es, ws, ms, ρ, s, h1, h2, h3, a, hq => by
    cases es with
    | nil => cases h1
    | cons e es =>
      simp only [sNames, Bool.and_eq_true] at h1
      obtain ⟨pos, rfl, hx⟩ := sName_inv h1.1
      cases h3 with
      | nil => cases h2
      | cons r rs =>
        rename_i v vs m ms
        show wpAny κ.X.M κ.A (PySem.holding ms (assign (.Name (Str.ofString x) pos) κ.env m) >>= fun _ => assignInOrder ((assignEach es κ.env).map (·.2)) ms) Q E s
        refine wpAny_bind (wpAny_holding (wpAny_assign_Name (wpAny_store a hx r fun h' tk x1 i en => ?_)))
        refine stores_ok xs es vs ms (setL x v ρ) _ h1.2 h2 (rs.step x1 a.frm) (a.stepS x1 i en tk) fun h2 tk2 x2 i2 en2 => hq h2 tk2 (x1.trans x2) i2 en2

theorem each_length : ∀ {xs : List String} {es : List Expr}, sNames env.scope xs es = true → (assignEach es env).length = xs.length ∧ (assignEach es env).findIdx? (·.1) = Option.none
  | [], es, h => by cases es with | nil => exact ⟨rfl, rfl⟩ | cons => cases h
  | x :: xs, es, h => by
    cases es with
    | nil => cases h
    | cons e es =>
      simp only [sNames, Bool.and_eq_true] at h
      obtain ⟨pos, rfl, hx⟩ := sName_inv h.1
      obtain ⟨h1, h2⟩ := each_length h.2
      refine ⟨congrArg Nat.succ h1, ?_⟩
      show ((false, assign (.Name (Str.ofString x) pos) env) :: assignEach es env).findIdx? (·.1) = _
      rw [List.findIdx?_cons, h2]; rfl

theorem setAll_length : ∀ {xs : List String} {ws : List V} {ρ ρ' : Rho}, setAll xs ws ρ = some ρ' → xs.length = ws.length
  | [], [], _, _, _ => rfl
  | [], _ :: _, _, _, h => by cases h
  | _ :: _, [], _, _, h => by cases h
  | _ :: xs, _ :: ws, _, _, h => congrArg Nat.succ (setAll_length (xs := xs) (ws := ws) h)

theorem unpack_ok (hh : κ.A.handled = Option.none) {xs : List String} {es : List Expr} {v : V} {ws : List V} {mv : Value} {k : Nat} {pos : Pos} {Q : Unit → Shared → Prop} {E : Value → Shared → Prop} (hx : sNames κ.env.scope xs es = true) (hp : partsV v H = some ws) (hset : setAll xs ws ρ = some ρ') (rv : VR κ.X η s.heap v mv) (a : At κ η ρ H s)
    (hq : ∀ h' tk, Step (frs κ.st) (ownOf κ.env) η s.heap η h' → Inv κ.X η H h' → Ends κ.X κ.env ρ' η h' → Q () { s with heap := h', toks := tk }) : wpAny κ.X.M κ.A (assign (.Tuple es k pos) κ.env mv) Q E s := by
  obtain ⟨l1, l2⟩ := each_length (env := κ.env) hx
  have hlen : xs.length = ws.length := setAll_length hset
  have go : ∀ {items : Array Value} {h' : Heap}, VRs κ.X η s.heap ws items.toList → Heap.ExtBut s.heap.objs.size s.heap h' → wpAny κ.X.M κ.A (assignInOrder ((assignEach es κ.env).map (·.2)) items.toList) Q E { s with heap := h' } := fun {items h'} r eb => by
    have k0 : ∀ b o, s.heap.get? b = some o → h'.get? b = some o := fun b o e => eb b o (Nat.ne_of_lt (Heap.lt_size e)) e
    have a1 := a.step (Step.ext _ _ _ k0) (a.inv.ext k0) s.toks
    exact stores_ok xs es ws items.toList ρ _ hx hset (r.grow (Step.ext _ _ _ k0)) a1 fun h2 tk2 x2 i2 en2 => hq h2 tk2 ((Step.ext _ _ _ k0).trans x2) i2 en2
  have key : listAt v H = some ws → wpAny κ.X.M κ.A (assign (.Tuple es k pos) κ.env mv) Q E s := fun e => by
    obtain ⟨x, items, c, rfl, g, r, _⟩ := vr_list a.inv rv e
    rw [arm_assign_Tuple]
    refine wpAny_bind (wpAny_standAt ?_)
    unfold unpack
    have hn : (assignEach es κ.env).length = items.size := by rw [l1, hlen, r.size]
    rw [hn, l2]
    exact wpAny_bind (wpAny_holding (kun_itemsOf hh ⟨_, g, rfl, c, rfl⟩ fun h' eb => go r eb))
  cases v with
  | tup vs =>
    cases hp
    cases rv with
    | tup g hn r l => exact wpAny_assign_Tuple hh ⟨_, g, rfl, _, rfl⟩ (by rw [l1, hlen, r.size]) l2 fun h' eb => go r eb
  | _ => exact key hp

structure Iter (κ : Ct) (target : Expr) (it : Addr) (its : List Addr) (xs : List V) (chk : Hp → Bool) (J : Nat → List Addr → Heap → Prop) : Prop where
  recs : ∀ {i η h}, J i η h → Recs its η h
  keep : ∀ {i η h η' h'}, J i η h → Step (frs κ.st) (ownOf κ.env) η h η' h' → Frm h (ownOf κ.env ++ frs κ.st) → J i η' h'
  next : ∀ {i : Nat} {η : List Addr} {H : Hp} {s : Shared} {Q : Option Value → Shared → Prop}, J i η s.heap → Inv κ.X η H s.heap → κ.A.handled = Option.none → chk H = true →
    (∀ v mv h' tk, xs[i]? = some v → Turn its η H s.heap h' → VR κ.X η h' v mv → J (i + 1) η h' → Q (some mv) { s with heap := h', toks := tk }) → (∀ h', xs[i]? = Option.none → Turn its η H s.heap h' → Q Option.none { s with heap := h' }) →
    wpAny κ.X.M κ.A (pyNext (.ref it)) (fun o s1 => match o with | Option.none => Q Option.none s1 | some v => wpAny κ.X.M κ.A (letOwnedTupleGo target (.ref it) v) (fun _ s2 => Q (some v) s2) noE s1) noE s

theorem Iter.plain {it : Addr} {src : V} {xs : List V} {target : Expr} {chk : Hp → Bool} (hchk : ∀ H, chk H = true → ∀ n, src = .ref n → H[n]? = some (.list xs))
    (hlet : ∀ {i η s mv} {Q : Unit → Shared → Prop}, ItR κ.X η s.heap it src xs i → Q () s → wpAny κ.X.M κ.A (letOwnedTupleGo target (.ref it) mv) Q noE s) : Iter κ target it [it] xs chk (fun i η h => ItR κ.X η h it src xs i ∧ it ∉ η) where
  recs := fun r => r.1.recs
  keep := fun r x f => ⟨r.1.keep x f r.2, let ⟨_, _, _, g, _⟩ := r.1.obj; x.mem g r.2⟩
  next := fun {i η H s Q} r iv hh hc h1 h2 => next_ok r.1 iv r.2 hh (hchk H hc) (fun v mv h' tk hv t rv r' => hlet (s := { s with heap := h', toks := tk }) r' (h1 v mv h' tk hv t rv ⟨r', r.2⟩)) h2

theorem forL_chk {b : V → Rho → Hp → RS} {chk : Hp → Bool} {xs : List V} {ρ : Rho} {H : Hp} (h : forL b chk xs ρ H ≠ .stuck) : chk H = true := by
  cases xs <;> rw [forL] at h <;> exact Classical.byContradiction fun q => h (if_neg q)

inductive ForI (κ : Ct) (η0 : List Addr) (s0 : Shared) (xs : List V) (J : Nat → List Addr → Heap → Prop) (F : Nat → Rho → Hp → Prop) (m : Nat) (s : Shared) : Prop
  | mk (i : Nat) (ρ : Rho) (H : Hp) (η : List Addr) (e : m = xs.length - i) (a : At κ η ρ H s) (es : s = { s0 with heap := s.heap, toks := s.toks }) (x : Step (frs κ.st) (ownOf κ.env) η0 s0.heap η s.heap) (r : J i η s.heap) (hf : F i ρ H) : ForI κ η0 s0 xs J F m s
theorem ExcS.back {outer : List Env} {L : Addr} {r : RS} {ev : Value} {s' : Shared} {E : Value → Shared → Prop} (hst : κ.st = κ.env :: outer) (hfr : κ.env.frame = some L) (a : At κ η ρ H s) (x : ExcS κ η s r ev s') (he : ∀ ev s', ExcS κ η s r ev s' → E ev s') : notedBy κ.X.M κ.A κ.env (cameBackBy κ.X.M κ.A κ.env E) ev s' := by
  obtain ⟨c, ρ1, H1, e, η3, h3, tk3, rfl, i3, x3, en3, ex3⟩ := x
  have stk3 : Stk κ.X η3 κ.A κ.st h3 := a.stk.step x3
  rw [hst] at stk3 ex3
  refine noted_back (s := { s with heap := h3, toks := tk3 }) (h0 := s.heap) hfr stk3 i3 ex3 x3.alive (fun b o e => ⟨o, a.inv.keep b o e⟩) fun h4 es4 sf hes i4 ex4 => ?_
  rw [← hst] at sf ex4 stk3
  exact he _ _ ⟨c, ρ1, H1, e, η3, h4, tk3, rfl, i4, sf.step stk3.frm x3 hes, sf.ends stk3.frm en3, ex4⟩
theorem for_core (hh : κ.A.handled = Option.none) {it : Addr} {its : List Addr} {xs : List V} {target : Expr} {body' : List Stmt} {bodyF : V → Rho → Hp → RS} {chk : Hp → Bool} {J : Nat → List Addr → Heap → Prop} {η0 : List Addr} {s0 : Shared} {ρ00 : Rho} {H00 : Hp} {R : Result → Shared → Prop}
    (turnOK : ∀ v mv ρ H, bodyF v ρ H ≠ .stuck → ∀ η s, At κ η ρ H s → VR κ.X η s.heap v mv → wpAny κ.X.M κ.A (assign target κ.env mv) (fun _ s2 => wpAny κ.X.M κ.A (execs body' κ.env) (OutS κ η s (bodyF v ρ H)) (ExcS κ η s (bodyF v ρ H)) s2) noE s)
    (I : Iter κ target it its xs chk J) (a0 : At κ η0 ρ00 H00 s0) (h0n : ∀ b ∈ its, s0.heap.get? b = Option.none)
    {ρ0 : Rho} {H0 : Hp} {η1 : List Addr} {s1 : Shared} (a1 : At κ η1 ρ0 H0 s1) (e1 : s1 = { s0 with heap := s1.heap, toks := s1.toks }) (x1 : Step (frs κ.st) (ownOf κ.env) η0 s0.heap η1 s1.heap) (r1 : J 0 η1 s1.heap)
    (hne : forL bodyF chk xs ρ0 H0 ≠ .stuck) (hR : ∀ f s', OutS κ η0 s0 (forL bodyF chk xs ρ0 H0) f s' → R (.ok f) s') (hX : ∀ ev s', ExcS κ η0 s0 (forL bodyF chk xs ρ0 H0) ev s' → notedBy κ.X.M κ.A κ.env (fun e s' => R (.error e) s') ev s') :
    codeAny κ.X.M κ.A (.forLoop target (.ref it) body' [] κ.env) R s1 := by
  generalize hres : forL bodyF chk xs ρ0 H0 = res at hne hR hX
  have hb : ∀ b ∈ its, κ.X.base.get? b = Option.none := fun b q => a0.new (h0n b q)
  refine codeAny_forLoop_any (I := ForI κ η0 s0 xs J (fun i ρ H => forL bodyF chk (xs.drop i) ρ H = res)) (fun m s hI => ?_) xs.length ⟨0, ρ0, H0, η1, rfl, a1, e1, x1, r1, hres⟩
  obtain ⟨i, ρ, H, η, rfl, a, es, x, r, hf⟩ := hI
  have ck : chk H = true := forL_chk (by rw [hf]; exact hne)
  refine monoN (I.next (Q := fun o s2 => match o with
    | Option.none => OutS κ η0 s0 res .next s2
    | some mv => wpAny κ.X.M κ.A (assign target κ.env mv) (fun _ s3 => wpAny κ.X.M κ.A (execs body' κ.env) (fun f s4 => match f with
      | .next => ∃ m, m < xs.length - i ∧ ForI κ η0 s0 xs J (fun i ρ H => forL bodyF chk (xs.drop i) ρ H = res) m s4
      | f => OutS κ η0 s0 res f s4) (ExcS κ η0 s0 res) s3) noE s2) r a.inv hh ck (fun v mv h' tk hv t rv r' => ?_) fun h' hv t => ?_) fun o s2 h2 => ?_
  · rw [drop_at hv, forL, if_pos ck] at hf
    have a2 : At κ η ρ H { s with heap := h', toks := tk } := t.at a hb (I.recs r)
    have x2 : Step (frs κ.st) (ownOf κ.env) η0 s0.heap η h' := t.step x h0n
    have hbs : bodyF v ρ H ≠ .stuck := fun q => by rw [q] at hf; exact hne hf.symm
    refine monoN (turnOK v mv ρ H hbs η _ a2 rv) fun _ s2 hs2 => wpAny_mono hs2 (fun f s3 h3 => ?_) fun ev s3 h3 => by
      rw [es] at h3
      obtain ⟨c, ρ1, H1, e, P⟩ := h3
      rw [e] at hf
      exact ⟨c, ρ1, H1, hf.symm, P.trans (s := s0) x2 fun _ _ q => ⟨q.1, q.2.older x2.alive⟩⟩
    rw [es] at h3 a2
    cases f with
    | next =>
      obtain ⟨ρ1, H1, e, η3, h3', tk3, rfl, i3, x3, en3⟩ := h3
      rw [e] at hf
      exact ⟨xs.length - (i + 1), by have := (List.getElem?_eq_some_iff.mp hv).1; omega, i + 1, ρ1, H1, η3, rfl, a2.stepS x3 i3 en3 tk3, rfl, x2.trans x3, I.keep r' x3 a2.frm, hf⟩
    | ret mv =>
      obtain ⟨v', H1, e, P⟩ := h3
      rw [e] at hf
      exact ⟨v', H1, hf.symm, P.trans (s := s0) x2 fun _ _ q => q⟩
    | _ => exact h3
  · rw [drop_end hv, forL, if_pos ck] at hf
    have a2 : At κ η ρ H { s with heap := h', toks := s.toks } := t.at a hb (I.recs r)
    show OutS κ η0 s0 res .next { s with heap := h' }
    rw [es]
    exact ⟨ρ, H, hf.symm, η, h', s.toks, rfl, a2.inv, t.step x h0n, a2.fok, a2.rho⟩
  · cases o with
    | none => exact wpAny_pure (hR .next _ h2)
    | some v =>
      refine monoN h2 fun _ s3 h3 => monoN h3 fun _ s4 h4 => wpAny_mono h4 (fun f s5 h5 => ?_) hX
      cases f with
      | next => exact h5
      | ret mv => exact hR _ _ h5
      | _ => exact h5.elim
end
end Mine

/-! RH -/
namespace Mine
open PySem PyProof.Rows PySem.W

noncomputable def swapOk (sc : Scope) (t v : Expr) : Bool := match v, t with
  | .ListComp _ _ scope vp, .Name id tp => sc.kind == .function && sc.names.lookup id == some .local && tp.line == vp.line && !(scope.names.any fun (n, k) => n == id && (k == .local || k == .cell))
  | _, _ => false

theorem isE_lcomp {kn : String → Bool} {sc : Scope} {c : E} {elt : Expr} {gs : List Comprehension} {scope : Scope} {pos : Pos} (h : isE kn sc c (.ListComp elt gs scope pos) = true) :
    ∃ el x it px iter, c = .comp el x it ∧ gs = [⟨.Name (Str.ofString x) px, iter, [], 0⟩] ∧ isE kn sc it iter = true ∧ noSet iter = true ∧ compOk sc scope (Str.ofString x) = true ∧ isE kn (relabelS scope sc) el elt = true := by
  cases c with
  | comp el x it =>
    obtain ⟨elt', px, iter, scope', p, e, h1, h2, h3, h4⟩ := isE_comp h
    cases e
    exact ⟨el, x, it, px, iter, rfl, rfl, h1, h2, h3, h4⟩
  | _ => exact ff h

section
variable {κ : Ct} {ρ : Rho} {H : Hp}
theorem asg_comp {c : E} {x : String} {v : Expr} {pt pos : Pos} (S : SoundFn κ.X κ.n κ.Γ) (h2 : isE κ.X.kn κ.env.scope c v = true) (hx : isSt κ.env.scope (Str.ofString x) = true) (hw : swapOk κ.env.scope (.Name (Str.ofString x) pt) v = true) :
    TriS κ [] (exec (.Assign [.Name (Str.ofString x) pt] v pos) κ.env) ρ H (ofR ρ (evE κ.Γ ρ c H) fun v H1 => .next (setL x v ρ) H1) := by
  unfold swapOk at hw
  split at hw
  · rename_i elt gs scope vp id tp e
    cases e
    simp only [Bool.and_eq_true, beq_iff_eq, Bool.not_eq_true'] at hw
    obtain ⟨⟨⟨w1, w2⟩, w3⟩, w4⟩ := hw
    obtain ⟨el, y, it, px, iter, rfl, rfl, q1, q2, q3, q4⟩ := isE_lcomp h2
    have hsw : swapsWith (.ListComp elt [⟨.Name (Str.ofString y) px, iter, [], 0⟩] scope vp) (some (.Name (Str.ofString x) pt)) pos.line κ.env = pure true := by
      show (pure (κ.env.blockKind == .function && κ.env.kindOf (Str.ofString x) == some .local && pt.line == vp.line && !(scope.names.any fun (n, k) => n == Str.ofString x && (k == .local || k == .cell))) : Sem Bool) = _
      have b1 : κ.env.blockKind = .function := by unfold Env.blockKind; rw [w1]; rfl
      have b2 : κ.env.kindOf (Str.ofString x) = some .local := w2
      rw [b1, b2, w3, w4]
      simp
    rw [evE_comp, exec_Assign_Name_used _ _ _ _ hsw]
    refine TriS.stand ?_
    cases hh : κ.Γ.hd with
    | true => exact TriS.stuck
    | false =>
      rw [if_neg (by decide)]
      intro hs η s a _
      refine wpAny_bind ?_
      show wpAny _ κ.A (do let _ ← comprehension (.ListComp elt [⟨.Name (Str.ofString y) px, iter, [], 0⟩] scope vp) scope κ.env _ (newList []) false (eval iter κ.env) (some (assign (.Name (Str.ofString x) pt) κ.env))) _ _ s
      generalize hres : ((evE κ.Γ ρ it H).bind fun v H1 => compV (fun y' H2 => evE κ.Γ ((y, y') :: ρ) el H2) v H1) = res at hs ⊢
      refine wpAny_bind (wpAny_mono (comp_run hh (f := fun v H' => evE κ.Γ ((y, v) :: ρ) el H') (use := some (assign (.Name (Str.ofString x) pt) κ.env)) (Q := fun _ s' => OutS κ η s (ofR ρ res fun v H1 => .next (setL x v ρ) H1) .next s') (E := ExcS κ η s (ofR ρ res fun v H1 => .next (setL x v ρ) H1))
        q3 q2 (evE_ok it iter κ ρ H S q1) (fun cl v C' H' => evE_ok el elt (κ.inn (compEnvC scope cl C' κ.env)) ((y, v) :: ρ) H' S q4) a (fun q => hs (by rw [← hres, q]; rfl)) (fun ev s' q => ?_) fun v H1 xs H' s' D C e hi et ce => ?_) (fun _ s' q => wpAny_pure (wpAny_pure q)) fun _ _ q => q)
      · rw [← hres]
        exact q.bind.stmt a
      · obtain ⟨η', h', tk, rfl, iv, stp, dk, cn, c0, m, ns⟩ := ce
        have a1 : At κ η' ρ H' { s with heap := h', toks := tk } := a.step stp iv tk
        have own : C ∉ ownOf κ.env := fun q => by obtain ⟨o, g, _⟩ := a.fok.frm C q; rw [c0] at g; cases g
        have er : res = .ok (.ref H1.length) H' := by rw [← hres, e, R.bind_ok, compV, hi]; dsimp only; rw [et]; rfl
        show wpAny _ κ.A (assign (.Name (Str.ofString x) pt) κ.env (.ref D)) _ _ _
        refine wpAny_bind (wpAny_standAt (wpAny_bindName (wpAny_store a1 hx (.ref dk) fun h2 tk2 x2 i2 en2 => ?_)))
        obtain ⟨m2, ns2⟩ : ∃ m, h2.Ns C m := by
          obtain ⟨o, es', ep, g, d, q⟩ := ns
          obtain ⟨sl, g2, _⟩ := x2.data C o g cn own
          exact ⟨m, _, es', ep, g2, d, q⟩
        refine ⟨m2, ns2, fun h3 sb => ?_⟩
        have t : Turn [C] η' H' h2 h3 := Turn.one cn (Ns.mach ns2) fun b o hb e => (sb.2 b hb).trans e
        rw [er]
        exact ⟨setL x (.ref H1.length) ρ, H', rfl, η', h3, tk2, rfl, t.inv i2 (one_none (a.new c0)), t.step (stp.up.trans x2) (one_none c0), t.ends en2 fun b hb q => own (List.mem_singleton.mp q ▸ hb)⟩
  · cases hw
end
end Mine

/-! RZ -/
namespace Mine
open PySem PyProof.Rows PySem.W

section
variable {prog : Program} {w : World} {A : Around} {E : Value → Shared → Prop} {s : Shared}
theorem nextOf_tup {it t : Addr} {i : Nat} {items : Array Value} {x : Value} {Q : Value → Shared → Prop} (hit : s.heap.IsTupleIter it t i) (ht : s.heap.IsTuple t items) (hx : items[i]? = some x)
    (hQ : ∀ h', h'.IsTupleIter it t (i + 1) → Heap.SameBut it s.heap h' → Q x { s with heap := h' }) : wpAny (model prog w) A (Builtin.SmallTypes.nextOf (.ref it)) Q E s := by
  obtain ⟨o, ho, hc, hd⟩ := id hit
  obtain ⟨ol, hol, _, nl, hdl⟩ := ht
  unfold Builtin.SmallTypes.nextOf
  refine wpAny_bind (wpAny_callSpecial?_slot (name := Str.ofString "__next__") hit.typeIs F.slot_tuple_iterator_next (wpAny_call_entry F.slot_tuple_iterator_next hit.typeIs F.entry_tuple_iterator_next ?_ (F.args_tuple_iterator_next_1 _)))
  show wpAny _ _ (field (.ref it) 0 >>= _) _ _ s
  refine wpAny_bind (wpAny_field ho hd (x := .ref t) rfl ?_)
  show wpAny _ _ (if (Value.ref t == Value.none) = true then _ else _) _ _ s
  rw [if_neg (show ¬ ((Value.ref t == Value.none) = true) from Bool.false_ne_true)]
  show wpAny _ _ (field (.ref it) 1 >>= _) _ _ s
  refine wpAny_bind (wpAny_field ho hd (x := .int i 0) rfl ?_)
  show wpAny _ _ (seqItems? (.ref t) >>= _) _ _ s
  refine wpAny_bind (wpAny_seqItems hol hdl ?_)
  simp only [Int.toNat_natCast, hx]
  refine wpAny_bind (wpAny_setField ho hd (by simp) (wpAny_pure ⟨x, rfl, wpAny_pure (hQ _ ⟨_, Heap.get?_update_self _ ho (Obj.isFreed_of_fields (Obj.data_mapFields hd _)), (Obj.cls_mapFields ..).trans hc, ?_⟩ (Heap.SameBut.update ..))⟩))
  rw [Obj.data_mapFields hd]
  simp [rawInt]

structure ZipAt (h : Heap) (z TI TO i1 i2 l t : Addr) (i : Nat) (xs ys : Array Value) : Prop where
  pz : IsZip h z TI TO .none
  pTI : IsPair h TI (.ref i1) (.ref i2)
  pTO : ∃ a b, IsPair h TO a b
  p1 : h.IsListIter i1 l i
  p2 : h.IsTupleIter i2 t i
  pl : h.IsList l xs
  pt : h.IsTuple t ys
  a1 : TO ≠ TI
  a2 : t ≠ TO

theorem ne_cls {h : Heap} {a b : Addr} {o p : Obj} {T T' : String} (e : h.get? a = some o) (e' : h.get? b = some p) (c : o.cls = .type T) (c' : p.cls = .type T') (q : T ≠ T') : a ≠ b := fun z => by
  subst z; rw [e] at e'; cases e'; rw [c] at c'; exact q (Value.type.inj c')

structure ZipNe (z TI TO i1 i2 l t : Addr) : Prop where
  TIz : TI ≠ z
  TOz : TO ≠ z
  i1z : i1 ≠ z
  i2z : i2 ≠ z
  TOi1 : TO ≠ i1
  TOi2 : TO ≠ i2
  i12 : i1 ≠ i2
  lz : l ≠ z
  ti1 : t ≠ i1
  tz : t ≠ z
theorem ZipAt.ne {h : Heap} {z TI TO i1 i2 l t : Addr} {i : Nat} {xs ys : Array Value} (Z : ZipAt h z TI TO i1 i2 l t i xs ys) : ZipNe z TI TO i1 i2 l t := by
  obtain ⟨hz, hTI, ⟨a, b, hTO⟩, ⟨o1, g1, c1, d1⟩, ⟨o2, g2, c2, d2⟩, ⟨ol, gl, cl, nl, dl⟩, ⟨ot, gt, ct, nt, dt⟩, a1, a2⟩ := Z
  exact ⟨ne_cls hTI hz rfl rfl (by decide), ne_cls hTO hz rfl rfl (by decide), ne_cls g1 hz c1 rfl (by decide), ne_cls g2 hz c2 rfl (by decide), ne_cls hTO g1 rfl c1 (by decide), ne_cls hTO g2 rfl c2 (by decide), ne_cls g1 g2 c1 c2 (by decide), ne_cls gl hz cl rfl (by decide), ne_cls gt g1 ct c1 (by decide), ne_cls gt hz ct rfl (by decide)⟩

theorem zip_open {z TI TO i1 i2 : Addr} {a b : Value} {Q : PySem.Fin → Shared → Prop} (hz : IsZip s.heap z TI TO .none) (hTI : IsPair s.heap TI (.ref i1) (.ref i2))
    (h : ∀ h1, IsZip h1 z TI TO .ellipsis → Heap.SameBut z s.heap h1 → wpAny (model prog w) A (Builtin.SmallTypes.nextOf (.ref i1)) (fun v1 s2 => ∃ p q, IsPair s2.heap TO p q ∧ ∀ h3, IsPair h3 TO v1 q → Heap.SameBut TO s2.heap h3 →
      wpAny (model prog w) A (Builtin.SmallTypes.nextOf (.ref i2)) (fun v2 s4 => ∃ p' q', IsPair s4.heap TO p' q' ∧ ∀ h5, IsPair h5 TO p' v2 → Heap.SameBut TO s4.heap h5 → IsZip h5 z TI TO .ellipsis ∧
        ∀ h8, IsZip h8 z TI TO (rawInt h5.objs.size) → (∀ c o, c ≠ z → (h5.push { cls := .type "tuple", data := .seq #[p', v2] }).get? c = some o → h8.get? c = some o) → h8.objs.size = h5.objs.size + 1 → Q (.done (.ret (.ref h5.objs.size))) { s4 with heap := h8 })
        (fun e s4 => IsZip s4.heap z TI TO .ellipsis ∧ ∀ h5, Heap.SameBut z s4.heap h5 → E e { s4 with heap := h5 }) { s2 with heap := h3 })
      (fun e s2 => IsZip s2.heap z TI TO .ellipsis ∧ ∀ h3, Heap.SameBut z s2.heap h3 → E e { s2 with heap := h3 }) { s with heap := h1 }) :
    wpAny (model prog w) A (Builtin.«zip.__next__» ⟨[.ref z], []⟩) Q E s := by
  show wpAny _ _ (field (.ref z) 2 >>= _) _ _ _
  refine wpAny_bind (wpAny_field hz rfl (x := .bool false) rfl ?_)
  show wpAny _ _ (field (.ref z) 3 >>= _) _ _ _
  refine wpAny_bind (wpAny_field hz rfl (x := .ref TI) rfl (wpAny_bind (wpAny_seqItems hTI rfl ?_)))
  show wpAny _ _ (Builtin.SmallTypes.ownedTupleIsFree (.ref z) >>= _) _ _ _
  refine wpAny_bind ?_
  unfold Builtin.SmallTypes.ownedTupleIsFree
  refine wpAny_bind (wpAny_field hz rfl (x := .none) rfl (wpAny_pure ?_))
  simp only [if_true]
  refine wpAny_bind (wpAny_rule (wpAny_bind (wpAny_field hz rfl (x := .ref TO) rfl (wpAny_bind (wpAny_setField_rec hz (by simp) fun h₁ hz₁ hs₁ => wpAny_bind ?_)))))
  replace hz₁ : IsZip h₁ z TI TO .ellipsis := hz₁
  simp only [List.zipIdx_cons, List.zipIdx_nil, List.forIn_cons, List.forIn_nil]
  refine wpAny_bind (wpAny_bind (wpAny_onRaise ?_))
  show wpAny _ _ (Builtin.SmallTypes.nextOf (.ref i1) >>= _) _ _ _
  refine wpAny_bind (wpAny_mono (h h₁ hz₁ hs₁) (fun v1 s2 ⟨p, q, hp, k⟩ => wpAny_pure ?_) fun e s2 ⟨hz2, k⟩ => wpAny_setField_rec hz2 (by simp) fun h3 _ hs3 => k h3 hs3)
  refine wpAny_bind (wpAny_seqItems hp rfl (wpAny_bind (wpAny_updateSeq_pair hp fun h₃ hTO₃ hs₃ => wpAny_bind (wpAny_letGo (wpAny_pure ?_)))))
  refine wpAny_bind (wpAny_bind (wpAny_onRaise ?_))
  show wpAny _ _ (Builtin.SmallTypes.nextOf (.ref i2) >>= _) _ _ _
  refine wpAny_bind (wpAny_mono (k h₃ hTO₃ hs₃) (fun v2 s4 ⟨p', q', hp', k⟩ => wpAny_pure ?_) fun e s2 ⟨hz2, k⟩ => wpAny_setField_rec hz2 (by simp) fun h3 _ hs3 => k h3 hs3)
  refine wpAny_bind (wpAny_seqItems hp' rfl (wpAny_bind (wpAny_updateSeq_pair hp' fun h₅ hTO₅ hs₅ => wpAny_bind (wpAny_letGo (wpAny_pure (wpAny_pure ?_))))))
  replace hTO₅ : IsPair h₅ TO p' v2 := hTO₅
  refine wpAny_bind (wpAny_seqItems hTO₅ rfl (wpAny_bind (wpAny_newTuple ?_)))
  obtain ⟨hz₅, k⟩ := k h₅ hTO₅ hs₅
  show wpAny _ _ (Builtin.SmallTypes.ownedTupleHandOut (.ref z) (.ref h₅.objs.size) >>= _) _ _ _
  refine wpAny_bind ?_
  unfold Builtin.SmallTypes.ownedTupleHandOut
  have hz₆ : IsZip (h₅.push { cls := .type "tuple", data := .seq #[p', v2] }) z TI TO .ellipsis := Heap.get?_push_of_some _ hz₅
  refine wpAny_bind (wpAny_setField_rec hz₆ (by simp) fun h₇ hz₇ hs₇ => ?_)
  replace hz₇ : IsZip h₇ z TI TO (rawInt h₅.objs.size) := hz₇
  refine wpAny_setField_rec hz₇ (by simp) fun h₈ hz₈ hs₈ => wpAny_pure (k h₈ hz₈ (fun c o hc e => hs₈.extBut _ _ hc (hs₇.extBut _ _ hc e)) (by rw [hs₈.1, hs₇.1, Heap.size_push]))

theorem keep_lit {h h' : Heap} {a l : Addr} {i : Nat} (x : h.IsListIter a l i) (k : ∀ o, h.get? a = some o → h'.get? a = some o) : h'.IsListIter a l i := let ⟨o, g, r⟩ := x; ⟨o, k o g, r⟩
theorem keep_tit {h h' : Heap} {a l : Addr} {i : Nat} (x : h.IsTupleIter a l i) (k : ∀ o, h.get? a = some o → h'.get? a = some o) : h'.IsTupleIter a l i := let ⟨o, g, r⟩ := x; ⟨o, k o g, r⟩
theorem keep_tup {h h' : Heap} {a : Addr} {xs : Array Value} (x : h.IsTuple a xs) (k : ∀ o, h.get? a = some o → h'.get? a = some o) : h'.IsTuple a xs := let ⟨o, g, r⟩ := x; ⟨o, k o g, r⟩
theorem keep_lst {h h' : Heap} {a : Addr} {xs : Array Value} (x : h.IsList a xs) (k : ∀ o, h.get? a = some o → h'.get? a = some o) : h'.IsList a xs := let ⟨o, g, r⟩ := x; ⟨o, k o g, r⟩

theorem zip_item {z TI TO i1 i2 l t : Addr} {i : Nat} {xs ys : Array Value} {x y : Value} {Q : Option Value → Shared → Prop} (Z : ZipAt s.heap z TI TO i1 i2 l t i xs ys) (hl : l ≠ i1 ∧ l ≠ i2 ∧ l ≠ TO) (hx : xs[i]? = some x) (hy : ys[i]? = some y)
    (hQ : ∀ h' T, s.heap.get? T = Option.none → IsZip h' z TI TO (rawInt T) → IsPair h' TO x y → h'.IsListIter i1 l (i + 1) → h'.IsTupleIter i2 t (i + 1) → IsPair h' T x y →
      (∀ c o, c ∉ [z, i1, i2, TO] → s.heap.get? c = some o → h'.get? c = some o) → Q (some (.ref T)) { s with heap := h' }) : wpAny (model prog w) A (pyNext (.ref z)) Q E s := by
  have N := Z.ne
  obtain ⟨hz, hTI, ⟨a, b, hTO⟩, h1, h2, hL, hT, a1, a2⟩ := Z
  have hty : s.TypeIs (.ref z) "zip" := ⟨_, hz, rfl⟩
  unfold pyNext
  refine wpAny_bind (wpAny_attempt (wpAny_callSpecial?_slot (name := Str.ofString "__next__") hty F.slot_zip_next (wpAny_call_entry F.slot_zip_next hty F.entry_zip_next ?_ (F.args_zip_next_1 _))))
  refine zip_open (a := a) (b := b) hz hTI fun g1 z1 s1 => ?_
  refine wpAny_nextOf_list_item (keep_lit h1 fun o e => (s1.2 _ N.i1z).trans e) (keep_lst hL fun o e => (s1.2 _ N.lz).trans e) hx fun g2 j1 s2 => ?_
  refine ⟨a, b, (s2.2 _ N.TOi1).trans ((s1.2 _ N.TOz).trans hTO), fun g3 p3 s3 => ?_⟩
  have k3 : ∀ c o, c ≠ z → c ≠ i1 → c ≠ TO → s.heap.get? c = some o → g3.get? c = some o := fun c o c1 c2 c3 e => (s3.2 c c3).trans ((s2.2 c c2).trans ((s1.2 c c1).trans e))
  refine nextOf_tup (s := { s with heap := g3 }) (keep_tit h2 fun o e => k3 _ o N.i2z N.i12.symm N.TOi2.symm e) (keep_tup hT fun o e => k3 _ o N.tz N.ti1 a2 e) hy fun g4 j2 s4 => ?_
  refine ⟨x, b, (s4.2 _ N.TOi2).trans p3, fun g5 p5 s5 => ⟨(s5.2 _ N.TOz.symm).trans ((s4.2 _ N.i2z.symm).trans ((s3.2 _ N.TOz.symm).trans ((s2.2 _ N.i1z.symm).trans z1))), fun g8 z8 k8 sz => ?_⟩⟩
  have ez : g5.objs.size = s.heap.objs.size := by
    have e1 : g1.objs.size = s.heap.objs.size := s1.1
    have e2 : g2.objs.size = g1.objs.size := s2.1
    have e3 : g3.objs.size = g2.objs.size := s3.1
    have e4 : g4.objs.size = g3.objs.size := s4.1
    have e5 : g5.objs.size = g4.objs.size := s5.1
    omega
  have up : ∀ c o, c ≠ z → g5.get? c = some o → g8.get? c = some o := fun c o hc e => k8 c o hc (push_keeps _ _ _ _ e)
  have nT : s.heap.get? g5.objs.size = Option.none := by rw [ez]; exact size_none _
  refine ⟨_, rfl, wpAny_pure (hQ g8 g5.objs.size nT z8 (up _ _ N.TOz p5) ?_ ?_ ?_ fun c o hc e => ?_)⟩
  · refine keep_lit j1 fun o e => up _ o N.i1z ((s5.2 _ N.TOi1.symm).trans ((s4.2 _ N.i12).trans ((s3.2 _ N.TOi1.symm).trans e)))
  · refine keep_tit j2 fun o e => up _ o N.i2z ((s5.2 _ N.TOi2.symm).trans e)
  · exact k8 _ _ (fun q => by rw [q, hz] at nT; cases nT) (Heap.get?_push_size _ rfl)
  · simp only [List.mem_cons, List.not_mem_nil, or_false, not_or] at hc
    exact up c o hc.1 ((s5.2 _ hc.2.2.2).trans ((s4.2 _ hc.2.2.1).trans (k3 c o hc.1 hc.2.1 hc.2.2.2 e)))

theorem zip_end {z TI TO i1 i2 l t : Addr} {i : Nat} {xs ys : Array Value} {Q : Option Value → Shared → Prop} (hh : A.handled = Option.none) (Z : ZipAt s.heap z TI TO i1 i2 l t i xs ys) (hx : xs[i]? = Option.none)
    (hQ : ∀ h', (∀ c o, c ∉ [z, i1, i2, TO] → s.heap.get? c = some o → h'.get? c = some o) → (∃ a b, IsPair h' TO a b) → Q Option.none { s with heap := h' }) : wpAny (model prog w) A (pyNext (.ref z)) Q E s := by
  have N := Z.ne
  obtain ⟨hz, hTI, ⟨a, b, hTO⟩, h1, h2, hL, hT, a1, a2⟩ := Z
  have hty : s.TypeIs (.ref z) "zip" := ⟨_, hz, rfl⟩
  unfold pyNext
  refine wpAny_bind (wpAny_attempt (wpAny_callSpecial?_slot (name := Str.ofString "__next__") hty F.slot_zip_next (wpAny_call_entry F.slot_zip_next hty F.entry_zip_next ?_ (F.args_zip_next_1 _))))
  refine zip_open (a := a) (b := b) hz hTI fun g1 z1 s1 => ?_
  refine wpAny_nextOf_list_end (A := A.in1) hh (keep_lit h1 fun o e => (s1.2 _ N.i1z).trans e) (keep_lst hL fun o e => (s1.2 _ N.lz).trans e) hx fun g2 e s2 ⟨oe, ge, ce⟩ => ⟨s2 _ _ N.i1z.symm z1, fun g3 s3 => ?_⟩
  have z2 : IsZip g2 z TI TO .ellipsis := s2 _ _ N.i1z.symm z1
  have ez : e ≠ z := fun q => by exact ne_cls ge z2 ce rfl (by decide) q
  refine wpAny_bind (wpAny_isInstance (T := "StopIteration") (b := true) ⟨oe, (s3.2 _ ez).trans ge, ce⟩ isSubtype_stop (wpAny_pure (hQ g3 (fun c o hc e => ?_) ⟨a, b, (s3.2 _ N.TOz).trans (s2 _ _ N.TOi1 ((s1.2 _ N.TOz).trans hTO))⟩)))
  simp only [List.mem_cons, List.not_mem_nil, or_false, not_or] at hc
  exact (s3.2 _ hc.1).trans (s2 _ _ hc.2.1 ((s1.2 _ hc.1).trans e))
end
end Mine

/-! RY -/
namespace Mine
open PySem PyProof.Rows PySem.W

theorem meets_zip_lt (l t : Addr) (xs ys : Array Value) :
    Meets (Builtin.«zip.__new__» ⟨[.type "zip", .ref l, .ref t], []⟩) (fun _ R s => s.heap.IsList l xs ∧ s.heap.IsTuple t ys ∧
      ∀ h', ZipAt h' (s.heap.objs.size + 4) (s.heap.objs.size + 2) (s.heap.objs.size + 3) s.heap.objs.size (s.heap.objs.size + 1) l t 0 xs ys → (∀ c o, s.heap.get? c = some o → h'.get? c = some o) → R (.ok (.ret (.ref (s.heap.objs.size + 4)))) { s with heap := h' }) :=
  .of_wp fun prog w A R s h => by
    obtain ⟨hp, g, d, tk, os⟩ := s
    obtain ⟨hl1, ht, h⟩ := h
    have hsub := sub_zip
    have hL1 : Heap.IsList (Shared.heap ⟨hp, g, d, tk, os⟩) l xs := hl1
    have hL2 : Heap.IsTuple (Shared.heap ⟨hp.push { cls := .type "list_iterator", data := .fields #[.ref l, .int 0 0] }, g, d, tk, os⟩) t ys := keep_tup ht fun o e => push_keeps _ _ _ _ e
    wp_walk using wpAny_pyIter_list hL1, wpAny_pyIter_tuple hL2
    refine ⟨_, rfl, ?_⟩
    dsimp only at h ⊢
    have z1 : ∀ (h : Heap) (o : Obj), (h.push o).objs.size = h.objs.size + 1 := fun h o => Heap.size_push ..
    simp only [z1] at h ⊢
    have e1 : ∀ (h : Heap) (o : Obj) (n : Nat), n = h.objs.size → o.isFreed = false → (h.push o).get? n = some o := fun h o n e f => by subst e; exact Heap.get?_push_size _ f
    refine h _ ⟨?_, ?_, ⟨.none, .none, ?_⟩, ⟨{ cls := .type "list_iterator", data := .fields #[.ref l, .int 0 0] }, ?_, rfl, rfl⟩, ⟨{ cls := .type "tuple_iterator", data := .fields #[.ref t, .int 0 0] }, ?_, rfl, rfl⟩, ?_, ?_, Nat.succ_ne_self _, ?_⟩ fun c o x => push_keeps _ _ _ _ (push_keeps _ _ _ _ (push_keeps _ _ _ _ (push_keeps _ _ _ _ (push_keeps _ _ _ _ x))))
    · exact e1 _ _ _ (by simp only [z1]) rfl
    · exact push_keeps _ _ _ _ (push_keeps _ _ _ _ (e1 _ _ _ (by simp only [z1]) rfl))
    · exact push_keeps _ _ _ _ (e1 _ _ _ (by simp only [z1]) rfl)
    · exact push_keeps _ _ _ _ (push_keeps _ _ _ _ (push_keeps _ _ _ _ (push_keeps _ _ _ _ (e1 _ _ _ rfl rfl))))
    · exact push_keeps _ _ _ _ (push_keeps _ _ _ _ (push_keeps _ _ _ _ (e1 _ _ _ (by simp only [z1]) rfl)))
    · exact keep_lst hl1 fun o x => push_keeps _ _ _ _ (push_keeps _ _ _ _ (push_keeps _ _ _ _ (push_keeps _ _ _ _ (push_keeps _ _ _ _ x))))
    · exact keep_tup ht fun o x => push_keeps _ _ _ _ (push_keeps _ _ _ _ (push_keeps _ _ _ _ (push_keeps _ _ _ _ (push_keeps _ _ _ _ x))))
    · obtain ⟨o, e, _⟩ := ht
      exact Nat.ne_of_lt (Nat.lt_of_lt_of_le (Heap.lt_size e) (Nat.le_add_right _ _))

theorem call_zip_lt {prog : Program} {w : World} {A : Around} {E : Value → Shared → Prop} {s : Shared} {l t : Addr} {xs ys : Array Value} {Q : Value → Shared → Prop} (hl : s.heap.IsList l xs) (ht : s.heap.IsTuple t ys)
    (h : ∀ h', ZipAt h' (s.heap.objs.size + 4) (s.heap.objs.size + 2) (s.heap.objs.size + 3) s.heap.objs.size (s.heap.objs.size + 1) l t 0 xs ys → (∀ c o, s.heap.get? c = some o → h'.get? c = some o) → Q (.ref (s.heap.objs.size + 4)) { s with heap := h' }) :
    wpAny (model prog w) A (PySem.call (.type "zip") [.ref l, .ref t]) Q E s :=
  callType_new F.called_zip (by decide) (F.typeCall_zip_2 _ _) (F.newCall_zip_2 _ _) (fun obj => F.args_object_init_3 obj _ _) F.entry_zip_new (meets_zip_lt l t xs ys) ⟨hl, ht, fun h' Z kp => ⟨⟨_, Z.pz, rfl⟩, h h' Z kp⟩⟩

section
variable {κ : Ct}
inductive ZJ (X : Cx) (z TI TO i1 i2 l t : Addr) (n k : Nat) (ysV : List V) (i : Nat) (η : List Addr) (h : Heap) : Prop
  | mk (ys : Array Value) (c : Nat) (pz : IsZip h z TI TO .none) (pTI : IsPair h TI (.ref i1) (.ref i2)) (p1 : h.IsListIter i1 l i) (p2 : h.IsTupleIter i2 t i) (pt : h.get? t = some { cls := .type "tuple", data := .seq ys c }) (vr : VRs X η h ysV ys.toList)
    (oz : z ∉ η) (oTI : TI ∉ η) (o1 : i1 ∉ η) (o2 : i2 ∉ η) (ot : t ∉ η) (en : η[n]? = some l) (ek : η[k]? = some TO) : ZJ X z TI TO i1 i2 l t n k ysV i η h

theorem pairsZ_get {xs ys : List V} (hlen : xs.length = ys.length) {i : Nat} : (∃ x y, xs[i]? = some x ∧ ys[i]? = some y ∧ (pairsZ xs ys)[i]? = some (.tup [x, y])) ∨ (xs[i]? = Option.none ∧ (pairsZ xs ys)[i]? = Option.none) := by
  unfold pairsZ
  cases hx : xs[i]? with
  | none =>
    refine .inr ⟨rfl, ?_⟩
    rw [List.getElem?_map, List.getElem?_eq_none_iff.mpr, Option.map_none]
    rw [List.getElem?_eq_none_iff] at hx
    rw [List.length_zip]; omega
  | some x =>
    obtain ⟨h1, e1⟩ := List.getElem?_eq_some_iff.mp hx
    have h2 : i < ys.length := by omega
    refine .inl ⟨x, ys[i], rfl, List.getElem?_eq_getElem h2, ?_⟩
    rw [List.getElem?_map, List.getElem?_eq_getElem (by rw [List.length_zip]; omega), List.getElem_zip, e1]; rfl

theorem mem4 {a b c d x : Addr} : x ∈ [a, b, c, d] ↔ x = a ∨ x = b ∨ x = c ∨ x = d := by simp

theorem Iter.zip {z TI TO i1 i2 l t : Addr} {n k : Nat} {xs ys : List V} {es : List Expr} {q : Nat} {pos : Pos} {chk : Hp → Bool} (hlen : xs.length = ys.length) (hchk : ∀ H, chk H = true → H[n]? = some (.list xs) ∧ H[k]? = some .own) :
    Iter κ (.Tuple es q pos) z [z, i1, i2, TO] (pairsZ xs ys) chk (ZJ κ.X z TI TO i1 i2 l t n k ys) where
  recs := fun ⟨_, _, pz, _, ⟨a1, b1, _, d1⟩, ⟨a2, b2, _, d2⟩, _, _, _, _, _, _, _, _, ek⟩ b hb => by
    rcases mem4.mp hb with rfl | rfl | rfl | rfl
    · exact .inr ⟨_, _, pz, rfl⟩
    · exact .inr ⟨a1, _, b1, d1⟩
    · exact .inr ⟨a2, _, b2, d2⟩
    · exact .inl (List.mem_of_getElem? ek)
  keep := fun {i η h η' h'} ⟨ysA, c, pz, pTI, p1, p2, pt, vr, oz, oTI, o1, o2, ot, en, ek⟩ x f => by
    have hd := x.holds f
    have rec' : ∀ {b : Addr} {o : Obj} {fs : Array Value}, h.get? b = some o → o.data = .fields fs → b ∉ η → h'.get? b = some o := fun {b o fs} e d hb => have q := f.not e ⟨fun _ _ z => (by rw [d] at z; cases z), fun _ z => (by rw [d] at z; cases z)⟩; x.same b o e hb (fun z => q (List.mem_append.mpr (.inl z))) fun z => q (List.mem_append.mpr (.inr z))
    obtain ⟨a1, b1, c1, d1⟩ := p1
    obtain ⟨a2, b2, c2, d2⟩ := p2
    obtain ⟨l', rfl, _⟩ := id x.pre
    exact ⟨ysA, c, rec' pz rfl oz, (hd.seq _ _ pTI oTI (.inl ⟨_, _, rfl⟩)).1, ⟨a1, rec' b1 d1 o1, c1, d1⟩, ⟨a2, rec' b2 d2 o2, c2, d2⟩, (hd.seq _ _ pt ot (.inl ⟨_, _, rfl⟩)).1, vr.map x.pre' hd, x.mem pz oz, x.mem pTI oTI, x.mem b1 o1, x.mem b2 o2, x.mem pt ot, getElem?_pre en, getElem?_pre ek⟩
  next := fun {i η H s Q} r iv hh hc h1 h2 => by
    obtain ⟨ysA, c, pz, pTI, p1, p2, pt, vr, oz, oTI, o1, o2, ot, en, ek⟩ := r
    obtain ⟨hn, hk⟩ := hchk H hc
    obtain ⟨items, m, g, vx, le⟩ := list_of_H iv en hn
    obtain ⟨ob, gO, rO⟩ := iv.objs k TO _ ek hk
    cases rO with
    | own =>
      rename_i a b
      have lη : l ∈ η := List.mem_of_getElem? en
      have Oη : TO ∈ η := List.mem_of_getElem? ek
      have Z : ZipAt s.heap z TI TO i1 i2 l t i items ysA := ⟨pz, pTI, ⟨a, b, gO⟩, p1, p2, ⟨_, g, rfl, m, rfl⟩, ⟨_, pt, rfl, c, rfl⟩, fun q => oTI (q ▸ Oη), fun q => ot (q ▸ Oη)⟩
      have turn : ∀ h', (∀ c o, c ∉ [z, i1, i2, TO] → s.heap.get? c = some o → h'.get? c = some o) → (∃ x y, IsPair h' TO x y) → Turn [z, i1, i2, TO] η H s.heap h' := fun h' kp ⟨x, y, e⟩ => ⟨kp, fun b hb => by
        obtain ⟨a1, b1, c1, d1⟩ := p1
        obtain ⟨a2, b2, c2, d2⟩ := p2
        rcases mem4.mp hb with rfl | rfl | rfl | rfl
        · exact .inl ⟨oz, _, pz, .inl ⟨_, _, rfl, rfl, by decide⟩⟩
        · exact .inl ⟨o1, _, b1, .inl ⟨_, _, c1, d1, by decide⟩⟩
        · exact .inl ⟨o2, _, b2, .inl ⟨_, _, c2, d2, by decide⟩⟩
        · exact .inr ⟨k, x, y, ek, hk, e⟩⟩
      rcases pairsZ_get hlen (i := i) with ⟨x, y, ex, ey, ep⟩ | ⟨ex, ep⟩
      · obtain ⟨mx, emx, rx⟩ := vx.get ex
        obtain ⟨my, emy, ry⟩ := vr.get ey
        refine zip_item Z ⟨fun q => o1 (q ▸ lη), fun q => o2 (q ▸ lη), ne_cls g gO rfl rfl (by decide)⟩ (by simpa using emx) (by simpa using emy) fun h' T nT z' pO j1 j2 pT kp => ?_
        have oT : T ∉ η := fun q => by obtain ⟨o, e⟩ := iv.alive q; rw [nT] at e; cases e
        have N := Z.ne
        refine wpAny_letOwnedTupleGo_zip (s := { s with heap := h' }) z' fun h2 z2 s2 => ?_
        have nz : ∀ {c : Addr} {o : Obj}, c ≠ z → h'.get? c = some o → h2.get? c = some o := fun hc e => (s2.2 _ hc).trans e
        have t2 : Turn [z, i1, i2, TO] η H s.heap h2 := turn h2 (fun c o hc e => nz (fun q => hc (mem4.mpr (.inl q))) (kp c o hc e)) ⟨_, _, nz N.TOz pO⟩
        refine h1 (.tup [x, y]) _ h2 s.toks ep t2 (.tup (nz (fun q => by rw [q, pz] at nT; cases nT) pT) oT (.cons (t2.vr rx) (.cons (t2.vr ry) .nil)) (by show 2 ≤ line; decide)) ?_
        have off : ∀ {c : Addr} {o : Obj}, c ∉ η → c ≠ z → c ≠ i1 → c ≠ i2 → s.heap.get? c = some o → h2.get? c = some o := fun hη q1 q2 q3 e => t2.keep _ _ (fun q => (mem4.mp q).elim q1 fun q => q.elim q2 fun q => q.elim q3 fun q => hη (q ▸ Oη)) e
        obtain ⟨a1, b1, c1, d1⟩ := p1
        obtain ⟨a2, b2, c2, d2⟩ := p2
        exact ⟨ysA, c, z2, off oTI N.TIz (ne_cls pTI b1 rfl c1 (by decide)) (ne_cls pTI b2 rfl c2 (by decide)) pTI, keep_lit j1 fun o e => nz N.i1z e, keep_tit j2 fun o e => nz N.i2z e, off ot N.tz N.ti1 (ne_cls pt b2 rfl c2 (by decide)) pt, t2.vrs vr, oz, oTI, o1, o2, ot, en, ek⟩
      · refine zip_end hh Z ?_ fun h' kp e => h2 h' ep (turn h' kp e)
        rw [List.getElem?_eq_none_iff] at ex
        rw [Array.getElem?_eq_none_iff, vx.size]; exact ex
end
end Mine

/-! RR -/
namespace Mine
open PySem PyProof.Rows PySem.W

noncomputable def noTup : Expr → Bool
  | .Tuple .. => false
  | _ => true
theorem swapped_no {es : List Expr} {k : Nat} {p : Pos} {e : Expr} {env : Env} (h : noTup e = true) : swappedStores [.Tuple es k p] e env = pure Option.none := by
  cases e <;> first | rfl | cases h
noncomputable def repArgs (a b : String) (o : Bool) : List E := if o then [.str a, .str b, .int 1] else [.str a, .str b]

section
open Builtin Builtin.Str
theorem replace1_tree (x y z : Str) (t u v w : Tok) : «str.replace» ⟨[.str x t, .str y u, .str z v, .int 1 w], []⟩ =
    (if ((occurrences x y 0 x.length 1).isEmpty || (y.length == 0 && z.length == 0)) = true then (do rule "str.replace.nothing"; ret (.str x t)) else
          (do let same ← isSame (.str y u) (.str z v)
              if same = true then (do rule "str.replace.old-is-new"; ret (.str x t)) else
              if tooLong (x.length + (occurrences x y 0 x.length 1).length * z.length) = true then unsupported "str.replace:memory" else
              retStr (glued z (partsBetween x (occurrences x y 0 x.length 1) y.length)))) := by
  show (do let limit ← countLimit "str.replace" (some (.int 1 w)) (x.length + 1); _) = _
  rw [countLimit_int "str.replace" 1 w (x.length + 1) rfl]
  rfl
theorem gives_replace1 (x y z : Str) (t u v w : Tok)
    (hf : ((occurrences x y 0 x.length 1).isEmpty || (y.length == 0 && z.length == 0)) = false →
      (u == 0 || v == 0) = false ∧ (u == v) = false ∧ (y == z) = false ∧ tooLong (x.length + (occurrences x y 0 x.length 1).length * z.length) = false) :
    Gives («str.replace» ⟨[.str x t, .str y u, .str z v, .int 1 w], []⟩) (if ((occurrences x y 0 x.length 1).isEmpty || (y.length == 0 && z.length == 0)) = true then .val (.str x t) else .str (glued z (partsBetween x (occurrences x y 0 x.length 1) y.length))) := by
  rw [replace1_tree]
  cases hc : ((occurrences x y 0 x.length 1).isEmpty || (y.length == 0 && z.length == 0))
  · obtain ⟨h0, huv, hyz, hl⟩ := hf hc
    rw [isSame_str_other y z u v h0 huv hyz, hl]
    exact .of_eq rfl
  · exact .rule (.of_eq rfl)
theorem fits1 {x z : Str} (y : Str) (hb : x.length + z.length ≤ 16777216) :
    (glued z (partsBetween x (occurrences x y 0 x.length 1) y.length)).length ≤ sizeLine := by
  have h1 := StrLaws.occ_length_le x y 0 x.length 1
  have hy : (glued y (partsBetween x (occurrences x y 0 x.length 1) y.length)).length = x.length := by rw [StrLaws.glued_between_self]
  rw [size_glued, length_partsBetween, Nat.add_sub_cancel] at hy
  rw [size_glued, length_partsBetween, Nat.add_sub_cancel, sizeLine_eq]
  have h2 : (occurrences x y 0 x.length 1).length * z.length ≤ 1 * z.length := Nat.mul_le_mul_right _ h1
  omega
variable {prog : Program} {w : World} {A : Around} {E : Value → Shared → Prop} {s : Shared} {x y z : Str} {t u v k : Tok} {Q : Value → Shared → Prop}
theorem call_replace1 (hu : u ≠ 0) (hv : v ≠ 0) (huv : u ≠ v) (hyz : (y == z) = false) (hb : x.length + z.length ≤ 16777216)
    (hq : ∀ t' k, Q (.str (Txt_swap x y z true) t') { s with toks := k }) : wpAny (model prog w) A (PySem.call (.builtin "str.replace") [.str x t, .str y u, .str z v, .int 1 k]) Q E s := by
  have hl : tooLong (x.length + (occurrences x y 0 x.length 1).length * z.length) = false := by
    have h1 := StrLaws.occ_length_le x y 0 x.length 1
    have h2 : (occurrences x y 0 x.length 1).length * z.length ≤ 1 * z.length := Nat.mul_le_mul_right _ h1
    have e : (2 : Nat) ^ 24 = 16777216 := by decide
    unfold tooLong sizeLine
    exact decide_eq_false (by omega)
  refine call_gives F.slot_str_replace (typeIs_str _ _ _) F.entry_str_replace (F.args_str_replace_4 _ _ _ _)
    (gives_replace1 x y z t u v k fun _ => ⟨by simp [hu, hv], by simp [huv], hyz, hl⟩) ?_
  have hq' : ∀ t' k, Q (.str (if ((occurrences x y 0 x.length 1).isEmpty || (y.length == 0 && z.length == 0)) = true then x else glued z (partsBetween x (occurrences x y 0 x.length 1) y.length)) t') { s with toks := k } := hq
  cases hc : ((occurrences x y 0 x.length 1).isEmpty || (y.length == 0 && z.length == 0))
  · rw [hc] at hq'
    simp only [Bool.false_eq_true, if_false] at hq' ⊢
    exact ⟨fits1 y hb, hq' _ _⟩
  · rw [hc] at hq'
    simp only [if_true] at hq' ⊢
    exact hq' t s.toks
end

section
variable {κ : Ct} {η : List Addr} {ρ : Rho} {H : Hp} {s : Shared}
theorem wpAny_var {x : String} {id : Str} {pos : Pos} {v : V} {Q : Value → Shared → Prop} {E : Value → Shared → Prop} (a : At κ η ρ H s) (hv : vName κ.env.scope x id = true) (e : ρ.lookup x = some v) (hq : ∀ m, VR κ.X η s.heap v m → Q m s) : wpAny κ.X.M κ.A (eval (.Name id pos) κ.env) Q E s := by
  unfold vName at hv
  simp only [Bool.and_eq_true, beq_iff_eq, Bool.not_eq_true'] at hv
  obtain ⟨⟨⟨hi, hv⟩, hd1⟩, hd2⟩ := hv
  subst hi
  refine wpAny_Name ?_ hd1
  obtain ⟨mv, hh, r⟩ := a.rho x v e hv
  rcases hh with ⟨hk, m, hn, hm⟩ | ⟨hk | hk, c, o, hc, g, d⟩
  · exact wpAny_loadName_local a.fok.kind hk hn hm (hq mv r)
  · exact wpAny_loadName_cell a.fok.kind hk hc ⟨o, g, d⟩ (hq mv r)
  · exact wpAny_loadName_free a.fok.kind hk hc ⟨o, g, d⟩ (hq mv r) hd2

theorem wpAny_rep {x : String} {v : V} {X : Str} {id : Str} {ap p np : Pos} {a b : String} {o : Bool} {args : List Expr} {Q : Value → Shared → Prop} {E : Value → Shared → Prop} (at' : At κ η ρ H s) (hv : vName κ.env.scope x id = true) (e : ρ.lookup x = some v) (ev : strAt v = some X)
    (ha : isEs κ.X.kn κ.env.scope (repArgs a b o) args = true) (hl : (ap.endLine == p.line) = true) (ht : s.toks ≠ 0) (ok : swapOk' X a b o = true) (hq : ∀ t k, Q (.str (Txt_swap X (Str.ofString a) (Str.ofString b) o) t) { s with toks := k }) :
    wpAny κ.X.M κ.A (eval (.Call (.Attribute (.Name id np) (Str.ofString "replace") ap) args [] p) κ.env) Q E s := by
  unfold swapOk' at ok
  simp only [Bool.and_eq_true, decide_eq_true_eq, Bool.not_eq_true'] at ok
  obtain ⟨o1, o2, -⟩ := ok
  have hn : (s.toks + 1 : Nat) ≠ 0 := Nat.succ_ne_zero _
  have hne : s.toks ≠ s.toks + 1 := (Nat.succ_ne_self _).symm
  cases o with
  | false =>
    obtain ⟨e1, e2, rfl, h1, h2⟩ : ∃ e1 e2, args = [e1, e2] ∧ isE κ.X.kn κ.env.scope (.str a) e1 = true ∧ isE κ.X.kn κ.env.scope (.str b) e2 = true := by
      match args, ha with
      | [], h => exact ff h
      | [_], h => exact ff (and_inv (show (_ && false) = true from h)).2
      | [e1, e2], h => exact ⟨e1, e2, rfl, (and_inv h).1, (and_inv (and_inv h).2).1⟩
      | _ :: _ :: _ :: _, h => exact ff (and_inv (and_inv h).2).2
    obtain ⟨k1, p1, rfl, -⟩ := isE_str h1
    obtain ⟨k2, p2, rfl, -⟩ := isE_str h2
    refine wpAny_Call_method (T := "str") rfl rfl hl F.plainAttrs_str F.slot_str_replace F.type_str_replace (wpAny_var at' hv e fun m r => ?_)
    obtain ⟨t, rfl, _⟩ := vr_str r ev
    refine ⟨typeIs_str _ _ _, fun _ q => (nomatch q), ?_⟩
    refine PySem.Calls.callWith_builtin rfl (PySem.Calls.evalArgs_plain (PySem.Calls.spliced_cons (PySem.Calls.Constant_str (k := k1) (pos := p1) (PySem.Calls.spliced_cons (PySem.Calls.Constant_str (k := k2) (pos := p2) (PySem.Calls.spliced_nil ?_))))))
    exact SC.replace ht hn hne o2 o1 fun t' k => hq t' k
  | true =>
    obtain ⟨e1, e2, e3, rfl, h1, h2, h3⟩ : ∃ e1 e2 e3, args = [e1, e2, e3] ∧ isE κ.X.kn κ.env.scope (.str a) e1 = true ∧ isE κ.X.kn κ.env.scope (.str b) e2 = true ∧ isE κ.X.kn κ.env.scope (.int 1) e3 = true := by
      match args, ha with
      | [], h => exact ff h
      | [_], h => exact ff (and_inv (show (_ && false) = true from h)).2
      | [_, _], h => exact ff (and_inv (and_inv (show (_ && (_ && false)) = true from h)).2).2
      | [e1, e2, e3], h => exact ⟨e1, e2, e3, rfl, (and_inv h).1, (and_inv (and_inv h).2).1, (and_inv (and_inv (and_inv h).2).2).1⟩
      | _ :: _ :: _ :: _ :: _, h => exact ff (and_inv (and_inv (and_inv h).2).2).2
    obtain ⟨k1, p1, rfl, -⟩ := isE_str h1
    obtain ⟨k2, p2, rfl, -⟩ := isE_str h2
    obtain ⟨k3, p3, rfl⟩ := isE_int h3
    refine wpAny_Call_method (T := "str") rfl rfl hl F.plainAttrs_str F.slot_str_replace F.type_str_replace (wpAny_var at' hv e fun m r => ?_)
    obtain ⟨t, rfl, _⟩ := vr_str r ev
    refine ⟨typeIs_str _ _ _, fun _ q => (nomatch q), ?_⟩
    refine PySem.Calls.callWith_builtin rfl (PySem.Calls.evalArgs_plain (PySem.Calls.spliced_cons (PySem.Calls.Constant_str (k := k1) (pos := p1) (PySem.Calls.spliced_cons (PySem.Calls.Constant_str (k := k2) (pos := p2) (PySem.Calls.spliced_cons (wpAny_Constant_int (k := k3) (pos := p3) (PySem.Calls.spliced_nil ?_))))))))
    have hb : X.length + (Str.ofString b).length ≤ 16777216 := by
      have : 1 * (Str.ofString b).length ≤ (X.length + 1) * (Str.ofString b).length := Nat.mul_le_mul_right _ (by omega)
      omega
    exact call_replace1 ht hn hne o2 hb fun t' k => hq t' k

theorem ifRep_ok {l : E} {k : Int} {x a b : String} {o : Bool} {l' r' : Expr} {cp p rp ap np ip : Pos} {id : Str} {args : List Expr} (S : SoundFn κ.X κ.n κ.Γ) (h1 : isE κ.X.kn κ.env.scope l l' = true) (h2 : isE κ.X.kn κ.env.scope (.int k) r' = true)
    (hv : vName κ.env.scope x id = true) (ha : isEs κ.X.kn κ.env.scope (repArgs a b o) args = true) (hl : (ap.endLine == p.line) = true) :
    TriS κ [] (exec (.If (.Compare l' [.Eq] [r'] cp) [.Return (some (.Call (.Attribute (.Name id np) (Str.ofString "replace") ap) args [] p)) rp] [] ip) κ.env) ρ H (ofR ρ (evE κ.Γ ρ l H) fun c H1 => ifRepV (intAt c) k (ρ.lookup x) a b o ρ H1) := by
  obtain ⟨k', p', rfl⟩ := isE_int h2
  refine TriS.via (fun Q E s q _ => wpAny_If (wpAny_isTrue_Compare1 q)) (evE_ok l l' κ ρ H S h1) fun c H1 mc _ _ hs η s Q E a1 hvs hq he => ?_
  refine wpAny_Constant_int ?_
  unfold ifRepV at hs hq
  cases hi : intAt c with
  | none => rw [hi] at hs; exact absurd rfl hs
  | some i =>
    rw [hi] at hs hq
    dsimp only at hs hq
    obtain ⟨t, rfl⟩ := vr_int (hvs _ m0) hi
    refine PySem.P.eq_int (wpAny_truthy_bool ?_)
    have a2 : At κ η ρ H1 { s with toks := s.toks + 1 } := a1.step (Step.refl _ _ _ _) a1.inv _
    by_cases hk : i = k
    · rw [if_pos hk] at hs hq
      subst hk
      rw [if_pos (beq_self_eq_true i)]
      cases hx : (ρ.lookup x).bind strAt with
      | none => rw [hx] at hs; exact absurd rfl hs
      | some X =>
        rw [hx] at hs hq
        dsimp only at hs hq
        by_cases hc : swapOk' X a b o = true
        · rw [if_pos hc] at hq
          obtain ⟨v, e1, e2⟩ := Option.bind_eq_some_iff.mp hx
          refine wpAny_execs_cons (wpAny_Return_some (wpAny_rep a2 hv e1 e2 ha hl (Nat.succ_ne_zero _) hc fun t' k => ?_))
          refine hq _ _ ⟨_, H1, rfl, η, s.heap, k, rfl, a1.inv, Step.refl _ _ _ _, a1.fok, .str _ _ ?_⟩
          unfold swapOk' at hc
          simp only [Bool.and_eq_true] at hc
          exact hc.2.2.2.2
        · rw [if_neg hc] at hs; exact absurd rfl hs
    · rw [if_neg hk] at hq
      rw [if_neg (by simpa using hk)]
      refine wpAny_execs_nil (hq _ _ ⟨ρ, H1, rfl, η, s.heap, s.toks + 1, rfl, a1.inv, Step.refl _ _ _ _, a2.fok, a2.rho⟩)
end
end Mine

/-! R12 -/
namespace Mine
open PySem PyProof.Rows PySem.W

noncomputable def onSAssign (e : Stmt) (f : List Expr → Expr → Pos → Bool) : Bool := match e with
  | .Assign ts v p => f ts v p
  | _ => false
theorem onSAssign_inv {e : Stmt} {f : List Expr → Expr → Pos → Bool} (h : onSAssign e f = true) : ∃ ts v p, e = .Assign ts v p ∧ f ts v p = true := by
  cases e with
  | Assign ts v p => exact ⟨ts, v, p, rfl, h⟩
  | _ => exact ff h
noncomputable def onSReturn (e : Stmt) (f : Option Expr → Pos → Bool) : Bool := match e with
  | .Return x p => f x p
  | _ => false
theorem onSReturn_inv {e : Stmt} {f : Option Expr → Pos → Bool} (h : onSReturn e f = true) : ∃ x p, e = .Return x p ∧ f x p = true := by
  cases e with
  | Return x p => exact ⟨x, p, rfl, h⟩
  | _ => exact ff h
noncomputable def onSIf (e : Stmt) (f : Expr → List Stmt → List Stmt → Pos → Bool) : Bool := match e with
  | .If t a b p => f t a b p
  | _ => false
theorem onSIf_inv {e : Stmt} {f : Expr → List Stmt → List Stmt → Pos → Bool} (h : onSIf e f = true) : ∃ t a b p, e = .If t a b p ∧ f t a b p = true := by
  cases e with
  | If t a b p => exact ⟨t, a, b, p, rfl, h⟩
  | _ => exact ff h
noncomputable def onSFor (e : Stmt) (f : Expr → Expr → List Stmt → List Stmt → Pos → Bool) : Bool := match e with
  | .For t i b els p => f t i b els p
  | _ => false
theorem onSFor_inv {e : Stmt} {f : Expr → Expr → List Stmt → List Stmt → Pos → Bool} (h : onSFor e f = true) : ∃ t i b els p, e = .For t i b els p ∧ f t i b els p = true := by
  cases e with
  | For t i b els p => exact ⟨t, i, b, els, p, rfl, h⟩
  | _ => exact ff h
noncomputable def onSExpr (e : Stmt) (f : Expr → Pos → Bool) : Bool := match e with
  | .Expr v p => f v p
  | _ => false
theorem onSExpr_inv {e : Stmt} {f : Expr → Pos → Bool} (h : onSExpr e f = true) : ∃ v p, e = .Expr v p ∧ f v p = true := by
  cases e with
  | Expr v p => exact ⟨v, p, rfl, h⟩
  | _ => exact ff h
noncomputable def onSRaise (e : Stmt) (f : Option Expr → Option Expr → Pos → Bool) : Bool := match e with
  | .Raise x cause p => f x cause p
  | _ => false
theorem onSRaise_inv {e : Stmt} {f : Option Expr → Option Expr → Pos → Bool} (h : onSRaise e f = true) : ∃ x cause p, e = .Raise x cause p ∧ f x cause p = true := by
  cases e with
  | Raise x cause p => exact ⟨x, cause, p, rfl, h⟩
  | _ => exact ff h
noncomputable def onSTry (e : Stmt) (f : List Stmt → List ExceptHandler → List Stmt → List Stmt → Pos → Bool) : Bool := match e with
  | .Try b hs els fin p => f b hs els fin p
  | _ => false
theorem onSTry_inv {e : Stmt} {f : List Stmt → List ExceptHandler → List Stmt → List Stmt → Pos → Bool} (h : onSTry e f = true) : ∃ b hs els fin p, e = .Try b hs els fin p ∧ f b hs els fin p = true := by
  cases e with
  | Try b hs els fin p => exact ⟨b, hs, els, fin, p, rfl, h⟩
  | _ => exact ff h
noncomputable def strC (e : Expr) : Bool := onConstant e fun c _ _ => match c with | .str m => PyData.strOk m | _ => false
theorem strC_inv {e : Expr} (h : strC e = true) : ∃ m k p, e = .Constant (.str m) k p ∧ PyData.strOk m = true := by
  obtain ⟨c, k, p, rfl, h1⟩ := onConstant_inv h
  cases c with
  | str m => exact ⟨m, k, p, rfl, h1⟩
  | _ => exact ff h1
noncomputable def someE (e : Option Expr) (f : Expr → Bool) : Bool := match e with
  | some e => f e
  | Option.none => false
theorem someE_inv {e : Option Expr} {f : Expr → Bool} (h : someE e f = true) : ∃ a, e = some a ∧ f a = true := by
  cases e with
  | none => exact ff h
  | some a => exact ⟨a, rfl, h⟩
noncomputable def nameOk (sc : Scope) (n : Option String) (nm : Option Str) : Bool := match n with
  | Option.none => nm.isNone
  | some x => (match nm with | some y => y == Str.ofString x && sc.names.lookup y == some .local | Option.none => false)
mutual
noncomputable def isS (kn ex : String → Bool) (sc : Scope) : S → Stmt → Bool
  | .asg x c, s => onSAssign s fun ts v _ => one ts (fun t => sName sc x t && (isE kn sc c v && (noComp v || swapOk sc t v)))
  | .unpack xs c, s => onSAssign s fun ts v _ => one ts (fun t => onTuple t fun es _ _ => sNames sc xs es) && (isE kn sc c v && (noComp v && noTup v))
  | .setattr o a c, s => onSAssign s fun ts v _ => one ts (fun t => onAttribute t fun o' nm _ => nm == Str.ofString a && isE kn sc o o') && (isE kn sc c v && (noComp v && attrName a))
  | .ret c, s => onSReturn s fun e _ => someE e (isE kn sc c)
  | .iff t a b, s => onSIf s fun t' a' b' _ => isE kn sc t t' && (isSs kn ex sc a a' && isSs kn ex sc b b')
  | .for1 x c b, s => onSFor s fun t e b' els _ => els.isEmpty && (sName sc x t && (isE kn sc c e && (noSet e && isSs kn ex sc b b')))
  | .forZ xs cs b, s => onSFor s fun t e b' els _ => els.isEmpty && (onTuple t (fun es _ _ => sNames sc xs es) && (onCall e (fun fn args kws _ => kws.isEmpty && (gName kn sc "zip" fn && isEs kn sc cs args)) && isSs kn ex sc b b'))
  | .expr c, s => onSExpr s fun e _ => isE kn sc c e && noComp e
  | .raise c _, s => onSRaise s fun e cause _ => cause.isNone && (ex c && someE e fun e => onCall e fun fn args kws _ => kws.isEmpty && (gName kn sc c fn && one args strC))
  | .ifRep l k x a b o, s => onSIf s fun t' a' b' _ => b'.isEmpty && (onCompare t' (fun l' ops rs _ => ops == [CmpOp.Eq] && (isE kn sc l l' && one rs (isE kn sc (.int k)))) && one a' fun r => onSReturn r fun e _ => someE e fun e => onCall e fun fn args kws p => kws.isEmpty && (onAttribute fn (fun o' nm ap => nm == Str.ofString "replace" && (isE kn sc (.var x) o' && ap.endLine == p.line)) && isEs kn sc (repArgs a b o) args))
  | .tryE b hs, s => onSTry s fun b' hs' els fin _ => els.isEmpty && (fin.isEmpty && (!hs'.isEmpty && (isSs kn ex sc b b' && isHs kn ex sc hs hs')))
noncomputable def isSs (kn ex : String → Bool) (sc : Scope) : List S → List Stmt → Bool
  | [], l => match l with | [] => true | _ => false
  | c :: cs, l => match l with | s :: ss => isS kn ex sc c s && isSs kn ex sc cs ss | [] => false
noncomputable def isHs (kn ex : String → Bool) (sc : Scope) : List (String × Option String × List S) → List ExceptHandler → Bool
  | [], l => match l with | [] => true | _ => false
  | (T, n, b) :: r, l => match l with
    | h :: r' => (match h with | .ExceptHandler t nm b' _ => someE t (gName kn sc T) && (ex T && (nameOk sc n nm && (!b'.isEmpty && isSs kn ex sc b b')))) && isHs kn ex sc r r'
    | [] => false
end
section
variable {kn ex : String → Bool} {sc : Scope} {s : Stmt}
theorem isHs_inv {T : String} {n : Option String} {b : List S} {r : List (String × Option String × List S)} {l : List ExceptHandler} (h : isHs kn ex sc ((T, n, b) :: r) l = true) :
    ∃ t nm b0 b' p r', l = .ExceptHandler (some t) nm (b0 :: b') p :: r' ∧ gName kn sc T t = true ∧ ex T = true ∧ nameOk sc n nm = true ∧ isSs kn ex sc b (b0 :: b') = true ∧ isHs kn ex sc r r' = true := by
  cases l with
  | nil => exact ff h
  | cons hd r' =>
    cases hd with
    | ExceptHandler t nm b' p =>
      obtain ⟨g1, h6⟩ := and_inv h
      obtain ⟨h1, g2⟩ := and_inv g1
      obtain ⟨h2, g3⟩ := and_inv g2
      obtain ⟨h3, g4⟩ := and_inv g3
      obtain ⟨h4, h5⟩ := and_inv g4
      obtain ⟨a, rfl, h1⟩ := someE_inv h1
      cases b' with
      | nil => exact ff h4
      | cons b0 b' => exact ⟨a, nm, b0, b', p, r', rfl, h1, h2, h3, h5, h6⟩
end
theorem isSs_cons {kn ex : String → Bool} {sc : Scope} {c : S} {cs : List S} {e : Stmt} {es : List Stmt} : isSs kn ex sc (c :: cs) (e :: es) = (isS kn ex sc c e && isSs kn ex sc cs es) := rfl
theorem isSs_nil {kn ex : String → Bool} {sc : Scope} {c : S} {cs : List S} : isSs kn ex sc (c :: cs) [] = false := rfl

section
variable {M : Model} {A : Around} {E : Value → Shared → Prop}
theorem wpAny_excMatches_own {h : Heap} {g : Array GenState} {d : Drawn} {t : Nat} {os : OsState} {e : Addr} {oe : Obj} {Q : Bool → Shared → Prop} {b : Bool}
    {nm q : Str} {C N : Addr} {bs bm : List Value} {hdct : Bool} {sn : List Str} {sub : List Value} {ab : Bool} {col : Option Bool} {dd : Option Addr} {k0 k1 k2 k3 k5 : Option Value} {newId : String}
    {nm' q' : Str} {D N' : Addr} {bs' bm' : List Value} {hdct' : Bool} {sn' : List Str} {sub' : List Value} {ab' : Bool} {col' : Option Bool} {dd' : Option Addr} {k0' k1' k2' k3' k5' : Option Value} {newId' : String}
    (hC : h.get? C = some (excClassObj nm q C N bs bm hdct sn sub ab col dd k0 k1 k2 k3 k5 newId)) (hD : h.get? D = some (excClassObj nm' q' D N' bs' bm' hdct' sn' sub' ab' col' dd' k0' k1' k2' k3' k5' newId'))
    (he : h.get? e = some oe) (hcls : oe.cls = .ref C) (hbase : bm'.contains (.type "BaseException") = true) (hb : (Value.ref C :: bm).contains (.ref D) = b)
    (hq : Q b ⟨h, g, d, t, os⟩) : wpAny M A (excMatches (.ref e) (.ref D)) Q E ⟨h, g, d, t, os⟩ := by
  have hcB : (Value.ref D :: bm').contains (.type "BaseException") = true := by rw [List.contains_cons, hbase, Bool.or_true]
  have f := tc_notTuple
  unfold excMatches
  repeat (first | (with_reducible refine wpAny_loadPart_at he ?_; rw [hcls]) | with_reducible refine wpAny_loadPart_at hD ?_ | (with_reducible refine wpAny_isSubtype_exc hD ?_; rw [hcB]) | (with_reducible refine wpAny_isSubtype_exc hC ?_; rw [hb]) | wp_step)
  cases b <;> (wp_walk; exact hq)
end

structure FTop (κ : Ct) (outer : List Env) (L : Addr) : Prop where
  st : κ.st = κ.env :: outer
  fr : κ.env.frame = some L
  S : SoundFn κ.X κ.n κ.Γ

section
variable {κ : Ct} {η : List Addr} {ρ : Rho} {H : Hp} {s : Shared}
theorem forV_ok (hh : κ.A.handled = Option.none) {target : Expr} {body' : List Stmt} {bodyF : V → Rho → Hp → RS} {v : V} {mv : Value} {R : Result → Shared → Prop} (a : At κ η ρ H s) (rv : VR κ.X η s.heap v mv) (hne : forV bodyF v ρ H ≠ .stuck)
    (turnOK : ∀ v mv ρ H, bodyF v ρ H ≠ .stuck → ∀ η s, At κ η ρ H s → VR κ.X η s.heap v mv → wpAny κ.X.M κ.A (assign target κ.env mv) (fun _ s2 => wpAny κ.X.M κ.A (execs body' κ.env) (OutS κ η s (bodyF v ρ H)) (ExcS κ η s (bodyF v ρ H)) s2) noE s)
    (hlet : ∀ {it xs i η s mv} {Q : Unit → Shared → Prop}, ItR κ.X η s.heap it v xs i → Q () s → wpAny κ.X.M κ.A (letOwnedTupleGo target (.ref it) mv) Q noE s)
    (hR : ∀ f s', OutS κ η s (forV bodyF v ρ H) f s' → R (.ok f) s') (hX : ∀ ev s', ExcS κ η s (forV bodyF v ρ H) ev s' → notedBy κ.X.M κ.A κ.env (fun e s' => R (.error e) s') ev s') : wpAny κ.X.M κ.A (pyIter mv) (fun it s2 => codeAny κ.X.M κ.A (.forLoop target it body' [] κ.env) R s2) noE s := by
  unfold forV at hne hR hX
  cases hi : items H v with
  | none => rw [hi] at hne; exact absurd rfl hne
  | some xs =>
    rw [hi] at hne hR hX
    dsimp only at hne hR hX
    refine iter_ok a.inv rv hi fun ob r => ?_
    have kp := push_keeps s.heap ob
    have st := Step.ext (frs κ.st) (ownOf κ.env) η kp
    exact for_core hh (s0 := s) (η0 := η) turnOK (Iter.plain (fun H hck n hn => by subst hn; exact same_list hi hck) hlet) a (one_none (size_none _)) (a.step (Step.ext _ _ _ kp) (a.inv.ext kp) s.toks) rfl st ⟨r, a.inv.size_off⟩ hne hR hX

theorem turn_unpack (hh : κ.A.handled = Option.none) {xs : List String} {es : List Expr} {k : Nat} {pos : Pos} {body' : List Stmt} {bodyF : Rho → Hp → RS} {v : V} {mv : Value} (hx : sNames κ.env.scope xs es = true) (hb : ∀ ρ H, TriS κ [] (execs body' κ.env) ρ H (bodyF ρ H))
    (hne : unpackV xs v ρ H (fun ρ2 => bodyF ρ2 H) ≠ .stuck) (a : At κ η ρ H s) (rv : VR κ.X η s.heap v mv) :
    wpAny κ.X.M κ.A (assign (.Tuple es k pos) κ.env mv) (fun _ s2 => wpAny κ.X.M κ.A (execs body' κ.env) (OutS κ η s (unpackV xs v ρ H fun ρ2 => bodyF ρ2 H)) (ExcS κ η s (unpackV xs v ρ H fun ρ2 => bodyF ρ2 H)) s2) noE s := by
  unfold unpackV at hne ⊢
  cases hp : partsV v H with
  | none => rw [hp] at hne; exact absurd rfl hne
  | some ws =>
    rw [hp] at hne
    dsimp only at hne ⊢
    cases hset : setAll xs ws ρ with
    | none => rw [hset] at hne; exact absurd rfl hne
    | some ρ' =>
      rw [hset] at hne
      exact unpack_ok hh hx hp hset rv a fun h2 tk2 x2 i2 en2 => wpAny_mono (hb ρ' H hne η _ (a.stepS x2 i2 en2 tk2) fun _ q => nomatch q) (fun f s3 h3 => h3.after x2) fun ev s3 h3 => h3.after x2

theorem forZ_core (hh : κ.A.handled = Option.none) {es : List Expr} {q : Nat} {tp : Pos} {body' : List Stmt} {bodyF : V → Rho → Hp → RS} {v : V} {xs ys : List V} {mv mw : Value} {R : Result → Shared → Prop} (a : At κ η ρ H s) (rv : VR κ.X η s.heap v mv) (rw' : VR κ.X η s.heap (.tup ys) mw) (hxs : listAt v H = some xs) (hL : xs.length = ys.length)
    (turnOK : ∀ v mv ρ H, bodyF v ρ H ≠ .stuck → ∀ η s, At κ η ρ H s → VR κ.X η s.heap v mv → wpAny κ.X.M κ.A (assign (.Tuple es q tp) κ.env mv) (fun _ s2 => wpAny κ.X.M κ.A (execs body' κ.env) (OutS κ η s (bodyF v ρ H)) (ExcS κ η s (bodyF v ρ H)) s2) noE s)
    (hne : forL bodyF (fun H' => sameO v H H' && isOwn H'[H.length]?) (pairsZ xs ys) ρ (H ++ [.own]) ≠ .stuck) (hR : ∀ f s', OutS κ η s (forL bodyF (fun H' => sameO v H H' && isOwn H'[H.length]?) (pairsZ xs ys) ρ (H ++ [.own])) f s' → R (.ok f) s') (hX : ∀ ev s', ExcS κ η s (forL bodyF (fun H' => sameO v H H' && isOwn H'[H.length]?) (pairsZ xs ys) ρ (H ++ [.own])) ev s' → notedBy κ.X.M κ.A κ.env (fun e s' => R (.error e) s') ev s') :
    wpAny κ.X.M κ.A (PySem.call (.type "zip") [mv, mw]) (fun z s1 => wpAny κ.X.M κ.A (pyIter z) (fun it s2 => codeAny κ.X.M κ.A (.forLoop (.Tuple es q tp) it body' [] κ.env) R s2) noE s1) noE s := by
  obtain ⟨l, items, c, rfl, g, r, le⟩ := vr_list a.inv rv hxs
  obtain ⟨n, rfl, hn⟩ := listAt_inv hxs
  cases rv with
  | ref en =>
    cases rw' with
    | @tup t itemsT kT _ gt nt rt lt =>
      refine call_zip_lt ⟨_, g, rfl, c, rfl⟩ ⟨_, gt, rfl, kT, rfl⟩ fun h2 Z kp => wpAny_pyIter_zip Z.pz ?_
      obtain ⟨aO, bO, gO⟩ := Z.pTO
      have new : ∀ k, s.heap.get? (s.heap.objs.size + k) = Option.none := fun k => by
        cases e : s.heap.get? (s.heap.objs.size + k) with
        | none => rfl
        | some o => exact absurd (Heap.lt_size e) (Nat.not_lt.mpr (Nat.le_add_right _ _))
      have off : ∀ k, s.heap.objs.size + k ∉ η := fun k q => by obtain ⟨o, e⟩ := a.inv.alive q; rw [new] at e; cases e
      have i2 : Inv κ.X (η ++ [s.heap.objs.size + 3]) (H ++ [.own]) h2 := a.inv.make kp (new 3) gO .own
      have st2 : Step (frs κ.st) [] η s.heap (η ++ [s.heap.objs.size + 3]) h2 := Step.make _ _ _ kp (new 3)
      have off2 : ∀ k, k ≠ 3 → s.heap.objs.size + k ∉ η ++ [s.heap.objs.size + 3] := fun k hk q => by
        rcases List.mem_append.mp q with q | q
        · exact off k q
        · exact hk (Nat.add_left_cancel (List.mem_singleton.mp q))
      refine for_core hh (s0 := s) (η0 := η) turnOK (Iter.zip (TI := s.heap.objs.size + 2) (TO := s.heap.objs.size + 3) (i1 := s.heap.objs.size) (i2 := s.heap.objs.size + 1) (l := l) (t := t) (n := n) (k := H.length) hL fun H' hc => ?_) a (fun b hb => ?_) (a.step st2 i2 s.toks) rfl st2.up
        ⟨itemsT, kT, Z.pz, Z.pTI, Z.p1, Z.p2, kp _ _ gt, rt.step st2 a.stk.frm, off2 4 (by decide), off2 2 (by decide), off2 0 (by decide), off2 1 (by decide), st2.mem gt nt, getElem?_pre en, by rw [← a.inv.len]; simp⟩ hne hR hX
      · rw [Bool.and_eq_true] at hc
        refine ⟨same_list (show Mine.items H (.ref n) = some xs from hxs) hc.1, ?_⟩
        cases e : H'[H.length]? with
        | none => rw [e] at hc; cases hc.2
        | some o => cases o <;> first | rfl | (rw [e] at hc; cases hc.2)
      · rcases mem4.mp hb with rfl | rfl | rfl | rfl
        · exact new 4
        · exact new 0
        · exact new 1
        · exact new 3

theorem forZ_ok {outer : List Env} {L : Addr} (G : FTop κ outer L) (hd : κ.Γ.hd = false) {es : List Expr} {q : Nat} {tp pos cp pn : Pos} {args' : List Expr} {cs : List E} {body' : List Stmt} {bodyF : V → Rho → Hp → RS} (hg : gName κ.X.kn κ.env.scope "zip" (.Name (Str.ofString "zip") pn) = true) (ha : isEs κ.X.kn κ.env.scope cs args' = true)
    (turnOK : ∀ v mv ρ H, bodyF v ρ H ≠ .stuck → ∀ η s, At κ η ρ H s → VR κ.X η s.heap v mv → wpAny κ.X.M κ.A (assign (.Tuple es q tp) κ.env mv) (fun _ s2 => wpAny κ.X.M κ.A (execs body' κ.env) (OutS κ η s (bodyF v ρ H)) (ExcS κ η s (bodyF v ρ H)) s2) noE s) :
    TriS κ [] (exec (.For (.Tuple es q tp) (.Call (.Name (Str.ofString "zip") pn) args' [] cp) body' [] pos) κ.env) ρ H (ofR ρ (evEs κ.Γ ρ cs H) fun vs H1 => forZ bodyF vs ρ H1) := by
  intro hne η s a hv
  obtain ⟨pf, e, hg1, hd1, hk⟩ := gName_inv hg
  cases e
  have hl : Loads κ.X.mg κ.X.mb "zip" (.type "zip") := .inr (κ.X.bi _ _ rfl hk)
  have hr : evEs κ.Γ ρ cs H ≠ .stuck := fun q => hne (by rw [q]; rfl)
  refine wpAny_For ?_ fun _ => rfl
  show wpAny _ _ (eval (.Name (Str.ofString "zip") pn) κ.env >>= fun g => PySem.callWith cp g [] (backTo cp (starEach args' κ.env)) []) _ _ s
  refine wpAny_bind (wpAny_glob a rfl hg1 hd1 hl ?_)
  refine callWith_of (P := fun h => ∀ b o, κ.X.base.get? b = some o → h.get? b = some o) (by rw [any_plain ha]; rfl) (κ.X.kp "zip" _ hk hl) ?_
  refine wpAny_mono (Tri.args (any_plain ha) (evEs_ok cs args' κ ρ H cp G.S ha) hr η s a hv) (fun ar s1 hx => ?_) fun ev s1 hx => hx.stmt a
  obtain ⟨ws, H1, e1, ⟨hlen, hkw⟩, η1, h1', tk1, rfl, i1, st1, p1⟩ := hx
  refine ⟨i1.keep, ?_⟩
  rw [hkw]
  have a1 := a.step st1 i1 tk1
  rw [e1] at hne ⊢
  have hne : forZ bodyF ws ρ H1 ≠ .stuck := hne
  generalize hpos : ar.pos = ms at hlen p1 ⊢
  have out : ∀ {f s'}, OutS κ η1 { s with heap := h1', toks := tk1 } (forZ bodyF ws ρ H1) f s' → OutS κ η s (forZ bodyF ws ρ H1) f s' := fun o => o.after st1.up
  have exc : ∀ {ev s'}, ExcS κ η1 { s with heap := h1', toks := tk1 } (forZ bodyF ws ρ H1) ev s' → ExcS κ η s (forZ bodyF ws ρ H1) ev s' := fun o => o.after st1.up
  cases ws with
  | nil => exact absurd rfl hne
  | cons v ws =>
    cases ws with
    | nil => exact absurd rfl hne
    | cons w ws =>
      cases ws with
      | cons => exact absurd rfl hne
      | nil =>
        obtain ⟨mv, mw, rfl⟩ := two_of (v := v) (w := w) hlen
        unfold forZ at hne
        dsimp only at hne
        cases hxs : listAt v H1 with
        | none => rw [hxs] at hne; exact absurd rfl hne
        | some xs =>
          rw [hxs] at hne
          cases w with
          | tup ys =>
            dsimp only at hne
            by_cases hL : xs.length = ys.length
            · have er : forZ bodyF [v, .tup ys] ρ H1 = forL bodyF (fun H' => sameO v H1 H' && isOwn H'[H1.length]?) (pairsZ xs ys) ρ (H1 ++ [.own]) := by
                unfold forZ; dsimp only; rw [hxs]; exact if_pos hL
              rw [if_pos hL] at hne
              refine monoN (forZ_core (a.hand hd) a1 (p1 (v, mv) (List.Mem.head _)) (p1 (.tup ys, mw) (List.Mem.tail _ (List.Mem.head _))) hxs hL turnOK hne (R := fun r s' => match r with | .ok f => OutS κ η s (forZ bodyF [v, .tup ys] ρ H1) f s' | .error e => cameBackBy κ.X.M κ.A κ.env (ExcS κ η s (forZ bodyF [v, .tup ys] ρ H1)) e s') (fun f s' o => out (by rw [er]; exact o)) fun ev s' o => o.back G.st G.fr a1 fun ev s' o => exc (by rw [er]; exact o)) fun z s1 h => monoN h fun _ _ h => h
            · rw [if_neg hL] at hne; exact absurd rfl hne
          | _ => exact absurd rfl hne

end

section
variable {outer : List Env} {L : Addr}
theorem locals_turn {X : Cx} {η : List Addr} {env : Env} {fr : List Addr} {h h' : Heap} {m' : Str → Option Value} (fok : FrameOK X η h env) (hn' : h'.Ns env.locals m') (hsb : Heap.SameBut env.locals h h') : Step fr (ownOf env) η h η h' := by
  have hc : env.locals ∈ ownOf env := List.Mem.head _
  obtain ⟨m, o0, es0, k0, e0, d0, _⟩ := fok.ns
  obtain ⟨o1, es1, k1, e1, d1, _⟩ := hn'
  have alive : ∀ b o, h.get? b = some o → ∃ o', h'.get? b = some o' := by
    intro b o e
    by_cases hb : b = env.locals
    · subst hb; exact ⟨o1, e1⟩
    · exact ⟨o, (hsb.2 b hb).trans e⟩
  refine ⟨⟨[], by simp, fun _ q => nomatch q⟩, alive, fun b o e _ ho => ⟨o.slots, (hsb.2 b (fun q => ho (q ▸ hc))).trans e, fun _ => rfl⟩, fun b o e _ es k d => ?_, fun b o e _ w d => ?_⟩
  · by_cases hb : b = env.locals
    · subst hb; exact ⟨o1, es1, k1, e1, d1⟩
    · exact ⟨o, es, k, (hsb.2 b hb).trans e, d⟩
  · by_cases hb : b = env.locals
    · subst hb
      rw [e0] at e; cases e; rw [d0] at d; cases d
    · exact ⟨o, w, (hsb.2 b hb).trans e, d⟩

mutual
theorem exS_ok : ∀ (c : S) (sm : Stmt) (κ : Ct) (ρ : Rho) (H : Hp), FTop κ outer L → isS κ.X.kn κ.X.ex κ.env.scope c sm = true → TriS κ [] (exec sm κ.env) ρ H (exS κ.Γ c ρ H)
  | .asg x c, sm, κ, ρ, H, G, h => by
    obtain ⟨ts, v, pos, rfl, g1⟩ := onSAssign_inv h
    obtain ⟨t, rfl, g2⟩ := one_inv g1
    obtain ⟨pt, rfl, hx⟩ := sName_inv (and_inv g2).1
    obtain ⟨h2, h3⟩ := and_inv (and_inv g2).2
    rw [exS_asg]
    rw [Bool.or_eq_true] at h3
    rcases h3 with h3 | h3
    rotate_left
    · exact asg_comp G.S h2 hx h3
    rw [exec_Assign_Name κ.env _ _ _ _ (swaps_no h3)]
    exact TriS.stand (TriS.expr (evE_ok c v κ ρ H G.S h2) fun w H1 mw _ _ => TriS.stand (TriS.store m0 hx TriS.next))
  | .unpack xs c, sm, κ, ρ, H, G, h => by
    obtain ⟨ts, v, pos, rfl, g1⟩ := onSAssign_inv h
    obtain ⟨g0, g2⟩ := and_inv g1
    obtain ⟨t, rfl, h1⟩ := one_inv g0
    obtain ⟨es, k, q, rfl, hx⟩ := onTuple_inv h1
    obtain ⟨h2, g3⟩ := and_inv g2
    obtain ⟨h3, h4⟩ := and_inv g3
    rw [exS_unpack]
    cases hd : κ.Γ.hd with
    | true => exact TriS.stuck
    | false =>
    rw [if_neg (by decide)]
    refine TriS.via (fun Q E s q _ => Assign_Tuple q (by unfold swapsWithSole; exact swaps_no h3) (swapped_no h4)) (evE_ok c v κ ρ H G.S h2) fun w H1 mw _ _ hs η s Q E a hv hq he => ?_
    unfold unpackV at hs hq
    cases hp : partsV w H1 with
    | none => rw [hp] at hs; exact absurd rfl hs
    | some ws =>
      rw [hp] at hs hq
      dsimp only at hs hq
      cases hset : setAll xs ws ρ with
      | none => rw [hset] at hs; exact absurd rfl hs
      | some ρ' =>
        rw [hset] at hq
        exact unpack_ok (a.hand hd) hx hp hset (hv _ m0) a fun h2 tk2 x2 i2 en2 => hq .next _ ⟨ρ', H1, rfl, η, h2, tk2, rfl, i2, x2, en2⟩
  | .setattr o a c, sm, κ, ρ, H, G, h => by
    obtain ⟨ts, v, pos, rfl, g1⟩ := onSAssign_inv h
    obtain ⟨g0, g2⟩ := and_inv g1
    obtain ⟨t, rfl, h1⟩ := one_inv g0
    obtain ⟨o', nm, q, rfl, g3⟩ := onAttribute_inv h1
    obtain ⟨h2, g4⟩ := and_inv g2
    obtain ⟨h3, h4⟩ := and_inv g4
    rw [exS_setattr, plainObj_exec_Assign_Attribute _ _ _ _ _ (swaps_no h3)]
    refine TriS.stand (TriS.expr (evE_ok c v κ ρ H G.S h2) fun w H1 mw _ _ => ?_)
    rw [beq_iff_eq.mp (and_inv g3).1, assign_Attribute]
    simp only [bind_assoc]
    refine TriS.expr (Tri.holding ((evE_ok o o' κ ρ H1 G.S (and_inv g3).2).any)) fun u H2 mu _ _ => TriS.stand ?_
    refine TriS.expr (Tri.holding (set_ok m0 (m1 m0) h4)) fun _ H3 _ _ _ => ?_
    exact TriS.skip (a₀ := ()) (fun Q E s q Γ' p _ => by show Sem.wp _ _ (release _ _) _ _ _ _; unfold release; rw [Sem.wp_release_go]; exact q) TriS.next
  | .ret c, sm, κ, ρ, H, G, h => by
    obtain ⟨e, pos, rfl, g1⟩ := onSReturn_inv h
    obtain ⟨e, rfl, h1⟩ := someE_inv g1
    rw [exec_Return_some, exS_ret]
    exact TriS.stand (TriS.expr (evE_ok c e κ ρ H G.S h1) fun w H1 mw _ _ => TriS.ret m0)
  | .iff t a b, sm, κ, ρ, H, G, h => by
    obtain ⟨t', a', b', pos, rfl, g1⟩ := onSIf_inv h
    obtain ⟨h1, g2⟩ := and_inv g1
    obtain ⟨h2, h3⟩ := and_inv g2
    rw [exS_iff, exec_If]
    refine TriS.stand (TriS.expr (testE_ok t t' κ ρ H G.S h1) fun c H1 c' _ hc => ?_)
    have hc' : c' = c := hc
    subst hc'
    cases c' with
    | true => exact (exSs_ok a a' κ ρ H1 G h2).any
    | false => exact (exSs_ok b b' κ ρ H1 G h3).any
  | .for1 x c b, sm, κ, ρ, H, G, h => by
    obtain ⟨t, e, b', els, pos, rfl, g1⟩ := onSFor_inv h
    obtain ⟨h0, g2⟩ := and_inv g1
    obtain ⟨h1, g3⟩ := and_inv g2
    obtain ⟨h2, g4⟩ := and_inv g3
    obtain ⟨h3, h4⟩ := and_inv g4
    obtain ⟨pt, rfl, hx⟩ := sName_inv h1
    rw [List.isEmpty_iff.mp h0, exS_for1]
    cases hd : κ.Γ.hd with
    | true => exact TriS.stuck
    | false =>
    rw [if_neg (by decide)]
    refine TriS.via (fun Q E s q _ => wpAny_For q (folded_no h3)) (evE_ok c e κ ρ H G.S h2) fun v H1 mv _ _ hs η s Q E a hv hq he => ?_
    exact monoN (forV_ok (a.hand hd) (R := fun r s' => match r with | .ok f => Q f s' | .error e => cameBackBy κ.X.M κ.A κ.env E e s') a (hv _ m0) hs (fun v mv ρ H hb η s a rv => wpAny_assign_Name (wpAny_store a hx rv fun h2 tk2 x2 i2 en2 => wpAny_mono (exSs_ok b b' κ (setL x v ρ) H G h4 hb η _ (a.stepS x2 i2 en2 tk2) fun _ q => nomatch q) (fun f s3 h3 => h3.after x2) fun ev s3 h3 => h3.after x2))
      (fun _ q => wpAny_pure q) hq fun ev s' o => o.back G.st G.fr a he) fun _ _ q => q
  | .forZ xs cs b, sm, κ, ρ, H, G, h => by
    obtain ⟨t, e, b', els, pos, rfl, g1⟩ := onSFor_inv h
    obtain ⟨h0, g2⟩ := and_inv g1
    obtain ⟨h1, g3⟩ := and_inv g2
    obtain ⟨h2, h4⟩ := and_inv g3
    obtain ⟨es, k, q, rfl, hx⟩ := onTuple_inv h1
    obtain ⟨fn, args, kws, cp, rfl, g5⟩ := onCall_inv h2
    obtain ⟨h5, g6⟩ := and_inv g5
    obtain ⟨h6, h7⟩ := and_inv g6
    obtain ⟨pn, rfl, _⟩ := gName_inv h6
    rw [List.isEmpty_iff.mp h0, List.isEmpty_iff.mp h5, exS_forZ]
    cases hd : κ.Γ.hd with
    | true => exact TriS.stuck
    | false =>
    rw [if_neg (by decide)]
    exact forZ_ok G hd h6 h7 fun v mv ρ H hb η s a rv => turn_unpack (a.hand hd) hx (fun ρ H => exSs_ok b b' κ ρ H G h4) hb a rv
  | .expr c, sm, κ, ρ, H, G, h => by
    obtain ⟨e, pos, rfl, g1⟩ := onSExpr_inv h
    obtain ⟨h1, h2⟩ := and_inv g1
    rw [exS_expr]
    exact TriS.via (fun Q E s q hk => wpAny_Expr_any q (by unfold interactive; rw [hk]; rfl) (swaps_no h2)) (evE_ok c e κ ρ H G.S h1) fun w H1 mw _ _ hs η s Q E a hv hq he => hq .next s (nextS a)
  | .raise c msg, sm, κ, ρ, H, G, h => by
    obtain ⟨e, cause, pos, rfl, g1⟩ := onSRaise_inv h
    obtain ⟨h1, g2⟩ := and_inv g1
    obtain ⟨h2, g3⟩ := and_inv g2
    obtain ⟨a, rfl, g4⟩ := someE_inv g3
    obtain ⟨fn, args, kws, cpos, rfl, g5⟩ := onCall_inv g4
    obtain ⟨h3, g6⟩ := and_inv g5
    obtain ⟨h4, g7⟩ := and_inv g6
    obtain ⟨a, rfl, g8⟩ := one_inv g7
    obtain ⟨m, kk, pp, rfl, h5⟩ := strC_inv g8
    obtain ⟨np, rfl, hg, hd1, hk⟩ := gName_inv h4
    rw [Option.isNone_iff_eq_none.mp h1, List.isEmpty_iff.mp h3, exS_raise]
    cases hh : κ.Γ.hd with
    | true => exact TriS.stuck
    | false =>
    rw [if_neg (by decide)]
    intro _ η s a _
    obtain ⟨C, bm, N, nm, q, bs, hdct, sn, sub, ab, col, dd, k0, k1, k2, k3, k5, mN, e1, hC, hN, hni, TL, _⟩ := κ.X.own c h2
    refine wpAny_Raise_call_subT (C := C) (nm := nm) (q := q) (N := N) (bs := bs) (bm := bm) (hdct := hdct) (sn := sn) (sub := sub) (ab := ab) (col := col) (dd := dd) (k0 := k0) (k1 := k1) (k2 := k2) (k3 := k3) (k5 := k5)
      F.excBase_ValueError (mN := mN) (TL.hasType F.excBase_ValueError.hasBase) (a.hand hh) rfl hni (wpAny_glob a rfl hg hd1 (.inl e1) ⟨rfl, ?_⟩)
    refine PySem.Calls.evalArgs_plain (PySem.Calls.spliced_cons (PySem.Calls.Constant_str (k := kk) (pos := pp) (PySem.Calls.spliced_nil ?_)))
    have kp := a.inv.keep
    refine ⟨rfl, (show (1 : Nat) ≤ sizeLine by decide), kp _ _ hC, hN.keeps kp, TL.keeps kp, fun h' e mk => ?_⟩
    obtain ⟨t, g1, g2, g3⟩ := mk.there
    have ne : e ∉ η := fun q => by obtain ⟨o, z⟩ := a.inv.alive q; have := mk.new; rw [z] at this; cases this
    refine ⟨c, ρ, H, rfl, η, h', _, rfl, a.inv.ext mk.keeps, Step.ext _ _ _ mk.keeps, a.ends (Step.ext _ _ _ mk.keeps) (a.inv.ext mk.keeps), e, _, _, C, rfl, g1, ⟨e1, h2⟩, ⟨rfl, rfl⟩, rfl, ne, mk.new, (show 4 < 6 by decide), .inl rfl⟩
  | .ifRep l k x a b o, sm, κ, ρ, H, G, h => by
    obtain ⟨t', a', b', pos, rfl, g1⟩ := onSIf_inv h
    obtain ⟨h0, g2⟩ := and_inv g1
    obtain ⟨g3, g4⟩ := and_inv g2
    obtain ⟨l', ops, rs, cp, rfl, g5⟩ := onCompare_inv g3
    obtain ⟨h1, g6⟩ := and_inv g5
    obtain ⟨h2, g7⟩ := and_inv g6
    obtain ⟨r', rfl, h3⟩ := one_inv g7
    obtain ⟨r, rfl, g8⟩ := one_inv g4
    obtain ⟨e, rp, rfl, g9⟩ := onSReturn_inv g8
    obtain ⟨e, rfl, g10⟩ := someE_inv g9
    obtain ⟨fn, args, kws, p, rfl, g11⟩ := onCall_inv g10
    obtain ⟨h4, g12⟩ := and_inv g11
    obtain ⟨g13, h5⟩ := and_inv g12
    obtain ⟨o', nm, ap, rfl, g14⟩ := onAttribute_inv g13
    obtain ⟨h6, g15⟩ := and_inv g14
    obtain ⟨h7, h8⟩ := and_inv g15
    obtain ⟨id, np, rfl, hv⟩ := isE_var h7
    rw [List.isEmpty_iff.mp h0, List.isEmpty_iff.mp h4, beq_iff_eq.mp h1, beq_iff_eq.mp h6, exS_ifRep]
    cases hd : κ.Γ.hd with
    | true => exact TriS.stuck
    | false =>
    rw [if_neg (by decide)]
    exact ifRep_ok G.S h2 h3 hv h5 h8
  | .tryE b hs, sm, κ, ρ, H, G, h => by
    obtain ⟨b', hs', els, fin, pos, rfl, g1⟩ := onSTry_inv h
    obtain ⟨h1, g2⟩ := and_inv g1
    obtain ⟨h2, g3⟩ := and_inv g2
    obtain ⟨h3, g4⟩ := and_inv g3
    obtain ⟨h4, hHs⟩ := and_inv g4
    rw [List.isEmpty_iff.mp h1, List.isEmpty_iff.mp h2, exS_tryE]
    cases hs' with
    | nil => exact ff h3
    | cons h0' hs' =>
    cases hh : κ.Γ.hd with
    | true => exact TriS.stuck
    | false =>
    rw [if_neg (by decide)]
    intro hne η s a hv
    refine wpAny_Try_except (wpAny_mono (exSs_ok b b' κ ρ H G h4 (fun q => hne (by rw [q]; rfl)) η s a hv) (fun f s1 hf => ?_) fun ev s1 hx => ?_)
    · cases f with
      | next => obtain ⟨ρ', H', e, P⟩ := hf; exact wpAny_pure ⟨ρ', H', by rw [e]; rfl, P⟩
      | ret mv => obtain ⟨v, H', e, P⟩ := hf; exact ⟨v, H', by rw [e]; rfl, P⟩
      | _ => exact hf.elim
    · obtain ⟨c, ρ1, H1, e, η1, h', tk, rfl, i, x1, en, ex⟩ := hx
      rw [e] at hne ⊢
      replace hne : exH { κ.Γ with hd := true } c hs ρ1 H1 ≠ .stuck := hne
      show wpAny _ _ _ _ _ _
      have stk1 : Stk κ.X η1 κ.A κ.st h' := a.stk.step x1
      rw [G.st] at ex
      refine wpAny_land (s := { s with heap := h', toks := tk }) G.fr (G.st ▸ stk1) i ex x1.alive (fun b o g => ⟨o, a.inv.keep b o g⟩) fun h2 es e T hev sf hes i2 tr => ?_
      rw [← G.st] at sf
      have en2 := sf.ends stk1.frm en
      subst hev
      exact exH_ok hs (h0' :: hs') κ ρ1 H1 c G hHs hne η s η1 { s with heap := h2, toks := tk } e T (sf.step stk1.frm x1 hes) rfl ⟨i2, en2.1, en2.2, sf.stk stk1, a.room, a.hand⟩ tr (fun b o g => ⟨o, a.inv.keep b o g⟩)
theorem exSs_ok : ∀ (cs : List S) (sms : List Stmt) (κ : Ct) (ρ : Rho) (H : Hp), FTop κ outer L → isSs κ.X.kn κ.X.ex κ.env.scope cs sms = true → TriS κ [] (execs sms κ.env) ρ H (exSs κ.Γ cs ρ H)
  | [], sms, κ, ρ, H, G, h => by
    cases sms with
    | nil => exact TriS.next
    | cons => cases h
  | c :: cs, sms, κ, ρ, H, G, h => by
    cases sms with
    | nil => cases h
    | cons sm sms =>
      obtain ⟨h1, h2⟩ := and_inv h
      rw [exSs_cons]
      exact TriS.seq (exS_ok c sm κ ρ H G h1) fun ρ1 H1 e => exSs_ok cs sms κ ρ1 H1 G h2
theorem exH_ok : ∀ (hs : List (String × Option String × List S)) (hms : List ExceptHandler) (κ : Ct) (ρ : Rho) (H : Hp) (c : String), FTop κ outer L → isHs κ.X.kn κ.X.ex κ.env.scope hs hms = true → exH { κ.Γ with hd := true } c hs ρ H ≠ .stuck →
    ∀ (η0 : List Addr) (s0 : Shared) (η : List Addr) (s : Shared) (e T : Addr), Step (frs κ.st) (ownOf κ.env) η0 s0.heap η s.heap → s = { s0 with heap := s.heap, toks := s.toks } → At κ η ρ H s → TracedX κ.X s0.heap e c T .none η s.heap → (∀ b o, κ.X.base.get? b = some o → ∃ o', s0.heap.get? b = some o') →
      wpAny κ.X.M κ.A (handleBy (.ref e) κ.env hms) (OutS κ η0 s0 (exH { κ.Γ with hd := true } c hs ρ H)) (ExcS κ η0 s0 (exH { κ.Γ with hd := true } c hs ρ H)) s
  | [], hms, κ, ρ, H, c, G, h, hne, η0, s0, η, s, e, T, x, hs0, a, tr, hb0 => by
    cases hms with
    | cons => exact ff h
    | nil =>
      refine wpAny_handleBy_nil (wpAny_passOn (H := H) (outer := outer) G.fr tr fun h' sf fT ex => ?_)
      rw [← G.st] at sf ex
      have fT' := one_none fT
      have fB : ∀ b ∈ [T], κ.X.base.get? b = Option.none := fun b hb => by
        rw [List.mem_singleton] at hb; subst hb
        obtain ⟨oe, vs, C, oT, ts, q1, q2, q3, q4, q5, q6, q7, q8, q9, q10, q11, q12, q13, q14, q15⟩ := tr
        cases g : κ.X.base.get? b with
        | none => rfl
        | some o =>
          obtain ⟨o', g'⟩ := hb0 b o g
          rw [q14] at g'; cases g'
      rw [hs0]
      exact ⟨c, ρ, H, by rw [exH_nil], η, h', s.toks, rfl, sf.inv a.stk.frm a.inv fB a.stk.fresh a.stk.off, sf.step a.stk.frm x fT', sf.ends a.stk.frm ⟨a.fok, a.rho⟩, ex⟩
  | (K, nm, b) :: r, hms, κ, ρ, H, c, G, h, hne, η0, s0, η, s, e, T, x, hs0, a, tr, hb0 => by
    obtain ⟨t, nm', b0, b', pos, r', rfl, h1, h2, h3, h4, h5⟩ := isHs_inv h
    obtain ⟨np, rfl, hg, hd1, hk⟩ := gName_inv h1
    obtain ⟨oe, vs, C, oT, ts, q1, q2, q3, q4, q5, q6, q7, q8, q9, q10, q11, q12, q13, q14, q15⟩ := id tr
    obtain ⟨C', bm, N, nn, q, bs, hdct, sn, sub, ab, col, dd, k0, k1, k2, k3, k5, mN, e1, hC, hN, hni, TL, hsub⟩ := κ.X.own c q2.2
    have eC : C' = C := by rw [q2.1] at e1; cases e1; rfl
    subst eC
    obtain ⟨D, bm', N', nn', q', bs', hdct', sn', sub', ab', col', dd', k0', k1', k2', k3', k5', mN', e1', hD, hN', hni', TL', _⟩ := κ.X.own K h2
    have hb := hsub K D h2 e1'
    have aM : At (κ.mark e) η ρ H s := ⟨a.inv, a.fok, a.rho, ⟨a.stk.frames, a.stk.ok, a.stk.off, a.stk.frm⟩, ⟨a.room.depth, a.room.units⟩, fun q => nomatch q⟩
    refine wpAny_handleBy_cons (codeAny_handlers_test (wpAny_glob aM rfl hg hd1 (.inl e1') ?_)) (by intro q; cases q)
    have keyed : ∀ {Q : Bool → Shared → Prop} {E : Value → Shared → Prop}, Q (excIs c K) s → wpAny κ.X.M (κ.A.mark (some (.ref e))) (excMatches (.ref e) (.ref D)) Q E s := fun hq => by
      obtain ⟨hp, g, d, tk, os⟩ := s
      exact wpAny_excMatches_own (a.inv.keep _ _ hC) (a.inv.keep _ _ hD) q1 q3.1 (TL'.hasType F.excBase_ValueError.hasBase) hb hq
    refine keyed ?_
    by_cases hx : excIs c K = true
    · rw [hx]
      show codeAny _ _ (.handlers _ _ _) _ _
      cases nm with
      | none =>
        cases nm' with
        | some => exact ff h3
        | none =>
          rw [exH_cons, if_pos hx] at hne ⊢
          refine codeAny_handlers_suite (wpAny_land2 tr fun h' same => ?_)
          have k : ∀ b o, s.heap.get? b = some o → h'.get? b = some o := fun b o g => (same b).trans g
          have a3 := aM.step (Step.ext _ _ _ k) (a.inv.ext k) s.toks
          have x3 : Step (frs κ.st) (ownOf κ.env) η0 s0.heap η h' := x.trans (Step.ext _ _ _ k)
          refine wpAny_mono (exSs_ok b (b0 :: b') (κ.mark e) ρ H ⟨G.st, G.fr, G.S.const, G.S.call⟩ h4 (fun q => hne (by rw [q]; rfl)) η _ a3 (fun _ q => nomatch q)) (fun f s1 hf => ?_) fun ev s1 hx => ?_
          · rw [hs0] at hf
            cases f with
            | next => obtain ⟨ρ', H', e, P⟩ := hf; exact ⟨ρ', H', by rw [e]; rfl, P.trans (s := s0) x3 fun _ _ q => q⟩
            | cont => exact hf.elim
            | brk => exact hf.elim
            | ret mv => obtain ⟨v, H', e, P⟩ := hf; exact ⟨v, H', by rw [e]; rfl, P.trans (s := s0) x3 fun _ _ q => q⟩
          · obtain ⟨c', ρ', H', e', _⟩ := hx
            exact absurd (by rw [e']; rfl) hne
      | some y =>
        cases nm' with
        | none => cases h3
        | some y' =>
          rw [exH_as, if_pos hx] at hne ⊢
          have h3 : (y' == Str.ofString y && κ.env.scope.names.lookup y' == some .local) = true := h3
          simp only [Bool.and_eq_true, beq_iff_eq] at h3
          obtain ⟨rfl, hl⟩ := h3
          have hst' : isSt κ.env.scope (Str.ofString y) = true := by unfold isSt; rw [hl]
          refine codeAny_handlers_suite_as (wpAny_land2 tr fun h' same => ?_)
          have k : ∀ b o, s.heap.get? b = some o → h'.get? b = some o := fun b o g => (same b).trans g
          have a3 := aM.step (Step.ext _ _ _ k) (a.inv.ext k) s.toks
          have x3 : Step (frs κ.st) (ownOf κ.env) η0 s0.heap η h' := x.trans (Step.ext _ _ _ k)
          have ve : VR κ.X η h' (.exc c) (.ref e) := .exc (k _ _ q1) q3 q4 q2 q5
          refine wpAny_store a3 hst' ve fun h2 tk2 x4 i4 en4 => ?_
          have a4 := a3.stepS x4 i4 en4 tk2
          refine wpAny_mono (exSs_ok b (b0 :: b') (κ.mark e) (setL y (.exc c) ρ) H ⟨G.st, G.fr, G.S.const, G.S.call⟩ h4 (fun q => hne (by rw [q]; rfl)) η _ a4 (fun _ q => nomatch q)) (fun f s1 hf => ?_) fun ev s1 hx => ?_
          · rw [hs0] at hf
            cases f with
            | next => obtain ⟨ρ', H', e, P⟩ := hf; exact absurd (by rw [e]; rfl) hne
            | cont => exact hf.elim
            | brk => exact hf.elim
            | ret mv =>
              obtain ⟨v, H', eR, η5, h5, tk5, rfl, i5, x5, fo5, r5⟩ := hf
              obtain ⟨m5, hn5⟩ := fo5.ns
              refine wpAny_nameGoes (env := κ.env) hl hn5 (by rw [a.fok.kind]; rfl) fun h6 m6 hn6 hsb => ?_
              have x6 : Step (frs κ.st) (ownOf κ.env) η5 h5 η5 h6 := locals_turn fo5 hn6 hsb
              have x05 := (x3.trans x4).trans x5
              have stk5 : Stk κ.X η5 (κ.A.mark (some (.ref e))) κ.st h5 := Stk.step (s := { s with heap := h2, toks := tk2 }) x5 a4.stk
              have frm5 : Frm h5 (ownOf κ.env ++ frs κ.st) := fun b hb => (List.mem_append.mp hb).elim (FrameOK.frm (s := { s with heap := h5 }) fo5 b) (stk5.frm b)
              have off5 : ∀ b ∈ ownOf κ.env ++ frs κ.st, κ.X.base.get? b = Option.none := fun b hb => (List.mem_append.mp hb).elim (fun h => (fo5.off b h).2) (Stk.fresh (s := { s with heap := h5 }) stk5 b)
              have cel : ∀ p ∈ κ.env.cells, p.2 ≠ κ.env.locals := fun p hp q => by
                obtain ⟨o, w, e, d⟩ := fo5.cell p hp
                obtain ⟨o', es', k', e', d', _⟩ := hn5
                rw [q, e'] at e; cases e; rw [d'] at d; cases d
              refine ⟨v, H', by rw [eR]; rfl, η5, h6, _, rfl, i5.still x6 frm5 (fun b hb o g => (hsb.2 b (fun q => (fo5.off _ (List.Mem.head _)).1 (q ▸ hb))).trans g) off5, x05.trans x6, ?_, r5.step x6 frm5⟩
              exact ⟨fo5.kind, fo5.glob, fo5.blt, ⟨_, hn6⟩, fun p hp => let ⟨o, w, e, d⟩ := fo5.cell p hp; ⟨o, w, (hsb.2 _ (cel p hp)).trans e, d⟩, fo5.cells, fo5.inj, fo5.off⟩
          · obtain ⟨c', ρ', H', e', _⟩ := hx
            exact absurd (by rw [e']; rfl) hne
    · have hx' : excIs c K = false := by simpa using hx
      rw [hx']
      show wpAny _ _ (handleBy _ _ _) _ _ _
      have er : exH { κ.Γ with hd := true } c ((K, nm, b) :: r) ρ H = exH { κ.Γ with hd := true } c r ρ H := by
        cases nm <;> simp only [exH_cons, exH_as] <;> rw [hx', if_neg Bool.false_ne_true]
      rw [er] at hne ⊢
      exact exH_ok r r' κ ρ H c G h5 hne η0 s0 η s e T x hs0 a tr hb0
end
end
end Mine

/-! R14 -/
namespace Mine
open PySem PyProof.Rows PySem.W

theorem bindL_at (kd : Str → Option NameKind) : ∀ (bs : List (Str × Value)) (m : Str → Option Value) (x : Str), (bs.map (·.1)).Nodup → kd x = some .local →
    bindL kd bs m x = match bs.lookup x with | some v => some v | none => m x
  | [], m, x, _, _ => rfl
  | (n, v) :: r, m, x, hn, hk => by
    rw [List.map_cons, List.nodup_cons] at hn
    rw [bindL, bindL_at kd r _ x hn.2 hk, List.lookup_cons]
    by_cases hx : x = n
    · subst hx
      have : r.lookup x = none := by
        cases e : r.lookup x with
        | none => rfl
        | some w => exact absurd (List.mem_map.mpr ⟨(x, w), lookup_mem e, rfl⟩) hn.1
      rw [this, if_pos hk]; simp
    · have hb : (x == n) = false := by simpa using hx
      rw [hb]
      have e : (if kd n = some NameKind.local then fun y => if y = n then some v else m y else m) x = m x := by split <;> simp [hx]
      rw [e]

theorem bindC_at (kd : Str → Option NameKind) : ∀ (bs : List (Str × Value)) (m : Str → Option Value) (x : Str), (bs.map (·.1)).Nodup → kd x = some .cell →
    bindC kd bs m x = match bs.lookup x with | some v => some v | none => m x
  | [], m, x, _, _ => rfl
  | (n, v) :: r, m, x, hn, hk => by
    rw [List.map_cons, List.nodup_cons] at hn
    rw [bindC, bindC_at kd r _ x hn.2 hk, List.lookup_cons]
    by_cases hx : x = n
    · subst hx
      have : r.lookup x = none := by
        cases e : r.lookup x with
        | none => rfl
        | some w => exact absurd (List.mem_map.mpr ⟨(x, w), lookup_mem e, rfl⟩) hn.1
      rw [this, if_neg (by rw [hk]; intro q; cases q)]; simp
    · have hb : (x == n) = false := by simpa using hx
      rw [hb]
      have e : (if kd n = some NameKind.local then m else fun y => if y = n then some v else m y) x = m x := by split <;> simp [hx]
      rw [e]

theorem setAll_lookup : ∀ (xs : List String) (ws : List V) (ρ ρ' : Rho), setAll xs ws ρ = some ρ' → xs.Nodup → xs.length = ws.length ∧ ∀ y v, ρ'.lookup y = some v → (∃ j : Nat, xs[j]? = some y ∧ ws[j]? = some v) ∨ ρ.lookup y = some v
  | [], [], ρ, ρ', e, _ => by cases e; exact ⟨rfl, fun y v h => .inr h⟩
  | [], _ :: _, _, _, e, _ => by cases e
  | _ :: _, [], _, _, e, _ => by cases e
  | x :: xs, w :: ws, ρ, ρ', e, hn => by
    rw [List.nodup_cons] at hn
    obtain ⟨hl, h⟩ := setAll_lookup xs ws (setL x w ρ) ρ' e hn.2
    refine ⟨by rw [List.length_cons, List.length_cons, hl], fun y v hy => ?_⟩
    rcases h y v hy with ⟨j, h1, h2⟩ | h1
    · exact .inl ⟨j + 1, h1, h2⟩
    · rw [lookup_setL] at h1
      split at h1
      · rename_i hyx
        cases h1
        exact .inl ⟨0, by rw [hyx]; rfl, rfl⟩
      · exact .inr h1

theorem zip_lookup {xs : List String} {ms : List Value} (hn : xs.Nodup) : ∀ {j : Nat} {y : String} {m : Value}, xs[j]? = some y → ms[j]? = some m → ((xs.map Str.ofString).zip ms).lookup (Str.ofString y) = some m := by
  induction xs generalizing ms with
  | nil => intro j y m h; simp at h
  | cons x xs ih =>
    intro j y m h1 h2
    rw [List.nodup_cons] at hn
    cases ms with
    | nil => simp at h2
    | cons m0 ms =>
      rw [List.map_cons, List.zip_cons_cons, List.lookup_cons]
      cases j with
      | zero => cases h1; cases h2; simp
      | succ j =>
        have hyx : Str.ofString y ≠ Str.ofString x := fun q => hn.1 (ofString_inj q ▸ List.mem_of_getElem? h1)
        have hb : (Str.ofString y == Str.ofString x) = false := by simpa using hyx
        rw [hb]
        exact ih hn.2 h1 h2

theorem Step.leave {fr own η η' : List Addr} {h h1 h' : Heap} {L : Addr} (k : ∀ b o, h.get? b = some o → h1.get? b = some o) (x : Step (L :: fr) own η h1 η' h') (hL : h.get? L = Option.none) (ho : ∀ b ∈ own, h.get? b = Option.none) : Step fr [] η h η' h' := by
  have no : ∀ b o, h.get? b = some o → b ∉ own := fun b o e q => by rw [ho b q] at e; cases e
  have nl : ∀ b o, h.get? b = some o → b ≠ L := fun b o e q => by rw [q, hL] at e; cases e
  refine ⟨?_, fun b o e => x.alive b o (k b o e), fun b o e hb _ => let ⟨sl, e1, q⟩ := x.data b o (k b o e) hb (no b o e); ⟨sl, e1, fun z => q fun y => (List.mem_cons.mp y).elim (nl b o e) z⟩,
    fun b o e hb => x.dicts b o (k b o e) hb, fun b o e hb => x.cells b o (k b o e) hb⟩
  obtain ⟨l, e, hl⟩ := x.pre
  refine ⟨l, e, fun a ha => ?_⟩
  cases q : h.get? a with
  | none => rfl
  | some o => have := k a o q; rw [hl a ha] at this; cases this

structure DefAt (X : Cx) (d : Def) (a : Addr) (body : List Stmt) (scope : Scope) : Prop where
  obj : ∃ o fd, X.base.get? a = some o ∧ o.data = .func fd ∧ fd.body = .stmts body ∧ fd.scope = scope ∧ fd.globals = mainGlobals ∧ fd.closure = [] ∧ fd.builtins = builtinsNs ∧ X.base.CodeRec fd.code fd.qualname ∧
    ∀ ms : List Value, ms.length = d.params.length → bindArgs fd ⟨ms, []⟩ = pure ((d.params.map Str.ofString).zip ms)
  bodyOk : isSs X.kn X.ex scope d.body body = true
  kind : scope.kind = .function
  gen : scope.isGenerator = false
  co : scope.isCoroutine = false
  st : (d.params.all fun x => isSt scope (Str.ofString x)) = true
  nodup : d.params.Nodup
  cells : ((cellsFrom 0 scope.names []).map (·.1)).Nodup

noncomputable def RunOK (X : Cx) (n : Nat) (fv : Value) (ws : List V) (H : Hp) (r : R V) : Prop :=
  ∀ (A : Around) (st : List Env) (η : List Addr) (s : Shared) (ms : List Value), A.depth + 1 + 2 * n < recursionLimit → A.units + 3 + 8 * n + 300 < cLine → A.handled = Option.none → Inv X η H s.heap → Stk X η A st s.heap →
    ws.length = ms.length → (∀ p ∈ ws.zip ms, VR X η s.heap p.1 p.2) →
    codeAny X.M A (.call fv ⟨ms, []⟩) (fun res s' => match res with
      | .ok (.ret mv) => RetAt X st η s r mv s'
      | .ok _ => False
      | .error ev => RaiseAt X st η s r ev s') s

theorem pairwise_snd {l : List (Str × Addr)} (h : l.Pairwise fun x y => x.2 ≠ y.2) {a b : Str} {c d : Addr} (ha : (a, c) ∈ l) (hb : (b, d) ∈ l) (hab : a ≠ b) : c ≠ d := by
  induction l with
  | nil => cases ha
  | cons p l ih =>
    rw [List.pairwise_cons] at h
    rcases List.mem_cons.mp ha with e | ha2
    · subst e
      rcases List.mem_cons.mp hb with hb | hb
      · injection hb with h1 h2; exact absurd h1.symm hab
      · exact h.1 _ hb
    · rcases List.mem_cons.mp hb with e | hb2
      · subst e; exact (h.1 _ ha2).symm
      · exact ih h.2 ha2 hb2
theorem nodup_map_inj {α β : Type} {f : α → β} (hf : ∀ a b, f a = f b → a = b) : ∀ {l : List α}, l.Nodup → (l.map f).Nodup
  | [], _ => List.nodup_nil
  | a :: l, h => by
    rw [List.nodup_cons] at h
    rw [List.map_cons, List.nodup_cons]
    refine ⟨fun q => ?_, nodup_map_inj hf h.2⟩
    obtain ⟨b, hb, e⟩ := List.mem_map.mp q
    exact h.1 (hf _ _ e ▸ hb)

theorem head_frs {env : Env} {outer : List Env} {L : Addr} (h : env.frame = some L) : frs (env :: outer) = L :: frs outer := by unfold frs; rw [List.filterMap_cons, h]

section
variable {X : Cx} {n : Nat} {Γ : Fn}

theorem wpAny_leave {A : Around} {env : Env} {outer : List Env} {η : List Addr} {s : Shared} {h0 : Heap} {ev : Value} {c : String} {L : Addr} {H : Hp} {E : Value → Shared → Prop} {Q : Unit → Shared → Prop} (hf : env.frame = some L)
    (k : Stk X η A (env :: outer) s.heap) (i : Inv X η H s.heap) (x : ExcAt X (env :: outer) h0 ev c η s.heap) (h0k : ∀ b o, h0.get? b = some o → ∃ o', s.heap.get? b = some o') (hb0 : ∀ b o, X.base.get? b = some o → ∃ o', h0.get? b = some o')
    (hq : ∀ h' es, Soft (frs (env :: outer)) es s.heap h' → (∀ b ∈ es, h0.get? b = Option.none) → Inv X η H h' → ExcAt X outer h0 ev c η h' → Q () { s with heap := h' }) : wpAny X.M A (leaving env ev) Q E s := by
  unfold leaving
  exact wpAny_bind (wpAny_land hf k i x h0k hb0 fun h' es e T hev sf hes i2 tr => hq h' es sf hes i2 (hev ▸ tr.exc (.inl rfl)))

theorem run_of_def {d : Def} {a : Addr} {body : List Stmt} {scope : Scope} {ws : List V} {H : Hp} (D : DefAt X d a body scope) (S : SoundFn X n Γ) (hΓ : Γ.hd = false)
    (hs : runDef Γ d ws H ≠ .stuck) : RunOK X n (.ref a) ws H (runDef Γ d ws H) := by
  obtain ⟨o, fd, ho, hdat, hbody, hscope, hglob, hclos, hblt, hcd, hbind⟩ := D.obj
  intro A st η s ms rdep runi hh inv stk hl hv
  cases hρ : setAll d.params ws [] with
  | none => unfold runDef at hs; rw [hρ] at hs; exact absurd rfl hs
  | some ρ =>
    obtain ⟨hlen, hlook⟩ := setAll_lookup _ _ _ _ hρ D.nodup
    have hrun : runDef Γ d ws H = match exSs Γ d.body ρ H with | .next _ H1 => .ok .none H1 | .ret v H1 => .ok v H1 | .raise c _ H1 => .raise c H1 | _ => .stuck := by unfold runDef; rw [hρ]; try rfl
    have hkind : ∀ n, ∀ x ∈ (d.params.map Str.ofString).zip ms, scope.names.lookup x.1 = some .local ∨ (scope.names.lookup x.1 = some .cell ∧ ((cellsFrom n scope.names []).lookup x.1).isSome = true) := by
      intro n x hx
      obtain ⟨y, hy, hyx⟩ := List.mem_map.mp (List.of_mem_zip (show (x.1, x.2) ∈ _ from hx)).1
      have := List.all_eq_true.mp D.st y hy
      rw [hyx] at this
      unfold isSt at this
      split at this
      · exact .inl ‹_›
      · exact .inr ⟨‹_›, cellsFrom_some _ _ _ (.inl ‹_›)⟩
      · cases this
    refine codeAny_call_function (by omega) (inv.keep _ _ ho) hdat (hscope ▸ D.co) (hscope ▸ D.gen) hbody (hcd.keeps inv.keep) ?_
    rw [hbind ms (by rw [← hl, hlen]), hscope, hglob, hclos, hblt]
    refine wpAny_pure (wpAny_newFunctionEnv_cells D.kind (hkind _) fun env he s1 x => ?_)
    have keep := x.toInCall.keep
    obtain ⟨h1, tk, hs1⟩ := x.toInCall.same
    have hsz : env.locals = s.heap.objs.size := by rw [he]; rfl
    refine ⟨((X.nolimit.keeps inv.keep)).keeps keep, codeAny_func ?_⟩
    have hfr : env.frame = some s.heap.objs.size := by rw [he]; rfl
    have hcs : env.cells = cellsFrom (s.heap.objs.size + 1) scope.names [] := by rw [he]; rfl
    have hsc : env.scope = scope := by rw [he]; rfl
    have hko : ∀ y, env.kindOf y = scope.names.lookup y := fun y => by unfold Env.kindOf; rw [hsc]
    have ndc : (env.cells.map (·.1)).Nodup := by rw [hcs]; exact cellsFrom_names scope.names 0 (s.heap.objs.size + 1) [] [] rfl ▸ D.cells
    have look : ∀ p ∈ env.cells, env.cells.lookup p.1 = some p.2 := fun p hp => lookup_of_mem_nodup ndc hp
    have newAddr : ∀ b ∈ ownOf env, s.heap.objs.size ≤ b := fun b hb => by
      rcases List.mem_cons.mp hb with rfl | hb
      · exact Nat.le_of_eq hsz.symm
      · obtain ⟨p, hp, rfl⟩ := List.mem_map.mp hb
        have := x.above p.1 p.2 hp
        rw [hsz] at this
        exact Nat.le_of_lt this
    have ownNone : ∀ b ∈ ownOf env, s.heap.get? b = Option.none := fun b hb => by
      cases e : s.heap.get? b with
      | none => rfl
      | some o => exact absurd (Heap.lt_size e) (Nat.not_lt.mpr (newAddr b hb))
    have ownOff : ∀ b ∈ ownOf env, b ∉ η ∧ X.base.get? b = Option.none := fun b hb => by
      refine ⟨fun q => ?_, ?_⟩
      · obtain ⟨ob, e⟩ := inv.alive q
        rw [ownNone b hb] at e; cases e
      · cases e : X.base.get? b with
        | none => rfl
        | some o => have := inv.keep _ _ e; rw [ownNone b hb] at this; cases this
    have i1 : Inv X η H s1.heap := inv.ext keep
    have fok : FrameOK X η s1.heap env := by
      refine ⟨by rw [hsc]; exact D.kind, by rw [he]; rfl, by rw [he]; rfl, ⟨_, x.toInCall.ns⟩, fun p hp => ?_, fun y hy => ?_, fun y z c h1 h2 => ?_, ownOff⟩
      · obtain ⟨o, e, dd⟩ := x.cell p.1 p.2 (look p hp)
        exact ⟨o, _, e, dd⟩
      · rw [hko] at hy
        have := cellsFrom_some (x := y) scope.names (s.heap.objs.size + 1) [] (.inl hy)
        rw [← hcs] at this
        exact Option.isSome_iff_exists.mp this
      · have m1 := lookup_mem h1
        have m2 := lookup_mem h2
        have hp := x.apart
        by_cases hyz : y = z
        · exact hyz
        · exact absurd rfl (pairwise_snd hp m1 m2 hyz)
    have rho : RhoR X η s1.heap env ρ := by
      intro y v hy hvar
      rcases hlook y v hy with ⟨j, h1', h2'⟩ | h1'
      · obtain ⟨m, hm, rv⟩ := (VRs.of_zip hl hv).get h2'
        have rv' : VR X η s1.heap v m := rv.step (Step.ext [] [] η keep) fun _ q => nomatch q
        have hb := zip_lookup D.nodup h1' hm
        have nd : (((d.params.map Str.ofString).zip ms).map (·.1)).Nodup := by
          rw [List.map_fst_zip (by rw [List.length_map, hlen, hl]; exact Nat.le_refl _)]
          exact nodup_map_inj (fun _ _ q => ofString_inj q) D.nodup
        refine ⟨m, ?_, rv'⟩
        have hst := List.all_eq_true.mp D.st y (List.mem_of_getElem? h1')
        unfold isSt at hst
        split at hst
        · rename_i hk
          refine .inl ⟨(hko _).trans hk, _, x.toInCall.ns, ?_⟩
          rw [bindL_at _ _ _ _ nd ((hko _).trans hk), hb]
        · rename_i hk
          have hkc : env.kindOf (Str.ofString y) = some .cell := (hko _).trans hk
          obtain ⟨c, hc⟩ := fok.cells _ hkc
          obtain ⟨o, e, dd⟩ := x.cell _ c hc
          refine .inr ⟨.inl hkc, c, o, hc, e, ?_⟩
          rw [dd, bindC_at _ _ _ _ nd hkc, hb]
        · cases hst
      · cases h1'
    have stk1 : Stk X η (A.deeper env) (env :: st) s1.heap := by
      have kf : Frm s1.heap (frs st) := fun b hb => let ⟨o, e, q⟩ := stk.frm b hb; ⟨o, keep _ _ e, q⟩
      refine ⟨Around.frames_deeper stk.frames, ?_, fun b hb => ?_, fun b hb => ?_⟩
      · exact Heap.FunFrames.cons (by rw [hsc, D.kind]; decide) hfr (hsz ▸ x.toInCall.ns) (hsz ▸ (ownOff _ (List.Mem.head _)).2) (stk.ok.of_keeps fun b o e _ => ⟨o, keep _ _ e, rfl⟩)
      · rw [head_frs hfr] at hb
        rcases List.mem_cons.mp hb with rfl | hb
        · exact hsz ▸ (ownOff _ (List.Mem.head _)).1
        · exact stk.off b hb
      · rw [head_frs hfr] at hb
        rcases List.mem_cons.mp hb with rfl | hb
        · exact hsz ▸ fok.frm _ (List.Mem.head _)
        · exact kf b hb
    have room1 : Room n (A.deeper env) := ⟨by show A.depth + 1 + 2 * n < _; omega, by show A.units + 3 + 8 * n + 300 < _; omega⟩
    have at1 : At ⟨X, n, A.deeper env, env, env :: st, Γ⟩ η ρ H s1 := ⟨i1, fok, rho, stk1, room1, fun _ => hh⟩
    have hns : exSs Γ d.body ρ H ≠ .stuck := fun q => by rw [hrun, q] at hs; exact hs rfl
    have leaveStep : ∀ {η' h'}, Step (frs (env :: st)) (ownOf env) η s1.heap η' h' → Step (frs st) [] η s.heap η' h' := fun {η' h'} y => by
      rw [head_frs hfr] at y
      exact Step.leave keep y (hsz ▸ ownNone _ (List.Mem.head _)) ownNone
    refine wpAny_mono (exSs_ok d.body body ⟨X, n, A.deeper env, env, env :: st, Γ⟩ ρ H ⟨rfl, hfr, S⟩ (by rw [hsc]; exact D.bodyOk) hns η s1 at1 (fun _ q => nomatch q)) (fun fl s2 hfl => ?_) fun ev s2 hx => ?_
    · cases fl with
      | next =>
        obtain ⟨ρ', H', e, η', h', tk', rfl, i2, stp, _⟩ := hfl
        refine ⟨.none, H', by rw [hrun, e], η', h', tk', by rw [hs1], i2, leaveStep stp, .none⟩
      | cont => exact hfl.elim
      | brk => exact hfl.elim
      | ret mv =>
        obtain ⟨v, H', e, η', h', tk', rfl, i2, stp, _, r⟩ := hfl
        exact ⟨v, H', by rw [hrun, e], η', h', tk', by rw [hs1], i2, leaveStep stp, r⟩
    · obtain ⟨c, ρ', H', e, η', h', tk', rfl, i2, stp, en, ex⟩ := hx
      have stk2 : Stk X η' (A.deeper env) (env :: st) h' := stk1.step (s := s1) stp
      refine wpAny_leave (s := { s1 with heap := h', toks := tk' }) (h0 := s1.heap) hfr stk2 i2 ex stp.alive (fun b o g => ⟨o, i1.keep b o g⟩) fun h2 es sf hes i3 ex3 => ?_
      refine ⟨c, H', by rw [hrun, e], η', h2, tk', by rw [hs1], i3, leaveStep (sf.step stk2.frm stp hes), ?_⟩
      exact (ExcAt.older ex3 fun b o g => ⟨o, keep b o g⟩)

theorem callOK_of_def {d : Def} {f : String} {a : Addr} {body : List Stmt} {scope : Scope} {ws : List V} {H : Hp} (hf : X.mg (Str.ofString f) = some (.ref a)) (D : DefAt X d a body scope) (S : SoundFn X n Γ) (hΓ : Γ.hd = false)
    (hs : runDef Γ d ws H ≠ .stuck) : CallOK X (n + 1) f ws H (runDef Γ d ws H) := by
  obtain ⟨o, fd, ho, hdat, _⟩ := id D.obj
  refine ⟨.ref a, hf, fun A st η s ms room hh inv stk hl hv => ?_⟩
  exact run_of_def D S hΓ hs A st η s ms (by have := room.depth; omega) (by have := room.units; omega) hh inv stk hl hv

theorem under_new (A : Around) (C : Addr) (ms : List Value) : (A.under (.builtin "type.__call__" ⟨.ref C :: ms, []⟩)).frames = A.frames ∧ (A.under (.builtin "type.__call__" ⟨.ref C :: ms, []⟩)).depth ≤ A.depth + 1 ∧
    (A.under (.builtin "type.__call__" ⟨.ref C :: ms, []⟩)).units = A.units + 1 ∧ (A.under (.builtin "type.__call__" ⟨.ref C :: ms, []⟩)).handled = A.handled := ⟨rfl, by show A.depth + 1 ≤ _ ; omega, rfl, rfl⟩

theorem callOK_of_class {d : Def} {c : String} {C fI : Addr} {body : List Stmt} {scope : Scope} {ws : List V} {H : Hp} (hcl : X.cl c = true) (hk : X.kn c = true) (hf : X.mg (Str.ofString c) = some (.ref C)) (ok : ClsOk X.K C fI) (D : DefAt X d fI body scope) (S : SoundFn X n Γ) (hΓ : Γ.hd = false)
    (hs : runClass Γ c d ws H ≠ .stuck) : CallOK X (n + 1) c ws H (runClass Γ c d ws H) := by
  refine ⟨.ref C, hf, fun A st η s ms room hh inv stk hl hv => ?_⟩
  have hrc : runClass Γ c d ws H = (runDef Γ d (.ref (H.length + 1) :: ws) (H ++ [.ns [], .inst c H.length])).bind fun v H1 => match v with | .none => .ok (.ref (H.length + 1)) H1 | _ => .stuck := rfl
  have hK := X.kin.keeps inv.keep
  obtain ⟨h, g, dr, t, os⟩ := s
  refine make_core (makes_of hK ok.makes) (looks_findIn hK ok.init) (fun self => bind_fn hK self ok.fn) (.inl rfl) ?_
  obtain ⟨u1, u2, u3, u4⟩ := under_new A C ms
  have i1 : Inv X (η ++ [h.objs.size]) (H ++ [.ns []]) (h.push emptyDict) := inv.alloc (.ns .nil (by simp)) rfl
  have sz : (h.push emptyDict).objs.size = h.objs.size + 1 := Heap.size_push ..
  have i2 : Inv X (η ++ [h.objs.size] ++ [(h.push emptyDict).objs.size]) (H ++ [.ns []] ++ [.inst c H.length]) ((h.push emptyDict).push (instObj C h.objs.size)) := i1.alloc (.inst hcl hf (by rw [← inv.len]; simp)) rfl
  have st2 : Step (frs st) [] η h (η ++ [h.objs.size] ++ [(h.push emptyDict).objs.size]) ((h.push emptyDict).push (instObj C h.objs.size)) := (Step.push _ _ _ _ _).trans (Step.push _ _ _ _ _)
  have hne : runDef Γ d (.ref (H.length + 1) :: ws) (H ++ [.ns [], .inst c H.length]) ≠ .stuck := fun q => hs (by rw [hrc, q]; rfl)
  rw [show H ++ [O.ns []] ++ [O.inst c H.length] = H ++ [.ns [], .inst c H.length] by simp] at i2
  have run := run_of_def (ws := .ref (H.length + 1) :: ws) D S hΓ hne (A.under (.builtin "type.__call__" ⟨.ref C :: ms, []⟩)) st _ ⟨(h.push emptyDict).push (instObj C h.objs.size), g, dr, t, os⟩ (.ref (h.objs.size + 1) :: ms) (by have := room.depth; omega) (by have := room.units; rw [u3]; omega) (u4.trans hh) i2
    ⟨u1.trans stk.frames, (stk.step (s := ⟨h, g, dr, t, os⟩) st2).ok, (stk.step (s := ⟨h, g, dr, t, os⟩) st2).off, (stk.step (s := ⟨h, g, dr, t, os⟩) st2).frm⟩ (by rw [List.length_cons, List.length_cons, hl]) (fun p hp => ?_)
  · refine codeAny_mono run fun res s' q => ?_
    cases res with
    | error ev =>
      obtain ⟨c', H', e, P⟩ := q
      refine ⟨c', H', by rw [hrc, e]; rfl, ?_⟩
      exact P.trans (s := ⟨h, g, dr, t, os⟩) st2 fun _ _ q => q.older st2.alive
    | ok fl =>
      cases fl with
      | ret mv =>
        obtain ⟨v, H', e, P⟩ := q
        cases v with
        | none =>
          obtain ⟨η', h', tk, es, iv, stp, r⟩ := P
          cases r
          refine ⟨rfl, .ref (H.length + 1), H', by rw [hrc, e]; rfl, η', h', tk, es, iv, st2.trans stp, .ref ?_⟩
          obtain ⟨l, rfl, _⟩ := stp.pre
          refine getElem?_pre ?_
          rw [← inv.len, sz]; simp
        | _ => exact absurd (by rw [hrc, e]; rfl) hs
      | _ => exact q.elim
  · rw [List.zip_cons_cons] at hp
    rcases List.mem_cons.mp hp with rfl | hp
    · refine .ref ?_
      rw [← inv.len, sz]; simp
    · exact (hv p hp).step (fr := frs st) (own := []) st2 stk.frm
end
end Mine

/-! R15 -/
namespace Mine
open PySem PyProof.Rows PySem.W

theorem lookup_zip_some : ∀ {ns : List Str} {ms : List Value} {x : Str}, ms.length = ns.length → x ∈ ns → ((ns.zip ms).lookup x).isSome = true
  | [], _, _, _, h => nomatch h
  | n :: ns, [], _, h, _ => by cases h
  | n :: ns, m :: ms, x, h, hx => by
    rw [List.zip_cons_cons, List.lookup_cons]
    cases hb : x == n with
    | true => rfl
    | false =>
      have : x ≠ n := by simpa using hb
      exact lookup_zip_some (Nat.succ.inj h) ((List.mem_cons.mp hx).resolve_left this)

theorem filterMap_zip : ∀ {ns : List Str} {ms : List Value} (l : List (Str × Value)), ms.length = ns.length → ns.Nodup → (∀ n ∈ ns, l.lookup n = Option.none) → ns.filterMap (fun n => ((l ++ ns.zip ms).lookup n).map (n, ·)) = ns.zip ms
  | [], _, _, _, _, _ => rfl
  | n :: ns, [], _, h, _, _ => by cases h
  | n :: ns, m :: ms, l, h, hn, hl => by
    rw [List.nodup_cons] at hn
    have e1 : (l ++ (n, m) :: ns.zip ms).lookup n = some m := by
      rw [List.lookup_append, hl n (List.Mem.head _)]; simp
    rw [List.zip_cons_cons, List.filterMap_cons, e1]
    simp only [Option.map_some, List.cons.injEq, true_and]
    have e2 : l ++ (n, m) :: ns.zip ms = (l ++ [(n, m)]) ++ ns.zip ms := by simp
    rw [e2]
    refine filterMap_zip (l ++ [(n, m)]) (Nat.succ.inj h) hn.2 fun k hk => ?_
    rw [List.lookup_append, hl k (List.Mem.tail _ hk)]
    have : k ≠ n := fun q => hn.1 (q ▸ hk)
    have hb : (k == n) = false := by simpa using this
    simp [List.lookup_cons, hb]

theorem bindArgs_plain {fd : FuncData} {ms : List Value} (h1 : fd.params.posonlyargs = []) (h2 : fd.params.kwonlyargs = []) (h3 : fd.params.vararg = Option.none) (h4 : fd.params.kwarg = Option.none) (h5 : fd.defaults = .none)
    (hl : ms.length = (fd.params.args.map (·.arg)).length) (nd : (fd.params.args.map (·.arg)).Nodup) : bindArgs fd ⟨ms, []⟩ = pure ((fd.params.args.map (·.arg)).zip ms) := by
  have hsq : seqItems? Value.none = pure Option.none := rfl
  unfold bindArgs
  simp only [h1, h2, h3, h4, h5, List.map_nil, List.nil_append, List.forIn_nil, pure_bind, hsq, Option.getD_none, Array.toList_empty, List.length_nil, Nat.sub_zero, List.drop_nil, List.zip_nil_right, List.append_nil]
  generalize hns : fd.params.args.map (·.arg) = ns at *
  have hgt : ¬ (ms.length > ns.length) := by omega
  simp only [hgt, decide_false, Bool.false_and, Bool.false_eq_true, if_false, pure_bind]
  have hmiss : (List.take ns.length ns).filter (fun n => ((ns.zip ms).lookup n).isNone) = [] := by
    rw [List.take_length, List.filter_eq_nil_iff]
    intro x hx
    have := lookup_zip_some hl hx
    rw [Option.isSome_iff_ne_none] at this
    simpa using this
  simp only [hmiss, List.isEmpty_nil, Bool.not_true, Bool.false_eq_true, if_false, pure_bind]
  have := filterMap_zip (ns := ns) (ms := ms) [] hl nd (fun _ _ => rfl)
  rw [List.nil_append] at this
  rw [this]

noncomputable def okDef (kn ex : String → Bool) (d : Def) (r : DefRec) : Bool :=
  r.name == Str.ofString d.name && r.params.posonlyargs.isEmpty && r.params.kwonlyargs.isEmpty && r.params.vararg.isNone && r.params.kwarg.isNone && (r.params.args.map (·.arg) == d.params.map Str.ofString) && isSs kn ex r.scope d.body r.body
    && r.scope.kind == .function && !r.scope.isGenerator && !r.scope.isCoroutine && (d.params.all fun x => isSt r.scope (Str.ofString x)) && decide d.params.Nodup && decide (((cellsFrom 0 r.scope.names []).map (·.1)).Nodup)

section
variable {X : Cx} {p : Program} {loose : List Str} {mean : ExcName → Option Value}

theorem defAt_of (T : Top p loose mean X.mg X.mb X.base) {d : Def} (h : (recsOf p).any (okDef X.kn X.ex d) = true) : ∃ a body scope, X.mg (Str.ofString d.name) = some (.ref a) ∧ DefAt X d a body scope := by
  obtain ⟨r, hr, ok⟩ := List.any_eq_true.mp h
  simp only [okDef, Bool.and_eq_true, beq_iff_eq, List.isEmpty_iff, Option.isNone_iff_eq_none, Bool.not_eq_true', decide_eq_true_eq] at ok
  obtain ⟨⟨⟨⟨⟨⟨⟨⟨⟨⟨⟨⟨h1, h2⟩, h3⟩, h4⟩, h5⟩, h6⟩, h7⟩, h8⟩, h9⟩, h10⟩, h11⟩, h12⟩, h13⟩ := ok
  obtain ⟨a, o, pm, code, doc, e1, e2, e3, e4⟩ := T.fn r hr
  refine ⟨a, r.body, r.scope, h1 ▸ e1, ⟨⟨o, _, e2, e3, rfl, rfl, rfl, rfl, rfl, e4, fun ms hm => ?_⟩, h7, h8, h9, h10, h11, h12, h13⟩⟩
  rw [← h6]
  refine bindArgs_plain h2 h3 h4 h5 rfl ?_ ?_
  · show ms.length = (r.params.args.map (·.arg)).length
    rw [h6, List.length_map, hm]
  · show (r.params.args.map (·.arg)).Nodup
    rw [h6]
    exact nodup_map_inj (fun _ _ q => ofString_inj q) h12

noncomputable def okInit (kn ex : String → Bool) (K : Frag) (d : Def) (fI : Addr) : Bool := match K.lookup fI with
  | some ⟨_, _, .func fd, _⟩ => (match fd.body with | .stmts body => isSs kn ex fd.scope d.body body | _ => false) && fd.globals == mainGlobals && fd.closure.isEmpty && fd.builtins == builtinsNs && codeIn K fd.code fd.qualname && fd.defaults == .none
      && fd.params.posonlyargs.isEmpty && fd.params.kwonlyargs.isEmpty && fd.params.vararg.isNone && fd.params.kwarg.isNone && (fd.params.args.map (·.arg) == d.params.map Str.ofString)
      && fd.scope.kind == .function && !fd.scope.isGenerator && !fd.scope.isCoroutine && (d.params.all fun x => isSt fd.scope (Str.ofString x)) && decide d.params.Nodup && decide (((cellsFrom 0 fd.scope.names []).map (·.1)).Nodup)
  | _ => false
theorem initAt_of {d : Def} {fI : Addr} (h : okInit X.kn X.ex X.K d fI = true) : ∃ body scope, DefAt X d fI body scope := by
  unfold okInit at h
  split at h
  · rename_i c dd fd sl ho
    simp only [Bool.and_eq_true, beq_iff_eq, List.isEmpty_iff, Option.isNone_iff_eq_none, Bool.not_eq_true', decide_eq_true_eq] at h
    obtain ⟨⟨⟨⟨⟨⟨⟨⟨⟨⟨⟨⟨⟨⟨⟨⟨h1, h2⟩, h3⟩, h4⟩, h5⟩, h6⟩, h7⟩, h8⟩, h9⟩, h10⟩, h11⟩, h12⟩, h13⟩, h14⟩, h15⟩, h16⟩, h17⟩ := h
    split at h1
    · rename_i body hbody
      refine ⟨body, fd.scope, ⟨⟨_, fd, X.kin _ _ ho, rfl, hbody, rfl, h2, h3, h4, codeRec_of X.kin h5, fun ms hm => ?_⟩, h1, h12, h13, h14, h15, h16, h17⟩⟩
      rw [← h11]
      refine bindArgs_plain h7 h8 h9 h10 h6 ?_ ?_
      · rw [h11, List.length_map, hm]
      · rw [h11]
        exact nodup_map_inj (fun _ _ q => ofString_inj q) h16
    · cases h1
  · cases h

theorem lk_hd {defs : List Def} {cls : List (String × Def)} {const : String → Option V} (n : Nat) : (lk defs cls const n).hd = false := by cases n <;> rfl

theorem lk_sound {defs : List Def} {cls : List (String × Def)} {const : String → Option V} (T : Top p loose mean X.mg X.mb X.base) (hc : ∀ x v, const x = some v → ∃ mv, Loads X.mg X.mb x mv ∧ ∀ η h, VR X η h v mv)
    (hd : (defs.all fun d => (recsOf p).any (okDef X.kn X.ex d)) = true)
    (hcls : ∀ c d, cls.lookup c = some d → X.cl c = true ∧ X.kn c = true ∧ ∃ C fI, X.mg (Str.ofString c) = some (.ref C) ∧ ClsOk X.K C fI ∧ okInit X.kn X.ex X.K d fI = true) : ∀ n, SoundFn X n (lk defs cls const n)
  | 0 => ⟨hc, fun f ws H hs => absurd rfl hs⟩
  | n + 1 => by
    refine ⟨hc, fun f ws H hs => ?_⟩
    cases e : defs.find? (fun d => d.name == f) with
    | none =>
      have hc2 : (lk defs cls const (n + 1)).call f ws H = match cls.lookup f with | some d => runClass (lk defs cls const n) f d ws H | Option.none => .stuck := by
        show (match defs.find? (fun d => d.name == f) with | some d => runDef (lk defs cls const n) d ws H | Option.none => _) = _
        rw [e]; try rfl
      cases e2 : cls.lookup f with
      | none => rw [hc2, e2] at hs; exact absurd rfl hs
      | some d =>
        rw [hc2, e2] at hs ⊢
        obtain ⟨k1, k2, C, fI, k3, k4, k5⟩ := hcls f d e2
        obtain ⟨body, scope, D⟩ := initAt_of k5
        exact callOK_of_class k1 k2 k3 k4 D (lk_sound T hc hd hcls n) (lk_hd n) hs
    | some d =>
      have hc2 : (lk defs cls const (n + 1)).call f ws H = runDef (lk defs cls const n) d ws H := by
        show (match defs.find? (fun d => d.name == f) with | some d => runDef (lk defs cls const n) d ws H | Option.none => _) = _
        rw [e]
      rw [hc2] at hs ⊢
      have hn : d.name = f := by have := List.find?_some e; simpa using this
      obtain ⟨a, body, scope, hf, D⟩ := defAt_of T (List.all_eq_true.mp hd d (List.mem_of_find?_eq_some e))
      exact callOK_of_def (hn ▸ hf) D (lk_sound T hc hd hcls n) (lk_hd n) hs
end
end Mine

/-! R16 -/
namespace Mine
open PySem PyProof.Rows PySem.W

noncomputable def keepV (K : Frag) (v : Value) : Bool := match v with
  | .ref a => keepIn K (.ref a)
  | _ => true
noncomputable def okU (K : Frag) (U : List String) : Bool := U.all fun f => match nsIn K mainGlobals (Str.ofString f) with
  | some (some v) => keepV K v && (biVal f).isNone
  | _ => false
noncomputable def okB (K : Frag) (B : List String) : Bool := B.all fun f => match nsIn K mainGlobals (Str.ofString f), bootBuiltins (Str.ofString f), biVal f with
  | some Option.none, some a, some b => a == b && !(f == "__name__")
  | _, _, _ => false
noncomputable def okC (K : Frag) (C : List (String × V)) : Bool := C.all fun p => match nsIn K mainGlobals (Str.ofString p.1), p.2 with
  | some (some (.str s _)), .str t => s == t && PyData.strOk s
  | some (some (.int i _)), .int j => i == j
  | _, _ => false

noncomputable def excGetB (K : Frag) (C : Addr) : Bool := (clsIn K C).isSome && findIn K (.ref C) "__getattribute__" == some (some (.builtin "BaseException.__getattribute__")) && findIn K (.ref C) "__getattr__" == some Option.none
  && (match findObj K C Option.none "__class__" with | some (.bind a b) => a == .builtin "getset_descriptor.__get__" && b == .builtin "object.__class__" | _ => false) && mroIn K C (.type "object") == some true && mroIn K C (.type "BaseException") == some true
noncomputable def okX (K : Frag) (Xs : List String) : Bool := Xs.all fun c => match nsIn K mainGlobals (Str.ofString c) with
  | some (some (.ref C)) => excIn K C bmVE "ValueError.__new__" && excGetB K C && kitOne K (.ref C) (.type "ValueError") == some true && (match clsIn K C with
    | some cd => Xs.all fun T => match nsIn K mainGlobals (Str.ofString T) with
      | some (some (.ref D)) => cd.mro.contains (.ref D) == excIs c T && kitOne K (.ref C) (.ref D) == some (excIs c T)
      | _ => false
    | Option.none => false)
  | _ => false
noncomputable def okN (U B Xs : List String) : Bool := (U ++ B).all fun T => !exName T || T == "ValueError" || Xs.contains T
noncomputable def clsB (K : Frag) (C fI : Addr) : Bool := makesIn K C && typeIn K (.ref fI) == some (.type "function") && findIn K (.ref C) "__getattribute__" == some (some (.builtin "object.__getattribute__")) && findIn K (.ref C) "__setattr__" == some (some (.builtin "object.__setattr__"))
  && plainOver K C && (clsIn K C).any (·.hasDict) && ["road", "home", "start", "stops"].all fun a => findIn K (.ref C) (Str.ofString a) == some Option.none
noncomputable def okL (K : Frag) (U B Xs : List String) (cls : List (String × Def)) : Bool := cls.all fun p => U.contains p.1 && match nsIn K mainGlobals (Str.ofString p.1) with
  | some (some (.ref C)) => (match findIn K (.ref C) "__init__" with
    | some (some (.ref fI)) => clsB K C fI && okInit (fun f => U.contains f || B.contains f) (fun f => Xs.contains f) K p.2 fI
    | _ => false)
  | _ => false

theorem excGet_of {K : Frag} {C : Addr} (h : excGetB K C = true) : ExcGet K C := by
  unfold excGetB at h
  simp only [Bool.and_eq_true, beq_iff_eq] at h
  obtain ⟨⟨⟨⟨⟨h1, h2⟩, h3⟩, h4⟩, h5⟩, h6⟩ := h
  refine ⟨h1, h2, h3, ?_, h5, h6⟩
  split at h4
  · rename_i a b e
    simp only [Bool.and_eq_true, beq_iff_eq] at h4
    rw [e, h4.1, h4.2]
  · cases h4
theorem clsOk_of {K : Frag} {C fI : Addr} (h : clsB K C fI = true) (hi : findIn K (.ref C) "__init__" = some (some (.ref fI))) : ClsOk K C fI := by
  unfold clsB at h
  simp only [Bool.and_eq_true, beq_iff_eq] at h
  obtain ⟨⟨⟨⟨⟨⟨h1, h2⟩, h3⟩, h4⟩, h5⟩, h6⟩, h7⟩ := h
  refine ⟨h1, hi, h2, h3, h4, h5, h6, fun a ha => ?_⟩
  have hm : a ∈ ["road", "home", "start", "stops"] := by
    unfold attrName at ha
    simp only [Bool.or_eq_true, beq_iff_eq] at ha
    rcases ha with ((rfl | rfl) | rfl) | rfl <;> simp
  exact beq_iff_eq.mp (List.all_eq_true.mp h7 a hm)

section
variable {prog : Program} {w : World} {p : Program} {loose : List Str} {mean : ExcName → Option Value} {mg mb : Str → Option Value} {K : Frag} {h : Heap} {U B Xs : List String}

theorem okU_at (X : K.In h) (G : h.Ns mainGlobals mg) (hu : okU K U = true) {f : String} (hf : f ∈ U) : ∃ v, mg (Str.ofString f) = some v ∧ keepV K v = true ∧ biVal f = Option.none := by
  have q := List.all_eq_true.mp hu f hf
  split at q
  · rename_i v e
    rw [Bool.and_eq_true, Option.isNone_iff_eq_none] at q
    exact ⟨v, mg_of X G e, q.1, q.2⟩
  · cases q

theorem okB_at (X : K.In h) (T : Top p loose mean mg mb h) (hb : okB K B = true) {f : String} (hf : f ∈ B) : ∃ v, biVal f = some v ∧ mg (Str.ofString f) = Option.none ∧ mb (Str.ofString f) = some v := by
  have q := List.all_eq_true.mp hb f hf
  split at q
  · rename_i a b e1 e2 e3
    rw [Bool.and_eq_true, beq_iff_eq, Bool.not_eq_true'] at q
    obtain ⟨rfl, q2⟩ := q
    refine ⟨a, e3, ns_none_of X T.g e1, ?_⟩
    rw [T.builtins _ (fun z => ?_), e2]
    have : f = "__name__" := ofString_inj z
    rw [this] at q2
    cases q2
  · cases q

theorem okX_at (X : K.In h) (T : Top p loose mean mg mb h) (hx : okX K Xs = true) {c : String} (hc : c ∈ Xs) : OwnExc mg h (fun f => Xs.contains f) c := by
  have q := List.all_eq_true.mp hx c hc
  split at q
  · rename_i C e
    simp only [Bool.and_eq_true] at q
    obtain ⟨⟨⟨q1, _⟩, _⟩, q2⟩ := q
    split at q2
    · rename_i cd ecd
      obtain ⟨bm, N, nm, qn, bs, hdct, sn, sub, ab, col, dd, k0, k1, k2, k3, k5, mN, hC, hN, hni, TL⟩ := (own_of_in X (topRead_of T) e q1).obj
      refine ⟨C, bm, N, nm, qn, bs, hdct, sn, sub, ab, col, dd, k0, k1, k2, k3, k5, mN, mg_of X T.g e, hC, hN, hni, TL, fun T' D hT hD => ?_⟩
      rw [List.contains_iff_mem] at hT
      have q3 := List.all_eq_true.mp q2 T' hT
      split at q3
      · rename_i D' eD
        have := mg_of X T.g eD
        rw [hD] at this
        cases this
        unfold clsIn at ecd
        split at ecd
        · rename_i ho
          have hh := X _ _ ho
          rw [hC] at hh
          cases hh
          cases ecd
          rw [Bool.and_eq_true] at q3
          exact beq_iff_eq.mp q3.1
        · cases ecd
      · cases q3
    · cases q2
  · cases q

theorem okX_kit (X : K.In h) (T : Top p loose mean mg mb h) (hb : okB K B = true) (hx : okX K Xs = true) (hn : okN U B Xs = true) {c N : String} {C : Addr} {tv : Value} (hc : c ∈ Xs) (hN : exName N = true) (hk : (U.contains N || B.contains N) = true) (hm : mg (Str.ofString c) = some (.ref C)) (hl : Loads mg mb N tv) (hve : N = "ValueError" → tv = .type "ValueError") :
    ExcGet K C ∧ kitOne K (.ref C) tv = some (excIs c N) := by
  have q := List.all_eq_true.mp hx c hc
  split at q
  · rename_i C' e
    have := mg_of X T.g e
    rw [hm] at this; cases this
    simp only [Bool.and_eq_true, beq_iff_eq] at q
    obtain ⟨⟨⟨_, q1⟩, q0⟩, q2⟩ := q
    refine ⟨excGet_of q1, ?_⟩
    have hN' := List.all_eq_true.mp hn N (by
      rw [Bool.or_eq_true, List.contains_iff_mem, List.contains_iff_mem] at hk
      exact List.mem_append.mpr hk)
    rw [hN] at hN'
    simp only [Bool.not_true, Bool.false_or, Bool.or_eq_true, beq_iff_eq] at hN'
    rcases hN' with hN' | hN'
    · rw [hve hN', q0, hN']
      unfold excIs; simp
    · split at q2
      · rename_i cd ecd
        have q3 := List.all_eq_true.mp q2 N (by rwa [List.contains_iff_mem] at hN')
        split at q3
        · rename_i D eD
          have := mg_of X T.g eD
          rw [hl.det (.inl this)]
          rw [Bool.and_eq_true] at q3
          exact beq_iff_eq.mp q3.2
        · cases q3
      · cases q2
  · cases q

theorem okL_at (X : K.In h) (T : Top p loose mean mg mb h) {cls : List (String × Def)} (hL : okL K U B Xs cls = true) {c : String} {d : Def} (hc : (c, d) ∈ cls) :
    U.contains c = true ∧ ∃ C fI, mg (Str.ofString c) = some (.ref C) ∧ ClsOk K C fI ∧ okInit (fun f => U.contains f || B.contains f) (fun f => Xs.contains f) K d fI = true := by
  have q := List.all_eq_true.mp hL (c, d) hc
  rw [Bool.and_eq_true] at q
  refine ⟨q.1, ?_⟩
  have q2 := q.2
  split at q2
  · rename_i C e
    split at q2
    · rename_i fI ei
      rw [Bool.and_eq_true] at q2
      exact ⟨C, fI, mg_of X T.g e, clsOk_of q2.1 ei, q2.2⟩
    · cases q2
  · cases q2

noncomputable def cxOf (prog : Program) (w : World) (T : Top p loose mean mg mb h) (X : K.In h) (cls : List (String × Def)) (hu : okU K U = true) (hb : okB K B = true) (hx : okX K Xs = true) (hn : okN U B Xs = true) (hL : okL K U B Xs cls = true) : Cx where
  prog := prog
  w := w
  base := h
  mg := mg
  mb := mb
  g := T.g
  b := T.b
  nolimit := T.nolimit
  kn := fun f => U.contains f || B.contains f
  known := fun f hk => by
    rw [Bool.or_eq_true, List.contains_iff_mem, List.contains_iff_mem] at hk
    rcases hk with hk | hk
    · obtain ⟨v, e, _⟩ := okU_at X T.g hu hk
      exact ⟨v, .inl e⟩
    · obtain ⟨v, _, e1, e2⟩ := okB_at X T hb hk
      exact ⟨v, .inr ⟨e1, e2⟩⟩
  bi := fun f v hv hk => by
    rw [Bool.or_eq_true, List.contains_iff_mem, List.contains_iff_mem] at hk
    rcases hk with hk | hk
    · obtain ⟨_, _, _, e⟩ := okU_at X T.g hu hk
      rw [hv] at e; cases e
    · obtain ⟨v', e, e1, e2⟩ := okB_at X T hb hk
      rw [hv] at e; cases e
      exact ⟨e1, e2⟩
  ex := fun f => Xs.contains f
  own := fun c hc => okX_at X T hx (by rwa [List.contains_iff_mem] at hc)
  K := K
  kin := X
  exk := fun c N C tv hc hN hk hm hl => okX_kit X T hb hx hn (by rwa [List.contains_iff_mem] at hc) hN hk hm hl fun e => by
    subst e
    have hk' := hk
    rw [Bool.or_eq_true, List.contains_iff_mem, List.contains_iff_mem] at hk'
    rcases hk' with hk' | hk'
    · obtain ⟨_, _, _, e⟩ := okU_at X T.g hu hk'
      cases e
    · obtain ⟨v', e, e1, e2⟩ := okB_at X T hb hk'
      cases e
      exact hl.det (.inr ⟨e1, e2⟩)
  cl := fun c => cls.any (·.1 == c)
  cls := fun c hc => by
    obtain ⟨⟨c', d⟩, hm, e⟩ := List.any_eq_true.mp hc
    have e' : c' = c := by simpa using e
    subst e'
    obtain ⟨_, C, fI, h1, h2, _⟩ := okL_at X T hL hm
    exact ⟨C, fI, h1, h2⟩
  kp := fun f v hk hl h' k => by
    have key : keepV K v = true := by
      rw [Bool.or_eq_true, List.contains_iff_mem, List.contains_iff_mem] at hk
      rcases hk with hk | hk
      · obtain ⟨v', e, q, _⟩ := okU_at X T.g hu hk
        rw [hl.det (.inl e)]
        exact q
      · obtain ⟨v', e, e1, e2⟩ := okB_at X T hb hk
        rw [hl.det (.inr ⟨e1, e2⟩)]
        have : ∀ a, v' ≠ .ref a := biVal_noRef e
        cases v' <;> first | rfl | exact absurd rfl (this _)
    cases v with
    | ref a => exact keeps_K (K := K) (f := .ref a) key h' (X.keeps k)
    | _ => exact ⟨.machine, .inr (.inl rfl), Looks.now⟩

theorem okC_at {C : List (String × V)} (T : Top p loose mean mg mb h) (X : K.In h) (hc : okC K C = true) (Y : Cx) (h1 : Y.mg = mg) : ∀ x v, C.lookup x = some v → ∃ mv, Loads Y.mg Y.mb x mv ∧ ∀ η h, VR Y η h v mv := by
  intro x v e
  have q := List.all_eq_true.mp hc (x, v) (lookup_mem e)
  rw [h1]
  split at q
  · rename_i s t1 s2 e1 e2
    rw [Bool.and_eq_true, beq_iff_eq] at q
    have e2' : v = .str s2 := e2
    subst e2'
    obtain ⟨rfl, ok⟩ := q
    exact ⟨_, .inl (mg_of X T.g e1), fun _ _ => .str _ _ ok⟩
  · rename_i i t1 j e1 e2
    rw [beq_iff_eq] at q
    have e2' : v = .int j := e2
    subst e2'
    subst q
    exact ⟨_, .inl (mg_of X T.g e1), fun _ _ => .int _ _⟩
  · cases q

theorem cls_at (prog : Program) (w : World) (T : Top p loose mean mg mb h) (X : K.In h) (cls : List (String × Def)) (hu : okU K U = true) (hb : okB K B = true) (hx : okX K Xs = true) (hn : okN U B Xs = true) (hL : okL K U B Xs cls = true) : ∀ c d, cls.lookup c = some d →
    (cxOf prog w T X cls hu hb hx hn hL).cl c = true ∧ (cxOf prog w T X cls hu hb hx hn hL).kn c = true ∧ ∃ C fI, (cxOf prog w T X cls hu hb hx hn hL).mg (Str.ofString c) = some (.ref C) ∧ ClsOk (cxOf prog w T X cls hu hb hx hn hL).K C fI ∧ okInit (cxOf prog w T X cls hu hb hx hn hL).kn (cxOf prog w T X cls hu hb hx hn hL).ex (cxOf prog w T X cls hu hb hx hn hL).K d fI = true := by
  intro c d e
  have hm := lookup_mem e
  obtain ⟨h0, C, fI, h1, h2, h3⟩ := okL_at X T hL hm
  exact ⟨List.any_eq_true.mpr ⟨_, hm, beq_self_eq_true c⟩, by show (U.contains c || B.contains c) = true; rw [h0]; rfl, C, fI, h1, h2, h3⟩

theorem law_call {X : Cx} {N : Nat} {Γ : Fn} {ns : List Int} {vs : List Value} {l fa : Addr} {s₁ : Shared} {H' : Hp} {Q : Value → Shared → Prop} {E : Value → Shared → Prop} (hb : X.base = s₁.heap) (S : SoundFn X N Γ) (hN : N < 100) (hmg : X.mg (Str.ofString "law") = some (.ref fa))
    (run : Γ.call "law" [.scr ns] [] = .ok (.bool true) H') (hL : s₁.heap.IsList l vs.toArray) (hI : IntsAre vs ns) (hn : ns.length ≤ 63)
    (hq : ∀ s', (∃ h' tk, s' = { s₁ with heap := h', toks := tk } ∧ ∀ b o, s₁.heap.get? b = some o → h'.get? b = some o) → Q (.bool true) s') : wpAny X.M callerA (call (.ref fa) [.ref l]) Q E s₁ := by
  have C := S.call "law" [.scr ns] [] (by rw [run]; intro q; cases q)
  rw [run] at C
  obtain ⟨fv, e, C⟩ := C
  rw [hmg] at e; cases e
  have inv : Inv X [] [] s₁.heap := ⟨fun b o e => hb ▸ e, rfl, (fun _ q => nomatch q), List.nodup_nil, fun n a o e => by simp at e⟩
  have stk : Stk X [] callerA [] s₁.heap := ⟨rfl, trivial, (fun _ q => nomatch q), fun _ q => nomatch q⟩
  refine wpAny_call (codeAny_mono (C callerA [] [] s₁ [.ref l] ⟨?_, ?_⟩ rfl inv stk rfl fun p hp => ?_) fun res s' q => ?_)
  · show 1 + claimMargin + 2 * N < recursionLimit
    unfold claimMargin recursionLimit; omega
  · show 4 + 8 * N + 300 < cLine
    unfold cLine; omega
  · rw [List.zip_cons_cons, List.zip_nil_left, List.mem_singleton] at hp
    subst hp
    refine .scr (hb ▸ hL) (by simpa using hI) (by unfold line; omega)
  · cases res with
    | error ev => obtain ⟨c, H2, e, _⟩ := q; cases e
    | ok fl =>
      cases fl with
      | ret mv =>
        obtain ⟨v, H2, e, η', h', tk, rfl, i, stp, r⟩ := q
        cases e
        cases r
        exact hq _ ⟨h', tk, rfl, fun b o e => i.keep b o (hb ▸ e)⟩
      | _ => exact q.elim
end
end Mine

/-! R17 -/
namespace Mine
open PySem PyProof.Rows PySem.W

/-! the head in one look: what the opening leaves, seen by one reckoning -/
noncomputable def refsOf (o : Obj) : List Addr := match o.data with
  | .dict es _ => es.toList.filterMap fun e => match e.val with | .ref a => some a | _ => Option.none
  | _ => []
noncomputable def nsOfCls (o : Obj) : List Addr := match o.data with
  | .cls cd => [cd.ns]
  | _ => []
noncomputable def codeOfFn (o : Obj) : List Addr := match o.data with
  | .func fd => (match fd.code with | .ref a => [a] | _ => [])
  | _ => []
noncomputable def pick (h : Heap) (as : List Addr) : Frag := as.filterMap fun a => (h.get? a).map fun o => (a, o)
noncomputable def fragOf (h : Heap) : Frag :=
  let g := pick h [mainGlobals]
  let l1 := pick h (g.flatMap fun p => refsOf p.2)
  let l2 := pick h (l1.flatMap fun p => nsOfCls p.2)
  let l3 := pick h (l2.flatMap fun p => refsOf p.2)
  let l4 := pick h (l3.flatMap fun p => codeOfFn p.2)
  g ++ (l1 ++ (l2 ++ (l3 ++ l4)))
theorem pick_get {h : Heap} {as : List Addr} {a : Addr} {o : Obj} (hm : (a, o) ∈ pick h as) : h.get? a = some o := by
  obtain ⟨b, _, e⟩ := List.mem_filterMap.mp hm
  obtain ⟨o', g, q⟩ := Option.map_eq_some_iff.mp e
  cases q
  exact g
theorem fragOf_in (h : Heap) : (fragOf h).In h := by
  intro a o e
  have hm := lookup_mem e
  unfold fragOf at hm
  rcases List.mem_append.mp hm with hm | hm
  · exact pick_get hm
  · rcases List.mem_append.mp hm with hm | hm
    · exact pick_get hm
    · rcases List.mem_append.mp hm with hm | hm
      · exact pick_get hm
      · rcases List.mem_append.mp hm with hm | hm
        · exact pick_get hm
        · exact pick_get hm

noncomputable def seenOk (U B Xs : List String) (C : List (String × V)) (cls : List (String × Def)) (K : Frag) : Bool := okU K U && okB K B && okX K Xs && okC K C && okL K U B Xs cls
noncomputable def Says (U B Xs : List String) (C : List (String × V)) (cls : List (String × Def)) (h : Heap) : Prop := ∃ K : Frag, K.In h ∧ seenOk U B Xs C cls K = true
theorem Says.keeps {U B Xs : List String} {C : List (String × V)} {cls : List (String × Def)} {h h' : Heap} (x : Says U B Xs C cls h) (k : ∀ b o, h.get? b = some o → h'.get? b = some o) : Says U B Xs C cls h' :=
  let ⟨K, i, e⟩ := x; ⟨K, i.keeps k, e⟩
end Mine

/-! REv2 -/
namespace Mine
open PySem

/-! equations for reckoning -/
@[simp] theorem lk_const {defs : List Def} {cls : List (String × Def)} {const : String → Option V} (n : Nat) : (lk defs cls const n).const = const := by cases n <;> rfl
@[simp] theorem lookup_here {β : Type} (x : String) (v : β) (r : List (String × β)) : List.lookup x ((x, v) :: r) = some v := by simp [List.lookup]
@[simp] theorem lookup_next {β : Type} {x y : String} (h : x ≠ y) (v : β) (r : List (String × β)) : List.lookup x ((y, v) :: r) = List.lookup x r := by
  have : (x == y) = false := by simpa using h
  simp [List.lookup, this]
theorem lk_call {defs : List Def} {cls : List (String × Def)} {const : String → Option V} {f : String} {d : Def} (h : defs.find? (fun d => d.name == f) = some d) (n : Nat) (vs : List V) (H : Hp) :
    (lk defs cls const (n + 1)).call f vs H = runDef (lk defs cls const n) d vs H := by
  show (match defs.find? (fun d => d.name == f) with | some d => runDef (lk defs cls const n) d vs H | Option.none => _) = _
  rw [h]
@[simp] theorem ofO_some {α : Type} (H : Hp) (a : α) : ofO H (some a) = .ok a H := rfl
@[simp] theorem ofO_none {α : Type} (H : Hp) : ofO H (Option.none : Option α) = .stuck := rfl
@[simp] theorem truthR_ok (b : Bool) (H : Hp) : truthR (.ok (.bool b) H) = .ok b H := rfl
@[simp] theorem ofR_ok {α : Type} (ρ : Rho) (a : α) (H : Hp) (k : α → Hp → RS) : ofR ρ (.ok a H) k = k a H := rfl
@[simp] theorem RS.bind_next (ρ : Rho) (H : Hp) (k : Rho → Hp → RS) : (RS.next ρ H).bind k = k ρ H := rfl
@[simp] theorem RS.bind_ret (v : V) (H : Hp) (k : Rho → Hp → RS) : (RS.ret v H).bind k = .ret v H := rfl
@[simp] theorem callF_def (Γ : Fn) (f : String) (vs : List V) (H : Hp) : callF Γ f vs H = (if Γ.hd then .stuck else match builtin f vs H with | .stuck => Γ.call f vs H | r => r) := rfl
@[simp] theorem bi_len_scr (ns : List Int) (H : Hp) : builtin "len" [.scr ns] H = .ok (.int ns.length) H := rfl

@[simp] theorem idx_2_0 (a b : V) (H : Hp) : index (.tup [a, b]) (.int 0) H = .ok a H := rfl
@[simp] theorem idx_2_1 (a b : V) (H : Hp) : index (.tup [a, b]) (.int 1) H = .ok b H := rfl
@[simp] theorem bin_add (a b : Int) (H : Hp) : bin .add (.int a) (.int b) H = .ok (.int (a + b)) H := rfl
@[simp] theorem bin_sub (a b : Int) (H : Hp) : bin .sub (.int a) (.int b) H = .ok (.int (a - b)) H := rfl
theorem bin_of {op : Op} {a b z : Int} (H : Hp) (h : intOp op a b = some z) : bin op (.int a) (.int b) H = .ok (.int z) H := by
  have q : bin op (.int a) (.int b) H = (match intOp op a b with | some z => .ok (.int z) H | Option.none => .stuck) := rfl
  rw [q, h]
theorem bin_mul_r {a b : Int} (H : Hp) (h : b.natAbs < 2 ^ 64) : bin .mul (.int a) (.int b) H = .ok (.int (a * b)) H := bin_of H (if_pos (Or.inr h))
theorem bin_mul_l {a b : Int} (H : Hp) (h : a.natAbs < 2 ^ 64) : bin .mul (.int a) (.int b) H = .ok (.int (a * b)) H := bin_of H (if_pos (Or.inl h))
theorem bin_mod {a b : Int} (H : Hp) (h : b ≠ 0) : bin .mod (.int a) (.int b) H = .ok (.int (a.fmod b)) H := bin_of H (if_pos h)
theorem bin_fdiv {a b : Int} (H : Hp) (h : b ≠ 0) (h2 : b.natAbs < 1073741824) : bin .fdiv (.int a) (.int b) H = .ok (.int (a.fdiv b)) H := bin_of H (if_pos ⟨h, h2⟩)
theorem bin_pow {a b : Int} (H : Hp) (h : 0 ≤ a ∧ a ≤ 10 ∧ 0 ≤ b ∧ b ≤ 100) : bin .pow (.int a) (.int b) H = .ok (.int (a ^ b.toNat)) H := bin_of H (if_pos h)
theorem cmp_eq_int (a b : Int) (H : Hp) : cmp .eq (.int a) (.int b) H = some (a == b) := rfl
theorem cmp_ne_int (a b : Int) (H : Hp) : cmp .ne (.int a) (.int b) H = some (!(a == b)) := rfl
theorem cmp_eq_str (a b : Str) (H : Hp) : cmp .eq (.str a) (.str b) H = some (a == b) := rfl
theorem cmp_ne_str (a b : Str) (H : Hp) : cmp .ne (.str a) (.str b) H = some (!(a == b)) := rfl
theorem cmp_lt (a b : Int) (H : Hp) : cmp .lt (.int a) (.int b) H = some (decide (a < b)) := rfl
theorem cmp_le (a b : Int) (H : Hp) : cmp .le (.int a) (.int b) H = some (decide (a ≤ b)) := rfl
theorem cmp_gt (a b : Int) (H : Hp) : cmp .gt (.int a) (.int b) H = some (decide (b < a)) := rfl
@[simp] theorem isinst_int (i : Int) (H : Hp) : isinst (.int i) "int" H = some true := rfl
@[simp] theorem isinst_int_bool (i : Int) (H : Hp) : isinst (.int i) "bool" H = some false := rfl
end Mine

/-! P13t -/
namespace Mine.L13
open Mine PySem
noncomputable def d_is_within : Def := { name := "is_within", params := ["number", "low", "high"], body := [
  .ret (.and [(.isinst (.var "number") "int"), (.not (.isinst (.var "number") "bool")), (.cmp2 (.var "low") .le (.var "number") .le (.var "high"))])] }
noncomputable def d_is_road : Def := { name := "is_road", params := ["road"], body := [
  .ret (.and [(.cmp (.idx (.var "road") (.int 0)) .isIn (.tup [(.glob "LINE"), (.glob "RING")])), (.call "is_within" [(.idx (.var "road") (.int 1)), (.int 1), (.glob "LONGEST")])])] }
noncomputable def d_is_place : Def := { name := "is_place", params := ["road", "place"], body := [
  .iff (.cmp (.idx (.var "road") (.int 0)) .eq (.glob "LINE")) [
    .ret (.call "is_within" [(.var "place"), (.int 0), (.idx (.var "road") (.int 1))])] [],
  .ret (.call "is_within" [(.var "place"), (.int 0), (.bin .sub (.idx (.var "road") (.int 1)) (.int 1))])] }
noncomputable def d_Day_init : Def := { name := "Day.__init__", params := ["self", "road", "home", "start", "stops"], body := [
  .iff (.not (.call "is_road" [(.var "road")])) [
    .raise "BadRoad" "no road"] [],
  .iff (.not (.call "is_place" [(.var "road"), (.var "home")])) [
    .raise "OffRoad" "no home on the road"] [],
  .iff (.not (.call "is_within" [(.var "start"), (.int 0), (.glob "LATEST")])) [
    .raise "BadTime" "no start"] [],
  .iff (.cmp (.call "len" [(.var "stops")]) .gt (.glob "MOST")) [
    .raise "TooMany" "too many stops"] [],
  .for1 "stop" (.var "stops") [
    .expr (.call "looked_at" [(.var "road"), (.var "stop")])],
  .setattr (.var "self") "road" (.var "road"),
  .setattr (.var "self") "home" (.var "home"),
  .setattr (.var "self") "start" (.var "start"),
  .setattr (.var "self") "stops" (.call "list" [(.var "stops")])] }
noncomputable def d_looked_at : Def := { name := "looked_at", params := ["road", "stop"], body := [
  .unpack ["place", "opens", "closes", "stay"] (.var "stop"),
  .iff (.not (.call "is_place" [(.var "road"), (.var "place")])) [
    .raise "OffRoad" "a stop off the road"] [],
  .for1 "time" (.tup [(.var "opens"), (.var "closes"), (.var "stay")]) [
    .iff (.not (.call "is_within" [(.var "time"), (.int 0), (.glob "LATEST")])) [
      .raise "BadTime" "no time of a stop"] []],
  .iff (.cmp (.var "closes") .lt (.var "opens")) [
    .raise "BadTime" "closed before it opens"] []] }
noncomputable def d_number_of : Def := { name := "number_of", params := ["word"], body := [
  .iff (.or [(.not (.cmp2 (.int 0) .lt (.call "len" [(.var "word")]) .le (.glob "LONGEST_NUMBER"))), (.not (.call "all" [(.comp (.cmp (.var "sign") .isIn (.glob "FIGURES")) "sign" (.var "word"))]))]) [
    .raise "NoDay" "no number"] [],
  .iff (.and [(.cmp (.call "len" [(.var "word")]) .gt (.int 1)), (.cmp (.idx (.var "word") (.int 0)) .eq (.str "0"))]) [
    .raise "NoDay" "a nought ahead"] [],
  .ret (.call "int" [(.var "word")])] }
noncomputable def d_numbers_of : Def := { name := "numbers_of", params := ["row", "form"], body := [
  .asg "words" (.meth (.var "row") "split" [(.str " ")]),
  .iff (.cmp (.call "len" [(.var "words")]) .ne (.call "len" [(.var "form")])) [
    .raise "NoDay" "another row"] [],
  .asg "found" (.list []),
  .forZ ["word", "wanted"] [(.var "words"), (.var "form")] [
    .iff (.cmp (.var "wanted") .is .none) [
      .expr (.meth (.var "found") "append" [(.call "number_of" [(.var "word")])])] [
      .iff (.cmp (.var "word") .ne (.var "wanted")) [
        .raise "NoDay" "another word"] []]],
  .ret (.var "found")] }
noncomputable def d_read : Def := { name := "read", params := ["text"], body := [
  .iff (.not (.isinst (.var "text") "str")) [
    .raise "NoDay" "no text"] [],
  .asg "rows" (.meth (.var "text") "split" [(.str "\n")]),
  .iff (.or [(.cmp (.call "len" [(.var "rows")]) .lt (.int 3)), (.cmp (.idx (.var "rows") (.bin .sub (.call "len" [(.var "rows")]) (.int 1))) .ne (.str ""))]) [
    .raise "NoDay" "rows lack"] [],
  .asg "word" (.idx (.meth (.idx (.var "rows") (.int 0)) "split" [(.str " ")]) (.int 0)),
  .iff (.cmp (.var "word") .notIn (.tup [(.glob "LINE"), (.glob "RING")])) [
    .raise "NoDay" "no road"] [],
  .asg "length" (.idx (.call "numbers_of" [(.idx (.var "rows") (.int 0)), (.tup [(.var "word"), .none])]) (.int 0)),
  .unpack ["home", "start"] (.call "numbers_of" [(.idx (.var "rows") (.int 1)), (.tup [(.str "home"), .none, (.str "at"), .none])]),
  .asg "stops" (.list []),
  .for1 "row" (.slice (.var "rows") (.int 2) (.bin .sub (.call "len" [(.var "rows")]) (.int 1))) [
    .unpack ["place", "opens", "closes", "stay"] (.call "numbers_of" [(.var "row"), (.tup [(.str "stop"), .none, (.str "from"), .none, (.str "to"), .none, (.str "for"), .none])]),
    .expr (.meth (.var "stops") "append" [(.tup [(.var "place"), (.var "opens"), (.var "closes"), (.var "stay")])])],
  .ret (.call "Day" [(.tup [(.var "word"), (.var "length")]), (.var "home"), (.var "start"), (.var "stops")])] }
noncomputable def d__law_cell_at : Def := { name := "_law_cell_at", params := ["_law_script", "_law_k"], body := [
  .iff (.cmp (.call "len" [(.var "_law_script")]) .eq (.int 0)) [
    .ret (.var "_law_k")] [],
  .ret (.bin .add (.idx (.var "_law_script") (.bin .mod (.var "_law_k") (.call "len" [(.var "_law_script")]))) (.bin .mul (.int 3) (.bin .fdiv (.var "_law_k") (.call "len" [(.var "_law_script")]))))] }
noncomputable def d__law_spoilt : Def := { name := "_law_spoilt", params := ["_law_text", "_law_cell", "_law_by"], body := [
  .asg "_law_at" (.bin .mod (.bin .fdiv (.var "_law_cell") (.int 3)) (.bin .add (.call "len" [(.var "_law_text")]) (.int 1))),
  .asg "_law_signs" (.str "0123456789  \n\n0123456789  \n\n !\"#$&'()*+,-./:;<=>?@ABCDEFGHIJKLMNOPQRSTUVWXYZ[\\]^_`"),
  .asg "_law_signs" (.bin .add (.var "_law_signs") (.str "abcdefghijklmnopqrstuvwxyz{|}~\t")),
  .asg "_law_sign" (.idx (.var "_law_signs") (.bin .mod (.var "_law_by") (.call "len" [(.var "_law_signs")]))),
  .iff (.cmp (.bin .mod (.var "_law_cell") (.int 3)) .eq (.int 0)) [
    .ret (.bin .add (.bin .add (.slice (.var "_law_text") .none (.var "_law_at")) (.var "_law_sign")) (.slice (.var "_law_text") (.var "_law_at") .none))] [],
  .iff (.cmp (.bin .mod (.var "_law_cell") (.int 3)) .eq (.int 1)) [
    .ret (.bin .add (.slice (.var "_law_text") .none (.var "_law_at")) (.slice (.var "_law_text") (.bin .add (.var "_law_at") (.int 1)) .none))] [],
  .ret (.bin .add (.bin .add (.slice (.var "_law_text") .none (.var "_law_at")) (.var "_law_sign")) (.slice (.var "_law_text") (.bin .add (.var "_law_at") (.int 1)) .none))] }
noncomputable def d__law_number : Def := { name := "_law_number", params := ["_law_cell", "_law_first", "_law_many"], body := [
  .asg "_law_odd" (.list [(.str "1234567890123456"), (.bin .mul (.str "9") (.int 5000)), (.str "999999999999999"), (.str "007"), (.str "00"), (.str "0"), (.str "1000000000001"), (.str "10000000000000")]),
  .iff (.cmp (.bin .mod (.var "_law_cell") (.int 11)) .eq (.int 3)) [
    .ret (.idx (.var "_law_odd") (.bin .mod (.bin .fdiv (.var "_law_cell") (.int 11)) (.int 8)))] [],
  .ret (.call "str" [(.bin .add (.var "_law_first") (.bin .mod (.bin .fdiv (.var "_law_cell") (.int 11)) (.var "_law_many")))])] }
noncomputable def d__law_text_by : Def := { name := "_law_text_by", params := ["_law_script"], body := [
  .asg "_law_cells" (.comp (.call "_law_cell_at" [(.var "_law_script"), (.var "_law_k")]) "_law_k" (.call "range" [(.int 36)])),
  .asg "_law_text" (.bin .add (.bin .add (.menu [(.str "line "), (.str "ring ")] (.bin .mod (.idx (.var "_law_cells") (.int 0)) (.int 2))) (.call "_law_number" [(.bin .fdiv (.idx (.var "_law_cells") (.int 0)) (.int 2)), (.int 10), (.int 40)])) (.str "\n")),
  .asg "_law_text" (.bin .add (.bin .add (.bin .add (.bin .add (.bin .add (.var "_law_text") (.str "home ")) (.call "_law_number" [(.idx (.var "_law_cells") (.int 1)), (.int 0), (.int 10)])) (.str " at ")) (.call "_law_number" [(.idx (.var "_law_cells") (.int 2)), (.int 0), (.int 31)])) (.str "\n")),
  .for1 "_law_k" (.call "range" [(.bin .mul (.bin .mod (.idx (.var "_law_cells") (.int 3)) (.int 9)) (.bin .add (.int 1) (.bin .mul (.int 2) (.call "int" [(.cmp (.bin .mod (.bin .fdiv (.idx (.var "_law_cells") (.int 3)) (.int 9)) (.int 9)) .eq (.int 1))]))))]) [
    .asg "_law_text" (.bin .add (.bin .add (.var "_law_text") (.str "stop ")) (.call "_law_number" [(.idx (.var "_law_cells") (.bin .add (.int 4) (.bin .mod (.bin .mul (.int 4) (.var "_law_k")) (.int 32)))), (.int 0), (.int 10)])),
    .asg "_law_text" (.bin .add (.bin .add (.var "_law_text") (.str " from ")) (.call "_law_number" [(.idx (.var "_law_cells") (.bin .add (.int 4) (.bin .mod (.bin .add (.bin .mul (.int 4) (.var "_law_k")) (.int 1)) (.int 32)))), (.int 0), (.int 31)])),
    .asg "_law_text" (.bin .add (.bin .add (.var "_law_text") (.str " to ")) (.call "_law_number" [(.idx (.var "_law_cells") (.bin .add (.int 4) (.bin .mod (.bin .add (.bin .mul (.int 4) (.var "_law_k")) (.int 2)) (.int 32)))), (.int 30), (.int 31)])),
    .asg "_law_text" (.bin .add (.bin .add (.bin .add (.var "_law_text") (.str " for ")) (.call "_law_number" [(.idx (.var "_law_cells") (.bin .add (.int 4) (.bin .mod (.bin .add (.bin .mul (.int 4) (.var "_law_k")) (.int 3)) (.int 32)))), (.int 0), (.int 10)])) (.str "\n"))],
  .iff (.cmp (.bin .mod (.idx (.var "_law_cells") (.int 34)) (.int 9)) .eq (.int 1)) [
    .ret (.slice (.var "_law_text") .none (.neg (.int 1)))] [],
  .iff (.cmp (.bin .mod (.idx (.var "_law_cells") (.int 34)) (.int 9)) .eq (.int 2)) [
    .ret (.bin .add (.var "_law_text") (.str "\n"))] [],
  .ifRep (.bin .mod (.idx (.var "_law_cells") (.int 34)) (.int 9)) 3 "_law_text" " " "  " true,
  .ifRep (.bin .mod (.idx (.var "_law_cells") (.int 34)) (.int 9)) 4 "_law_text" " " "\t" false,
  .ret (.var "_law_text")] }
noncomputable def d__law_read_number : Def := { name := "_law_read_number", params := ["_law_word"], body := [
  .iff (.or [(.cmp (.var "_law_word") .eq (.str "")), (.cmp (.call "len" [(.var "_law_word")]) .gt (.int 15)), (.and [(.cmp (.idx (.var "_law_word") (.int 0)) .eq (.str "0")), (.cmp (.var "_law_word") .ne (.str "0"))])]) [
    .ret .none] [],
  .asg "_law_number_here" (.int 0),
  .for1 "_law_sign" (.var "_law_word") [
    .iff (.cmp (.var "_law_sign") .notIn (.str "0123456789")) [
      .ret .none] [],
    .asg "_law_number_here" (.bin .add (.bin .mul (.int 10) (.var "_law_number_here")) (.meth (.str "0123456789") "find" [(.var "_law_sign")]))],
  .ret (.var "_law_number_here")] }
noncomputable def d__law_read_row : Def := { name := "_law_read_row", params := ["_law_row", "_law_names"], body := [
  .asg "_law_words" (.meth (.var "_law_row") "split" [(.str " ")]),
  .iff (.cmp (.call "len" [(.var "_law_words")]) .ne (.bin .mul (.int 2) (.call "len" [(.var "_law_names")]))) [
    .ret .none] [],
  .asg "_law_numbers" (.list []),
  .for1 "_law_k" (.call "range" [(.call "len" [(.var "_law_names")])]) [
    .iff (.or [(.cmp (.idx (.var "_law_words") (.bin .mul (.int 2) (.var "_law_k"))) .ne (.idx (.var "_law_names") (.var "_law_k"))), (.cmp (.call "_law_read_number" [(.idx (.var "_law_words") (.bin .add (.bin .mul (.int 2) (.var "_law_k")) (.int 1)))]) .is .none)]) [
      .ret .none] [],
    .expr (.meth (.var "_law_numbers") "append" [(.call "_law_read_number" [(.idx (.var "_law_words") (.bin .add (.bin .mul (.int 2) (.var "_law_k")) (.int 1)))])])],
  .ret (.var "_law_numbers")] }
noncomputable def d__law_raw : Def := { name := "_law_raw", params := ["_law_text"], body := [
  .asg "_law_rows" (.meth (.var "_law_text") "split" [(.str "\n")]),
  .iff (.or [(.cmp (.call "len" [(.var "_law_rows")]) .lt (.int 3)), (.cmp (.idx (.var "_law_rows") (.neg (.int 1))) .ne (.str ""))]) [
    .ret .none] [],
  .asg "_law_raw_here" (.list [(.slice (.idx (.var "_law_rows") (.int 0)) .none (.int 4))]),
  .for1 "_law_k" (.call "range" [(.bin .sub (.call "len" [(.var "_law_rows")]) (.int 1))]) [
    .asg "_law_names" (.list [(.str "stop"), (.str "from"), (.str "to"), (.str "for")]),
    .iff (.cmp (.var "_law_k") .eq (.int 0)) [
      .asg "_law_names" (.list [(.slice (.idx (.var "_law_rows") (.int 0)) .none (.int 4))])] [],
    .iff (.cmp (.var "_law_k") .eq (.int 1)) [
      .asg "_law_names" (.list [(.str "home"), (.str "at")])] [],
    .asg "_law_numbers" (.call "_law_read_row" [(.idx (.var "_law_rows") (.var "_law_k")), (.var "_law_names")]),
    .iff (.cmp (.var "_law_numbers") .is .none) [
      .ret .none] [],
    .asg "_law_raw_here" (.bin .add (.var "_law_raw_here") (.var "_law_numbers"))],
  .iff (.and [(.cmp (.idx (.var "_law_raw_here") (.int 0)) .ne (.str "line")), (.cmp (.idx (.var "_law_raw_here") (.int 0)) .ne (.str "ring"))]) [
    .ret .none] [],
  .ret (.var "_law_raw_here")] }
noncomputable def d__law_off : Def := { name := "_law_off", params := ["_law_raw_here", "_law_place"], body := [
  .ret (.not (.cmp2 (.int 0) .le (.var "_law_place") .lt (.bin .add (.idx (.var "_law_raw_here") (.int 1)) (.call "int" [(.cmp (.idx (.var "_law_raw_here") (.int 0)) .eq (.str "line"))]))))] }
noncomputable def d__law_due : Def := { name := "_law_due", params := ["_law_raw_here"], body := [
  .iff (.cmp (.var "_law_raw_here") .is .none) [
    .ret (.str "text")] [],
  .iff (.not (.cmp2 (.int 1) .le (.idx (.var "_law_raw_here") (.int 1)) .le (.bin .pow (.int 10) (.int 9)))) [
    .ret (.str "road")] [],
  .iff (.call "_law_off" [(.var "_law_raw_here"), (.idx (.var "_law_raw_here") (.int 2))]) [
    .ret (.str "off")] [],
  .iff (.cmp (.idx (.var "_law_raw_here") (.int 3)) .gt (.bin .pow (.int 10) (.int 12))) [
    .ret (.str "time")] [],
  .iff (.cmp (.call "len" [(.var "_law_raw_here")]) .gt (.int 32)) [
    .ret (.str "many")] [],
  .for1 "_law_k" (.call "range" [(.int 4), (.call "len" [(.var "_law_raw_here")]), (.int 4)]) [
    .iff (.call "_law_off" [(.var "_law_raw_here"), (.idx (.var "_law_raw_here") (.var "_law_k"))]) [
      .ret (.str "off")] [],
    .iff (.or [(.cmp (.call "max" [(.idx (.var "_law_raw_here") (.bin .add (.var "_law_k") (.int 1))), (.idx (.var "_law_raw_here") (.bin .add (.var "_law_k") (.int 2))), (.idx (.var "_law_raw_here") (.bin .add (.var "_law_k") (.int 3)))]) .gt (.bin .pow (.int 10) (.int 12))), (.cmp (.idx (.var "_law_raw_here") (.bin .add (.var "_law_k") (.int 2))) .lt (.idx (.var "_law_raw_here") (.bin .add (.var "_law_k") (.int 1))))]) [
      .ret (.str "time")] []],
  .ret (.str "day")] }
noncomputable def d__law_came : Def := { name := "_law_came", params := ["_law_text"], body := [
  .tryE [
    .ret (.call "read" [(.var "_law_text")])] [("NoDay", Option.none, [
    .ret (.str "text")]), ("BadRoad", Option.none, [
    .ret (.str "road")]), ("OffRoad", Option.none, [
    .ret (.str "off")]), ("BadTime", Option.none, [
    .ret (.str "time")]), ("TooMany", Option.none, [
    .ret (.str "many")])]] }
noncomputable def d__law_based : Def := { name := "_law_based", params := ["_law_text"], body := [
  .tryE [
    .ret (.call "read" [(.var "_law_text")])] [("RouteError", some "error", [
    .asg "_law_kinds" (.list [(.isinst (.var "error") "BadRoad"), (.isinst (.var "error") "OffRoad"), (.isinst (.var "error") "BadTime")]),
    .asg "_law_kinds" (.bin .add (.var "_law_kinds") (.list [(.isinst (.var "error") "TooMany"), (.isinst (.var "error") "NoDay")])),
    .ret (.and [(.isinst (.var "error") "ValueError"), (.cmp (.meth (.var "_law_kinds") "count" [(.bool true)]) .eq (.int 1))])])]] }
noncomputable def d_law : Def := { name := "law", params := ["_law_script"], body := [
  .asg "_law_text" (.call "_law_text_by" [(.var "_law_script")]),
  .for1 "_law_k" (.call "range" [(.bin .mod (.call "_law_cell_at" [(.var "_law_script"), (.int 40)]) (.int 3))]) [
    .asg "_law_text" (.call "_law_spoilt" [(.var "_law_text"), (.call "_law_cell_at" [(.var "_law_script"), (.bin .add (.int 41) (.bin .mul (.int 2) (.var "_law_k")))]), (.call "_law_cell_at" [(.var "_law_script"), (.bin .add (.int 42) (.bin .mul (.int 2) (.var "_law_k")))])])],
  .asg "_law_raw_here" (.call "_law_raw" [(.var "_law_text")]),
  .asg "_law_found" (.call "_law_came" [(.var "_law_text")]),
  .iff (.cmp (.call "_law_due" [(.var "_law_raw_here")]) .ne (.str "day")) [
    .ret (.and [(.cmp (.var "_law_found") .eq (.call "_law_due" [(.var "_law_raw_here")])), (.cmp (.call "_law_based" [(.var "_law_text")]) .is (.bool true))])] [],
  .iff (.or [(.not (.isinst (.var "_law_found") "Day")), (.cmp (.attr (.var "_law_found") "road") .ne (.tup [(.idx (.var "_law_raw_here") (.int 0)), (.idx (.var "_law_raw_here") (.int 1))])), (.cmp (.attr (.var "_law_found") "home") .ne (.idx (.var "_law_raw_here") (.int 2))), (.cmp (.attr (.var "_law_found") "start") .ne (.idx (.var "_law_raw_here") (.int 3)))]) [
    .ret (.bool false)] [],
  .ret (.cmp (.attr (.var "_law_found") "stops") .eq (.comp (.tup [(.idx (.var "_law_raw_here") (.var "_law_k")), (.idx (.var "_law_raw_here") (.bin .add (.var "_law_k") (.int 1))), (.idx (.var "_law_raw_here") (.bin .add (.var "_law_k") (.int 2))), (.idx (.var "_law_raw_here") (.bin .add (.var "_law_k") (.int 3)))]) "_law_k" (.call "range" [(.int 4), (.call "len" [(.var "_law_raw_here")]), (.int 4)])))] }
noncomputable def constL : List (String × V) := [("LINE", .str (Str.ofString "line")), ("RING", .str (Str.ofString "ring")), ("LONGEST", .int 1000000000), ("LATEST", .int 1000000000000), ("MOST", .int 7), ("FIGURES", .str (Str.ofString "0123456789")), ("LONGEST_NUMBER", .int 15)]
noncomputable def consts (x : String) : Option V := constL.lookup x
noncomputable def defs : List Def := [d_law, d__law_based, d__law_came, d__law_due, d__law_off, d__law_raw, d__law_read_row, d__law_read_number, d__law_text_by, d__law_number, d__law_spoilt, d__law_cell_at, d_read, d_numbers_of, d_number_of, d_looked_at, d_is_place, d_is_road, d_is_within]
noncomputable def clss : List (String × Def) := [("Day", d_Day_init)]
end Mine.L13

/-! P13s -/
namespace Mine
open PySem PySem.NumText PySem.Builtin PySem.Builtin.Str

/-! plain texts -/
noncomputable def Asc (x : Str) : Prop := ∀ c ∈ x.cps.toList, c < 128
theorem str_ext {a b : Str} (h : a.cps.toList = b.cps.toList) : a = b := Str.ext' (Array.toList_inj.mp h)
theorem app_cps (a b : Str) : (a ++ b).cps.toList = a.cps.toList ++ b.cps.toList := by rw [Str.cps_append, Array.toList_append]
theorem Asc.app {a b : Str} (ha : Asc a) (hb : Asc b) : Asc (a ++ b) := fun c hc => by
  rw [app_cps] at hc
  rcases List.mem_append.mp hc with h | h
  · exact ha c h
  · exact hb c h
theorem Asc.ok {x : Str} (h : Asc x) : PyData.strOk x = true := by
  unfold PyData.strOk
  rw [Array.all_eq_true']
  intro c hc
  have := h c (Array.mem_toList_iff.mpr hc)
  exact decide_eq_true (by omega)
theorem Asc.slice {x : Str} (h : Asc x) (a b : Option Int) : Asc (Txt.slice x a b) := by
  unfold Txt.slice
  split
  · exact h
  · intro c hc
    rw [List.toList_toArray] at hc
    obtain ⟨i, _, e⟩ := List.mem_filterMap.mp hc
    exact h c (Array.mem_toList_iff.mpr (Array.mem_of_getElem? e))
theorem len_cps (x : Str) : x.cps.toList.length = x.length := Array.length_toList

/-! the parts of a text between signs -/
theorem join_two (s x y : Str) (r : List Str) : Str.join s (x :: y :: r) = x ++ s ++ Str.join s (y :: r) := rfl
theorem part_in {s : Str} : ∀ {ps : List Str} {p : Str}, p ∈ ps → p.length ≤ (Str.join s ps).length ∧ ∀ c ∈ p.cps.toList, c ∈ (Str.join s ps).cps.toList
  | [], _, h => nomatch h
  | [q], p, h => by rw [List.mem_singleton.mp h]; exact ⟨Nat.le_refl _, fun _ h => h⟩
  | q :: q2 :: r, p, h => by
    rw [join_two, Str.length_append, Str.length_append]
    simp only [app_cps]
    rcases List.mem_cons.mp h with rfl | h
    · exact ⟨by omega, fun c hc => List.mem_append.mpr (.inl (List.mem_append.mpr (.inl hc)))⟩
    · obtain ⟨h1, h2⟩ := part_in (s := s) h
      exact ⟨by omega, fun c hc => List.mem_append.mpr (.inr (h2 c hc))⟩
noncomputable abbrev sp : Str := ⟨#[32]⟩
noncomputable abbrev nl : Str := ⟨#[10]⟩
theorem sp_eq : Str.ofString " " = sp := by decide +kernel
theorem nl_eq : Str.ofString "\n" = nl := by decide +kernel
theorem em_eq : Str.ofString "" = Str.empty := by decide +kernel
theorem split_part {x y p : Str} (h : p ∈ Txt.split x y) : p.length ≤ x.length ∧ (Asc x → Asc p) := by
  have := part_in (s := y) h
  rw [StrLaws.join_split] at this
  exact ⟨this.1, fun a c hc => a c (this.2 c hc)⟩
theorem split_ne (x y : Str) : Txt.split x y ≠ [] := fun q => by
  have := PyProof.Rows.split_pos x y
  rw [q] at this
  exact absurd this (by decide)
theorem split_head {x y p : Str} {r : List Str} (h : Txt.split x y = p :: r) : ∃ t, x.cps.toList = p.cps.toList ++ t := by
  have e := StrLaws.join_split x y
  rw [h] at e
  cases r with
  | nil => exact ⟨[], by rw [← e]; simp [Str.join]⟩
  | cons q r =>
    rw [join_two] at e
    exact ⟨y.cps.toList ++ (Str.join y (q :: r)).cps.toList, by rw [← e, app_cps, app_cps, List.append_assoc]⟩
theorem slice4 {x p : Str} {r : List Str} (h : Txt.split x sp = p :: r) (hp : p.length = 4) : Txt.slice x Option.none (some 4) = p := by
  obtain ⟨t, e⟩ := split_head h
  have hl := len_cps p
  have hc := PyProof.Rows.slice_closes_to (x := x) (j := 4) (by rw [e, List.length_append, hl, hp]; omega)
  rw [beq_iff_eq.mp hc]
  refine str_ext ?_
  rw [List.toList_toArray, e]
  show ((p.cps.toList ++ t).drop 0).take 4 = _
  rw [List.drop_zero, List.take_append_of_le_length (by omega), List.take_of_length_le (by omega)]

/-! numbers -/
noncomputable def dig (c : Nat) : Bool := decide (48 ≤ c) && decide (c ≤ 57)
noncomputable def numOk (x : Str) : Bool := decide (1 ≤ x.length) && (decide (x.length ≤ 15) && (x.cps.toList.all dig && (x.length == 1 || !(x.cps.toList.head? == some 48))))
noncomputable def numP (x : Str) : Option Nat := if numOk x then some (digitsVal x.cps.toList) else Option.none
theorem fig_cps : (Str.ofString "0123456789").cps.toList = [48, 49, 50, 51, 52, 53, 54, 55, 56, 57] := by decide +kernel
theorem in_fig (c : Nat) : (!(occurrences (Str.ofString "0123456789") ⟨#[c]⟩ 0 (Str.ofString "0123456789").length 1).isEmpty) = dig c := by
  rw [StrLaws.found_one, fig_cps]
  unfold dig
  by_cases h : 48 ≤ c ∧ c ≤ 57
  · rw [decide_eq_true h.1, decide_eq_true h.2]
    refine decide_eq_true ?_
    simp only [List.mem_cons, List.not_mem_nil, or_false]
    omega
  · have : ¬ c ∈ [48, 49, 50, 51, 52, 53, 54, 55, 56, 57] := by
      simp only [List.mem_cons, List.not_mem_nil, or_false]
      omega
    rw [decide_eq_false this]
    by_cases h1 : 48 ≤ c
    · rw [decide_eq_false (fun q => h ⟨h1, q⟩)]; simp
    · rw [decide_eq_false h1]; rfl
theorem find_fig : ∀ d : Nat, d < 10 → (match occurrences (Str.ofString "0123456789") ⟨#[48 + d]⟩ 0 (Str.ofString "0123456789").length 1 with | i :: _ => (i : Int) | [] => -1) = (d : Int) := by decide +kernel
theorem int_of {x : Str} {m : Nat} (h : numP x = some m) : PySem.intText? x = some (m : Int) := by
  unfold numP at h
  split at h
  · rename_i ok
    cases h
    unfold numOk at ok
    simp only [Bool.and_eq_true, decide_eq_true_eq] at ok
    obtain ⟨h1, h2, h3, _⟩ := ok
    refine intText_digits (fun c hc => ?_) (fun q => ?_) (by omega)
    · have := List.all_eq_true.mp h3 c hc
      unfold dig at this
      simpa using this
    · have := len_cps x
      rw [q] at this
      simp at this
      omega
  · cases h
end Mine

/-! P13a -/
namespace Mine.L13
open Mine PySem
noncomputable abbrev G (n : Nat) : Fn := lk defs clss consts n
noncomputable abbrev sLine : Str := Str.ofString "line"
noncomputable abbrev sRing : Str := Str.ofString "ring"
@[simp] theorem G_hd (n : Nat) : (G n).hd = false := by cases n <;> rfl

/-! how a def ends -/
noncomputable def fin (r : RS) : R V := match r with
  | .next _ H => .ok .none H
  | .ret v H => .ok v H
  | .raise c _ H => .raise c H
  | .stuck => .stuck
noncomputable def Fin (P : R V → Prop) (r : RS) : Prop := P (fin r)
theorem runDef_P {Γ : Fn} {d : Def} {vs : List V} {ρ : Rho} {H : Hp} {P : R V → Prop} (e : setAll d.params vs [] = some ρ) (h : Fin P (exSs Γ d.body ρ H)) : P (runDef Γ d vs H) := by
  have q : runDef Γ d vs H = fin (exSs Γ d.body ρ H) := by
    unfold runDef
    rw [e]
    dsimp only
    cases exSs Γ d.body ρ H <;> rfl
  rw [q]; exact h

/-! heaps that grow -/
noncomputable def Ext (H H' : Hp) : Prop := ∃ L, H' = H ++ L
theorem Ext.refl (H : Hp) : Ext H H := ⟨[], by simp⟩
theorem Ext.trans {H H1 H2 : Hp} (a : Ext H H1) (b : Ext H1 H2) : Ext H H2 := by
  obtain ⟨l, rfl⟩ := a; obtain ⟨m, rfl⟩ := b; exact ⟨l ++ m, by simp⟩
theorem Ext.get {H H' : Hp} (a : Ext H H') {k : Nat} {o : O} (h : H[k]? = some o) : H'[k]? = some o := by
  obtain ⟨l, rfl⟩ := a
  rw [List.getElem?_append_left (List.getElem?_eq_some_iff.mp h).1]; exact h
theorem ext_app (H L : Hp) : Ext H (H ++ L) := ⟨L, rfl⟩
theorem len_app1 (H : Hp) (o : O) : (H ++ [o])[H.length]? = some o := by simp
theorem set_app1 (H : Hp) (o o' : O) : (H ++ [o]).set H.length o' = H ++ [o'] := by
  rw [List.set_append_right _ _ (by omega)]; simp

/-! names -/
theorem setL_self (x : String) (v : V) : ∀ ρ : Rho, List.lookup x (setL x v ρ) = some v
  | [] => by simp [setL]
  | (y, w) :: r => by
    unfold setL
    by_cases h : y = x
    · rw [if_pos h, h]; simp
    · rw [if_neg h, lookup_next (fun q => h q.symm)]; exact setL_self x v r
theorem lookup_setL (x y : String) (v : V) : ∀ ρ : Rho, List.lookup y (setL x v ρ) = if y = x then some v else List.lookup y ρ
  | [] => by by_cases h : y = x <;> simp [setL, List.lookup, h]
  | (z, w) :: r => by
    have ih := lookup_setL x y v r
    unfold setL
    by_cases h : z = x
    · rw [if_pos h]
      by_cases h2 : y = x
      · rw [if_pos h2, h, h2]; simp
      · rw [if_neg h2, lookup_next (by rw [h]; exact h2), lookup_next (by rw [h]; exact h2)]
    · rw [if_neg h]
      by_cases h2 : y = z
      · rw [h2, if_neg h]; simp
      · rw [lookup_next h2, ih, lookup_next h2]
theorem setL_other {x y : String} {v : V} {ρ : Rho} {o : Option V} (h : y ≠ x) (e : List.lookup y ρ = o) : List.lookup y (setL x v ρ) = o := by rw [lookup_setL, if_neg h, e]

/-! statements -/
section
variable {T : RS → Prop} {Γ : Fn} {ρ ρ1 : Rho} {x : String} {e t : E} {a a' b ss : List S} {H H1 H2 : Hp} {v : V}
theorem ss_asg (h : evE Γ ρ e H = .ok v H1) (k : T (exSs Γ ss (setL x v ρ) H1)) : T (exSs Γ (.asg x e :: ss) ρ H) := by
  have q : exSs Γ (.asg x e :: ss) ρ H = exSs Γ ss (setL x v ρ) H1 := by rw [exSs_cons, exS_asg, h]; rfl
  rw [q]; exact k
theorem ss_asg_raise {c : String} (h : evE Γ ρ e H = .raise c H1) (k : T (.raise c ρ H1)) : T (exSs Γ (.asg x e :: ss) ρ H) := by
  have q : exSs Γ (.asg x e :: ss) ρ H = .raise c ρ H1 := by rw [exSs_cons, exS_asg, h]; rfl
  rw [q]; exact k
theorem exSs_app : ∀ (a : List S) (ρ : Rho) (H : Hp), exSs Γ (a ++ ss) ρ H = (exSs Γ a ρ H).bind fun ρ1 H1 => exSs Γ ss ρ1 H1
  | [], ρ, H => rfl
  | s :: a, ρ, H => by
    have ih := exSs_app a
    show exSs Γ (s :: (a ++ ss)) ρ H = _
    rw [exSs_cons, exSs_cons]
    cases exS Γ s ρ H <;> simp [ih, RS.bind]
theorem ss_if {c : Bool} (ht : evE Γ ρ t H = .ok (.bool c) H1) (k : T (exSs Γ ((if c then a else a') ++ ss) ρ H1)) : T (exSs Γ (.iff t a a' :: ss) ρ H) := by
  have q : exSs Γ (.iff t a a' :: ss) ρ H = exSs Γ ((if c then a else a') ++ ss) ρ H1 := by
    rw [exSs_app, exSs_cons, exS_iff, evT, ht]
    cases c <;> rfl
  rw [q]; exact k
theorem ss_ret (h : evE Γ ρ e H = .ok v H1) (k : T (.ret v H1)) : T (exSs Γ (.ret e :: ss) ρ H) := by
  have q : exSs Γ (.ret e :: ss) ρ H = .ret v H1 := by rw [exSs_cons, exS_ret, h]; rfl
  rw [q]; exact k
theorem ss_ret_raise {c : String} (h : evE Γ ρ e H = .raise c H1) (k : T (.raise c ρ H1)) : T (exSs Γ (.ret e :: ss) ρ H) := by
  have q : exSs Γ (.ret e :: ss) ρ H = .raise c ρ H1 := by rw [exSs_cons, exS_ret, h]; rfl
  rw [q]; exact k
theorem ss_expr (h : evE Γ ρ e H = .ok v H1) (k : T (exSs Γ ss ρ H1)) : T (exSs Γ (.expr e :: ss) ρ H) := by
  have q : exSs Γ (.expr e :: ss) ρ H = exSs Γ ss ρ H1 := by rw [exSs_cons, exS_expr, h]; rfl
  rw [q]; exact k
theorem ss_expr_raise {c : String} (h : evE Γ ρ e H = .raise c H1) (k : T (.raise c ρ H1)) : T (exSs Γ (.expr e :: ss) ρ H) := by
  have q : exSs Γ (.expr e :: ss) ρ H = .raise c ρ H1 := by rw [exSs_cons, exS_expr, h]; rfl
  rw [q]; exact k
theorem ss_raise {c m : String} (hd : Γ.hd = false) (k : T (.raise c ρ H)) : T (exSs Γ (.raise c m :: ss) ρ H) := by
  have q : exSs Γ (.raise c m :: ss) ρ H = .raise c ρ H := by rw [exSs_cons, exS_raise, hd]; rfl
  rw [q]; exact k
theorem ss_unpack {xs : List String} {vs : List V} (hd : Γ.hd = false) (h : evE Γ ρ e H = .ok v H1) (hp : partsV v H1 = some vs) (hs : setAll xs vs ρ = some ρ1) (k : T (exSs Γ ss ρ1 H1)) : T (exSs Γ (.unpack xs e :: ss) ρ H) := by
  have q : exSs Γ (.unpack xs e :: ss) ρ H = exSs Γ ss ρ1 H1 := by
    rw [exSs_cons, exS_unpack, hd, if_neg (by decide), h]
    show RS.bind (unpackV xs v ρ H1 _) _ = _
    unfold unpackV
    rw [hp]
    dsimp only
    rw [hs]; rfl
  rw [q]; exact k
theorem ss_unpack_raise {xs : List String} {c : String} (hd : Γ.hd = false) (h : evE Γ ρ e H = .raise c H1) (k : T (.raise c ρ H1)) : T (exSs Γ (.unpack xs e :: ss) ρ H) := by
  have q : exSs Γ (.unpack xs e :: ss) ρ H = .raise c ρ H1 := by rw [exSs_cons, exS_unpack, hd, if_neg (by decide), h]; rfl
  rw [q]; exact k
theorem ss_for {xs : List V} {r : RS} (hd : Γ.hd = false) (he : evE Γ ρ e H = .ok v H1) (hx : items H1 v = some xs) (hf : forL (fun v ρ1 H2 => exSs Γ b (setL x v ρ1) H2) (sameO v H1) xs ρ H1 = r)
    (k : T (r.bind fun ρ1 H2 => exSs Γ ss ρ1 H2)) : T (exSs Γ (.for1 x e b :: ss) ρ H) := by
  have q : exSs Γ (.for1 x e b :: ss) ρ H = r.bind fun ρ1 H2 => exSs Γ ss ρ1 H2 := by
    rw [exSs_cons, exS_for1, hd, if_neg (by decide), he, ofR_ok, forV, hx]
    dsimp only
    rw [hf]
  rw [q]; exact k
end

/-! expressions -/
section
variable {Γ : Fn} {ρ : Rho} {H H1 H2 H3 : Hp} {u v w : V}
theorem ev_bin {op : Op} {a b : E} (ha : evE Γ ρ a H = .ok u H1) (hb : evE Γ ρ b H1 = .ok v H2) : evE Γ ρ (.bin op a b) H = bin op u v H2 := by
  rw [evE_bin, ha, R.bind_ok, hb, R.bind_ok]
theorem ev_var {x : String} (h : ρ.lookup x = some v) : evE Γ ρ (.var x) H = .ok v H := by
  rw [evE_var, h]; rfl
theorem ev_cmp {op : Cm} {a b : E} {c : Bool} (ha : evE Γ ρ a H = .ok u H1) (hb : evE Γ ρ b H1 = .ok v H2) (hc : cmp op u v H2 = some c) : evE Γ ρ (.cmp a op b) H = .ok (.bool c) H2 := by
  rw [evE_cmp, ha, R.bind_ok, hb, R.bind_ok, hc]; rfl
theorem ev_not {a : E} {c : Bool} (h : evE Γ ρ a H = .ok (.bool c) H1) : evE Γ ρ (.not a) H = .ok (.bool (!c)) H1 := by
  rw [evE_not, h]; rfl
theorem ev_call {f : String} {es : List E} {vs : List V} {r : R V} (hd : Γ.hd = false) (h : evEs Γ ρ es H = .ok vs H1) (hb : builtin f vs H1 = .stuck) (hc : Γ.call f vs H1 = r) : evE Γ ρ (.call f es) H = r := by
  rw [evE_call, h, R.bind_ok, callF, hd, if_neg (by decide), hb]; exact hc
theorem ev_bi {f : String} {es : List E} {vs : List V} (hd : Γ.hd = false) (h : evEs Γ ρ es H = .ok vs H1) (hb : builtin f vs H1 = .ok v H2) : evE Γ ρ (.call f es) H = .ok v H2 := by
  rw [evE_call, h, R.bind_ok, callF, hd, if_neg (by decide), hb]
theorem evs_nil : evEs Γ ρ [] H = .ok [] H := rfl
theorem evs_cons {e : E} {es : List E} {vs : List V} (h : evE Γ ρ e H = .ok v H1) (h2 : evEs Γ ρ es H1 = .ok vs H2) : evEs Γ ρ (e :: es) H = .ok (v :: vs) H2 := by
  rw [evEs_cons, h, R.bind_ok, h2]; rfl
theorem evs_one {e : E} (h : evE Γ ρ e H = .ok v H1) : evEs Γ ρ [e] H = .ok [v] H1 := evs_cons h evs_nil
theorem ev_meth {o : E} {m : String} {es : List E} {vs : List V} (ho : evE Γ ρ o H = .ok w H1) (hk : kindV w H1 = some (mType m)) (ha : evEs Γ ρ es H1 = .ok vs H2) (hm : meth w m vs H2 = .ok v H3) : evE Γ ρ (.meth o m es) H = .ok v H3 := by
  rw [evE_meth, ho, R.bind_ok, if_pos hk, ha, R.bind_ok, hm]
theorem ev_idx {o i : E} {r : R V} (ho : evE Γ ρ o H = .ok u H1) (hi : evE Γ ρ i H1 = .ok v H2) (h : index u v H2 = r) : evE Γ ρ (.idx o i) H = r := by
  rw [evE_idx, ho, R.bind_ok, hi, R.bind_ok, h]
theorem ev_comp {elt it : E} {x : String} {xs : List V} (hd : Γ.hd = false) (hit : evE Γ ρ it H = .ok v H1) (hx : items H1 v = some xs)
    (ht : turns (fun y H2 => evE Γ ((x, y) :: ρ) elt H2) (sameO v H1) H1.length xs (H1 ++ [.list []]) = .ok () H2) : evE Γ ρ (.comp elt x it) H = .ok (.ref H1.length) H2 := by
  rw [evE_comp, hd, if_neg (by decide), hit, R.bind_ok, compV, hx]
  dsimp only
  rw [ht]; rfl
theorem ev_or {a : E} {b : E} {es : List E} {c : Bool} {r : R V} (ha : evE Γ ρ a H = .ok (.bool c) H1) (h : (if c then .ok (.bool true) H1 else evOr Γ ρ (b :: es) H1) = r) : evOr Γ ρ (a :: b :: es) H = r := by
  rw [evOr_cons, ha]; exact h
theorem ev_and {a : E} {b : E} {es : List E} {c : Bool} {r : R V} (ha : evE Γ ρ a H = .ok (.bool c) H1) (h : (if c then evAnd Γ ρ (b :: es) H1 else .ok (.bool false) H1) = r) : evAnd Γ ρ (a :: b :: es) H = r := by
  rw [evAnd_cons, ha]; exact h
end

/-! what the lists and the texts answer -/
section
variable {xs : List V} {k : Nat} {H : Hp} {x y : Str}
theorem listAt_of (h : H[k]? = some (.list xs)) : listAt (.ref k) H = some xs := by
  have q : listAt (.ref k) H = (match H[k]? with | some (.list xs) => some xs | _ => Option.none) := rfl
  rw [q, h]
theorem kind_list (h : H[k]? = some (.list xs)) : kindV (.ref k) H = some "list" := by
  have q : kindV (.ref k) H = (match listAt (.ref k) H with | some _ => some "list" | Option.none => Option.none) := rfl
  rw [q, listAt_of h]
theorem bi_list_ref (h : H[k]? = some (.list xs)) : builtin "list" [.ref k] H = .ok (.ref H.length) (H ++ [.list xs]) := by
  have q : builtin "list" [.ref k] H = (match listAt (.ref k) H with | some xs => new (.list xs) H | Option.none => .stuck) := rfl
  rw [q, listAt_of h]; rfl
theorem bi_len_ref (h : H[k]? = some (.list xs)) : builtin "len" [.ref k] H = .ok (.int xs.length) H := by
  have q : builtin "len" [.ref k] H = (match listAt (.ref k) H with | some xs => .ok (.int xs.length) H | Option.none => .stuck) := rfl
  rw [q, listAt_of h]
theorem bi_len_str (h : x.length ≤ line) (H : Hp) : builtin "len" [.str x] H = .ok (.int x.length) H := if_pos h
theorem idx_ref {i : Nat} {v : V} (h : H[k]? = some (.list xs)) (hv : xs[i]? = some v) : index (.ref k) (.int i) H = .ok v H := by
  have hp : place i xs.length = some i := by
    unfold place
    have := (List.getElem?_eq_some_iff.mp hv).1
    rw [if_pos (by omega), if_pos (by omega)]; simp
  have q : index (.ref k) (.int i) H = (match listAt (.ref k) H with | some xs => itemAt xs i H | Option.none => .stuck) := rfl
  rw [q, listAt_of h]
  simp [itemAt, hp, hv]
theorem m_append {v : V} (h : H[k]? = some (.list xs)) (hl : xs.length < line) : meth (.ref k) "append" [v] H = .ok .none (H.set k (.list (xs ++ [v]))) := by
  have q : meth (.ref k) "append" [v] H = (match listAt (.ref k) H with | some xs => if xs.length < line then .ok .none (H.set k (.list (xs ++ [v]))) else .stuck | Option.none => .stuck) := rfl
  rw [q, listAt_of h]
  dsimp only
  rw [if_pos hl]
theorem m_split (H : Hp) (hx : x.length ≤ 1000000) (ha : Asc x) (hy : y.length ≠ 0) : meth (.str x) "split" [.str y] H = .ok (.ref H.length) (H ++ [.list ((Txt.split x y).map .str)]) := by
  have q : meth (.str x) "split" [.str y] H = (if x.length ≤ line ∧ y.length ≠ 0 ∧ (Txt.split x y).length ≤ line ∧ (Txt.split x y).all PyData.strOk = true then new (.list ((Txt.split x y).map .str)) H else .stuck) := rfl
  have := PyProof.Rows.split_le x y
  rw [q, if_pos ⟨by unfold line; omega, hy, by unfold line; omega, List.all_eq_true.mpr fun p hp => ((split_part hp).2 ha).ok⟩]; rfl
theorem sameO_ext {H' : Hp} (h : H[k]? = some (.list xs)) (e : Ext H H') : sameO (.ref k) H H' = true := by
  simp [sameO, h, e.get h]
theorem items_str (h : Asc x) (hl : x.length ≤ line) (H : Hp) : items H (.str x) = some (x.cps.toList.map fun c => .str ⟨#[c]⟩) := by
  have h1 : (x.cps.all (· < 128)) = true := by
    rw [Array.all_eq_true']
    intro c hc
    exact decide_eq_true (h c (Array.mem_toList_iff.mpr hc))
  have q : items H (.str x) = if (x.cps.all (· < 128) && decide (x.length ≤ line)) = true then some (signs x) else Option.none := rfl
  rw [q, h1, decide_eq_true hl]; rfl
theorem idx_str {c : Nat} {r : List Nat} (h : x.cps.toList = c :: r) (hl : x.length ≤ line) (H : Hp) : index (.str x) (.int 0) H = .ok (.str ⟨#[c]⟩) H := by
  have q : index (.str x) (.int 0) H = (if x.length ≤ line then itemAt (signs x) 0 H else .stuck) := rfl
  rw [q, if_pos hl]
  have z : (0 : Int) < (r.length : Int) + 1 := by omega
  simp [itemAt, signs, h, place, z]
theorem bi_int_str {i : Int} (h : x.length ≤ 640) (e : intText? x = some i) (H : Hp) : builtin "int" [.str x] H = .ok (.int i) H := by
  have q : builtin "int" [.str x] H = (if x.length ≤ 640 then (match intText? x with | some n => .ok (.int n) H | Option.none => .stuck) else .stuck) := rfl
  rw [q, if_pos h, e]
end
theorem turns_maps {α : Type} (y g : α → V) (f : V → Hp → R V) (chk : Hp → Bool) (H : Hp) (hc : ∀ ys, chk (H ++ [.list ys]) = true) : ∀ (zs : List α) (done : List V), (∀ z ∈ zs, ∀ ys, f (y z) (H ++ [.list ys]) = .ok (g z) (H ++ [.list ys])) → done.length + zs.length ≤ line →
    turns f chk H.length (zs.map y) (H ++ [.list done]) = .ok () (H ++ [.list (done ++ zs.map g)])
  | [], done, _, _ => by simp [turns, hc]
  | z :: zs, done, h, hl => by
    have ih := turns_maps y g f chk H hc zs (done ++ [g z]) (fun u hu => h u (List.mem_cons_of_mem _ hu)) (by simp at hl ⊢; omega)
    rw [List.map_cons, turns, if_pos (hc _), h z (List.mem_cons_self ..)]
    simp only [len_app1, set_app1]
    rw [if_pos (by simp at hl; omega), ih]; simp
end Mine.L13

/-! P13b -/
namespace Mine.L13
open Mine PySem

noncomputable def ans (o : Option Nat) (H : Hp) : R V := match o with
  | some m => .ok (.int m) H
  | Option.none => .raise "NoDay" H
theorem numP_of {x : Str} (h1 : 1 ≤ x.length) (h2 : x.length ≤ 15) (h3 : x.cps.toList.all dig = true) (h4 : (x.length == 1 || !(x.cps.toList.head? == some 48)) = true) : ∃ m, numP x = some m := by
  unfold numP numOk
  rw [decide_eq_true h1, decide_eq_true h2, h3, h4]
  exact ⟨_, rfl⟩
theorem numP_len {x : Str} (h : ¬ (1 ≤ x.length ∧ x.length ≤ 15)) : numP x = Option.none := by
  unfold numP numOk
  by_cases h1 : 1 ≤ x.length
  · rw [decide_eq_true h1, decide_eq_false (fun q => h ⟨h1, q⟩)]; rfl
  · rw [decide_eq_false h1]; rfl
theorem numP_dig {x : Str} (h : x.cps.toList.all dig = false) : numP x = Option.none := by
  unfold numP numOk
  rw [h]; simp
theorem numP_zero {x : Str} (h : (x.length == 1 || !(x.cps.toList.head? == some 48)) = false) : numP x = Option.none := by
  unfold numP numOk
  rw [h]; simp
theorem bools_map {α : Type} (f : α → Bool) : ∀ cs : List α, bools (cs.map fun c => V.bool (f c)) = some (cs.map f)
  | [] => rfl
  | c :: cs => by
    have ih := bools_map f cs
    unfold bools at ih ⊢
    rw [List.map_cons, List.mapM_cons, ih]; rfl
theorem bi_all {α : Type} {f : α → Bool} {cs : List α} {k : Nat} {H : Hp} (h : H[k]? = some (.list (cs.map fun c => V.bool (f c)))) : builtin "all" [.ref k] H = .ok (.bool (cs.all f)) H := by
  have q : builtin "all" [.ref k] H = (match (listAt (.ref k) H).bind bools with | some bs => .ok (.bool (bs.all id)) H | Option.none => .stuck) := rfl
  rw [q, listAt_of h, Option.bind_some, bools_map]
  dsimp only
  rw [List.all_map]; rfl
theorem sign_zero (c : Nat) : ((⟨#[c]⟩ : Str) == Str.ofString "0") = (c == 48) := by
  have e : Str.ofString "0" = ⟨#[48]⟩ := by decide +kernel
  rw [e]
  by_cases h : c = 48
  · rw [h]; rfl
  · rw [beq_eq_false_iff_ne.mpr h]
    refine beq_eq_false_iff_ne.mpr fun q => h ?_
    have := congrArg (fun x : Str => x.cps.toList) q
    simpa using this
theorem head_of {x : Str} (h : 1 ≤ x.length) : ∃ c r, x.cps.toList = c :: r := by
  cases e : x.cps.toList with
  | nil => have := len_cps x; rw [e] at this; simp at this; omega
  | cons c r => exact ⟨c, r, rfl⟩
theorem isIn_fig (c : Nat) (H : Hp) : cmp .isIn (.str ⟨#[c]⟩) (.str (Str.ofString "0123456789")) H = some (dig c) := congrArg some (in_fig c)

theorem c_number (n : Nat) (x : Str) (H : Hp) (ha : Asc x) (hl : x.length ≤ 1000000) : ∃ H', Ext H H' ∧ (G (n + 1)).call "number_of" [.str x] H = ans (numP x) H' := by
  rw [lk_call (d := d_number_of) (by kernel_rfl)]
  refine runDef_P (P := fun r => ∃ H', Ext H H' ∧ r = ans (numP x) H') (ρ := [("word", .str x)]) rfl ?_
  have bl := bi_len_str (x := x) (by unfold line; omega)
  have el : ∀ H, evE (G n) [("word", .str x)] (.call "len" [(.var "word")]) H = .ok (.int x.length) H := fun H => ev_bi (G_hd n) (evs_one (ev_var rfl)) (bl H)
  have o1 : evE (G n) [("word", .str x)] (.cmp2 (.int 0) .lt (.call "len" [(.var "word")]) .le (.glob "LONGEST_NUMBER")) H = .ok (.bool (decide (1 ≤ x.length) && decide (x.length ≤ 15))) H := by
    rw [evE_cmp2, evE_int, R.bind_ok, el, R.bind_ok, cmp_lt, ofO_some, R.bind_ok]
    by_cases h : 1 ≤ x.length
    · rw [decide_eq_true (show (0 : Int) < x.length by omega), if_pos rfl, evE_glob, lk_const, show consts "LONGEST_NUMBER" = some (.int 15) from rfl, ofO_some, R.bind_ok, cmp_le, decide_eq_true h, show decide ((x.length : Int) ≤ 15) = decide (x.length ≤ 15) from decide_eq_decide.mpr (by omega)]; rfl
    · rw [decide_eq_false (show ¬ (0 : Int) < x.length by omega), decide_eq_false h]; rfl
  by_cases h : 1 ≤ x.length ∧ x.length ≤ 15
  · have ec : evE (G n) [("word", .str x)] (.comp (.cmp (.var "sign") .isIn (.glob "FIGURES")) "sign" (.var "word")) H = .ok (.ref H.length) (H ++ [.list (x.cps.toList.map fun c => .bool (dig c))]) := by
      refine ev_comp (v := .str x) (H1 := H) (G_hd n) (ev_var rfl) (items_str ha (by unfold line; omega) H) ?_
      refine turns_maps (fun c => V.str ⟨#[c]⟩) (fun c => V.bool (dig c)) _ _ H (fun _ => rfl) _ [] (fun c hc ys => ?_) (by rw [len_cps]; unfold line; simp; omega)
      exact ev_cmp (ev_var rfl) (by rw [evE_glob, lk_const]; rfl) (isIn_fig c _)
    have ea := bi_all (f := dig) (cs := x.cps.toList) (len_app1 H _)
    have o2 := ev_not (ev_bi (G_hd n) (evs_one ec) ea)
    refine ss_if (c := !(x.cps.toList.all dig)) (H1 := H ++ [.list (x.cps.toList.map fun c => .bool (dig c))]) ?_ ?_
    · rw [evE_or]
      refine ev_or (ev_not o1) ?_
      rw [decide_eq_true h.1, decide_eq_true h.2]
      exact o2
    cases hd : x.cps.toList.all dig with
    | false => exact ss_raise (G_hd n) ⟨_, ext_app _ _, by rw [numP_dig hd]; rfl⟩
    | true =>
      obtain ⟨c, r, e⟩ := head_of h.1
      have ei := idx_str e (by unfold line; omega)
      have e0 : (x.length == 1 || !(x.cps.toList.head? == some 48)) = !(decide (1 < x.length) && (c == 48)) := by
        rw [e, List.head?_cons]
        by_cases h1 : x.length = 1
        · rw [h1]; rfl
        · rw [beq_eq_false_iff_ne.mpr h1, decide_eq_true (show 1 < x.length by omega)]; rfl
      refine ss_if (c := decide (1 < x.length) && (c == 48)) (H1 := H ++ [.list (x.cps.toList.map fun c => .bool (dig c))]) ?_ ?_
      · rw [evE_and]
        refine ev_and (c := decide (1 < x.length)) (ev_cmp (el _) (by rw [evE_int]) (by rw [cmp_gt]; exact congrArg some (decide_eq_decide.mpr (by omega)))) ?_
        cases decide (1 < x.length) with
        | false => rfl
        | true => exact ev_cmp (ev_idx (ev_var rfl) (by rw [evE_int]) (ei _)) (by rw [evE_str]) (by rw [cmp_eq_str, sign_zero]; rfl)
      cases h0 : (decide (1 < x.length) && (c == 48)) with
      | true => exact ss_raise (G_hd n) ⟨_, ext_app _ _, by rw [numP_zero (by rw [e0, h0]; rfl)]; rfl⟩
      | false =>
        obtain ⟨m, em⟩ := numP_of h.1 h.2 hd (by rw [e0, h0]; rfl)
        refine ss_ret (ev_bi (G_hd n) (evs_one (ev_var rfl)) (bi_int_str (by omega) (int_of em) _)) ⟨_, ext_app _ _, by rw [em]; rfl⟩
  · refine ss_if (c := true) (H1 := H) ?_ (ss_raise (G_hd n) ⟨H, Ext.refl H, by rw [numP_len h]; rfl⟩)
    rw [evE_or]
    refine ev_or (ev_not o1) ?_
    rw [show (decide (1 ≤ x.length) && decide (x.length ≤ 15)) = false by simpa using h]; rfl

/-! the law's own reading of a number -/
noncomputable def valV (o : Option Nat) : V := match o with
  | some m => .int m
  | Option.none => .none
noncomputable abbrev rnB : List S := [.iff (.cmp (.var "_law_sign") .notIn (.str "0123456789")) [.ret .none] [],
    .asg "_law_number_here" (.bin .add (.bin .mul (.int 10) (.var "_law_number_here")) (.meth (.str "0123456789") "find" [(.var "_law_sign")]))]
theorem m_find {c : Nat} (h : dig c = true) (H : Hp) : meth (.str (Str.ofString "0123456789")) "find" [.str ⟨#[c]⟩] H = .ok (.int ((c - 48 : Nat) : Int)) H := by
  unfold dig at h
  simp only [Bool.and_eq_true, decide_eq_true_eq] at h
  have e := find_fig (c - 48) (by omega)
  rw [show 48 + (c - 48) = c by omega] at e
  exact congrArg (fun i => R.ok (V.int i) H) e
theorem rn_loop (n : Nat) (H : Hp) (chk : Hp → Bool) (hc : chk H = true) : ∀ (cs : List Nat) (a : Nat) (ρ : Rho), ρ.lookup "_law_number_here" = some (.int a) →
    (cs.all dig = false ∧ forL (fun v ρ1 H2 => exSs (G n) rnB (setL "_law_sign" v ρ1) H2) chk (cs.map fun c => .str ⟨#[c]⟩) ρ H = .ret .none H) ∨
    (cs.all dig = true ∧ ∃ ρ', forL (fun v ρ1 H2 => exSs (G n) rnB (setL "_law_sign" v ρ1) H2) chk (cs.map fun c => .str ⟨#[c]⟩) ρ H = .next ρ' H ∧ ρ'.lookup "_law_number_here" = some (.int ((cs.foldl (fun acc c => acc * 10 + (c - 48)) a : Nat) : Int)))
  | [], a, ρ, hr => .inr ⟨rfl, ρ, by rw [List.map_nil, forL, if_pos hc], hr⟩
  | c :: cs, a, ρ, hr => by
    have l1 : (setL "_law_sign" (.str ⟨#[c]⟩) ρ).lookup "_law_sign" = some (.str ⟨#[c]⟩) := setL_self _ _ _
    have l2 : (setL "_law_sign" (.str ⟨#[c]⟩) ρ).lookup "_law_number_here" = some (.int a) := setL_other (by decide) hr
    have t1 : evE (G n) (setL "_law_sign" (.str ⟨#[c]⟩) ρ) (.cmp (.var "_law_sign") .notIn (.str "0123456789")) H = .ok (.bool (!dig c)) H := ev_cmp (ev_var l1) (evE_str _ _ _ _) (congrArg (fun b : Option Bool => b.map (!·)) (isIn_fig c H))
    rw [List.map_cons, forL, if_pos hc]
    cases hd : dig c with
    | false =>
      refine .inl ⟨by rw [List.all_cons, hd]; rfl, ?_⟩
      rw [hd] at t1
      rw [show exSs (G n) rnB (setL "_law_sign" (.str ⟨#[c]⟩) ρ) H = .ret .none H from ss_if (T := fun r => r = .ret .none H) t1 (ss_ret (T := fun r => r = .ret .none H) (v := .none) (H1 := H) (by rw [evE_none]) rfl)]; rfl
    | true =>
      rw [hd] at t1
      have eb : exSs (G n) rnB (setL "_law_sign" (.str ⟨#[c]⟩) ρ) H = .next (setL "_law_number_here" (.int ((a * 10 + (c - 48) : Nat) : Int)) (setL "_law_sign" (.str ⟨#[c]⟩) ρ)) H := by
        refine ss_if (T := fun r => r = _) t1 (ss_asg (T := fun r => r = _) (v := .int ((a * 10 + (c - 48) : Nat) : Int)) (H1 := H) ?_ rfl)
        refine (ev_bin ((ev_bin (evE_int _ _ _ _) (ev_var l2)).trans (bin_mul_l H (by decide))) (ev_meth (evE_str _ _ _ _) rfl (evs_one (ev_var l1)) (m_find hd H))).trans ?_
        rw [bin_add]
        exact congrArg (fun i => R.ok (V.int i) H) (by omega)
      rw [eb, RS.bind_next]
      rcases rn_loop n H chk hc cs (a * 10 + (c - 48)) _ (setL_self _ _ _) with ⟨h1, h2⟩ | ⟨h1, ρ', h2, h3⟩
      · exact .inl ⟨by rw [List.all_cons, hd, h1]; rfl, h2⟩
      · exact .inr ⟨by rw [List.all_cons, hd, h1]; rfl, ρ', h2, h3⟩
theorem empty_iff (x : Str) : (x == Str.ofString "") = decide (x.length = 0) := by
  rw [em_eq]
  by_cases h : x.length = 0
  · rw [decide_eq_true h]
    refine beq_iff_eq.mpr (str_ext ?_)
    exact List.eq_nil_of_length_eq_zero (by rw [len_cps, h])
  · rw [decide_eq_false h]
    exact beq_eq_false_iff_ne.mpr fun q => h (by rw [q]; rfl)
theorem zero_iff {x : Str} {r : List Nat} (h : x.cps.toList = 48 :: r) : (x == Str.ofString "0") = (x.length == 1) := by
  have hl := len_cps x
  rw [h, List.length_cons] at hl
  have e : Str.ofString "0" = ⟨#[48]⟩ := by decide +kernel
  cases r with
  | nil =>
    have ex : x = Str.ofString "0" := by rw [e]; exact str_ext h
    rw [← hl, ex]; simp
  | cons c r =>
    rw [beq_eq_false_iff_ne.mpr (show x.length ≠ 1 by rw [List.length_cons] at hl; omega)]
    refine beq_eq_false_iff_ne.mpr fun q => ?_
    rw [q, e] at h
    cases h
theorem c_readnum (n : Nat) (x : Str) (H : Hp) (ha : Asc x) (hl : x.length ≤ 1000000) : (G (n + 1)).call "_law_read_number" [.str x] H = .ok (valV (numP x)) H := by
  rw [lk_call (d := d__law_read_number) (by kernel_rfl)]
  refine runDef_P (P := fun r => r = .ok (valV (numP x)) H) (ρ := [("_law_word", .str x)]) rfl ?_
  have hl' : x.length ≤ line := by unfold line; omega
  have w : ∀ H, evE (G n) [("_law_word", .str x)] (.var "_law_word") H = .ok (.str x) H := fun H => ev_var rfl
  have e1 : evE (G n) [("_law_word", .str x)] (.cmp (.var "_law_word") .eq (.str "")) H = .ok (.bool (decide (x.length = 0))) H := ev_cmp (w H) (evE_str _ _ _ _) (by rw [cmp_eq_str, empty_iff])
  have e2 : evE (G n) [("_law_word", .str x)] (.cmp (.call "len" [(.var "_law_word")]) .gt (.int 15)) H = .ok (.bool (decide (15 < x.length))) H :=
    ev_cmp (ev_bi (G_hd n) (evs_one (w H)) (bi_len_str hl' H)) (evE_int _ _ _ _) (by rw [cmp_gt]; exact congrArg some (decide_eq_decide.mpr (by omega)))
  by_cases h : 1 ≤ x.length ∧ x.length ≤ 15
  · obtain ⟨c, r, e⟩ := head_of h.1
    have e3 : evE (G n) [("_law_word", .str x)] (.and [(.cmp (.idx (.var "_law_word") (.int 0)) .eq (.str "0")), (.cmp (.var "_law_word") .ne (.str "0"))]) H = .ok (.bool (!(x.length == 1 || !(x.cps.toList.head? == some 48)))) H := by
      rw [evE_and]
      refine ev_and (c := c == 48) (ev_cmp (ev_idx (w H) (evE_int _ _ _ _) (idx_str e hl' H)) (evE_str _ _ _ _) (by rw [cmp_eq_str, sign_zero])) ?_
      rw [e, List.head?_cons]
      by_cases hc : c = 48
      · subst hc
        rw [if_pos (by rfl), evAnd_one]
        refine (ev_cmp (w H) (evE_str _ _ _ _) (by rw [cmp_ne_str, zero_iff e])).trans ?_
        cases (x.length == 1) <;> rfl
      · rw [show (some c == some 48) = (c == 48) from rfl, beq_eq_false_iff_ne.mpr hc, if_neg (by decide)]; simp
    refine ss_if (c := !(x.length == 1 || !(x.cps.toList.head? == some 48))) (H1 := H) ?_ ?_
    · rw [evE_or]
      refine ev_or e1 ?_
      rw [decide_eq_false (show ¬ x.length = 0 by omega)]
      refine ev_or e2 ?_
      rw [decide_eq_false (show ¬ 15 < x.length by omega)]
      exact e3
    cases h0 : (x.length == 1 || !(x.cps.toList.head? == some 48)) with
    | false => exact ss_ret (evE_none _ _ _) (by rw [numP_zero h0]; rfl)
    | true =>
      refine ss_asg (evE_int _ _ _ _) ?_
      rcases rn_loop n H (sameO (.str x) H) rfl x.cps.toList 0 [("_law_word", .str x), ("_law_number_here", .int 0)] rfl with ⟨h1, h2⟩ | ⟨h1, ρ', h2, h3⟩
      · exact ss_for (G_hd n) (ev_var rfl) (items_str ha hl' H) h2 (by rw [numP_dig h1]; rfl)
      · refine ss_for (G_hd n) (ev_var rfl) (items_str ha hl' H) h2 ?_
        refine ss_ret (ev_var h3) ?_
        have : numP x = some (NumText.digitsVal x.cps.toList) := by
          unfold numP numOk
          rw [decide_eq_true h.1, decide_eq_true h.2, h1, h0]; rfl
        rw [this]; rfl
  · refine ss_if (c := true) (H1 := H) ?_ (ss_ret (evE_none _ _ _) (by rw [numP_len h]; rfl))
    rw [evE_or]
    refine ev_or e1 ?_
    by_cases h0 : x.length = 0
    · rw [decide_eq_true h0]; rfl
    · rw [decide_eq_false h0]
      refine ev_or e2 ?_
      rw [decide_eq_true (show 15 < x.length by omega)]; rfl
end Mine.L13

/-! P13c -/
namespace Mine.L13
open Mine PySem

/-! a row of words and numbers -/
noncomputable def rowP : List Str → List Str → Option (List Nat)
  | [], [] => some []
  | a :: as, w :: x :: r => if (w == a) = true then (match numP x with | some m => (rowP as r).map (m :: ·) | Option.none => Option.none) else Option.none
  | _, _ => Option.none
noncomputable def form (names : List Str) : List V := names.flatMap fun a => [.str a, .none]
noncomputable def numV (ms : List Nat) : List V := ms.map fun (m : Nat) => .int (m : Int)
theorem form_len : ∀ names : List Str, (form names).length = 2 * names.length
  | [] => rfl
  | a :: as => by
    show (form as).length + 1 + 1 = _
    rw [form_len as, List.length_cons]; omega
theorem rowP_len : ∀ {names words : List Str} {ms : List Nat}, rowP names words = some ms → words.length = 2 * names.length ∧ ms.length = names.length
  | [], [], _, h => by cases h; exact ⟨rfl, rfl⟩
  | a :: as, w :: x :: r, ms, h => by
    unfold rowP at h
    split at h
    · split at h
      · obtain ⟨ms', e, rfl⟩ := Option.map_eq_some_iff.mp h
        have := rowP_len e
        simp only [List.length_cons]; omega
      · cases h
    · cases h
  | [], _ :: _, _, h => by cases h
  | _ :: _, [], _, h => by cases h
  | _ :: _, [_], _, h => by cases h

noncomputable def NumH (H : Hp) (ws done : List V) (L : Hp) : Hp := H ++ .list ws :: .list done :: .own :: L
section
variable (H : Hp) (ws done : List V) (L : Hp)
theorem numH_0 : (NumH H ws done L)[H.length]? = some (.list ws) := by unfold NumH; rw [List.getElem?_append_right (by omega)]; simp
theorem numH_1 : (NumH H ws done L)[H.length + 1]? = some (.list done) := by unfold NumH; rw [List.getElem?_append_right (by omega)]; simp
theorem numH_2 : (NumH H ws done L)[H.length + 2]? = some .own := by unfold NumH; rw [List.getElem?_append_right (by omega)]; simp
theorem numH_set (d' : List V) : (NumH H ws done L).set (H.length + 1) (.list d') = NumH H ws d' L := by unfold NumH; rw [List.set_append_right _ _ (by omega)]; simp
theorem numH_ext {H' : Hp} (e : Ext (NumH H ws done L) H') : ∃ L', H' = NumH H ws done L' := by
  obtain ⟨M, rfl⟩ := e
  exact ⟨L ++ M, by unfold NumH; simp⟩
theorem numH_in : Ext H (NumH H ws done L) := ext_app _ _
end
noncomputable abbrev numB : List S := [.iff (.cmp (.var "wanted") .is .none) [.expr (.meth (.var "found") "append" [(.call "number_of" [(.var "word")])])] [.iff (.cmp (.var "word") .ne (.var "wanted")) [.raise "NoDay" "another word"] []]]
noncomputable abbrev numF (n : Nat) (v : V) (ρ1 : Rho) (H2 : Hp) : RS := unpackV ["word", "wanted"] v ρ1 H2 fun ρ2 => exSs (G (n + 1)) numB ρ2 H2
theorem ev_meth_raise {Γ : Fn} {ρ : Rho} {o e : E} {m c : String} {w : V} {H H1 H2 : Hp} (ho : evE Γ ρ o H = .ok w H1) (hk : kindV w H1 = some (mType m)) (ha : evE Γ ρ e H1 = .raise c H2) : evE Γ ρ (.meth o m [e]) H = .raise c H2 := by
  rw [evE_meth, ho, R.bind_ok, if_pos hk, evEs_cons, ha]; rfl
section
variable (n : Nat) (H : Hp) (ws : List V)
theorem turn_word (done : List V) (L : Hp) (ρ : Rho) (w a : Str) : numF n (.tup [.str w, .str a]) ρ (NumH H ws done L) = if (w == a) = true then .next (setL "wanted" (.str a) (setL "word" (.str w) ρ)) (NumH H ws done L) else .raise "NoDay" (setL "wanted" (.str a) (setL "word" (.str w) ρ)) (NumH H ws done L) := by
  show exSs (G (n + 1)) numB (setL "wanted" (.str a) (setL "word" (.str w) ρ)) (NumH H ws done L) = _
  have l1 : (setL "wanted" (.str a) (setL "word" (.str w) ρ)).lookup "wanted" = some (.str a) := setL_self _ _ _
  have l2 : (setL "wanted" (.str a) (setL "word" (.str w) ρ)).lookup "word" = some (.str w) := setL_other (by decide) (setL_self _ _ _)
  refine ss_if (T := fun r => r = _) (c := false) (ev_cmp (ev_var l1) (evE_none _ _ _) rfl) ?_
  refine ss_if (T := fun r => r = _) (c := !(w == a)) (ev_cmp (ev_var l2) (ev_var l1) (cmp_ne_str _ _ _)) ?_
  cases (w == a) with
  | true => rfl
  | false => exact ss_raise (T := fun r => r = _) (G_hd _) rfl
theorem turn_num (done : List V) (L : Hp) (ρ : Rho) (x : Str) (ha : Asc x) (hl : x.length ≤ 1000000) (hd : done.length < line) (hf : ρ.lookup "found" = some (.ref (H.length + 1))) :
    ∃ L', numF n (.tup [.str x, .none]) ρ (NumH H ws done L) = match numP x with
      | some m => .next (setL "wanted" .none (setL "word" (.str x) ρ)) (NumH H ws (done ++ [.int m]) L')
      | Option.none => .raise "NoDay" (setL "wanted" .none (setL "word" (.str x) ρ)) (NumH H ws done L') := by
  obtain ⟨H', x1, e⟩ := c_number n x (NumH H ws done L) ha hl
  obtain ⟨L', rfl⟩ := numH_ext _ _ _ _ x1
  refine ⟨L', ?_⟩
  show exSs (G (n + 1)) numB (setL "wanted" .none (setL "word" (.str x) ρ)) (NumH H ws done L) = _
  have l1 : (setL "wanted" .none (setL "word" (.str x) ρ)).lookup "wanted" = some .none := setL_self _ _ _
  have l2 : (setL "wanted" .none (setL "word" (.str x) ρ)).lookup "word" = some (.str x) := setL_other (by decide) (setL_self _ _ _)
  have l3 : (setL "wanted" .none (setL "word" (.str x) ρ)).lookup "found" = some (.ref (H.length + 1)) := setL_other (by decide) (setL_other (by decide) hf)
  have ec := ev_call (ρ := setL "wanted" .none (setL "word" (.str x) ρ)) (G_hd (n + 1)) (evs_one (ev_var l2)) rfl e
  refine ss_if (T := fun r => r = _) (c := true) (ev_cmp (ev_var l1) (evE_none _ _ _) rfl) ?_
  cases h : numP x with
  | none =>
    rw [h] at ec
    exact ss_expr_raise (T := fun r => r = _) (ev_meth_raise (ev_var l3) (kind_list (numH_1 H ws done L)) ec) rfl
  | some m =>
    rw [h] at ec
    refine ss_expr (T := fun r => r = _) (ev_meth (ev_var l3) (kind_list (numH_1 H ws done L)) (evs_one ec) (m_append (numH_1 H ws done L') hd)) ?_
    rw [numH_set]; rfl
theorem num_loop (chk : Hp → Bool) (hc : ∀ d L, chk (NumH H ws d L) = true) : ∀ (names words : List Str) (done : List V) (L : Hp) (ρ : Rho), words.length = 2 * names.length → (∀ p ∈ words, Asc p ∧ p.length ≤ 1000000) → done.length + names.length ≤ line → ρ.lookup "found" = some (.ref (H.length + 1)) →
    (rowP names words = Option.none ∧ ∃ ρ' H', Ext H H' ∧ forL (numF n) chk (pairsZ (words.map .str) (form names)) ρ (NumH H ws done L) = .raise "NoDay" ρ' H') ∨
    ∃ ms ρ' L', rowP names words = some ms ∧ ρ'.lookup "found" = some (.ref (H.length + 1)) ∧ forL (numF n) chk (pairsZ (words.map .str) (form names)) ρ (NumH H ws done L) = .next ρ' (NumH H ws (done ++ numV ms) L')
  | [], [], done, L, ρ, _, _, _, hf => .inr ⟨[], ρ, L, rfl, hf, by show forL _ _ [] _ _ = _; rw [forL, if_pos (hc _ _)]; simp [numV]⟩
  | [], _ :: _, _, _, _, h, _, _, _ => by simp at h
  | _ :: _, [], _, _, _, h, _, _, _ => by simp at h
  | _ :: _, [_], _, _, _, h, _, _, _ => by simp at h; omega
  | a :: as, w :: x :: r, done, L, ρ, hlen, ho, hl, hf => by
    have z : pairsZ ((w :: x :: r).map .str) (form (a :: as)) = .tup [.str w, .str a] :: .tup [.str x, .none] :: pairsZ (r.map .str) (form as) := rfl
    rw [z, forL, if_pos (hc _ _), turn_word]
    unfold rowP
    cases hw : (w == a) with
    | false => exact .inl ⟨rfl, _, _, numH_in _ _ _ _, rfl⟩
    | true =>
      simp only [if_true, RS.bind_next]
      rw [forL, if_pos (hc _ _)]
      have hx := ho x (List.mem_cons_of_mem _ (List.mem_cons_self ..))
      rw [List.length_cons] at hl
      obtain ⟨L1, e1⟩ := turn_num n H ws done L (setL "wanted" (.str a) (setL "word" (.str w) ρ)) x hx.1 hx.2 (by omega) (setL_other (by decide) (setL_other (by decide) hf))
      rw [e1]
      cases hm : numP x with
      | none => exact .inl ⟨rfl, _, _, numH_in _ _ _ _, rfl⟩
      | some m =>
        dsimp only
        rw [RS.bind_next]
        rcases num_loop chk hc as r (done ++ [.int m]) L1 (setL "wanted" .none (setL "word" (.str x) (setL "wanted" (.str a) (setL "word" (.str w) ρ)))) (by simp only [List.length_cons] at hlen; omega)
          (fun p hp => ho p (List.mem_cons_of_mem _ (List.mem_cons_of_mem _ hp))) (by rw [List.length_append, List.length_singleton]; omega) (setL_other (by decide) (setL_other (by decide) (setL_other (by decide) (setL_other (by decide) hf)))) with ⟨h1, h2⟩ | ⟨ms, ρ', L', h1, h2, h3⟩
        · exact .inl ⟨by rw [h1]; rfl, h2⟩
        · refine .inr ⟨m :: ms, ρ', L', by rw [h1]; rfl, h2, ?_⟩
          rw [h3, List.append_assoc]; rfl
end
noncomputable def words (row : Str) : List Str := Txt.split row sp
noncomputable def RowAns (H : Hp) (o : Option (List Nat)) (r : R V) : Prop := ∃ H', Ext H H' ∧ match o with
  | Option.none => r = .raise "NoDay" H'
  | some ms => ∃ k, r = .ok (.ref k) H' ∧ H'[k]? = some (.list (numV ms))
theorem words_ok {row : Str} (ha : Asc row) (hl : row.length ≤ 1000000) : ∀ p ∈ words row, Asc p ∧ p.length ≤ 1000000 := fun p hp =>
  ⟨(split_part hp).2 ha, Nat.le_trans (split_part hp).1 hl⟩
theorem c_numbers (n : Nat) (row : Str) (names : List Str) (H : Hp) (ha : Asc row) (hl : row.length ≤ 1000000) (hn : names.length ≤ 100) :
    RowAns H (rowP names (words row)) ((G (n + 2)).call "numbers_of" [.str row, .tup (form names)] H) := by
  rw [lk_call (d := d_numbers_of) (by kernel_rfl)]
  have es := m_split H (y := sp) hl ha (by decide)
  let ws : List V := (words row).map .str
  have w1 : (H ++ [.list ws])[H.length]? = some (.list ws) := len_app1 H _
  refine runDef_P (ρ := [("row", .str row), ("form", .tup (form names))]) rfl ?_
  refine ss_asg (v := .ref H.length) (H1 := H ++ [.list ws]) (ev_meth (w := .str row) (ev_var rfl) rfl (evs_one ((evE_str _ _ _ _).trans (by rw [sp_eq]))) es) ?_
  refine ss_if (c := !((words row).length == 2 * names.length)) (H1 := H ++ [.list ws]) ?_ ?_
  · have b2 : builtin "len" [.tup (form names)] (H ++ [.list ws]) = .ok (.int (2 * names.length : Nat)) (H ++ [.list ws]) := by rw [← form_len]; rfl
    have b1 := bi_len_ref w1
    rw [show ws.length = (words row).length from List.length_map ..] at b1
    refine ev_cmp (ev_bi (G_hd _) (evs_one (ev_var rfl)) b1) (ev_bi (G_hd _) (evs_one (ev_var rfl)) b2) ?_
    rw [cmp_ne_int]
    refine congrArg (fun b => some (!b)) ?_
    rw [Bool.eq_iff_iff, beq_iff_eq, beq_iff_eq]; omega
  by_cases hw : (words row).length = 2 * names.length
  · rw [beq_iff_eq.mpr hw]
    refine ss_asg (v := .ref (H.length + 1)) (H1 := H ++ [.list ws, .list []]) (by rw [evE_list, evEs_nil, R.bind_ok]; simp [new]) ?_
    have a1 : (H ++ [O.list ws, .list []])[H.length]? = some (.list ws) := by rw [List.getElem?_append_right (by omega)]; simp
    have a2 : (H ++ [O.list ws, .list []]).length = H.length + 2 := by simp
    have a3 : H ++ [O.list ws, .list []] ++ [.own] = NumH H ws [] [] := by unfold NumH; simp
    have q : ∀ ρ, forZ (numF n) [.ref H.length, .tup (form names)] ρ (H ++ [O.list ws, .list []]) = forL (numF n) (fun H' => sameO (.ref H.length) (H ++ [O.list ws, .list []]) H' && isOwn H'[(H ++ [O.list ws, .list []]).length]?) (pairsZ ws (form names)) ρ (NumH H ws [] []) := fun ρ => by
      unfold forZ
      dsimp only
      rw [listAt_of a1]
      dsimp only
      rw [if_pos (by rw [form_len, ← hw]; exact List.length_map ..), a3]
    have hz : ∀ {T : RS → Prop} {ρ : Rho} {ss : List S} {b : List S} {es : List E} {r : RS} {vs : List V}, evEs (G (n + 1)) ρ es (H ++ [O.list ws, .list []]) = .ok vs (H ++ [O.list ws, .list []]) → forZ (fun v ρ1 H2 => unpackV ["word", "wanted"] v ρ1 H2 fun ρ2 => exSs (G (n + 1)) b ρ2 H2) vs ρ (H ++ [O.list ws, .list []]) = r →
        T (r.bind fun ρ1 H1 => exSs (G (n + 1)) ss ρ1 H1) → T (exSs (G (n + 1)) (.forZ ["word", "wanted"] es b :: ss) ρ (H ++ [O.list ws, .list []])) := fun {T ρ ss b es r vs} h1 h2 h3 => by
      rw [exSs_cons, exS_forZ, G_hd, if_neg (by decide), h1, ofR_ok, h2]; exact h3
    rcases num_loop n H ws (fun H' => sameO (.ref H.length) (H ++ [O.list ws, .list []]) H' && isOwn H'[(H ++ [O.list ws, .list []]).length]?) (fun d L => by simp [sameO, a1, a2, numH_0, numH_2, isOwn]) names (words row) [] []
      [("row", .str row), ("form", .tup (form names)), ("words", .ref H.length), ("found", .ref (H.length + 1))] hw (words_ok ha hl) (by unfold line; simp; omega) rfl with ⟨h1, ρ', H', x', h2⟩ | ⟨ms, ρ', L', h1, h2, h3⟩
    · refine hz (evs_cons (ev_var rfl) (evs_one (ev_var rfl))) ((q _).trans h2) ?_
      rw [h1]
      exact ⟨H', x', rfl⟩
    · refine hz (evs_cons (ev_var rfl) (evs_one (ev_var rfl))) ((q _).trans h3) ?_
      rw [h1]
      refine ss_ret (ev_var h2) ⟨_, numH_in _ _ _ _, _, rfl, ?_⟩
      rw [numH_1, List.nil_append]
  · have hr : rowP names (words row) = Option.none := by
      cases e : rowP names (words row) with
      | none => rfl
      | some ms => exact absurd (rowP_len e).1 hw
    rw [beq_eq_false_iff_ne.mpr hw, hr]
    exact ss_raise (G_hd _) ⟨_, ext_app _ _, rfl⟩
end Mine.L13

/-! P13d -/
namespace Mine.L13
open Mine PySem

theorem items_range (H : Hp) (N : Nat) (h : N ≤ 500000) : items H (.rng 0 N 1) = some ((List.range' 0 N).map fun (k : Nat) => .int (k : Int)) := by
  have q : items H (.rng 0 N 1) = if rngOk 0 N 1 = true then some ((rangeL 0 N 1).map .int) else Option.none := rfl
  have ok : rngOk 0 N 1 = true := by unfold rngOk; simp; omega
  rw [q, if_pos ok, rangeL]
  by_cases h0 : N = 0
  · subst h0; rfl
  · rw [if_pos ⟨by decide, by omega⟩, List.map_map, ← List.range_eq_range', Int.sub_zero, Int.ediv_one, show ((N : Int) - 1 + 1).toNat = N by omega]
    refine congrArg some (List.map_congr_left fun k _ => ?_)
    show V.int (0 + 1 * (k : Int)) = _
    rw [Int.zero_add, Int.one_mul]
theorem bi_range (N : Int) (H : Hp) : builtin "range" [.int N] H = .ok (.rng 0 N 1) H := rfl

noncomputable def LawAns (H : Hp) (o : Option (List V)) (r : R V) : Prop := ∃ H', Ext H H' ∧ match o with
  | Option.none => r = .ok .none H'
  | some ms => ∃ k, r = .ok (.ref k) H' ∧ H'[k]? = some (.list ms)
noncomputable abbrev RowH (H : Hp) (ws done : List V) : Hp := H ++ [.list ws, .list done]
section
variable (H : Hp) (ws done : List V)
theorem rowH_0 : (RowH H ws done)[H.length]? = some (.list ws) := by unfold RowH; rw [List.getElem?_append_right (by omega)]; simp
theorem rowH_1 : (RowH H ws done)[H.length + 1]? = some (.list done) := by unfold RowH; rw [List.getElem?_append_right (by omega)]; simp
theorem rowH_set (d' : List V) : (RowH H ws done).set (H.length + 1) (.list d') = RowH H ws d' := by unfold RowH; rw [List.set_append_right _ _ (by omega)]; simp
end
noncomputable abbrev rrB : List S := [.iff (.or [(.cmp (.idx (.var "_law_words") (.bin .mul (.int 2) (.var "_law_k"))) .ne (.idx (.var "_law_names") (.var "_law_k"))), (.cmp (.call "_law_read_number" [(.idx (.var "_law_words") (.bin .add (.bin .mul (.int 2) (.var "_law_k")) (.int 1)))]) .is .none)]) [
      .ret .none] [],
    .expr (.meth (.var "_law_numbers") "append" [(.call "_law_read_number" [(.idx (.var "_law_words") (.bin .add (.bin .mul (.int 2) (.var "_law_k")) (.int 1)))])])]
noncomputable abbrev rrF (n : Nat) (v : V) (ρ1 : Rho) (H2 : Hp) : RS := exSs (G (n + 1)) rrB (setL "_law_k" v ρ1) H2
structure RrR (H : Hp) (j : Nat) (ρ : Rho) : Prop where
  w : ρ.lookup "_law_words" = some (.ref H.length)
  a : ρ.lookup "_law_names" = some (.ref j)
  m : ρ.lookup "_law_numbers" = some (.ref (H.length + 1))
theorem get_drop {α : Type} {l r : List α} {a : α} {i : Nat} (h : l.drop i = a :: r) : l[i]? = some a ∧ l.drop (i + 1) = r := by
  constructor
  · have := congrArg (fun l => l[0]?) h
    simpa using this
  · rw [← List.tail_drop, h]; rfl
theorem row_turn (n : Nat) (H : Hp) (j : Nat) (names wds : List Str) (hj : H[j]? = some (.list (names.map .str))) (ok : ∀ p ∈ wds, Asc p ∧ p.length ≤ 1000000) {a w x : Str} {i : Nat} {ρ : Rho} {done : List V} (ha : names[i]? = some a) (hw : wds[2 * i]? = some w) (hx : wds[2 * i + 1]? = some x) (hd : done.length < line) (r : RrR H j ρ) :
    rrF n (.int i) ρ (RowH H (wds.map .str) done) = if (w == a) = true then (match numP x with | some m => .next (setL "_law_k" (.int i) ρ) (RowH H (wds.map .str) (done ++ [.int m])) | Option.none => .ret .none (RowH H (wds.map .str) done)) else .ret .none (RowH H (wds.map .str) done) := by
  have r1 : (setL "_law_k" (.int i) ρ).lookup "_law_words" = some (.ref H.length) := setL_other (by decide) r.w
  have r2 : (setL "_law_k" (.int i) ρ).lookup "_law_names" = some (.ref j) := setL_other (by decide) r.a
  have r3 : (setL "_law_k" (.int i) ρ).lookup "_law_numbers" = some (.ref (H.length + 1)) := setL_other (by decide) r.m
  have rk : (setL "_law_k" (.int i) ρ).lookup "_law_k" = some (.int i) := setL_self _ _ _
  have e2k : ∀ H', evE (G (n + 1)) (setL "_law_k" (.int i) ρ) (.bin .mul (.int 2) (.var "_law_k")) H' = .ok (.int ((2 * i : Nat) : Int)) H' := fun H' => (ev_bin (evE_int _ _ _ _) (ev_var rk)).trans (bin_mul_l H' (by decide))
  have e2k1 : ∀ H', evE (G (n + 1)) (setL "_law_k" (.int i) ρ) (.bin .add (.bin .mul (.int 2) (.var "_law_k")) (.int 1)) H' = .ok (.int ((2 * i + 1 : Nat) : Int)) H' := fun H' => (ev_bin (e2k H') (evE_int _ _ _ _)).trans (bin_add _ _ _)
  have gw : ∀ {k : Nat} {p : Str}, wds[k]? = some p → (wds.map V.str)[k]? = some (.str p) := fun h => by rw [List.getElem?_map, h]; rfl
  have ew : evE (G (n + 1)) (setL "_law_k" (.int i) ρ) (.idx (.var "_law_words") (.bin .mul (.int 2) (.var "_law_k"))) (RowH H (wds.map .str) done) = .ok (.str w) (RowH H (wds.map .str) done) := ev_idx (ev_var r1) (e2k _) (idx_ref (rowH_0 ..) (gw hw))
  have ex : evE (G (n + 1)) (setL "_law_k" (.int i) ρ) (.idx (.var "_law_words") (.bin .add (.bin .mul (.int 2) (.var "_law_k")) (.int 1))) (RowH H (wds.map .str) done) = .ok (.str x) (RowH H (wds.map .str) done) := ev_idx (ev_var r1) (e2k1 _) (idx_ref (rowH_0 ..) (gw hx))
  have ea : evE (G (n + 1)) (setL "_law_k" (.int i) ρ) (.idx (.var "_law_names") (.var "_law_k")) (RowH H (wds.map .str) done) = .ok (.str a) (RowH H (wds.map .str) done) := ev_idx (ev_var r2) (ev_var rk) (idx_ref ((ext_app _ _).get hj) (by rw [List.getElem?_map, ha]; rfl))
  obtain ⟨ox, lx⟩ := ok x (List.mem_of_getElem? hx)
  have en := ev_call (ρ := setL "_law_k" (.int i) ρ) (G_hd (n + 1)) (evs_one ex) rfl (c_readnum n x (RowH H (wds.map .str) done) ox lx)
  have isn : ∀ (o : Option Nat) (H : Hp), cmp .is (valV o) .none H = some o.isNone := fun o H => by cases o <;> rfl
  refine ss_if (T := fun r => r = _) (c := !(w == a) || (numP x).isNone) (H1 := RowH H (wds.map .str) done) ?_ ?_
  · rw [evE_or]
    refine ev_or (ev_cmp ew ea (cmp_ne_str _ _ _)) ?_
    cases (w == a) with
    | false => rfl
    | true => exact ev_cmp en (evE_none _ _ _) (isn _ _)
  cases (w == a) with
  | false => exact ss_ret (T := fun r => r = _) (evE_none _ _ _) rfl
  | true =>
    cases hm : numP x with
    | none => exact ss_ret (T := fun r => r = _) (evE_none _ _ _) rfl
    | some m =>
      rw [hm] at en
      refine ss_expr (T := fun r => r = _) (ev_meth (ev_var r3) (kind_list (rowH_1 ..)) (evs_one en) (m_append (rowH_1 ..) hd)) ?_
      rw [rowH_set]; rfl
theorem row_loop (n : Nat) (H : Hp) (j : Nat) (names wds : List Str) (hj : H[j]? = some (.list (names.map .str))) (ok : ∀ p ∈ wds, Asc p ∧ p.length ≤ 1000000) (chk : Hp → Bool) (hc : ∀ H, chk H = true) : ∀ (rest wrest : List Str) (i : Nat) (done : List V) (ρ : Rho), names.drop i = rest → wds.drop (2 * i) = wrest → wrest.length = 2 * rest.length → done.length + rest.length ≤ line → RrR H j ρ →
    (rowP rest wrest = Option.none ∧ ∃ d, forL (rrF n) chk ((List.range' i rest.length).map fun (k : Nat) => .int (k : Int)) ρ (RowH H (wds.map .str) done) = .ret .none (RowH H (wds.map .str) d)) ∨
    ∃ ms ρ', rowP rest wrest = some ms ∧ ρ'.lookup "_law_numbers" = some (.ref (H.length + 1)) ∧ forL (rrF n) chk ((List.range' i rest.length).map fun (k : Nat) => .int (k : Int)) ρ (RowH H (wds.map .str) done) = .next ρ' (RowH H (wds.map .str) (done ++ numV ms))
  | [], [], i, done, ρ, _, _, _, _, r => .inr ⟨[], ρ, rfl, r.m, by show forL _ _ [] _ _ = _; rw [forL, if_pos (hc _)]; simp [numV]⟩
  | [], _ :: _, _, _, _, _, _, h, _, _ => by simp at h
  | _ :: _, [], _, _, _, _, _, h, _, _ => by simp at h
  | _ :: _, [_], _, _, _, _, _, h, _, _ => by simp at h; omega
  | a :: as, w :: x :: r, i, done, ρ, ha, hw, hlen, hl, rr => by
    obtain ⟨a1, a2⟩ := get_drop ha
    obtain ⟨w1, w2⟩ := get_drop hw
    obtain ⟨x1, x2⟩ := get_drop w2
    rw [List.length_cons] at hl ⊢
    rw [List.range'_succ, List.map_cons, forL, if_pos (hc _), row_turn n H j names wds hj ok a1 w1 x1 (by omega) rr]
    unfold rowP
    cases hw : (w == a) with
    | false => exact .inl ⟨rfl, _, rfl⟩
    | true =>
      simp only [if_true]
      cases hm : numP x with
      | none => exact .inl ⟨rfl, _, rfl⟩
      | some m =>
        simp only [RS.bind_next]
        rcases row_loop n H j names wds hj ok chk hc as r (i + 1) (done ++ [.int m]) (setL "_law_k" (.int i) ρ) a2 (by rw [show 2 * (i + 1) = 2 * i + 1 + 1 by omega]; exact x2) (by simp only [List.length_cons] at hlen; omega) (by rw [List.length_append, List.length_singleton]; omega)
          ⟨setL_other (by decide) rr.w, setL_other (by decide) rr.a, setL_other (by decide) rr.m⟩ with ⟨h1, h2⟩ | ⟨ms, ρ', h1, h2, h3⟩
        · exact .inl ⟨by rw [h1]; rfl, h2⟩
        · refine .inr ⟨m :: ms, ρ', by rw [h1]; rfl, h2, ?_⟩
          rw [h3, List.append_assoc]; rfl
theorem c_readrow (n : Nat) (row : Str) (names : List Str) (j : Nat) (H : Hp) (hj : H[j]? = some (.list (names.map .str))) (ha : Asc row) (hl : row.length ≤ 1000000) (hn : names.length ≤ 100) :
    LawAns H ((rowP names (words row)).map numV) ((G (n + 2)).call "_law_read_row" [.str row, .ref j] H) := by
  rw [lk_call (d := d__law_read_row) (by kernel_rfl)]
  have es := m_split H (y := sp) hl ha (by decide)
  let ws : List V := (words row).map .str
  have w1 : (H ++ [.list ws])[H.length]? = some (.list ws) := len_app1 H _
  have hj1 : (H ++ [.list ws])[j]? = some (.list (names.map .str)) := (ext_app _ _).get hj
  refine runDef_P (ρ := [("_law_row", .str row), ("_law_names", .ref j)]) rfl ?_
  refine ss_asg (v := .ref H.length) (H1 := H ++ [.list ws]) (ev_meth (w := .str row) (ev_var rfl) rfl (evs_one ((evE_str _ _ _ _).trans (by rw [sp_eq]))) es) ?_
  refine ss_if (c := !((words row).length == 2 * names.length)) (H1 := H ++ [.list ws]) ?_ ?_
  · have b1 := bi_len_ref w1
    rw [show ws.length = (words row).length from List.length_map ..] at b1
    have b2 := bi_len_ref hj1
    rw [List.length_map] at b2
    refine ev_cmp (ev_bi (G_hd _) (evs_one (ev_var rfl)) b1) ((ev_bin (evE_int _ _ _ _) (ev_bi (G_hd _) (evs_one (ev_var rfl)) b2)).trans (bin_mul_l _ (by decide))) ?_
    rw [cmp_ne_int]
    refine congrArg (fun b => some (!b)) ?_
    rw [Bool.eq_iff_iff, beq_iff_eq, beq_iff_eq]; omega
  by_cases hw : (words row).length = 2 * names.length
  · rw [beq_iff_eq.mpr hw]
    refine ss_asg (v := .ref (H.length + 1)) (H1 := RowH H ws []) (by rw [evE_list, evEs_nil, R.bind_ok]; simp [new]) ?_
    have b2 := bi_len_ref ((ext_app H [O.list ws, O.list []]).get hj)
    rw [List.length_map] at b2
    have eN := ev_bi (Γ := G (n + 1)) (f := "range") (G_hd _) (evs_one (ev_bi (ρ := [("_law_row", .str row), ("_law_names", .ref j), ("_law_words", .ref H.length), ("_law_numbers", .ref (H.length + 1))]) (G_hd _) (evs_one (ev_var (x := "_law_names") rfl)) b2)) (bi_range _ _)
    rcases row_loop n H j names (words row) hj (words_ok ha hl) (sameO (.rng 0 names.length 1) (RowH H ws [])) (fun _ => rfl) names (words row) 0 [] [("_law_row", .str row), ("_law_names", .ref j), ("_law_words", .ref H.length), ("_law_numbers", .ref (H.length + 1))] rfl rfl hw (by unfold line; simp; omega) ⟨rfl, rfl, rfl⟩ with ⟨h1, d, h2⟩ | ⟨ms, ρ', h1, h2, h3⟩
    · refine ss_for (G_hd _) eN (items_range _ _ (by omega)) h2 ?_
      rw [h1]
      exact ⟨_, ext_app _ _, rfl⟩
    · refine ss_for (G_hd _) eN (items_range _ _ (by omega)) h3 ?_
      rw [h1]
      refine ss_ret (ev_var h2) ⟨_, ext_app _ _, _, rfl, ?_⟩
      rw [rowH_1, List.nil_append]
  · have hr : rowP names (words row) = Option.none := by
      cases e : rowP names (words row) with
      | none => rfl
      | some ms => exact absurd (rowP_len e).1 hw
    rw [beq_eq_false_iff_ne.mpr hw, hr]
    exact ss_ret (evE_none _ _ _) ⟨_, ext_app _ _, rfl⟩
end Mine.L13

/-! P13e -/
namespace Mine.L13
open Mine PySem

/-! what a text says -/
noncomputable abbrev Q4 := Nat × Nat × Nat × Nat
noncomputable abbrev homeN : List Str := [Str.ofString "home", Str.ofString "at"]
noncomputable abbrev stopN : List Str := [Str.ofString "stop", Str.ofString "from", Str.ofString "to", Str.ofString "for"]
noncomputable abbrev s4 (r : Str) : Str := Txt.slice r Option.none (some 4)
noncomputable def stopP (r : Str) : Option Q4 := match rowP stopN (words r) with
  | some [a, b, c, d] => some (a, b, c, d)
  | _ => Option.none
noncomputable def stopsP : List Str → Option (List Q4)
  | [] => some []
  | r :: rs => match stopP r with
    | some q => (stopsP rs).map (q :: ·)
    | Option.none => Option.none
noncomputable def flat (qs : List Q4) : List Nat := qs.flatMap fun q => [q.1, q.2.1, q.2.2.1, q.2.2.2]
structure Dy where
  w : Str
  l : Nat
  h : Nat
  s : Nat
  qs : List Q4
noncomputable def isRoad (w : Str) : Bool := w == sLine || w == sRing
noncomputable def dayR (r0 r1 : Str) (rs : List Str) : Option Dy := match rowP [s4 r0] (words r0) with
  | some [l] => (match rowP homeN (words r1) with
    | some [h, s] => (stopsP rs).map fun qs => ⟨s4 r0, l, h, s, qs⟩
    | _ => Option.none)
  | _ => Option.none
noncomputable def dayP (t : Str) : Option Dy := match Txt.split t nl with
  | r0 :: r1 :: x :: rest => if (x :: rest).getLast? = some Str.empty ∧ isRoad (s4 r0) = true then dayR r0 r1 (x :: rest).dropLast else Option.none
  | _ => Option.none
noncomputable def Dy.nums (d : Dy) : List Nat := d.l :: d.h :: d.s :: flat d.qs

noncomputable def nameAt (r0 : Str) : Nat → List Str
  | 0 => [s4 r0]
  | 1 => homeN
  | _ => stopN
theorem nameAt_len (r0 : Str) : ∀ k, (nameAt r0 k).length ≤ 4
  | 0 => (by decide : 1 ≤ 4)
  | 1 => (by decide : 2 ≤ 4)
  | _ + 2 => Nat.le_refl 4
noncomputable def readR (r0 : Str) : Nat → List Str → Option (List Nat)
  | _, [] => some []
  | k, r :: rs => match rowP (nameAt r0 k) (words r) with
    | some ms => (readR r0 (k + 1) rs).map (ms ++ ·)
    | Option.none => Option.none
theorem four {ws : List Str} {ms : List Nat} (h : rowP stopN ws = some ms) : ∃ a b c d, ms = [a, b, c, d] := by
  have := (rowP_len h).2
  match ms, this with
  | [a, b, c, d], _ => exact ⟨a, b, c, d, rfl⟩
theorem row_stop (r : Str) : rowP stopN (words r) = (stopP r).map fun q => [q.1, q.2.1, q.2.2.1, q.2.2.2] := by
  unfold stopP
  cases h : rowP stopN (words r) with
  | none => rfl
  | some ms => obtain ⟨a, b, c, d, rfl⟩ := four h; rfl
theorem readR_stops (r0 : Str) : ∀ (rs : List Str) (k : Nat), readR r0 (k + 2) rs = (stopsP rs).map flat
  | [], k => rfl
  | r :: rs, k => by
    unfold readR stopsP
    show (match rowP stopN (words r) with | some ms => (readR r0 (k + 2 + 1) rs).map (ms ++ ·) | Option.none => Option.none) = _
    rw [row_stop, show k + 2 + 1 = (k + 1) + 2 from rfl, readR_stops r0 rs (k + 1)]
    cases stopP r with
    | none => rfl
    | some q =>
      show Option.map _ (Option.map _ _) = Option.map _ (Option.map _ _)
      rw [Option.map_map, Option.map_map]; rfl
theorem readR_day (r0 r1 : Str) (rs : List Str) : readR r0 0 (r0 :: r1 :: rs) = (dayR r0 r1 rs).map Dy.nums := by
  unfold readR dayR
  show (match rowP [s4 r0] (words r0) with | some ms => (readR r0 1 (r1 :: rs)).map (ms ++ ·) | Option.none => Option.none) = _
  cases h : rowP [s4 r0] (words r0) with
  | none => rfl
  | some ms =>
    have := (rowP_len h).2
    match ms, this with
    | [l], _ =>
      dsimp only
      unfold readR
      show Option.map _ (match rowP homeN (words r1) with | some ms => (readR r0 2 rs).map (ms ++ ·) | Option.none => Option.none) = _
      cases h1 : rowP homeN (words r1) with
      | none => rfl
      | some ms =>
        have := (rowP_len h1).2
        match ms, this with
        | [h, s], _ =>
          dsimp only
          rw [readR_stops r0 rs 0, Option.map_map, Option.map_map, Option.map_map]; rfl

/-! the law's own reading of a text -/
noncomputable abbrev rawB : List S := [
    .asg "_law_names" (.list [(.str "stop"), (.str "from"), (.str "to"), (.str "for")]),
    .iff (.cmp (.var "_law_k") .eq (.int 0)) [
      .asg "_law_names" (.list [(.slice (.idx (.var "_law_rows") (.int 0)) .none (.int 4))])] [],
    .iff (.cmp (.var "_law_k") .eq (.int 1)) [
      .asg "_law_names" (.list [(.str "home"), (.str "at")])] [],
    .asg "_law_numbers" (.call "_law_read_row" [(.idx (.var "_law_rows") (.var "_law_k")), (.var "_law_names")]),
    .iff (.cmp (.var "_law_numbers") .is .none) [
      .ret .none] [],
    .asg "_law_raw_here" (.bin .add (.var "_law_raw_here") (.var "_law_numbers"))]
noncomputable abbrev rawF (n : Nat) (v : V) (ρ1 : Rho) (H2 : Hp) : RS := exSs (G (n + 2)) rawB (setL "_law_k" v ρ1) H2
theorem ev_new {Γ : Fn} {ρ : Rho} {es : List E} {vs : List V} {H H1 : Hp} (h : evEs Γ ρ es H = .ok vs H1) : evE Γ ρ (.list es) H = .ok (.ref H1.length) (H1 ++ [.list vs]) := by
  rw [evE_list, h]; rfl
theorem ev_s4 {Γ : Fn} {ρ : Rho} {e : E} {r0 : Str} {H : Hp} (h : evE Γ ρ e H = .ok (.str r0) H) (ha : Asc r0) (hl : r0.length ≤ 1000000) : evE Γ ρ (.slice e .none (.int 4)) H = .ok (.str (s4 r0)) H := by
  rw [evE_slice, h, R.bind_ok, evE_none, R.bind_ok, evE_int, R.bind_ok]
  exact if_pos ⟨by unfold line; omega, (ha.slice _ _).ok⟩
theorem bin_add_list {i k : Nat} {xs ys : List V} {H : Hp} (h1 : H[i]? = some (.list xs)) (h2 : H[k]? = some (.list ys)) (hl : xs.length + ys.length ≤ line) : bin .add (.ref i) (.ref k) H = .ok (.ref H.length) (H ++ [.list (xs ++ ys)]) := by
  have q : bin .add (.ref i) (.ref k) H = addL (.ref i) (.ref k) H := rfl
  rw [q, addL, listAt_of h1]
  dsimp only
  rw [listAt_of h2]
  dsimp only
  rw [if_pos hl]; rfl
noncomputable def RawT (H : Hp) (jr : Nat) (acc : List V) (o : Option (List Nat)) (x : RS) : Prop := ∃ H', Ext H H' ∧ match o with
  | Option.none => x = .ret .none H'
  | some ms => ∃ ρ' i', x = .next ρ' H' ∧ ρ'.lookup "_law_rows" = some (.ref jr) ∧ ρ'.lookup "_law_raw_here" = some (.ref i') ∧ H'[i']? = some (.list (acc ++ numV ms))
section
variable (n : Nat) (rows : List Str) (r0 : Str) (jr : Nat)
theorem raw_names {k : Nat} {ρ : Rho} {H : Hp} {T : RS → Prop} {ss : List S} (h0 : rows[0]? = some r0) (ok : Asc r0 ∧ r0.length ≤ 1000000) (hj : H[jr]? = some (.list (rows.map .str))) (hr : ρ.lookup "_law_rows" = some (.ref jr)) (hk : ρ.lookup "_law_k" = some (.int k))
    (go : ∀ ρ' H' jn, (∀ y, y ≠ "_law_names" → ρ'.lookup y = ρ.lookup y) → Ext H H' → ρ'.lookup "_law_names" = some (.ref jn) → H'[jn]? = some (.list ((nameAt r0 k).map .str)) → T (exSs (G (n + 2)) ss ρ' H')) :
    T (exSs (G (n + 2)) (.asg "_law_names" (.list [(.str "stop"), (.str "from"), (.str "to"), (.str "for")]) ::
    .iff (.cmp (.var "_law_k") .eq (.int 0)) [
      .asg "_law_names" (.list [(.slice (.idx (.var "_law_rows") (.int 0)) .none (.int 4))])] [] ::
    .iff (.cmp (.var "_law_k") .eq (.int 1)) [
      .asg "_law_names" (.list [(.str "home"), (.str "at")])] [] :: ss) ρ H) := by
  have hk1 : (setL "_law_names" (.ref H.length) ρ).lookup "_law_k" = some (.int k) := setL_other (by decide) hk
  have e1 : Ext H (H ++ [.list (stopN.map .str)]) := ext_app _ _
  refine ss_asg (ev_new (evs_cons (evE_str _ _ _ _) (evs_cons (evE_str _ _ _ _) (evs_cons (evE_str _ _ _ _) (evs_one (evE_str _ _ _ _)))))) ?_
  refine ss_if (c := decide (k = 0)) (ev_cmp (ev_var hk1) (evE_int _ _ _ _) (by rw [cmp_eq_int]; exact congrArg some (by rw [Bool.eq_iff_iff, beq_iff_eq, decide_eq_true_eq]; omega))) ?_
  match k, hk1 with
  | 0, hk1 =>
    refine ss_asg (ev_new (evs_one (ev_s4 (ev_idx (ev_var (setL_other (by decide) hr)) (evE_int _ _ _ _) (idx_ref (i := 0) (e1.get hj) (by rw [List.getElem?_map, h0]; rfl))) ok.1 ok.2))) ?_
    refine ss_if (c := false) (ev_cmp (ev_var (setL_other (by decide) hk1)) (evE_int _ _ _ _) rfl) ?_
    exact go _ _ _ (fun y hy => by rw [lookup_setL, if_neg hy, lookup_setL, if_neg hy]) (e1.trans (ext_app _ _)) (setL_self _ _ _) (len_app1 _ _)
  | 1, hk1 =>
    refine ss_if (c := true) (ev_cmp (ev_var hk1) (evE_int _ _ _ _) rfl) ?_
    refine ss_asg (ev_new (evs_cons (evE_str _ _ _ _) (evs_one (evE_str _ _ _ _)))) ?_
    exact go _ _ _ (fun y hy => by rw [lookup_setL, if_neg hy, lookup_setL, if_neg hy]) (e1.trans (ext_app _ _)) (setL_self _ _ _) (len_app1 _ _)
  | k + 2, hk1 =>
    refine ss_if (c := false) (ev_cmp (ev_var hk1) (evE_int _ _ _ _) (by rw [cmp_eq_int]; exact congrArg some (beq_eq_false_iff_ne.mpr (by omega)))) ?_
    exact go _ _ _ (fun y hy => by rw [lookup_setL, if_neg hy]) e1 (setL_self _ _ _) (len_app1 _ _)
theorem raw_turn (h0 : rows[0]? = some r0) (ok : ∀ r ∈ rows, Asc r ∧ r.length ≤ 1000000) {k i : Nat} {r : Str} {ρ : Rho} {H : Hp} {acc : List V} (hk : rows[k]? = some r) (hj : H[jr]? = some (.list (rows.map .str))) (hi : H[i]? = some (.list acc)) (hl : acc.length + 4 ≤ line)
    (hr : ρ.lookup "_law_rows" = some (.ref jr)) (hh : ρ.lookup "_law_raw_here" = some (.ref i)) : RawT H jr acc (rowP (nameAt r0 k) (words r)) (rawF n (.int k) ρ H) := by
  refine raw_names (T := RawT H jr acc (rowP (nameAt r0 k) (words r))) n rows r0 jr h0 (ok r0 (List.mem_of_getElem? h0)) hj (setL_other (by decide) hr) (setL_self _ _ _) fun ρ1 H1 jn hρ x1 hn hH => ?_
  have l1 : ρ1.lookup "_law_rows" = some (.ref jr) := (hρ _ (by decide)).trans (setL_other (by decide) hr)
  have l2 : ρ1.lookup "_law_k" = some (.int k) := (hρ _ (by decide)).trans (setL_self _ _ _)
  have l3 : ρ1.lookup "_law_raw_here" = some (.ref i) := (hρ _ (by decide)).trans (setL_other (by decide) hh)
  obtain ⟨o1, o2⟩ := ok r (List.mem_of_getElem? hk)
  have er := ev_idx (Γ := G (n + 2)) (ev_var (H := H1) l1) (ev_var l2) (idx_ref (x1.get hj) (by rw [List.getElem?_map, hk]; rfl))
  obtain ⟨H2, x2, e⟩ := c_readrow n r (nameAt r0 k) jn H1 hH o1 o2 (Nat.le_trans (nameAt_len r0 k) (by decide))
  cases hm : rowP (nameAt r0 k) (words r) with
  | none =>
    rw [hm] at e
    refine ss_asg (ev_call (G_hd _) (evs_cons er (evs_one (ev_var hn))) rfl e) ?_
    refine ss_if (c := true) (ev_cmp (ev_var (setL_self _ _ _)) (evE_none _ _ _) rfl) (ss_ret (evE_none _ _ _) ⟨H2, x1.trans x2, rfl⟩)
  | some ms =>
    rw [hm] at e
    obtain ⟨km, e, g⟩ := e
    refine ss_asg (ev_call (G_hd _) (evs_cons er (evs_one (ev_var hn))) rfl e) ?_
    refine ss_if (c := false) (ev_cmp (ev_var (setL_self _ _ _)) (evE_none _ _ _) rfl) ?_
    have hml : (numV ms).length ≤ 4 := by rw [numV, List.length_map, (rowP_len hm).2]; exact nameAt_len r0 k
    refine ss_asg ((ev_bin (ev_var (setL_other (by decide) l3)) (ev_var (setL_self _ _ _))).trans (bin_add_list ((x1.trans x2).get hi) g (by omega))) ?_
    exact ⟨_, (x1.trans x2).trans (ext_app _ _), _, _, rfl, setL_other (by decide) (setL_other (by decide) l1), setL_self _ _ _, len_app1 _ _⟩
theorem raw_loop (h0 : rows[0]? = some r0) (ok : ∀ r ∈ rows, Asc r ∧ r.length ≤ 1000000) (chk : Hp → Bool) (hc : ∀ H, chk H = true) : ∀ (rest : List Str) (k : Nat) (acc : List V) (i : Nat) (ρ : Rho) (H : Hp), rows.dropLast.drop k = rest → acc.length + 4 * rest.length ≤ line → H[jr]? = some (.list (rows.map .str)) → H[i]? = some (.list acc) →
    ρ.lookup "_law_rows" = some (.ref jr) → ρ.lookup "_law_raw_here" = some (.ref i) → ∃ H', Ext H H' ∧ match readR r0 k rest with
      | Option.none => forL (rawF n) chk ((List.range' k rest.length).map fun (k : Nat) => .int (k : Int)) ρ H = .ret .none H'
      | some ms => ∃ ρ' i', forL (rawF n) chk ((List.range' k rest.length).map fun (k : Nat) => .int (k : Int)) ρ H = .next ρ' H' ∧ ρ'.lookup "_law_raw_here" = some (.ref i') ∧ H'[i']? = some (.list (acc ++ numV ms))
  | [], k, acc, i, ρ, H, _, _, _, hi, _, hh => ⟨H, Ext.refl H, ρ, i, by show forL _ _ [] _ _ = _; rw [forL, if_pos (hc _)], hh, by rw [hi]; simp [numV]⟩
  | r :: rest, k, acc, i, ρ, H, hd, hl, hj, hi, hr, hh => by
    obtain ⟨a1, a2⟩ := get_drop hd
    have a1' : rows[k]? = some r := by
      rw [List.getElem?_dropLast] at a1
      split at a1
      · exact a1
      · cases a1
    rw [List.length_cons] at hl ⊢
    obtain ⟨H1, x1, t⟩ := raw_turn n rows r0 jr h0 ok a1' hj hi (by omega) hr hh
    rw [List.range'_succ, List.map_cons]
    unfold readR
    cases hm : rowP (nameAt r0 k) (words r) with
    | none =>
      rw [hm] at t
      refine ⟨H1, x1, ?_⟩
      dsimp only at t ⊢
      rw [forL, if_pos (hc _), t]; rfl
    | some ms =>
      rw [hm] at t
      dsimp only at t ⊢
      obtain ⟨ρ1, i1, t, q1, q2, q3⟩ := t
      have hml : (numV ms).length ≤ 4 := by rw [numV, List.length_map, (rowP_len hm).2]; exact nameAt_len r0 k
      obtain ⟨H2, x2, u⟩ := raw_loop h0 ok chk hc rest (k + 1) (acc ++ numV ms) i1 ρ1 H1 a2 (by rw [List.length_append]; omega) (x1.get hj) q3 q1 q2
      refine ⟨H2, x1.trans x2, ?_⟩
      cases hm2 : readR r0 (k + 1) rest with
      | none =>
        rw [hm2] at u
        dsimp only [Option.map] at u ⊢
        rw [forL, if_pos (hc _), t, RS.bind_next]; exact u
      | some ms2 =>
        rw [hm2] at u
        dsimp only [Option.map] at u ⊢
        obtain ⟨ρ2, i2, u, v1, v2⟩ := u
        refine ⟨ρ2, i2, ?_, v1, ?_⟩
        · rw [forL, if_pos (hc _), t, RS.bind_next]; exact u
        · rw [v2]
          simp [numV]
end
end Mine.L13

/-! P13f -/
namespace Mine.L13
open Mine PySem

theorem idx_last {xs : List V} {k : Nat} {v : V} {H : Hp} (h : H[k]? = some (.list xs)) (hv : xs[xs.length - 1]? = some v) : index (.ref k) (.int (-1)) H = .ok v H := by
  have hl := (List.getElem?_eq_some_iff.mp hv).1
  have hp : place (-1) xs.length = some (xs.length - 1) := by
    unfold place
    rw [if_neg (by decide), if_pos (by omega), show ((-1 : Int) + xs.length).toNat = xs.length - 1 by omega]
  have q : index (.ref k) (.int (-1)) H = (match listAt (.ref k) H with | some xs => itemAt xs (-1) H | Option.none => .stuck) := rfl
  rw [q, listAt_of h]
  simp [itemAt, hp, hv]
theorem rows_ok {t : Str} (ha : Asc t) (hl : t.length ≤ 499999) : ∀ r ∈ Txt.split t nl, Asc r ∧ r.length ≤ 1000000 := fun r hr =>
  ⟨(split_part hr).2 ha, Nat.le_trans (split_part hr).1 (by omega)⟩
inductive RowsR (t : Str) (rows : List Str) : Prop
  | few (h : rows.length < 3) (e : dayP t = Option.none)
  | many (r0 r1 x : Str) (rest : List Str) (z : Str) (h : rows = r0 :: r1 :: x :: rest) (hz : rows[rows.length - 1]? = some z) (hl : 3 ≤ rows.length) (hd : rows.dropLast = r0 :: r1 :: (x :: rest).dropLast) (e : dayP t = if z = Str.empty ∧ isRoad (s4 r0) = true then dayR r0 r1 (x :: rest).dropLast else Option.none)
theorem rowsR (t : Str) : RowsR t (Txt.split t nl) := by
  have q : dayP t = match Txt.split t nl with
    | r0 :: r1 :: x :: rest => if (x :: rest).getLast? = some Str.empty ∧ isRoad (s4 r0) = true then dayR r0 r1 (x :: rest).dropLast else Option.none
    | _ => Option.none := rfl
  match h : Txt.split t nl with
  | [] => exact .few (by decide) (by rw [q, h])
  | [_] => exact .few (by decide : 1 < 3) (by rw [q, h])
  | [_, _] => exact .few (by decide : 2 < 3) (by rw [q, h])
  | r0 :: r1 :: x :: rest =>
    have hz : (x :: rest).getLast? = some ((x :: rest).getLast (by simp)) := List.getLast?_eq_getLast ..
    refine .many r0 r1 x rest ((x :: rest).getLast (by simp)) rfl ?_ (by simp) rfl ?_
    · rw [← List.getLast?_eq_getElem?, List.getLast?_cons_cons, List.getLast?_cons_cons, hz]
    · rw [q, h]
      dsimp only
      rw [hz]
      by_cases hq : (x :: rest).getLast (by simp) = Str.empty ∧ isRoad (s4 r0) = true
      · rw [if_pos hq, if_pos ⟨congrArg some hq.1, hq.2⟩]
      · rw [if_neg hq, if_neg fun y => hq ⟨Option.some.inj y.1, y.2⟩]
theorem beq_empty (z : Str) : (z == Str.ofString "") = decide (z = Str.empty) := by
  rw [em_eq]
  by_cases h : z = Str.empty
  · rw [h]; rfl
  · rw [decide_eq_false h]; exact beq_eq_false_iff_ne.mpr h
theorem ev_rows {n : Nat} {ρ : Rho} {H : Hp} {e1 e2 : E} {rows : List Str} {t : Str} (hr : RowsR t rows) (h1 : evE (G n) ρ e1 H = .ok (.int rows.length) H) (h2 : ∀ z, rows[rows.length - 1]? = some z → evE (G n) ρ e2 H = .ok (.str z) H) :
    ∃ c, evE (G n) ρ (.or [(.cmp e1 .lt (.int 3)), (.cmp e2 .ne (.str ""))]) H = .ok (.bool c) H ∧ (c = true → dayP t = Option.none) ∧ (c = false → ∃ r0 r1 x rest, rows = r0 :: r1 :: x :: rest ∧ rows.dropLast = r0 :: r1 :: (x :: rest).dropLast ∧ dayP t = if isRoad (s4 r0) = true then dayR r0 r1 (x :: rest).dropLast else Option.none) := by
  cases hr with
  | few h e =>
    refine ⟨true, ?_, fun _ => e, fun q => nomatch q⟩
    rw [evE_or]
    refine ev_or (c := true) (ev_cmp h1 (evE_int _ _ _ _) (by rw [cmp_lt, decide_eq_true (by omega)])) rfl
  | many r0 r1 x rest z h hz hl hd e =>
    refine ⟨!decide (z = Str.empty), ?_, fun q => ?_, fun q => ⟨r0, r1, x, rest, h, hd, ?_⟩⟩
    · rw [evE_or]
      refine ev_or (c := false) (ev_cmp h1 (evE_int _ _ _ _) (by rw [cmp_lt, decide_eq_false (by omega)])) ?_
      exact ev_cmp (h2 z hz) (evE_str _ _ _ _) (by rw [cmp_ne_str, beq_empty])
    · rw [e, if_neg fun x => by rw [decide_eq_true x.1] at q; cases q]
    · have hz : z = Str.empty := by simpa using q
      rw [e, hz]; simp
theorem c_raw (n : Nat) (t : Str) (H : Hp) (ha : Asc t) (hl : t.length ≤ 499999) : LawAns H ((dayP t).map fun d => .str d.w :: numV d.nums) ((G (n + 3)).call "_law_raw" [.str t] H) := by
  rw [lk_call (d := d__law_raw) (by kernel_rfl)]
  have es := m_split H (y := nl) (show t.length ≤ 1000000 by omega) ha (by decide)
  have ok := rows_ok ha hl
  have hr := rowsR t
  have hle := PyProof.Rows.split_le t nl
  generalize Txt.split t nl = rows at es ok hr hle
  have k1 : (H ++ [.list (rows.map .str)])[H.length]? = some (.list (rows.map .str)) := len_app1 H _
  have x1 : Ext H (H ++ [.list (rows.map .str)]) := ext_app _ _
  have bl := bi_len_ref k1
  rw [List.length_map] at bl
  refine runDef_P (ρ := [("_law_text", .str t)]) rfl ?_
  refine ss_asg (v := .ref H.length) (H1 := H ++ [.list (rows.map .str)]) (ev_meth (w := .str t) (ev_var rfl) rfl (evs_one ((evE_str _ _ _ _).trans (by rw [nl_eq]))) es) ?_
  obtain ⟨c, ec, c1, c2⟩ := ev_rows (n := n + 2) (ρ := [("_law_text", .str t), ("_law_rows", .ref H.length)]) (e1 := .call "len" [(.var "_law_rows")]) (e2 := .idx (.var "_law_rows") (.neg (.int 1))) hr (ev_bi (G_hd _) (evs_one (ev_var rfl)) bl)
    (fun z hz => ev_idx (ev_var rfl) (v := .int (-1)) (by rw [evE_neg, evE_int]; rfl) (idx_last k1 (by rw [List.length_map, List.getElem?_map, hz]; rfl)))
  refine ss_if ec ?_
  cases c with
  | true =>
    rw [c1 rfl]
    exact ss_ret (evE_none _ _ _) ⟨_, x1, rfl⟩
  | false =>
    obtain ⟨r0, r1, x, rest, hrows, hdl, hday⟩ := c2 rfl
    have g0 : rows[0]? = some r0 := by rw [hrows]; rfl
    obtain ⟨o1, o2⟩ := ok r0 (List.mem_of_getElem? g0)
    refine ss_asg (ev_new (evs_one (ev_s4 (ev_idx (ev_var rfl) (evE_int _ _ _ _) (idx_ref (i := 0) k1 (by rw [List.getElem?_map, g0]; rfl))) o1 o2))) ?_
    have x2 : Ext (H ++ [.list (rows.map .str)]) (H ++ [.list (rows.map .str)] ++ [.list [.str (s4 r0)]]) := ext_app _ _
    have hdn : rows.dropLast.length = rows.length - 1 := List.length_dropLast
    have b2 := bi_len_ref (x2.get k1)
    rw [List.length_map] at b2
    have hpos : 1 ≤ rows.length := by rw [hrows]; simp
    have eN : evE (G (n + 2)) [("_law_text", .str t), ("_law_rows", .ref H.length), ("_law_raw_here", .ref (H ++ [O.list (rows.map .str)]).length)] (.call "range" [(.bin .sub (.call "len" [(.var "_law_rows")]) (.int 1))]) (H ++ [.list (rows.map .str)] ++ [.list [.str (s4 r0)]]) = .ok (.rng 0 rows.dropLast.length 1) (H ++ [.list (rows.map .str)] ++ [.list [.str (s4 r0)]]) := by
      refine (ev_bi (G_hd _) (evs_one ((ev_bin (ev_bi (G_hd _) (evs_one (ev_var rfl)) b2) (evE_int _ _ _ _)).trans (bin_sub _ _ _))) (bi_range _ _)).trans ?_
      rw [hdn, show ((rows.length : Int) - 1) = ((rows.length - 1 : Nat) : Int) by omega]
    obtain ⟨H3, x3, lp⟩ := raw_loop n rows r0 H.length g0 ok (sameO (.rng 0 rows.dropLast.length 1) (H ++ [.list (rows.map .str)] ++ [.list [.str (s4 r0)]])) (fun _ => rfl) rows.dropLast 0 [.str (s4 r0)] (H ++ [O.list (rows.map .str)]).length
      [("_law_text", .str t), ("_law_rows", .ref H.length), ("_law_raw_here", .ref (H ++ [O.list (rows.map .str)]).length)] (H ++ [.list (rows.map .str)] ++ [.list [.str (s4 r0)]]) rfl (by rw [hdn]; unfold line; simp; omega) (x2.get k1) (len_app1 _ _) rfl rfl
    have xx := (x1.trans x2).trans x3
    rw [hdl, readR_day, ← hdl] at lp
    cases hm : dayR r0 r1 (x :: rest).dropLast with
    | none =>
      rw [hm] at lp
      refine ss_for (G_hd _) eN (items_range _ _ (by rw [hdn]; omega)) lp ?_
      have : dayP t = Option.none := by rw [hday, hm]; split <;> rfl
      rw [this]
      exact ⟨_, xx, rfl⟩
    | some d =>
      have hdw : d.w = s4 r0 := by
        unfold dayR at hm
        split at hm
        · split at hm
          · obtain ⟨qs, _, rfl⟩ := Option.map_eq_some_iff.mp hm; rfl
          · cases hm
        · cases hm
      rw [hm] at lp
      obtain ⟨ρ', i', lp, q1, q2⟩ := lp
      refine ss_for (G_hd _) eN (items_range _ _ (by rw [hdn]; omega)) lp ?_
      have ei : ∀ s, evE (G (n + 2)) ρ' (.cmp (.idx (.var "_law_raw_here") (.int 0)) .ne (.str s)) H3 = .ok (.bool (!(s4 r0 == Str.ofString s))) H3 := fun s => ev_cmp (ev_idx (ev_var q1) (evE_int _ _ _ _) (idx_ref (i := 0) q2 rfl)) (evE_str _ _ _ _) (cmp_ne_str _ _ _)
      refine ss_if (c := !isRoad (s4 r0)) (H1 := H3) ?_ ?_
      · rw [evE_and]
        refine ev_and (ei _) ?_
        unfold isRoad
        cases (s4 r0 == Str.ofString "line") with
        | true => rfl
        | false => exact ei _
      cases hR : isRoad (s4 r0) with
      | false =>
        rw [hday, hR]
        exact ss_ret (evE_none _ _ _) ⟨_, xx, rfl⟩
      | true =>
        rw [hday, hR, if_pos rfl, hm]
        refine ss_ret (ev_var q1) ⟨_, xx, i', rfl, ?_⟩
        rw [q2]
        show some (O.list (.str (s4 r0) :: numV d.nums)) = some (O.list (.str d.w :: numV d.nums))
        rw [hdw]
end Mine.L13

/-! P13g -/
namespace Mine.L13
open Mine PySem

noncomputable def tupQ (q : Q4) : V := .tup [.int (q.1 : Int), .int (q.2.1 : Int), .int (q.2.2.1 : Int), .int (q.2.2.2 : Int)]
/-! the stops of a text -/
noncomputable def StH (H : Hp) (done rs : List V) (L : Hp) : Hp := H ++ .list done :: .list rs :: L
section
variable (H : Hp) (done rs : List V) (L : Hp)
theorem stH_0 : (StH H done rs L)[H.length]? = some (.list done) := by unfold StH; rw [List.getElem?_append_right (by omega)]; simp
theorem stH_1 : (StH H done rs L)[H.length + 1]? = some (.list rs) := by unfold StH; rw [List.getElem?_append_right (by omega)]; simp
theorem stH_set (d' : List V) : (StH H done rs L).set H.length (.list d') = StH H d' rs L := by unfold StH; rw [List.set_append_right _ _ (by omega)]; simp
theorem stH_ext {H' : Hp} (e : Ext (StH H done rs L) H') : ∃ L', H' = StH H done rs L' := by
  obtain ⟨M, rfl⟩ := e
  exact ⟨L ++ M, by unfold StH; simp⟩
theorem stH_in : Ext H (StH H done rs L) := ext_app _ _
end
noncomputable abbrev stB : List S := [
    .unpack ["place", "opens", "closes", "stay"] (.call "numbers_of" [(.var "row"), (.tup [(.str "stop"), .none, (.str "from"), .none, (.str "to"), .none, (.str "for"), .none])]),
    .expr (.meth (.var "stops") "append" [(.tup [(.var "place"), (.var "opens"), (.var "closes"), (.var "stay")])])]
noncomputable abbrev stF (n : Nat) (v : V) (ρ1 : Rho) (H2 : Hp) : RS := exSs (G (n + 2)) stB (setL "row" v ρ1) H2
theorem ev_tup {Γ : Fn} {ρ : Rho} {es : List E} {vs : List V} {H H1 : Hp} (h : evEs Γ ρ es H = .ok vs H1) : evE Γ ρ (.tup es) H = .ok (.tup vs) H1 := by
  rw [evE_tup, h]; rfl
noncomputable def keepN (ρ ρ' : Rho) : Prop := ∀ y, y ≠ "row" → y ≠ "place" → y ≠ "opens" → y ≠ "closes" → y ≠ "stay" → ρ'.lookup y = ρ.lookup y
noncomputable def StT (H : Hp) (done rs : List V) (ρ : Rho) (o : Option (List Q4)) (x : RS) : Prop := match o with
  | Option.none => ∃ ρ' H', Ext H H' ∧ x = .raise "NoDay" ρ' H'
  | some qs => ∃ ρ' L', keepN ρ ρ' ∧ x = .next ρ' (StH H (done ++ qs.map tupQ) rs L')
theorem st_turn (n : Nat) (H : Hp) (done rs : List V) (L : Hp) (ρ : Rho) (r : Str) (ha : Asc r) (hl : r.length ≤ 1000000) (hd : done.length < line) (hs : ρ.lookup "stops" = some (.ref H.length)) :
    StT H done rs ρ ((stopP r).map fun q => [q]) (stF n (.str r) ρ (StH H done rs L)) := by
  obtain ⟨H1, x1, e⟩ := c_numbers n r stopN (StH H done rs L) ha hl (by decide)
  obtain ⟨L1, rfl⟩ := stH_ext _ _ _ _ x1
  rw [row_stop] at e
  have ea : evEs (G (n + 2)) (setL "row" (.str r) ρ) [(.var "row"), (.tup [(.str "stop"), .none, (.str "from"), .none, (.str "to"), .none, (.str "for"), .none])] (StH H done rs L) = .ok [.str r, .tup (form stopN)] (StH H done rs L) :=
    evs_cons (ev_var (setL_self _ _ _)) (evs_one (ev_tup (evs_cons (evE_str _ _ _ _) (evs_cons (evE_none _ _ _) (evs_cons (evE_str _ _ _ _) (evs_cons (evE_none _ _ _) (evs_cons (evE_str _ _ _ _) (evs_cons (evE_none _ _ _) (evs_cons (evE_str _ _ _ _) (evs_one (evE_none _ _ _)))))))))))
  cases hq : stopP r with
  | none =>
    rw [hq] at e
    exact ss_unpack_raise (G_hd _) (ev_call (G_hd _) ea rfl e) ⟨_, _, stH_in _ _ _ _, rfl⟩
  | some q =>
    rw [hq] at e
    obtain ⟨k, e, g⟩ := e
    obtain ⟨a, b, c, d⟩ := q
    have hp : partsV (.ref k) (StH H done rs L1) = some [.int (a : Int), .int (b : Int), .int (c : Int), .int (d : Int)] := listAt_of g
    refine ss_unpack (ρ1 := setL "stay" (.int (d : Int)) (setL "closes" (.int (c : Int)) (setL "opens" (.int (b : Int)) (setL "place" (.int (a : Int)) (setL "row" (.str r) ρ))))) (G_hd _) (ev_call (G_hd _) ea rfl e) hp rfl ?_
    refine ss_expr (ev_meth (ev_var (setL_other (by decide) (setL_other (by decide) (setL_other (by decide) (setL_other (by decide) (setL_other (by decide) hs)))))) (kind_list (stH_0 ..))
      (evs_one (ev_tup (evs_cons (ev_var (setL_other (by decide) (setL_other (by decide) (setL_other (by decide) (setL_self _ _ _))))) (evs_cons (ev_var (setL_other (by decide) (setL_other (by decide) (setL_self _ _ _)))) (evs_cons (ev_var (setL_other (by decide) (setL_self _ _ _))) (evs_one (ev_var (setL_self _ _ _)))))))) (m_append (stH_0 ..) hd)) ?_
    rw [stH_set]
    refine ⟨_, L1, fun y h1 h2 h3 h4 h5 => ?_, rfl⟩
    rw [lookup_setL, if_neg h5, lookup_setL, if_neg h4, lookup_setL, if_neg h3, lookup_setL, if_neg h2, lookup_setL, if_neg h1]
theorem keepN.trans {a b c : Rho} (h : keepN a b) (k : keepN b c) : keepN a c := fun y h1 h2 h3 h4 h5 => (k y h1 h2 h3 h4 h5).trans (h y h1 h2 h3 h4 h5)
theorem st_loop (n : Nat) (H : Hp) (rs : List V) (chk : Hp → Bool) (hc : ∀ d L, chk (StH H d rs L) = true) : ∀ (rows : List Str) (done : List V) (L : Hp) (ρ : Rho), (∀ r ∈ rows, Asc r ∧ r.length ≤ 1000000) → done.length + rows.length ≤ line → ρ.lookup "stops" = some (.ref H.length) →
    StT H done rs ρ (stopsP rows) (forL (stF n) chk (rows.map .str) ρ (StH H done rs L))
  | [], done, L, ρ, _, _, _ => ⟨ρ, L, fun _ _ _ _ _ _ => rfl, by rw [List.map_nil, forL, if_pos (hc _ _)]; simp⟩
  | r :: rows, done, L, ρ, ok, hl, hs => by
    rw [List.length_cons] at hl
    obtain ⟨o1, o2⟩ := ok r (List.mem_cons_self ..)
    have t := st_turn n H done rs L ρ r o1 o2 (by omega) hs
    rw [List.map_cons, forL, if_pos (hc _ _)]
    unfold stopsP
    cases hq : stopP r with
    | none =>
      rw [hq] at t
      obtain ⟨ρ1, H1, x1, t⟩ := t
      rw [t]
      exact ⟨ρ1, H1, x1, rfl⟩
    | some q =>
      rw [hq] at t
      obtain ⟨ρ1, L1, k1, t⟩ := t
      rw [t, RS.bind_next]
      have u := st_loop n H rs chk hc rows (done ++ [q].map tupQ) L1 ρ1 (fun r hr => ok r (List.mem_cons_of_mem _ hr)) (by simp; omega) ((k1 _ (by decide) (by decide) (by decide) (by decide) (by decide)).trans hs)
      dsimp only
      cases hm : stopsP rows with
      | none => rw [hm] at u; exact u
      | some qs =>
        rw [hm] at u
        obtain ⟨ρ2, L2, k2, u⟩ := u
        refine ⟨ρ2, L2, k1.trans k2, ?_⟩
        rw [u]; simp
end Mine.L13

/-! P13h -/
namespace Mine.L13
open Mine PySem

theorem road_four {p : Str} (h : isRoad p = true) : p.length = 4 := by
  unfold isRoad at h
  rw [Bool.or_eq_true, beq_iff_eq, beq_iff_eq] at h
  rcases h with rfl | rfl
  · decide +kernel
  · decide +kernel
theorem beq_symm (a b : Str) : (a == b) = (b == a) := by
  by_cases h : a = b
  · rw [h]
  · rw [beq_eq_false_iff_ne.mpr h, beq_eq_false_iff_ne.mpr (Ne.symm h)]
theorem notin_road (p : Str) (H : Hp) : cmp .notIn (.str p) (.tup [.str sLine, .str sRing]) H = some (!isRoad p) := by
  have q : cmp .notIn (.str p) (.tup [.str sLine, .str sRing]) H = some (!((sLine == p) || ((sRing == p) || false))) := rfl
  rw [q, beq_symm sLine, beq_symm sRing, Bool.or_false]; rfl
theorem dayR_row {r0 r1 : Str} {rs : List Str} {d : Dy} (h : dayR r0 r1 rs = some d) : ∃ l, rowP [s4 r0] (words r0) = some [l] := by
  unfold dayR at h
  split at h
  · rename_i l e; exact ⟨l, e⟩
  · cases h
theorem ev_idx_raise {Γ : Fn} {ρ : Rho} {o i : E} {c : String} {H H1 : Hp} (ho : evE Γ ρ o H = .raise c H1) : evE Γ ρ (.idx o i) H = .raise c H1 := by
  rw [evE_idx, ho]; rfl
theorem slice_list {xs : List V} {k m : Nat} {H : Hp} (h : H[k]? = some (.list xs)) (hm : 2 ≤ m) (hl : m ≤ xs.length) : sliceV (.ref k) (.int 2) (.int m) H = .ok (.ref H.length) (H ++ [.list ((xs.drop 2).take (m - 2))]) := by
  have q : sliceV (.ref k) (.int 2) (.int m) H = (match listAt (.ref k) H with | some xs => (if 0 ≤ (2 : Int) ∧ (2 : Int) ≤ m ∧ (m : Int) ≤ xs.length then new (.list ((xs.drop (2 : Int).toNat).take ((m : Int) - 2).toNat)) H else .stuck) | Option.none => .stuck) := rfl
  rw [q, listAt_of h]
  dsimp only
  rw [if_pos ⟨by decide, by omega, by omega⟩, show ((m : Int) - 2).toNat = m - 2 by omega]; rfl
noncomputable def ReadT (n : Nat) (H : Hp) (o : Option Dy) (r : R V) : Prop := ∃ H', Ext H H' ∧ match o with
  | Option.none => r = .raise "NoDay" H'
  | some d => ∃ j, H'[j]? = some (.list (d.qs.map tupQ)) ∧ r = (G (n + 2)).call "Day" [.tup [.str d.w, .int (d.l : Int)], .int (d.h : Int), .int (d.s : Int), .ref j] H'
theorem fin_of (r : R V) (ρ : Rho) : fin (ofR ρ r fun v H => .ret v H) = r := by cases r <;> rfl
theorem c_read (n : Nat) (t : Str) (H : Hp) (ha : Asc t) (hl : t.length ≤ 499999) : ReadT n H (dayP t) ((G (n + 3)).call "read" [.str t] H) := by
  rw [lk_call (d := d_read) (by kernel_rfl)]
  have es := m_split H (y := nl) (show t.length ≤ 1000000 by omega) ha (by decide)
  have ok := rows_ok ha hl
  have hr := rowsR t
  have hle := PyProof.Rows.split_le t nl
  generalize Txt.split t nl = rows at es ok hr hle
  have k1 : (H ++ [.list (rows.map .str)])[H.length]? = some (.list (rows.map .str)) := len_app1 H _
  have x1 : Ext H (H ++ [.list (rows.map .str)]) := ext_app _ _
  have bl : ∀ {H'}, Ext (H ++ [.list (rows.map .str)]) H' → builtin "len" [.ref H.length] H' = .ok (.int rows.length) H' := fun x => by
    have := bi_len_ref (x.get k1); rwa [List.length_map] at this
  refine runDef_P (ρ := [("text", .str t)]) rfl ?_
  refine ss_if (c := false) (H1 := H) (by rw [evE_not, evE_isinst, ev_var (x := "text") rfl]; rfl) ?_
  refine ss_asg (v := .ref H.length) (H1 := H ++ [.list (rows.map .str)]) (ev_meth (w := .str t) (ev_var rfl) rfl (evs_one ((evE_str _ _ _ _).trans (by rw [nl_eq]))) es) ?_
  obtain ⟨c, ec, c1, c2⟩ := ev_rows (n := n + 2) (ρ := [("text", .str t), ("rows", .ref H.length)]) (e1 := .call "len" [(.var "rows")]) (e2 := .idx (.var "rows") (.bin .sub (.call "len" [(.var "rows")]) (.int 1))) hr (ev_bi (G_hd _) (evs_one (ev_var rfl)) (bl (Ext.refl _)))
    (fun z hz => ev_idx (ev_var rfl) (v := .int ((rows.length - 1 : Nat) : Int)) ((ev_bin (ev_bi (G_hd _) (evs_one (ev_var rfl)) (bl (Ext.refl _))) (evE_int _ _ _ _)).trans ((bin_sub _ _ _).trans (by
      have := (List.getElem?_eq_some_iff.mp hz).1
      rw [show (rows.length : Int) - 1 = ((rows.length - 1 : Nat) : Int) by omega]))) (idx_ref k1 (by rw [List.getElem?_map, hz]; rfl)))
  refine ss_if ec ?_
  cases c with
  | true =>
    rw [c1 rfl]
    exact ss_raise (G_hd _) ⟨_, x1, rfl⟩
  | false =>
    obtain ⟨r0, r1, x, rest, hrows, hdl, hday⟩ := c2 rfl
    have g0 : rows[0]? = some r0 := by rw [hrows]; rfl
    have g1 : rows[1]? = some r1 := by rw [hrows]; rfl
    obtain ⟨o1, o2⟩ := ok r0 (List.mem_of_getElem? g0)
    obtain ⟨o3, o4⟩ := ok r1 (List.mem_of_getElem? g1)
    have row : ∀ {H' : Hp} {i : Nat} {r : Str}, Ext (H ++ [.list (rows.map .str)]) H' → rows[i]? = some r → index (.ref H.length) (.int i) H' = .ok (.str r) H' := fun x h => idx_ref (x.get k1) (by rw [List.getElem?_map, h]; rfl)
    obtain ⟨p, ps, hp⟩ : ∃ p ps, words r0 = p :: ps := by
      cases e : words r0 with
      | nil => exact absurd e (split_ne r0 sp)
      | cons p ps => exact ⟨p, ps, rfl⟩
    have es2 := m_split (H ++ [.list (rows.map .str)]) (y := sp) o2 o1 (by decide)
    have x2 : Ext (H ++ [.list (rows.map .str)]) (H ++ [.list (rows.map .str)] ++ [.list ((words r0).map .str)]) := ext_app _ _
    refine ss_asg (v := .str p) (ev_idx (ev_meth (ev_idx (ev_var rfl) (evE_int _ _ _ _) (row (i := 0) (Ext.refl _) g0)) rfl (evs_one ((evE_str _ _ _ _).trans (by rw [sp_eq]))) es2) (evE_int _ _ _ _) (idx_ref (i := 0) (len_app1 _ _) (by show ((words r0).map V.str)[0]? = _; rw [hp]; rfl))) ?_
    refine ss_if (c := !isRoad p) (ev_cmp (ev_var rfl) (ev_tup (evs_cons (by rw [evE_glob, lk_const]; rfl) (evs_one (by rw [evE_glob, lk_const]; rfl)))) (notin_road p _)) ?_
    cases hR : isRoad p with
    | false =>
      have : dayP t = Option.none := by
        rw [hday]
        split
        · rename_i hs
          cases hm : dayR r0 r1 (x :: rest).dropLast with
          | none => rfl
          | some d =>
            obtain ⟨l, e⟩ := dayR_row hm
            rw [hp] at e
            cases ps with
            | nil => cases e
            | cons y ps =>
              unfold rowP at e
              split at e
              · rename_i hw
                rw [beq_iff_eq.mp hw, hs] at hR
                cases hR
              · cases e
        · rfl
      rw [this]
      exact ss_raise (G_hd _) ⟨_, x1.trans x2, rfl⟩
    | true =>
      have h4 : s4 r0 = p := slice4 hp (road_four hR)
      rw [h4, hR, if_pos rfl] at hday
      obtain ⟨H3, x3, e3⟩ := c_numbers n r0 [p] (H ++ [.list (rows.map .str)] ++ [.list ((words r0).map .str)]) o1 o2 (by decide : 1 ≤ 100)
      have ea : evEs (G (n + 2)) [("text", .str t), ("rows", .ref H.length), ("word", .str p)] [(.idx (.var "rows") (.int 0)), (.tup [(.var "word"), .none])] (H ++ [.list (rows.map .str)] ++ [.list ((words r0).map .str)]) = .ok [.str r0, .tup (form [p])] (H ++ [.list (rows.map .str)] ++ [.list ((words r0).map .str)]) :=
        evs_cons (ev_idx (ev_var rfl) (evE_int _ _ _ _) (row (i := 0) x2 g0)) (evs_one (ev_tup (evs_cons (ev_var rfl) (evs_one (evE_none _ _ _)))))
      unfold dayR at hday
      rw [h4] at hday
      cases hm : rowP [p] (words r0) with
      | none =>
        rw [hm] at e3 hday
        rw [hday]
        exact ss_asg_raise (ev_idx_raise (ev_call (G_hd _) ea rfl e3)) ⟨_, (x1.trans x2).trans x3, rfl⟩
      | some ms =>
        rw [hm] at e3 hday
        obtain ⟨km, e3, g3⟩ := e3
        have hml := (rowP_len hm).2
        match ms, hml with
        | [l], _ =>
        refine ss_asg (v := .int (l : Int)) (ev_idx (ev_call (G_hd _) ea rfl e3) (evE_int _ _ _ _) (idx_ref (i := 0) g3 rfl)) ?_
        obtain ⟨H4, x4, e4⟩ := c_numbers n r1 homeN H3 o3 o4 (by decide)
        have eb : evEs (G (n + 2)) [("text", .str t), ("rows", .ref H.length), ("word", .str p), ("length", .int (l : Int))] [(.idx (.var "rows") (.int 1)), (.tup [(.str "home"), .none, (.str "at"), .none])] H3 = .ok [.str r1, .tup (form homeN)] H3 :=
          evs_cons (ev_idx (ev_var rfl) (evE_int _ _ _ _) (row (i := 1) (x2.trans x3) g1)) (evs_one (ev_tup (evs_cons (evE_str _ _ _ _) (evs_cons (evE_none _ _ _) (evs_cons (evE_str _ _ _ _) (evs_one (evE_none _ _ _)))))))
        cases hm1 : rowP homeN (words r1) with
        | none =>
          rw [hm1] at e4 hday
          rw [hday]
          exact ss_unpack_raise (G_hd _) (ev_call (G_hd _) eb rfl e4) ⟨_, ((x1.trans x2).trans x3).trans x4, rfl⟩
        | some ms1 =>
          rw [hm1] at e4 hday
          obtain ⟨kh, e4, g4⟩ := e4
          have hml1 := (rowP_len hm1).2
          match ms1, hml1 with
          | [h, s], _ =>
          have hp4 : partsV (.ref kh) H4 = some [.int (h : Int), .int (s : Int)] := listAt_of g4
          refine ss_unpack (G_hd _) (ev_call (G_hd _) eb rfl e4) hp4 rfl ?_
          refine ss_asg (ev_new evs_nil) ?_
          have x5 : Ext (H ++ [.list (rows.map .str)]) (H4 ++ [.list []]) := ((x2.trans x3).trans x4).trans (ext_app _ _)
          have hlen : rows.length = rest.length + 3 := by rw [hrows]; simp
          have hsl : ((rows.map V.str).drop 2).take (rows.length - 1 - 2) = (x :: rest).dropLast.map .str := by
            rw [hrows]
            show ((x :: rest).map V.str).take (rest.length + 3 - 1 - 2) = _
            rw [← List.map_take, List.dropLast_eq_take]; rfl
          have e5 := slice_list (k := H.length) (m := rows.length - 1) (x5.get k1) (by omega) (by rw [List.length_map]; omega)
          rw [hsl] at e5
          have hH : H4 ++ [O.list []] ++ [.list ((x :: rest).dropLast.map .str)] = StH H4 [] ((x :: rest).dropLast.map .str) [] := by unfold StH; simp
          rw [hH, show (H4 ++ [O.list []]).length = H4.length + 1 by simp] at e5
          have u := st_loop n H4 ((x :: rest).dropLast.map .str) (sameO (.ref (H4.length + 1)) (StH H4 [] ((x :: rest).dropLast.map .str) [])) (fun d L => by simp [sameO, stH_1]) (x :: rest).dropLast [] []
            [("text", .str t), ("rows", .ref H.length), ("word", .str p), ("length", .int (l : Int)), ("home", .int (h : Int)), ("start", .int (s : Int)), ("stops", .ref H4.length)]
            (fun r hr => ok r (by rw [hrows]; exact List.mem_cons_of_mem _ (List.mem_cons_of_mem _ (List.dropLast_subset _ hr)))) (by rw [List.length_dropLast]; unfold line; simp; omega) rfl
          have sl : evE (G (n + 2)) [("text", .str t), ("rows", .ref H.length), ("word", .str p), ("length", .int (l : Int)), ("home", .int (h : Int)), ("start", .int (s : Int)), ("stops", .ref H4.length)] (.slice (.var "rows") (.int 2) (.bin .sub (.call "len" [(.var "rows")]) (.int 1))) (H4 ++ [.list []]) = .ok (.ref (H4.length + 1)) (StH H4 [] ((x :: rest).dropLast.map .str) []) := by
            rw [evE_slice, ev_var (x := "rows") rfl, R.bind_ok, evE_int, R.bind_ok, ev_bin (ev_bi (G_hd _) (evs_one (ev_var (x := "rows") rfl)) (bl x5)) (evE_int _ _ _ _), bin_sub, R.bind_ok, show (rows.length : Int) - 1 = ((rows.length - 1 : Nat) : Int) by omega]
            exact e5
          have xx : Ext H H4 := ((x1.trans x2).trans x3).trans x4
          cases hq : stopsP (x :: rest).dropLast with
          | none =>
            rw [hq] at u hday
            obtain ⟨ρ', H', x', u⟩ := u
            refine ss_for (G_hd _) sl (listAt_of (stH_1 ..)) u ?_
            rw [hday]
            exact ⟨_, xx.trans x', rfl⟩
          | some qs =>
            rw [hq] at u hday
            obtain ⟨ρ', L', k', u⟩ := u
            refine ss_for (G_hd _) sl (listAt_of (stH_1 ..)) u ?_
            rw [hday]
            have lk : ∀ y v, y ≠ "row" → y ≠ "place" → y ≠ "opens" → y ≠ "closes" → y ≠ "stay" → List.lookup y [("text", V.str t), ("rows", .ref H.length), ("word", .str p), ("length", .int (l : Int)), ("home", .int (h : Int)), ("start", .int (s : Int)), ("stops", .ref H4.length)] = some v → ρ'.lookup y = some v := fun y v h1 h2 h3 h4 h5 e => (k' y h1 h2 h3 h4 h5).trans e
            have ed : evE (G (n + 2)) ρ' (.call "Day" [(.tup [(.var "word"), (.var "length")]), (.var "home"), (.var "start"), (.var "stops")]) (StH H4 ([] ++ qs.map tupQ) ((x :: rest).dropLast.map .str) L') = (G (n + 2)).call "Day" [.tup [.str p, .int (l : Int)], .int (h : Int), .int (s : Int), .ref H4.length] (StH H4 ([] ++ qs.map tupQ) ((x :: rest).dropLast.map .str) L') :=
              ev_call (G_hd _) (evs_cons (ev_tup (evs_cons (ev_var (lk _ _ (by decide) (by decide) (by decide) (by decide) (by decide) rfl)) (evs_one (ev_var (lk _ _ (by decide) (by decide) (by decide) (by decide) (by decide) rfl))))) (evs_cons (ev_var (lk _ _ (by decide) (by decide) (by decide) (by decide) (by decide) rfl)) (evs_cons (ev_var (lk _ _ (by decide) (by decide) (by decide) (by decide) (by decide) rfl)) (evs_one (ev_var (lk _ _ (by decide) (by decide) (by decide) (by decide) (by decide) rfl)))))) rfl rfl
            refine ⟨StH H4 ([] ++ qs.map tupQ) ((x :: rest).dropLast.map .str) L', xx.trans (stH_in ..), H4.length, stH_0 .., ?_⟩
            show fin (exSs (G (n + 2)) [_] ρ' _) = _
            rw [exSs_cons, exS_ret, ed]
            exact (congrArg fin (by cases (G (n + 2)).call "Day" [.tup [.str p, .int (l : Int)], .int (h : Int), .int (s : Int), .ref H4.length] (StH H4 ([] ++ qs.map tupQ) ((x :: rest).dropLast.map .str) L') <;> rfl)).trans (fin_of _ ρ')
end Mine.L13

/-! P13i -/
namespace Mine.L13
open Mine PySem

/-! what a day is worth: the class of what is wrong -/
noncomputable def inP (w : Str) (l p : Nat) : Bool := decide (p < l + if (w == sLine) = true then 1 else 0)
noncomputable def inT (t : Nat) : Bool := decide (t ≤ 1000000000000)
noncomputable def stopE (w : Str) (l : Nat) (q : Q4) : Option String :=
  if inP w l q.1 = false then some "OffRoad" else if (inT q.2.1 && (inT q.2.2.1 && inT q.2.2.2)) = false then some "BadTime" else if q.2.2.1 < q.2.1 then some "BadTime" else Option.none
noncomputable def stopsE (w : Str) (l : Nat) : List Q4 → Option String
  | [] => Option.none
  | q :: qs => match stopE w l q with
    | some c => some c
    | Option.none => stopsE w l qs
noncomputable def roadL (l : Nat) : Bool := decide (1 ≤ l) && decide (l ≤ 1000000000)
noncomputable def dayE (d : Dy) : Option String :=
  if roadL d.l = false then some "BadRoad" else if inP d.w d.l d.h = false then some "OffRoad" else if inT d.s = false then some "BadTime" else if 7 < d.qs.length then some "TooMany" else stopsE d.w d.l d.qs

theorem c_within (n : Nat) (x lo hi : Int) (H : Hp) : (G (n + 1)).call "is_within" [.int x, .int lo, .int hi] H = .ok (.bool (decide (lo ≤ x) && decide (x ≤ hi))) H := by
  rw [lk_call (d := d_is_within) (by kernel_rfl)]
  refine runDef_P (P := fun r => r = _) (ρ := [("number", .int x), ("low", .int lo), ("high", .int hi)]) rfl ?_
  refine ss_ret (v := .bool (decide (lo ≤ x) && decide (x ≤ hi))) (H1 := H) ?_ rfl
  rw [evE_and]
  refine ev_and (c := true) (by rw [evE_isinst, ev_var (x := "number") rfl]; rfl) ?_
  rw [if_pos rfl]
  refine ev_and (c := true) (ev_not (c := false) (by rw [evE_isinst, ev_var (x := "number") rfl]; rfl)) ?_
  rw [if_pos rfl, evAnd_one, evE_cmp2, ev_var (x := "low") rfl, R.bind_ok, ev_var (x := "number") rfl, R.bind_ok, cmp_le, ofO_some, R.bind_ok]
  cases decide (lo ≤ x) with
  | false => rfl
  | true => rw [if_pos rfl, ev_var (x := "high") rfl, R.bind_ok, cmp_le]; rfl
theorem ev_within {n : Nat} {ρ : Rho} {a b c : E} {x lo hi : Int} {H : Hp} (ha : evE (G (n + 1)) ρ a H = .ok (.int x) H) (hb : evE (G (n + 1)) ρ b H = .ok (.int lo) H) (hc : evE (G (n + 1)) ρ c H = .ok (.int hi) H) :
    evE (G (n + 1)) ρ (.call "is_within" [a, b, c]) H = .ok (.bool (decide (lo ≤ x) && decide (x ≤ hi))) H :=
  ev_call (G_hd _) (evs_cons ha (evs_cons hb (evs_one hc))) rfl (c_within n x lo hi H)
theorem idx2_0 {n : Nat} {ρ : Rho} {e : E} {a b : V} {H : Hp} (h : evE (G n) ρ e H = .ok (.tup [a, b]) H) : evE (G n) ρ (.idx e (.int 0)) H = .ok a H := ev_idx h (evE_int _ _ _ _) (idx_2_0 _ _ _)
theorem idx2_1 {n : Nat} {ρ : Rho} {e : E} {a b : V} {H : Hp} (h : evE (G n) ρ e H = .ok (.tup [a, b]) H) : evE (G n) ρ (.idx e (.int 1)) H = .ok b H := ev_idx h (evE_int _ _ _ _) (idx_2_1 _ _ _)
theorem ev_glob {n : Nat} {ρ : Rho} {x : String} {v : V} {H : Hp} (h : consts x = some v) : evE (G n) ρ (.glob x) H = .ok v H := by rw [evE_glob, lk_const, h]; rfl
theorem c_isplace (n : Nat) (w : Str) (l p : Nat) (H : Hp) : (G (n + 2)).call "is_place" [.tup [.str w, .int (l : Int)], .int (p : Int)] H = .ok (.bool (inP w l p)) H := by
  rw [lk_call (d := d_is_place) (by kernel_rfl)]
  refine runDef_P (P := fun r => r = _) (ρ := [("road", .tup [.str w, .int (l : Int)]), ("place", .int (p : Int))]) rfl ?_
  refine ss_if (c := (w == sLine)) (ev_cmp (idx2_0 (ev_var rfl)) (ev_glob rfl) (cmp_eq_str _ _ _)) ?_
  unfold inP
  cases (w == sLine) with
  | true =>
    refine ss_ret (ev_within (ev_var rfl) (evE_int _ _ _ _) (idx2_1 (ev_var rfl))) ?_
    refine congrArg (fun b => R.ok (V.bool b) H) ?_
    rw [decide_eq_true (show (0 : Int) ≤ p by omega), Bool.true_and]
    refine decide_eq_decide.mpr ?_
    simp only [if_true]; omega
  | false =>
    refine ss_ret (ev_within (ev_var rfl) (evE_int _ _ _ _) ((ev_bin (idx2_1 (ev_var rfl)) (evE_int _ _ _ _)).trans (bin_sub _ _ _))) ?_
    refine congrArg (fun b => R.ok (V.bool b) H) ?_
    rw [decide_eq_true (show (0 : Int) ≤ p by omega), Bool.true_and]
    refine decide_eq_decide.mpr ?_
    simp only [Bool.false_eq_true, if_false]; omega
theorem in_road (p : Str) (H : Hp) : cmp .isIn (.str p) (.tup [.str sLine, .str sRing]) H = some (isRoad p) := by
  have q : cmp .isIn (.str p) (.tup [.str sLine, .str sRing]) H = some ((sLine == p) || ((sRing == p) || false)) := rfl
  rw [q, beq_symm sLine, beq_symm sRing, Bool.or_false]; rfl
theorem c_isroad (n : Nat) (w : Str) (l : Nat) (H : Hp) (hw : isRoad w = true) : (G (n + 2)).call "is_road" [.tup [.str w, .int (l : Int)]] H = .ok (.bool (roadL l)) H := by
  rw [lk_call (d := d_is_road) (by kernel_rfl)]
  refine runDef_P (P := fun r => r = _) (ρ := [("road", .tup [.str w, .int (l : Int)])]) rfl ?_
  refine ss_ret (v := .bool (roadL l)) (H1 := H) ?_ rfl
  rw [evE_and]
  refine ev_and (c := true) (ev_cmp (idx2_0 (ev_var rfl)) (ev_tup (evs_cons (ev_glob rfl) (evs_one (ev_glob rfl)))) (by rw [in_road, hw])) ?_
  rw [if_pos rfl, evAnd_one, ev_within (idx2_1 (ev_var rfl)) (evE_int _ _ _ _) (ev_glob rfl)]
  refine congrArg (fun b => R.ok (V.bool b) H) ?_
  unfold roadL
  rw [show decide ((1 : Int) ≤ l) = decide (1 ≤ l) from decide_eq_decide.mpr (by omega), show decide ((l : Int) ≤ 1000000000) = decide (l ≤ 1000000000) from decide_eq_decide.mpr (by omega)]
noncomputable abbrev tmB : List S := [.iff (.not (.call "is_within" [(.var "time"), (.int 0), (.glob "LATEST")])) [.raise "BadTime" "no time of a stop"] []]
theorem ev_time {n : Nat} {ρ : Rho} {e : E} {t : Nat} {H : Hp} (h : evE (G (n + 1)) ρ e H = .ok (.int (t : Int)) H) : evE (G (n + 1)) ρ (.not (.call "is_within" [e, (.int 0), (.glob "LATEST")])) H = .ok (.bool (!inT t)) H := by
  refine (ev_not (ev_within h (evE_int _ _ _ _) (ev_glob rfl))).trans ?_
  refine congrArg (fun b => R.ok (V.bool (!b)) H) ?_
  rw [decide_eq_true (show (0 : Int) ≤ t by omega), Bool.true_and]
  exact decide_eq_decide.mpr (by omega)
theorem time_loop (n : Nat) (H : Hp) (chk : Hp → Bool) (hc : chk H = true) : ∀ (ts : List Nat) (ρ : Rho), ∃ ρ', (∀ y, y ≠ "time" → ρ'.lookup y = ρ.lookup y) ∧ forL (fun v ρ1 H2 => exSs (G (n + 1)) tmB (setL "time" v ρ1) H2) chk (ts.map fun (t : Nat) => .int (t : Int)) ρ H = if ts.all inT = true then .next ρ' H else .raise "BadTime" ρ' H
  | [], ρ => ⟨ρ, fun _ _ => rfl, by rw [List.map_nil, forL, if_pos hc]; rfl⟩
  | t :: ts, ρ => by
    have e := ev_time (n := n) (ρ := setL "time" (.int (t : Int)) ρ) (e := .var "time") (t := t) (H := H) (ev_var (setL_self _ _ _))
    rw [List.map_cons, forL, if_pos hc, List.all_cons]
    cases ht : inT t with
    | false =>
      rw [ht] at e
      refine ⟨setL "time" (.int (t : Int)) ρ, fun y hy => by rw [lookup_setL, if_neg hy], ?_⟩
      rw [show exSs (G (n + 1)) tmB (setL "time" (.int (t : Int)) ρ) H = .raise "BadTime" (setL "time" (.int (t : Int)) ρ) H from ss_if (T := fun r => r = _) e (ss_raise (T := fun r => r = _) (G_hd _) rfl)]; rfl
    | true =>
      rw [ht] at e
      obtain ⟨ρ', k, u⟩ := time_loop n H chk hc ts (setL "time" (.int (t : Int)) ρ)
      refine ⟨ρ', fun y hy => by rw [k y hy, lookup_setL, if_neg hy], ?_⟩
      rw [show exSs (G (n + 1)) tmB (setL "time" (.int (t : Int)) ρ) H = .next (setL "time" (.int (t : Int)) ρ) H from ss_if (T := fun r => r = _) e rfl, RS.bind_next, u]; rfl
noncomputable def okE (o : Option String) (H : Hp) : R V := match o with
  | some c => .raise c H
  | Option.none => .ok .none H
theorem c_looked (n : Nat) (w : Str) (l : Nat) (q : Q4) (H : Hp) : (G (n + 3)).call "looked_at" [.tup [.str w, .int (l : Int)], tupQ q] H = okE (stopE w l q) H := by
  rw [lk_call (d := d_looked_at) (by kernel_rfl)]
  obtain ⟨p, o, c, s⟩ := q
  refine runDef_P (P := fun r => r = _) (ρ := [("road", .tup [.str w, .int (l : Int)]), ("stop", tupQ (p, o, c, s))]) rfl ?_
  refine ss_unpack (ρ1 := [("road", .tup [.str w, .int (l : Int)]), ("stop", tupQ (p, o, c, s)), ("place", .int (p : Int)), ("opens", .int (o : Int)), ("closes", .int (c : Int)), ("stay", .int (s : Int))]) (G_hd _) (ev_var rfl) rfl rfl ?_
  refine ss_if (c := !inP w l p) (ev_not (ev_call (G_hd _) (evs_cons (ev_var rfl) (evs_one (ev_var rfl))) rfl (c_isplace n w l p H))) ?_
  unfold stopE
  dsimp only
  cases inP w l p with
  | false => exact ss_raise (G_hd _) rfl
  | true =>
    obtain ⟨ρ', k, u⟩ := time_loop (n + 1) H (sameO (.tup [.int (o : Int), .int (c : Int), .int (s : Int)]) H) rfl [o, c, s] [("road", .tup [.str w, .int (l : Int)]), ("stop", tupQ (p, o, c, s)), ("place", .int (p : Int)), ("opens", .int (o : Int)), ("closes", .int (c : Int)), ("stay", .int (s : Int))]
    refine ss_for (G_hd _) (ev_tup (evs_cons (ev_var rfl) (evs_cons (ev_var rfl) (evs_one (ev_var rfl))))) rfl u ?_
    rw [show [o, c, s].all inT = (inT o && (inT c && inT s)) by simp]
    cases (inT o && (inT c && inT s)) with
    | false => exact rfl
    | true =>
      refine ss_if (c := decide (c < o)) (ev_cmp (ev_var ((k _ (by decide)).trans rfl)) (ev_var ((k _ (by decide)).trans rfl)) (by rw [cmp_lt]; exact congrArg some (decide_eq_decide.mpr (by omega)))) ?_
      by_cases hco : c < o
      · rw [decide_eq_true hco]
        exact ss_raise (G_hd _) (by simp [hco]; rfl)
      · rw [decide_eq_false hco]
        show R.ok V.none H = _
        simp [hco]; rfl
end Mine.L13

/-! P13j -/
namespace Mine.L13
open Mine PySem

theorem lk_class {defs : List Def} {cls : List (String × Def)} {const : String → Option V} {f : String} {d : Def} (h : defs.find? (fun d => d.name == f) = Option.none) (h2 : cls.lookup f = some d) (n : Nat) (vs : List V) (H : Hp) :
    (lk defs cls const (n + 1)).call f vs H = runClass (lk defs cls const n) f d vs H := by
  show (match defs.find? (fun d => d.name == f) with | some d => runDef (lk defs cls const n) d vs H | Option.none => match cls.lookup f with | some d => runClass (lk defs cls const n) f d vs H | Option.none => .stuck) = _
  rw [h]
  show (match cls.lookup f with | some d => runClass (lk defs cls const n) f d vs H | Option.none => .stuck) = _
  rw [h2]
noncomputable def DayH (H : Hp) (fs : List (String × V)) (L : Hp) : Hp := H ++ .ns fs :: .inst "Day" H.length :: L
theorem dayH_inst (H : Hp) (fs : List (String × V)) (L : Hp) : (DayH H fs L)[H.length + 1]? = some (.inst "Day" H.length) := by
  unfold DayH; rw [List.getElem?_append_right (by omega)]; simp
theorem dayH_ns (H : Hp) (fs : List (String × V)) (L : Hp) : (DayH H fs L)[H.length]? = some (.ns fs) := by
  unfold DayH; rw [List.getElem?_append_right (by omega)]; simp
theorem dayH_set (H : Hp) (fs fs' : List (String × V)) (L : Hp) : (DayH H fs L).set H.length (.ns fs') = DayH H fs' L := by
  unfold DayH; rw [List.set_append_right _ _ (by omega)]; simp
theorem dayH_ext (H : Hp) (fs : List (String × V)) (L : Hp) : Ext H (DayH H fs L) := ext_app _ _
theorem ss_setattr {T : RS → Prop} {Γ : Fn} {ρ : Rho} {o e : E} {a : String} {ss : List S} {H0 H : Hp} {v : V} {fs : List (String × V)} {L : Hp} (he : evE Γ ρ e H = .ok v (DayH H0 fs L)) (ho : evE Γ ρ o (DayH H0 fs L) = .ok (.ref (H0.length + 1)) (DayH H0 fs L)) (hl : fs.length ≤ 20)
    (k : T (exSs Γ ss ρ (DayH H0 (setL a v fs) L))) : T (exSs Γ (.setattr o a e :: ss) ρ H) := by
  have q : exSs Γ (.setattr o a e :: ss) ρ H = exSs Γ ss ρ (DayH H0 (setL a v fs) L) := by
    rw [exSs_cons, exS_setattr, he, ofR_ok, ho, ofR_ok]
    simp only [setA, dayH_inst, dayH_ns, dayH_set, hl, if_true, ofR_ok, RS.bind_next]
  rw [q]; exact k
noncomputable def dayFs (d : Dy) (k : Nat) : List (String × V) := [("road", .tup [.str d.w, .int (d.l : Int)]), ("home", .int (d.h : Int)), ("start", .int (d.s : Int)), ("stops", .ref k)]
structure DayAt (d : Dy) (i dn k : Nat) (H : Hp) : Prop where
  inst : H[i]? = some (.inst "Day" dn)
  ns : H[dn]? = some (.ns (dayFs d k))
  list : H[k]? = some (.list (d.qs.map tupQ))
theorem DayAt.ext {d : Dy} {i dn k : Nat} {H H' : Hp} (x : DayAt d i dn k H) (e : Ext H H') : DayAt d i dn k H' := ⟨e.get x.inst, e.get x.ns, e.get x.list⟩
noncomputable def DayT (H : Hp) (d : Dy) (r : R V) : Prop := ∃ H', Ext H H' ∧ match dayE d with
  | some c => r = .raise c H'
  | Option.none => ∃ i dn k, r = .ok (.ref i) H' ∧ DayAt d i dn k H'
noncomputable abbrev lkB : List S := [.expr (.call "looked_at" [(.var "road"), (.var "stop")])]
theorem look_loop (n : Nat) (H : Hp) (w : Str) (l : Nat) (chk : Hp → Bool) (hc : chk H = true) : ∀ (qs : List Q4) (ρ : Rho), ρ.lookup "road" = some (.tup [.str w, .int (l : Int)]) → ∃ ρ', (∀ y, y ≠ "stop" → ρ'.lookup y = ρ.lookup y) ∧
    forL (fun v ρ1 H2 => exSs (G (n + 3)) lkB (setL "stop" v ρ1) H2) chk (qs.map tupQ) ρ H = match stopsE w l qs with
      | some c => .raise c ρ' H
      | Option.none => .next ρ' H
  | [], ρ, _ => ⟨ρ, fun _ _ => rfl, by rw [List.map_nil, forL, if_pos hc]; rfl⟩
  | q :: qs, ρ, hr => by
    have e := ev_call (ρ := setL "stop" (tupQ q) ρ) (f := "looked_at") (es := [(.var "road"), (.var "stop")]) (G_hd (n + 3)) (evs_cons (ev_var (setL_other (by decide) hr)) (evs_one (ev_var (setL_self _ _ _)))) rfl (c_looked n w l q H)
    rw [List.map_cons, forL, if_pos hc]
    unfold stopsE
    cases hq : stopE w l q with
    | some c =>
      rw [hq] at e
      refine ⟨setL "stop" (tupQ q) ρ, fun y hy => by rw [lookup_setL, if_neg hy], ?_⟩
      rw [show exSs (G (n + 3)) lkB (setL "stop" (tupQ q) ρ) H = .raise c (setL "stop" (tupQ q) ρ) H from ss_expr_raise (T := fun r => r = _) e rfl]; rfl
    | none =>
      rw [hq] at e
      obtain ⟨ρ', k, u⟩ := look_loop n H w l chk hc qs (setL "stop" (tupQ q) ρ) (setL_other (by decide) hr)
      refine ⟨ρ', fun y hy => by rw [k y hy, lookup_setL, if_neg hy], ?_⟩
      rw [show exSs (G (n + 3)) lkB (setL "stop" (tupQ q) ρ) H = .next (setL "stop" (tupQ q) ρ) H from ss_expr (T := fun r => r = _) e rfl, RS.bind_next, u]
noncomputable def InitT (H : Hp) (d : Dy) (o : Option String) (x : RS) : Prop := match o with
  | some c => ∃ ρ', x = .raise c ρ' (DayH H [] [])
  | Option.none => ∃ ρ', x = .next ρ' (DayH H (dayFs d (H.length + 2)) [.list (d.qs.map tupQ)])
theorem c_init (n : Nat) (d : Dy) (j : Nat) (H : Hp) (hj : H[j]? = some (.list (d.qs.map tupQ))) (hw : isRoad d.w = true) :
    InitT H d (dayE d) (exSs (G (n + 4)) d_Day_init.body [("self", .ref (H.length + 1)), ("road", .tup [.str d.w, .int (d.l : Int)]), ("home", .int (d.h : Int)), ("start", .int (d.s : Int)), ("stops", .ref j)] (DayH H [] [])) := by
  have hj' := (dayH_ext H [] []).get hj
  have e4 := bi_len_ref hj'
  rw [List.length_map] at e4
  refine ss_if (ev_not (ev_call (G_hd _) (evs_one (ev_var rfl)) rfl (c_isroad (n + 2) d.w d.l (DayH H [] []) hw))) ?_
  unfold dayE
  cases roadL d.l with
  | false => exact ss_raise (G_hd _) ⟨_, rfl⟩
  | true =>
  refine ss_if (ev_not (ev_call (G_hd _) (evs_cons (ev_var rfl) (evs_one (ev_var rfl))) rfl (c_isplace (n + 2) d.w d.l d.h (DayH H [] [])))) ?_
  cases inP d.w d.l d.h with
  | false => exact ss_raise (G_hd _) ⟨_, rfl⟩
  | true =>
  refine ss_if (ev_time (n := n + 3) (ev_var rfl)) ?_
  cases inT d.s with
  | false => exact ss_raise (G_hd _) ⟨_, rfl⟩
  | true =>
  refine ss_if (c := decide (7 < d.qs.length)) (ev_cmp (ev_bi (G_hd _) (evs_one (ev_var rfl)) e4) (ev_glob rfl) (by rw [cmp_gt]; exact congrArg some (decide_eq_decide.mpr (by omega)))) ?_
  by_cases h7 : 7 < d.qs.length
  · rw [decide_eq_true h7]
    refine ss_raise (G_hd _) ?_
    rw [if_neg (by decide), if_neg (by decide), if_neg (by decide), if_pos h7]
    exact ⟨_, rfl⟩
  · rw [decide_eq_false h7, if_neg (by decide), if_neg (by decide), if_neg (by decide), if_neg h7]
    obtain ⟨ρ', k, u⟩ := look_loop (n + 1) (DayH H [] []) d.w d.l (sameO (.ref j) (DayH H [] [])) (sameO_ext hj' (Ext.refl _)) d.qs [("self", .ref (H.length + 1)), ("road", .tup [.str d.w, .int (d.l : Int)]), ("home", .int (d.h : Int)), ("start", .int (d.s : Int)), ("stops", .ref j)] rfl
    refine ss_for (G_hd _) (ev_var rfl) (listAt_of hj') u ?_
    cases stopsE d.w d.l d.qs with
    | some c => exact ⟨ρ', rfl⟩
    | none =>
      have g1 : ρ'.lookup "self" = some (.ref (H.length + 1)) := (k _ (by decide)).trans rfl
      refine ss_setattr (ev_var ((k _ (by decide)).trans rfl)) (ev_var g1) (by simp [setL]) ?_
      refine ss_setattr (ev_var ((k _ (by decide)).trans rfl)) (ev_var g1) (by simp [setL]) ?_
      refine ss_setattr (ev_var ((k _ (by decide)).trans rfl)) (ev_var g1) (by simp [setL]) ?_
      refine ss_setattr (H0 := H) (v := .ref (H.length + 2)) (fs := [("road", .tup [.str d.w, .int (d.l : Int)]), ("home", .int (d.h : Int)), ("start", .int (d.s : Int))]) (L := [.list (d.qs.map tupQ)]) ?_ (ev_var g1) (by decide : 3 ≤ 20) ⟨ρ', rfl⟩
      refine (ev_bi (G_hd _) (evs_one (ev_var ((k _ (by decide)).trans rfl))) (bi_list_ref ((dayH_ext H [("road", .tup [.str d.w, .int (d.l : Int)]), ("home", .int (d.h : Int)), ("start", .int (d.s : Int))] []).get hj))).trans ?_
      simp [DayH]
theorem c_day (n : Nat) (d : Dy) (j : Nat) (H : Hp) (hj : H[j]? = some (.list (d.qs.map tupQ))) (hw : isRoad d.w = true) :
    DayT H d ((G (n + 5)).call "Day" [.tup [.str d.w, .int (d.l : Int)], .int (d.h : Int), .int (d.s : Int), .ref j] H) := by
  rw [lk_class (d := d_Day_init) (by kernel_rfl) (by kernel_rfl)]
  have i := c_init n d j H hj hw
  have q : runClass (G (n + 4)) "Day" d_Day_init [.tup [.str d.w, .int (d.l : Int)], .int (d.h : Int), .int (d.s : Int), .ref j] H = (fin (exSs (G (n + 4)) d_Day_init.body [("self", .ref (H.length + 1)), ("road", .tup [.str d.w, .int (d.l : Int)]), ("home", .int (d.h : Int)), ("start", .int (d.s : Int)), ("stops", .ref j)] (DayH H [] []))).bind fun v H1 => match v with | .none => .ok (.ref (H.length + 1)) H1 | _ => .stuck := by
    unfold runClass
    rw [runDef_P (P := fun r => r = fin _) (ρ := [("self", .ref (H.length + 1)), ("road", .tup [.str d.w, .int (d.l : Int)]), ("home", .int (d.h : Int)), ("start", .int (d.s : Int)), ("stops", .ref j)]) (Γ := G (n + 4)) (d := d_Day_init) rfl rfl]; rfl
  unfold DayT
  rw [q]
  unfold InitT at i
  cases hE : dayE d with
  | some c =>
    rw [hE] at i
    obtain ⟨ρ', i⟩ := i
    rw [i]
    exact ⟨_, dayH_ext _ _ _, rfl⟩
  | none =>
    rw [hE] at i
    obtain ⟨ρ', i⟩ := i
    rw [i]
    refine ⟨_, dayH_ext _ _ _, H.length + 1, H.length, H.length + 2, rfl, dayH_inst _ _ _, dayH_ns _ _ _, ?_⟩
    unfold DayH
    rw [List.getElem?_append_right (by omega)]; simp
end Mine.L13

/-! P13k -/
namespace Mine.L13
open Mine PySem

/-! what the law says is due -/
noncomputable def wordC (c : String) : String := if c = "NoDay" then "text" else if c = "BadRoad" then "road" else if c = "OffRoad" then "off" else if c = "BadTime" then "time" else "many"
noncomputable def dueW (o : Option String) : V := .str (Str.ofString (match o with | some c => wordC c | Option.none => "day"))
noncomputable def rawL (d : Dy) : List V := .str d.w :: numV d.nums
theorem flat_len : ∀ qs : List Q4, (flat qs).length = 4 * qs.length
  | [] => rfl
  | q :: qs => by
    show (flat qs).length + 1 + 1 + 1 + 1 = _
    rw [flat_len qs, List.length_cons]; omega
theorem flat_get : ∀ {qs : List Q4} {k : Nat} {q : Q4}, qs[k]? = some q → (flat qs)[4 * k]? = some q.1 ∧ (flat qs)[4 * k + 1]? = some q.2.1 ∧ (flat qs)[4 * k + 2]? = some q.2.2.1 ∧ (flat qs)[4 * k + 3]? = some q.2.2.2
  | [], _, _, h => by simp at h
  | q :: qs, 0, _, h => by cases h; exact ⟨rfl, rfl, rfl, rfl⟩
  | q0 :: qs, k + 1, q, h => by
    have ih := flat_get (qs := qs) (k := k) (q := q) (by simpa using h)
    have z : ∀ m, (flat (q0 :: qs))[m + 4]? = (flat qs)[m]? := fun _ => rfl
    rw [show 4 * (k + 1) = 4 * k + 4 by omega, show 4 * k + 4 + 1 = 4 * k + 1 + 4 by omega, show 4 * k + 4 + 2 = 4 * k + 2 + 4 by omega, show 4 * k + 4 + 3 = 4 * k + 3 + 4 by omega, z, z, z, z]
    exact ih
theorem rawL_get {d : Dy} {m v : Nat} (h : (flat d.qs)[m]? = some v) : (rawL d)[m + 4]? = some (.int (v : Int)) := by
  show (numV (flat d.qs))[m]? = _
  rw [numV, List.getElem?_map, h]; rfl
theorem rawL_len (d : Dy) : (rawL d).length = 4 + 4 * d.qs.length := by
  show (numV (flat d.qs)).length + 4 = _
  rw [numV, List.length_map, flat_len]; omega
section
variable {n : Nat} {d : Dy} {i : Nat} {H : Hp}
theorem c_off (p : Nat) (hi : H[i]? = some (.list (rawL d))) : (G (n + 1)).call "_law_off" [.ref i, .int (p : Int)] H = .ok (.bool (!inP d.w d.l p)) H := by
  rw [lk_call (d := d__law_off) (by kernel_rfl)]
  refine runDef_P (P := fun r => r = _) (ρ := [("_law_raw_here", .ref i), ("_law_place", .int (p : Int))]) rfl ?_
  refine ss_ret (v := .bool (!inP d.w d.l p)) (H1 := H) (ev_not ?_) rfl
  rw [evE_cmp2, evE_int, R.bind_ok, ev_var (x := "_law_place") rfl, R.bind_ok, cmp_le, decide_eq_true (show (0 : Int) ≤ p by omega), ofO_some, R.bind_ok, if_pos rfl]
  have e1 : evE (G n) [("_law_raw_here", .ref i), ("_law_place", .int (p : Int))] (.call "int" [(.cmp (.idx (.var "_law_raw_here") (.int 0)) .eq (.str "line"))]) H = .ok (.int (if (d.w == sLine) = true then 1 else 0)) H :=
    ev_bi (G_hd _) (evs_one (ev_cmp (ev_idx (ev_var rfl) (evE_int _ _ _ _) (idx_ref (i := 0) hi rfl)) (evE_str _ _ _ _) (cmp_eq_str _ _ _))) rfl
  have e2 : evE (G n) [("_law_raw_here", .ref i), ("_law_place", .int (p : Int))] (.bin .add (.idx (.var "_law_raw_here") (.int 1)) (.call "int" [(.cmp (.idx (.var "_law_raw_here") (.int 0)) .eq (.str "line"))])) H = .ok (.int ((d.l : Int) + if (d.w == sLine) = true then 1 else 0)) H :=
    (ev_bin (ev_idx (ev_var rfl) (evE_int _ _ _ _) (idx_ref (i := 1) hi rfl)) e1).trans (bin_add _ _ _)
  rw [e2, R.bind_ok, cmp_lt]
  refine congrArg (fun b => R.ok (V.bool b) H) ?_
  unfold inP
  cases (d.w == sLine) <;> exact decide_eq_decide.mpr (by simp only [if_true, Bool.false_eq_true, if_false]; omega)
noncomputable abbrev dueB : List S := [
    .iff (.call "_law_off" [(.var "_law_raw_here"), (.idx (.var "_law_raw_here") (.var "_law_k"))]) [
      .ret (.str "off")] [],
    .iff (.or [(.cmp (.call "max" [(.idx (.var "_law_raw_here") (.bin .add (.var "_law_k") (.int 1))), (.idx (.var "_law_raw_here") (.bin .add (.var "_law_k") (.int 2))), (.idx (.var "_law_raw_here") (.bin .add (.var "_law_k") (.int 3)))]) .gt (.bin .pow (.int 10) (.int 12))), (.cmp (.idx (.var "_law_raw_here") (.bin .add (.var "_law_k") (.int 2))) .lt (.idx (.var "_law_raw_here") (.bin .add (.var "_law_k") (.int 1))))]) [
      .ret (.str "time")] []]
noncomputable abbrev dueF (n : Nat) (v : V) (ρ1 : Rho) (H2 : Hp) : RS := exSs (G (n + 1)) dueB (setL "_law_k" v ρ1) H2
theorem bi_max (a b c : Int) (H : Hp) : builtin "max" [.int a, .int b, .int c] H = .ok (.int (if (if a < b then b else a) < c then c else (if a < b then b else a))) H := rfl
theorem max_gt (a b c : Nat) : decide ((1000000000000 : Int) < (if (if (a : Int) < b then (b : Int) else a) < c then (c : Int) else (if (a : Int) < b then (b : Int) else a))) = !(inT a && (inT b && inT c)) := by
  unfold inT
  rw [Bool.eq_iff_iff, decide_eq_true_eq, Bool.not_eq_true', Bool.eq_false_iff, Ne, Bool.and_eq_true, Bool.and_eq_true, decide_eq_true_eq, decide_eq_true_eq, decide_eq_true_eq]
  split <;> split <;> omega
theorem due_turn (hi : H[i]? = some (.list (rawL d))) {k : Nat} {q : Q4} {ρ : Rho} (hq : d.qs[k]? = some q) (hr : ρ.lookup "_law_raw_here" = some (.ref i)) :
    dueF n (.int ((4 * k + 4 : Nat) : Int)) ρ H = match stopE d.w d.l q with
      | some c => .ret (dueW (some c)) H
      | Option.none => .next (setL "_law_k" (.int ((4 * k + 4 : Nat) : Int)) ρ) H := by
  obtain ⟨g0, g1, g2, g3⟩ := flat_get hq
  have lr : (setL "_law_k" (.int ((4 * k + 4 : Nat) : Int)) ρ).lookup "_law_raw_here" = some (.ref i) := setL_other (by decide) hr
  have lk : (setL "_law_k" (.int ((4 * k + 4 : Nat) : Int)) ρ).lookup "_law_k" = some (.int ((4 * k + 4 : Nat) : Int)) := setL_self _ _ _
  have at' : ∀ {m v : Nat} {e : E}, evE (G (n + 1)) (setL "_law_k" (.int ((4 * k + 4 : Nat) : Int)) ρ) e H = .ok (.int ((m + 4 : Nat) : Int)) H → (flat d.qs)[m]? = some v → evE (G (n + 1)) (setL "_law_k" (.int ((4 * k + 4 : Nat) : Int)) ρ) (.idx (.var "_law_raw_here") e) H = .ok (.int (v : Int)) H :=
    fun h g => ev_idx (ev_var lr) h (idx_ref hi (rawL_get g))
  have e0 := at' (ev_var lk) g0
  have pl : ∀ m : Nat, evE (G (n + 1)) (setL "_law_k" (.int ((4 * k + 4 : Nat) : Int)) ρ) (.bin .add (.var "_law_k") (.int m)) H = .ok (.int ((4 * k + m + 4 : Nat) : Int)) H := fun m => (ev_bin (ev_var lk) (evE_int _ _ _ _)).trans ((bin_add _ _ _).trans (congrArg (fun x => R.ok (V.int x) H) (by omega)))
  have e1 := at' (pl 1) g1
  have e2 := at' (pl 2) g2
  have e3 := at' (pl 3) g3
  refine ss_if (T := fun r => r = _) (ev_call (G_hd _) (evs_cons (ev_var lr) (evs_one e0)) rfl (c_off q.1 hi)) ?_
  unfold stopE
  cases inP d.w d.l q.1 with
  | false => exact ss_ret (T := fun r => r = _) (evE_str _ _ _ _) rfl
  | true =>
    have ep : evE (G (n + 1)) (setL "_law_k" (.int ((4 * k + 4 : Nat) : Int)) ρ) (.bin .pow (.int 10) (.int 12)) H = .ok (.int 1000000000000) H := (ev_bin (evE_int _ _ _ _) (evE_int _ _ _ _)).trans rfl
    refine ss_if (T := fun r => r = _) (c := !(inT q.2.1 && (inT q.2.2.1 && inT q.2.2.2)) || decide (q.2.2.1 < q.2.1)) (H1 := H) ?_ ?_
    · rw [evE_or]
      refine ev_or (ev_cmp (ev_bi (G_hd _) (evs_cons e1 (evs_cons e2 (evs_one e3))) (bi_max _ _ _ _)) ep (by rw [cmp_gt, max_gt])) ?_
      cases (inT q.2.1 && (inT q.2.2.1 && inT q.2.2.2)) with
      | false => rfl
      | true => exact ev_cmp e2 e1 (by rw [cmp_lt]; exact congrArg some (decide_eq_decide.mpr (by omega)))
    cases (inT q.2.1 && (inT q.2.2.1 && inT q.2.2.2)) with
    | false => exact ss_ret (T := fun r => r = _) (evE_str _ _ _ _) rfl
    | true =>
      by_cases h : q.2.2.1 < q.2.1
      · rw [decide_eq_true h, if_pos h]
        exact ss_ret (T := fun r => r = _) (evE_str _ _ _ _) rfl
      · rw [decide_eq_false h, if_neg h]; rfl
theorem due_loop (hi : H[i]? = some (.list (rawL d))) (chk : Hp → Bool) (hc : chk H = true) : ∀ (rest : List Q4) (k : Nat) (ρ : Rho), d.qs.drop k = rest → ρ.lookup "_law_raw_here" = some (.ref i) → ∃ ρ',
    forL (dueF n) chk ((List.range' k rest.length).map fun (k : Nat) => .int ((4 * k + 4 : Nat) : Int)) ρ H = match stopsE d.w d.l rest with
      | some c => .ret (dueW (some c)) H
      | Option.none => .next ρ' H
  | [], k, ρ, _, _ => ⟨ρ, by show forL _ _ [] _ _ = _; rw [forL, if_pos hc]; rfl⟩
  | q :: rest, k, ρ, hd, hr => by
    obtain ⟨a1, a2⟩ := get_drop hd
    rw [List.length_cons, List.range'_succ, List.map_cons, forL, if_pos hc, due_turn hi a1 hr]
    unfold stopsE
    cases stopE d.w d.l q with
    | some c => exact ⟨ρ, rfl⟩
    | none => exact due_loop hi chk hc rest (k + 1) (setL "_law_k" (.int ((4 * k + 4 : Nat) : Int)) ρ) a2 (setL_other (by decide) hr)
theorem items_range4 (H : Hp) (m : Nat) (h : m ≤ 1000) : items H (.rng 4 ((4 + 4 * m : Nat) : Int) 4) = some ((List.range' 0 m).map fun (k : Nat) => .int ((4 * k + 4 : Nat) : Int)) := by
  have q : items H (.rng 4 ((4 + 4 * m : Nat) : Int) 4) = if rngOk 4 ((4 + 4 * m : Nat) : Int) 4 = true then some ((rangeL 4 ((4 + 4 * m : Nat) : Int) 4).map .int) else Option.none := rfl
  have ok : rngOk 4 ((4 + 4 * m : Nat) : Int) 4 = true := by unfold rngOk; simp only [Bool.and_eq_true, decide_eq_true_eq]; omega
  rw [q, if_pos ok, rangeL]
  by_cases h0 : m = 0
  · subst h0; rfl
  · rw [if_pos ⟨by decide, by omega⟩, List.map_map, ← List.range_eq_range', show ((((4 + 4 * m : Nat) : Int) - 4 - 1) / 4 + 1).toNat = m by omega]
    refine congrArg some (List.map_congr_left fun k _ => ?_)
    show V.int (4 + 4 * (k : Int)) = _
    exact congrArg V.int (by omega)
theorem bi_range3 (b : Int) (H : Hp) : builtin "range" [.int 4, .int b, .int 4] H = .ok (.rng 4 b 4) H := rfl
theorem c_due (hi : H[i]? = some (.list (rawL d))) : (G (n + 2)).call "_law_due" [.ref i] H = .ok (dueW (dayE d)) H := by
  rw [lk_call (d := d__law_due) (by kernel_rfl)]
  refine runDef_P (P := fun r => r = _) (ρ := [("_law_raw_here", .ref i)]) rfl ?_
  have ix : ∀ {m : Nat} {v : V}, (rawL d)[m]? = some v → evE (G (n + 1)) [("_law_raw_here", .ref i)] (.idx (.var "_law_raw_here") (.int m)) H = .ok v H := fun h => ev_idx (ev_var rfl) (evE_int _ _ _ _) (idx_ref hi h)
  have ep : ∀ k : Int, 0 ≤ k → k ≤ 100 → evE (G (n + 1)) [("_law_raw_here", .ref i)] (.bin .pow (.int 10) (.int k)) H = .ok (.int (10 ^ k.toNat)) H := fun k h1 h2 => (ev_bin (evE_int _ _ _ _) (evE_int _ _ _ _)).trans (bin_pow H ⟨by decide, by decide, h1, h2⟩)
  refine ss_if (c := false) (ev_cmp (ev_var rfl) (evE_none _ _ _) rfl) ?_
  refine ss_if (c := !roadL d.l) (H1 := H) (ev_not ?_) ?_
  · have i1 : evE (G (n + 1)) [("_law_raw_here", .ref i)] (.idx (.var "_law_raw_here") (.int 1)) H = .ok (.int (d.l : Int)) H := ix (m := 1) rfl
    rw [evE_cmp2, evE_int, R.bind_ok, i1, R.bind_ok, cmp_le, ofO_some, R.bind_ok]
    unfold roadL
    by_cases h : 1 ≤ d.l
    · rw [decide_eq_true (show (1 : Int) ≤ d.l by omega), if_pos rfl, ep 9 (by decide) (by decide), R.bind_ok, cmp_le, decide_eq_true h, Bool.true_and]
      exact congrArg (fun b => R.ok (V.bool b) H) (decide_eq_decide.mpr (by
        show (d.l : Int) ≤ 10 ^ 9 ↔ _
        omega))
    · rw [decide_eq_false (show ¬ (1 : Int) ≤ d.l by omega), decide_eq_false h]; rfl
  unfold dayE
  cases roadL d.l with
  | false => exact ss_ret (evE_str _ _ _ _) rfl
  | true =>
  refine ss_if (ev_call (G_hd _) (evs_cons (ev_var rfl) (evs_one (ix (m := 2) rfl))) rfl (c_off d.h hi)) ?_
  cases inP d.w d.l d.h with
  | false => exact ss_ret (evE_str _ _ _ _) rfl
  | true =>
  refine ss_if (c := !inT d.s) (ev_cmp (ix (m := 3) rfl) (ep 12 (by decide) (by decide)) (by
    rw [cmp_gt]
    refine congrArg some ?_
    unfold inT
    rw [← decide_not]
    refine decide_eq_decide.mpr ?_
    show (10 ^ 12 : Int) < d.s ↔ _
    omega)) ?_
  cases inT d.s with
  | false => exact ss_ret (evE_str _ _ _ _) rfl
  | true =>
  have bl := bi_len_ref hi
  rw [rawL_len] at bl
  refine ss_if (c := decide (7 < d.qs.length)) (ev_cmp (ev_bi (G_hd _) (evs_one (ev_var rfl)) bl) (evE_int _ _ _ _) (by rw [cmp_gt]; exact congrArg some (decide_eq_decide.mpr (by omega)))) ?_
  by_cases h7 : 7 < d.qs.length
  · rw [decide_eq_true h7, if_neg (by decide), if_neg (by decide), if_neg (by decide), if_pos h7]
    exact ss_ret (evE_str _ _ _ _) rfl
  · rw [decide_eq_false h7, if_neg (by decide), if_neg (by decide), if_neg (by decide), if_neg h7]
    obtain ⟨ρ', u⟩ := due_loop (n := n) hi (sameO (.rng 4 ((4 + 4 * d.qs.length : Nat) : Int) 4) H) rfl d.qs 0 [("_law_raw_here", .ref i)] rfl rfl
    refine ss_for (G_hd _) (ev_bi (G_hd _) (evs_cons (evE_int _ _ _ _) (evs_cons (ev_bi (G_hd _) (evs_one (ev_var rfl)) bl) (evs_one (evE_int _ _ _ _)))) (bi_range3 _ _)) (items_range4 _ _ (by omega)) u ?_
    cases stopsE d.w d.l d.qs with
    | some c => rfl
    | none => exact ss_ret (Γ := G (n + 1)) (ρ := ρ') (ss := []) (evE_str _ _ _ _) rfl
theorem c_due_none (n : Nat) (H : Hp) : (G (n + 1)).call "_law_due" [.none] H = .ok (dueW (some "NoDay")) H := by
  rw [lk_call (d := d__law_due) (by kernel_rfl)]
  refine runDef_P (P := fun r => r = _) (ρ := [("_law_raw_here", .none)]) rfl ?_
  exact ss_if (c := true) (ev_cmp (ev_var rfl) (evE_none _ _ _) rfl) (ss_ret (evE_str _ _ _ _) rfl)
end
end Mine.L13

/-! P13l -/
namespace Mine.L13
open Mine PySem

noncomputable def textE (t : Str) : Option String := match dayP t with
  | Option.none => some "NoDay"
  | some d => dayE d
theorem dayP_road {t : Str} {d : Dy} (h : dayP t = some d) : isRoad d.w = true := by
  unfold dayP at h
  split at h
  · split at h
    · rename_i hc
      unfold dayR at h
      split at h
      · split at h
        · obtain ⟨qs, _, rfl⟩ := Option.map_eq_some_iff.mp h
          exact hc.2
        · cases h
      · cases h
    · cases h
  · cases h
noncomputable def Came (H : Hp) (t : Str) (g : String → Hp → R V) (r : R V) : Prop := ∃ H', Ext H H' ∧ match textE t with
  | some c => r = g c H'
  | Option.none => ∃ d i dn k, dayP t = some d ∧ r = .ok (.ref i) H' ∧ DayAt d i dn k H'
theorem c_readE (n : Nat) (t : Str) (H : Hp) (ha : Asc t) (hl : t.length ≤ 499999) : Came H t (fun c H' => .raise c H') ((G (n + 6)).call "read" [.str t] H) := by
  obtain ⟨H1, x1, e⟩ := c_read (n + 3) t H ha hl
  unfold Came textE
  cases h : dayP t with
  | none =>
    rw [h] at e
    exact ⟨H1, x1, e⟩
  | some d =>
    rw [h] at e
    obtain ⟨j, hj, e⟩ := e
    obtain ⟨H2, x2, e2⟩ := c_day n d j H1 hj (dayP_road h)
    refine ⟨H2, x1.trans x2, ?_⟩
    rw [e]
    dsimp only
    cases hE : dayE d with
    | some c => rw [hE] at e2; exact e2
    | none =>
      rw [hE] at e2
      obtain ⟨i, dn, k, e2, D⟩ := e2
      exact ⟨d, i, dn, k, rfl, e2, D⟩
noncomputable def isC (c : String) : Prop := c = "NoDay" ∨ c = "BadRoad" ∨ c = "OffRoad" ∨ c = "BadTime" ∨ c = "TooMany"
theorem stopE_cls {w : Str} {l : Nat} {q : Q4} {c : String} (h : stopE w l q = some c) : isC c := by
  unfold stopE at h
  split at h
  · cases h; exact .inr (.inr (.inl rfl))
  · split at h
    · cases h; exact .inr (.inr (.inr (.inl rfl)))
    · split at h
      · cases h; exact .inr (.inr (.inr (.inl rfl)))
      · cases h
theorem stopsE_cls {w : Str} {l : Nat} {c : String} : ∀ {qs : List Q4}, stopsE w l qs = some c → isC c
  | [], h => by cases h
  | q :: qs, h => by
    unfold stopsE at h
    cases hq : stopE w l q with
    | some c' => rw [hq] at h; cases h; exact stopE_cls hq
    | none => rw [hq] at h; exact stopsE_cls h
theorem textE_cls {t : Str} {c : String} (h : textE t = some c) : isC c := by
  unfold textE at h
  split at h
  · cases h; exact .inl rfl
  · unfold dayE at h
    split at h
    · cases h; exact .inr (.inl rfl)
    · split at h
      · cases h; exact .inr (.inr (.inl rfl))
      · split at h
        · cases h; exact .inr (.inr (.inr (.inl rfl)))
        · split at h
          · cases h; exact .inr (.inr (.inr (.inr rfl)))
          · exact stopsE_cls h
theorem ss_try {T : RS → Prop} {Γ : Fn} {ρ : Rho} {b ss : List S} {hs : List (String × Option String × List S)} {H : Hp} {r : RS} (hd : Γ.hd = false) (hb : tryV (exSs Γ b ρ H) (fun c ρ1 H1 => exH { Γ with hd := true } c hs ρ1 H1) = r) (k : T (r.bind fun ρ1 H1 => exSs Γ ss ρ1 H1)) : T (exSs Γ (.tryE b hs :: ss) ρ H) := by
  rw [exSs_cons, exS_tryE, hd, if_neg (by decide), hb]; exact k
theorem exH_ret {Γ : Fn} {c T : String} {s : String} {r : List (String × Option String × List S)} {ρ : Rho} {H : Hp} (h : excIs c T = true) : exH Γ c ((T, Option.none, [.ret (.str s)]) :: r) ρ H = .ret (.str (Str.ofString s)) H := by
  rw [exH_cons, if_pos h]; rfl
theorem exH_next {Γ : Fn} {c T : String} {b : List S} {r : List (String × Option String × List S)} {ρ : Rho} {H : Hp} (h : excIs c T = false) : exH Γ c ((T, Option.none, b) :: r) ρ H = exH Γ c r ρ H := by
  rw [exH_cons, if_neg (by rw [h]; decide)]
theorem c_came (n : Nat) (t : Str) (H : Hp) (ha : Asc t) (hl : t.length ≤ 499999) : Came H t (fun c H' => .ok (dueW (some c)) H') ((G (n + 7)).call "_law_came" [.str t] H) := by
  rw [lk_call (d := d__law_came) (by kernel_rfl)]
  obtain ⟨H1, x1, e⟩ := c_readE n t H ha hl
  have ec : evE (G (n + 6)) [("_law_text", .str t)] (.call "read" [(.var "_law_text")]) H = (G (n + 6)).call "read" [.str t] H := ev_call (G_hd _) (evs_one (ev_var rfl)) rfl rfl
  refine runDef_P (ρ := [("_law_text", .str t)]) rfl ?_
  cases h : textE t with
  | none =>
    rw [h] at e
    obtain ⟨d, i, dn, k, e0, e, D⟩ := e
    rw [e] at ec
    refine ss_try (G_hd _) (r := .ret (.ref i) H1) ?_ ⟨H1, x1, ?_⟩
    · rw [ss_ret (T := fun r => r = .ret (.ref i) H1) ec rfl]; rfl
    · rw [h]
      exact ⟨d, i, dn, k, e0, rfl, D⟩
  | some c =>
    rw [h] at e
    rw [e] at ec
    refine ss_try (G_hd _) (r := .ret (dueW (some c)) H1) ?_ ⟨H1, x1, by rw [h]; rfl⟩
    rw [ss_ret_raise (T := fun r => r = .raise c [("_law_text", .str t)] H1) ec rfl]
    show exH _ c _ _ _ = _
    rcases textE_cls h with rfl | rfl | rfl | rfl | rfl
    · exact exH_ret rfl
    · exact (exH_next rfl).trans (exH_ret rfl)
    · exact (exH_next rfl).trans ((exH_next rfl).trans (exH_ret rfl))
    · exact (exH_next rfl).trans ((exH_next rfl).trans ((exH_next rfl).trans (exH_ret rfl)))
    · exact (exH_next rfl).trans ((exH_next rfl).trans ((exH_next rfl).trans ((exH_next rfl).trans (exH_ret rfl))))
theorem isinst_H (c T : String) (H H' : Hp) : isinst (.exc c) T H = isinst (.exc c) T H' := rfl
theorem isinst_exc {Γ : Fn} {ρ : Rho} {c T : String} {H : Hp} {b : Bool} (h : ρ.lookup "error" = some (.exc c)) (hb : isinst (.exc c) T [] = some b) : evE Γ ρ (.isinst (.var "error") T) H = .ok (.bool b) H := by
  rw [evE_isinst, ev_var h, R.bind_ok, isinst_H c T H [], hb]; rfl
theorem m_count {bs : List Bool} {k : Nat} {H : Hp} (h : H[k]? = some (.list (bs.map V.bool))) : meth (.ref k) "count" [.bool true] H = .ok (.int (bs.count true)) H := by
  have q : meth (.ref k) "count" [.bool true] H = (match (listAt (.ref k) H).bind bools with | some bs => .ok (.int (bs.count true)) H | Option.none => .stuck) := rfl
  have e := bools_map (fun b : Bool => b) bs
  rw [List.map_id'] at e
  rw [q, listAt_of h, Option.bind_some, e]
theorem kinds_one {c : String} (h : isC c) (H : Hp) : ∃ b1 b2 b3 b4 b5 : Bool, isinst (.exc c) "BadRoad" H = some b1 ∧ isinst (.exc c) "OffRoad" H = some b2 ∧ isinst (.exc c) "BadTime" H = some b3 ∧ isinst (.exc c) "TooMany" H = some b4 ∧ isinst (.exc c) "NoDay" H = some b5 ∧ isinst (.exc c) "ValueError" H = some true ∧ excIs c "RouteError" = true ∧ [b1, b2, b3, b4, b5].count true = 1 := by
  rcases h with rfl | rfl | rfl | rfl | rfl
  · exact ⟨false, false, false, false, true, rfl, rfl, rfl, rfl, rfl, rfl, rfl, rfl⟩
  · exact ⟨true, false, false, false, false, rfl, rfl, rfl, rfl, rfl, rfl, rfl, rfl⟩
  · exact ⟨false, true, false, false, false, rfl, rfl, rfl, rfl, rfl, rfl, rfl, rfl⟩
  · exact ⟨false, false, true, false, false, rfl, rfl, rfl, rfl, rfl, rfl, rfl, rfl⟩
  · exact ⟨false, false, false, true, false, rfl, rfl, rfl, rfl, rfl, rfl, rfl, rfl⟩
theorem c_based (n : Nat) (t : Str) (H : Hp) (ha : Asc t) (hl : t.length ≤ 499999) {c : String} (h : textE t = some c) : ∃ H', Ext H H' ∧ (G (n + 7)).call "_law_based" [.str t] H = .ok (.bool true) H' := by
  rw [lk_call (d := d__law_based) (by kernel_rfl)]
  obtain ⟨H1, x1, e⟩ := c_readE n t H ha hl
  have ec : evE (G (n + 6)) [("_law_text", .str t)] (.call "read" [(.var "_law_text")]) H = (G (n + 6)).call "read" [.str t] H := ev_call (G_hd _) (evs_one (ev_var rfl)) rfl rfl
  rw [h] at e
  rw [e] at ec
  obtain ⟨b1, b2, b3, b4, b5, i1, i2, i3, i4, i5, i6, i7, i8⟩ := kinds_one (textE_cls h) []
  refine runDef_P (P := fun r => ∃ H', Ext H H' ∧ r = .ok (.bool true) H') (ρ := [("_law_text", .str t)]) rfl ?_
  refine ss_try (G_hd _) (r := .ret (.bool true) (H1 ++ [.list [.bool b1, .bool b2, .bool b3]] ++ [.list [.bool b4, .bool b5]] ++ [.list [.bool b1, .bool b2, .bool b3, .bool b4, .bool b5]])) ?_ ⟨_, ((x1.trans (ext_app _ _)).trans (ext_app _ _)).trans (ext_app _ _), rfl⟩
  rw [ss_ret_raise (T := fun r => r = .raise c [("_law_text", .str t)] H1) ec rfl]
  show exH _ c _ _ _ = _
  rw [exH_as, if_pos i7]
  have g0 : ([("_law_text", V.str t), ("error", .exc c)] : Rho).lookup "error" = some (.exc c) := rfl
  refine congrArg retR (a₂ := RS.ret (.bool true) (H1 ++ [.list [.bool b1, .bool b2, .bool b3]] ++ [.list [.bool b4, .bool b5]] ++ [.list [.bool b1, .bool b2, .bool b3, .bool b4, .bool b5]])) ?_
  refine ss_asg (T := fun r => r = _) (ev_new (evs_cons (isinst_exc g0 i1) (evs_cons (isinst_exc g0 i2) (evs_one (isinst_exc g0 i3))))) ?_
  refine ss_asg (T := fun r => r = _) ((ev_bin (ev_var rfl) (ev_new (evs_cons (isinst_exc rfl i4) (evs_one (isinst_exc rfl i5))))).trans (bin_add_list (xs := [.bool b1, .bool b2, .bool b3]) (ys := [.bool b4, .bool b5]) ((ext_app _ _).get (len_app1 _ _)) (len_app1 _ _) (show 3 + 2 ≤ line by decide))) ?_
  refine ss_ret (T := fun r => r = _) ?_ rfl
  rw [evE_and]
  refine ev_and (c := true) (isinst_exc rfl i6) ?_
  rw [if_pos rfl, evAnd_one]
  refine ev_cmp (ev_meth (ev_var rfl) (kind_list (len_app1 _ _)) (evs_one (evE_bool _ _ _ _)) (m_count (bs := [b1, b2, b3, b4, b5]) (len_app1 _ _))) (evE_int _ _ _ _) ?_
  rw [i8]; rfl
end Mine.L13

/-! P13m -/
namespace Mine
open PySem PySem.NumText PySem.Builtin PySem.Builtin.Str
/-! figures -/
theorem num_cps (m : Nat) : (Str.ofString (toString (m : Int))).cps.toList = (Nat.toDigits 10 m).map Char.toNat := PySem.W.KIN.signs_num m
theorem digit_lt : ∀ d : Nat, d < 10 → (Nat.digitChar d).toNat < 128 := by decide
theorem digits_small (m : Nat) : (∀ c ∈ Nat.toDigits 10 m, c.toNat < 128) ∧ ∀ k, m < 10 ^ (k + 1) → (Nat.toDigits 10 m).length ≤ k + 1 := by
  induction m using Nat.strongRecOn with
  | _ m ih =>
    by_cases h : m < 10
    · rw [Nat.toDigits_of_lt_base h]
      refine ⟨fun c hc => ?_, fun k _ => Nat.le_add_left 1 k⟩
      rw [List.mem_singleton.mp hc]; exact digit_lt m h
    · have hm : m % 10 < 10 := Nat.mod_lt m (by decide)
      have t : Nat.toDigits 10 (m / 10) ++ Nat.toDigits 10 (m % 10) = Nat.toDigits 10 (10 * (m / 10) + m % 10) := Nat.toDigits_append_toDigits (by decide) (by omega) hm
      rw [Nat.div_add_mod, Nat.toDigits_of_lt_base hm] at t
      obtain ⟨i1, i2⟩ := ih (m / 10) (by omega)
      rw [← t]
      refine ⟨fun c hc => ?_, fun k hk => ?_⟩
      · rcases List.mem_append.mp hc with hc | hc
        · exact i1 c hc
        · rw [List.mem_singleton.mp hc]; exact digit_lt _ hm
      · cases k with
        | zero => simp at hk; omega
        | succ k =>
          have := i2 k (by rw [Nat.pow_succ] at hk; omega)
          rw [List.length_append, List.length_singleton]; omega
theorem num_ok {m : Nat} (h : m < 1000000) : Asc (Str.ofString (toString (m : Int))) ∧ (Str.ofString (toString (m : Int))).length ≤ 6 := by
  obtain ⟨h1, h2⟩ := digits_small m
  refine ⟨fun c hc => ?_, ?_⟩
  · rw [num_cps] at hc
    obtain ⟨d, hd, rfl⟩ := List.mem_map.mp hc
    exact h1 d hd
  · rw [← len_cps, num_cps, List.length_map]
    exact h2 5 (by omega)
/-! a sign many times -/
theorem fold_times (a : Array Nat) : ∀ (k : Nat) (acc : Array Nat), ((List.replicate k a).foldl (· ++ ·) acc).size = acc.size + k * a.size ∧ ∀ c ∈ ((List.replicate k a).foldl (· ++ ·) acc).toList, c ∈ acc.toList ∨ c ∈ a.toList
  | 0, acc => ⟨by simp, fun c hc => .inl hc⟩
  | k + 1, acc => by
    obtain ⟨h1, h2⟩ := fold_times a k (acc ++ a)
    rw [List.replicate_succ, List.foldl_cons]
    refine ⟨by rw [h1, Array.size_append, Nat.succ_mul]; omega, fun c hc => ?_⟩
    rcases h2 c hc with h | h
    · rw [Array.toList_append] at h
      exact List.mem_append.mp h
    · exact .inr h
theorem times_ok {x : Str} (ha : Asc x) (h1 : x.length = 1) (k : Nat) : Asc (Txt_times x k) ∧ (Txt_times x k).length = k := by
  obtain ⟨e1, e2⟩ := fold_times x.cps k #[]
  refine ⟨fun c hc => ?_, ?_⟩
  · rcases e2 c hc with h | h
    · cases h
    · exact ha c h
  · have e3 : (Txt_times x k).length = 0 + k * x.length := e1
    rw [e3, h1]; omega
/-! one text for another -/
theorem join_mem' {z : Str} {x : Nat} : ∀ {ps : List Str}, x ∈ (Str.join z ps).cps.toList → x ∈ z.cps.toList ∨ ∃ p ∈ ps, x ∈ p.cps.toList
  | [], h => nomatch h
  | [p], h => .inr ⟨p, List.mem_cons_self .., h⟩
  | p :: q :: r, h => by
    rw [join_two, app_cps, app_cps] at h
    rcases List.mem_append.mp h with h | h
    · rcases List.mem_append.mp h with h | h
      · exact .inr ⟨p, List.mem_cons_self .., h⟩
      · exact .inl h
    · rcases join_mem' h with h | ⟨s, hs, h⟩
      · exact .inl h
      · exact .inr ⟨s, List.mem_cons_of_mem _ hs, h⟩
theorem swap_asc {x y z : Str} (hx : Asc x) (hz : Asc z) (one : Bool) : Asc (Txt_swap x y z one) := by
  unfold Txt_swap
  have e := StrLaws.glued_between_self x y (if one then 1 else x.length + 1)
  generalize (if one = true then 1 else x.length + 1) = lim at e ⊢
  split
  · exact hx
  · intro c hc
    rw [StrLaws.glued_eq_join] at hc
    rcases join_mem' hc with h | ⟨p, hp, h⟩
    · exact hz c h
    · rw [StrLaws.glued_eq_join] at e
      have := (part_in (s := y) hp).2 c h
      rw [e] at this
      exact hx c this
theorem swap_len {x y z : Str} (hy : y.length = 1) (one : Bool) (h : z.length = 1 ∨ (one = true ∧ z.length = 2)) : (Txt_swap x y z one).length ≤ x.length + 1 := by
  unfold Txt_swap
  have e : (glued y (partsBetween x (occurrences x y 0 x.length (if one then 1 else x.length + 1)) y.length)).length = x.length := by rw [StrLaws.glued_between_self]
  have h1 := StrLaws.occ_length_le x y 0 x.length (if one then 1 else x.length + 1)
  have hlim : one = true → (if one = true then 1 else x.length + 1) = 1 := fun q => if_pos q
  generalize (if one = true then 1 else x.length + 1) = lim at e h1 hlim ⊢
  split
  · omega
  · rw [size_glued, length_partsBetween, Nat.add_sub_cancel, hy] at e
    rw [size_glued, length_partsBetween, Nat.add_sub_cancel, hy]
    rcases h with h | ⟨h0, h⟩
    · rw [h]; omega
    · rw [h]
      have := hlim h0
      omega
end Mine
namespace Mine.L13
open Mine PySem
noncomputable def EvS (Γ : Fn) (ρ : Rho) (e : E) (H : Hp) (B : Nat) : Prop := ∃ x H', Ext H H' ∧ evE Γ ρ e H = .ok (.str x) H' ∧ Asc x ∧ x.length ≤ B
theorem bin_add_str {x y : Str} (H : Hp) (h : x.length + y.length ≤ line) : bin .add (.str x) (.str y) H = .ok (.str (x ++ y)) H := if_pos h
theorem EvS.add {Γ : Fn} {ρ : Rho} {a b : E} {H : Hp} {B1 B2 : Nat} (h1 : EvS Γ ρ a H B1) (h2 : ∀ H', Ext H H' → EvS Γ ρ b H' B2) (hB : B1 + B2 ≤ 1000000) : EvS Γ ρ (.bin .add a b) H (B1 + B2) := by
  obtain ⟨x, H1, x1, e1, a1, l1⟩ := h1
  obtain ⟨y, H2, x2, e2, a2, l2⟩ := h2 H1 x1
  exact ⟨x ++ y, H2, x1.trans x2, (ev_bin e1 e2).trans (bin_add_str _ (by unfold line; omega)), a1.app a2, by rw [Str.length_append]; omega⟩
noncomputable def litOk (s : String) (B : Nat) : Bool := (Str.ofString s).cps.toList.all (fun c => decide (c < 128)) && decide ((Str.ofString s).length ≤ B)
theorem lit_of {s : String} {B : Nat} (h : litOk s B = true) : Asc (Str.ofString s) ∧ (Str.ofString s).length ≤ B := by
  unfold litOk at h
  rw [Bool.and_eq_true, decide_eq_true_eq] at h
  exact ⟨fun c hc => of_decide_eq_true (List.all_eq_true.mp h.1 c hc), h.2⟩
theorem EvS.lit {Γ : Fn} {ρ : Rho} {s : String} {H : Hp} {B : Nat} (h : litOk s B = true) : EvS Γ ρ (.str s) H B :=
  ⟨_, H, Ext.refl H, evE_str _ _ _ _, (lit_of h).1, (lit_of h).2⟩
theorem EvS.var {Γ : Fn} {ρ : Rho} {y : String} {x : Str} {H : Hp} {B : Nat} (h : ρ.lookup y = some (.str x)) (a : Asc x) (l : x.length ≤ B) : EvS Γ ρ (.var y) H B := ⟨x, H, Ext.refl H, ev_var h, a, l⟩

theorem c_cell (n : Nat) (ns : List Int) (k : Int) (H : Hp) (hl : ns.length ≤ 63) : ∃ c, (G (n + 1)).call "_law_cell_at" [.scr ns, .int k] H = .ok (.int c) H := by
  rw [lk_call (d := d__law_cell_at) (by kernel_rfl)]
  refine runDef_P (P := fun r => ∃ c, r = .ok (.int c) H) (ρ := [("_law_script", .scr ns), ("_law_k", .int k)]) rfl ?_
  have el : evE (G n) [("_law_script", .scr ns), ("_law_k", .int k)] (.call "len" [(.var "_law_script")]) H = .ok (.int ns.length) H := ev_bi (G_hd n) (evs_one (ev_var rfl)) (bi_len_scr _ _)
  refine ss_if (c := decide (ns.length = 0)) (ev_cmp el (evE_int _ _ _ _) (by rw [cmp_eq_int]; exact congrArg some (by rw [Bool.eq_iff_iff, beq_iff_eq, decide_eq_true_eq]; omega))) ?_
  by_cases h0 : ns.length = 0
  · rw [decide_eq_true h0]
    exact ss_ret (ev_var rfl) ⟨k, rfl⟩
  · rw [decide_eq_false h0]
    have hne : (ns.length : Int) ≠ 0 := by omega
    have h1 : 0 ≤ Int.fmod k ns.length := Int.fmod_nonneg_of_pos _ (by omega)
    have h2 : Int.fmod k ns.length < ns.length := Int.fmod_lt_of_pos _ (by omega)
    have h3 : (Int.fmod k ns.length).toNat < ns.length := by omega
    have hp : place (Int.fmod k ns.length) ns.length = some (Int.fmod k ns.length).toNat := by unfold place; rw [if_pos h1, if_pos h2]
    have ei : index (.scr ns) (.int (Int.fmod k ns.length)) H = .ok (.int ns[(Int.fmod k ns.length).toNat]) H := by
      have q : index (.scr ns) (.int (Int.fmod k ns.length)) H = itemAt (ns.map .int) (Int.fmod k ns.length) H := rfl
      rw [q, itemAt, List.length_map, hp]
      simp [h3]
    refine ss_ret ((ev_bin (ev_idx (ev_var rfl) ((ev_bin (ev_var rfl) el).trans (bin_mod H hne)) ei) ((ev_bin (evE_int _ _ _ _) ((ev_bin (ev_var rfl) el).trans (bin_fdiv H hne (by omega)))).trans (bin_mul_l H (by decide)))).trans (bin_add _ _ _)) ⟨_, rfl⟩
theorem idx_mem {xs : List V} {k : Nat} {i : Int} {H : Hp} (h : H[k]? = some (.list xs)) (h0 : 0 ≤ i) (h1 : i < xs.length) : ∃ v, v ∈ xs ∧ index (.ref k) (.int i) H = .ok v H := by
  have h3 : i.toNat < xs.length := by omega
  refine ⟨xs[i.toNat], List.getElem_mem h3, ?_⟩
  have := idx_ref (i := i.toNat) (v := xs[i.toNat]) h (List.getElem?_eq_getElem h3)
  rwa [Int.toNat_of_nonneg h0] at this
theorem fmod_lt (a : Int) {b : Int} (h : 0 < b) : 0 ≤ a.fmod b ∧ a.fmod b < b := ⟨Int.fmod_nonneg_of_pos a h, Int.fmod_lt_of_pos a h⟩
theorem bi_str {i : Int} (h : 0 ≤ i ∧ i < 1000000) (H : Hp) : builtin "str" [.int i] H = .ok (.str (Str.ofString (toString i))) H := if_pos h
theorem nine : (Str.ofString "9").length = 1 ∧ litOk "9" 1 = true := by decide +kernel
theorem bin_mul_str {x : Str} {k : Nat} (H : Hp) (h1 : 1 < k) (h2 : k ≤ 10000) (hx : x.length = 1) (ok : PyData.strOk (Txt_times x k) = true) : bin .mul (.str x) (.int (k : Int)) H = .ok (.str (Txt_times x k)) H := by
  have q : bin .mul (.str x) (.int (k : Int)) H = if 1 < (k : Int) ∧ (k : Int) ≤ 10000 ∧ x.length = 1 ∧ PyData.strOk (Txt_times x (k : Int).toNat) = true then .ok (.str (Txt_times x (k : Int).toNat)) H else .stuck := rfl
  rw [q, Int.toNat_natCast, if_pos ⟨by omega, by omega, hx, ok⟩]
theorem c_lnum (n : Nat) (c f m : Int) (H : Hp) (hf : 0 ≤ f) (hm : 0 < m) (hfm : f + m ≤ 1000000) : ∃ x H', Ext H H' ∧ (G (n + 1)).call "_law_number" [.int c, .int f, .int m] H = .ok (.str x) H' ∧ Asc x ∧ x.length ≤ 5000 := by
  rw [lk_call (d := d__law_number) (by kernel_rfl)]
  refine runDef_P (P := fun r => ∃ x H', Ext H H' ∧ r = .ok (.str x) H' ∧ Asc x ∧ x.length ≤ 5000) (ρ := [("_law_cell", .int c), ("_law_first", .int f), ("_law_many", .int m)]) rfl ?_
  have t := times_ok (lit_of nine.2).1 nine.1 5000
  have e9 : evE (G n) [("_law_cell", .int c), ("_law_first", .int f), ("_law_many", .int m)] (.bin .mul (.str "9") (.int 5000)) H = .ok (.str (Txt_times (Str.ofString "9") 5000)) H :=
    (ev_bin (evE_str _ _ _ _) (evE_int _ _ _ _)).trans (bin_mul_str (k := 5000) H (by decide) (by decide) nine.1 t.1.ok)
  let odd : List V := [.str (Str.ofString "1234567890123456"), .str (Txt_times (Str.ofString "9") 5000), .str (Str.ofString "999999999999999"), .str (Str.ofString "007"), .str (Str.ofString "00"), .str (Str.ofString "0"), .str (Str.ofString "1000000000001"), .str (Str.ofString "10000000000000")]
  have ho : ∀ v ∈ odd, ∃ x, v = .str x ∧ Asc x ∧ x.length ≤ 5000 := by
    have lit : ∀ {s : String}, litOk s 16 = true → ∃ x, V.str (Str.ofString s) = .str x ∧ Asc x ∧ x.length ≤ 5000 := fun h => ⟨_, rfl, (lit_of h).1, Nat.le_trans (lit_of h).2 (by decide)⟩
    intro v hv
    simp only [odd, List.mem_cons, List.not_mem_nil, or_false] at hv
    rcases hv with rfl | rfl | rfl | rfl | rfl | rfl | rfl | rfl
    · exact lit (by decide +kernel)
    · exact ⟨_, rfl, t.1, Nat.le_of_eq t.2⟩
    · exact lit (by decide +kernel)
    · exact lit (by decide +kernel)
    · exact lit (by decide +kernel)
    · exact lit (by decide +kernel)
    · exact lit (by decide +kernel)
    · exact lit (by decide +kernel)
  refine ss_asg (v := .ref H.length) (H1 := H ++ [.list odd]) (ev_new (evs_cons (evE_str _ _ _ _) (evs_cons e9 (evs_cons (evE_str _ _ _ _) (evs_cons (evE_str _ _ _ _) (evs_cons (evE_str _ _ _ _) (evs_cons (evE_str _ _ _ _) (evs_cons (evE_str _ _ _ _) (evs_one (evE_str _ _ _ _)))))))))) ?_
  refine ss_if (c := c.fmod 11 == 3) (ev_cmp ((ev_bin (ev_var rfl) (evE_int _ _ _ _)).trans (bin_mod _ (by decide))) (evE_int _ _ _ _) (cmp_eq_int _ _ _)) ?_
  cases (c.fmod 11 == 3) with
  | true =>
    have h8 := fmod_lt (c.fdiv 11) (show (0 : Int) < 8 by decide)
    obtain ⟨v, hv, ei⟩ := idx_mem (len_app1 H (.list odd)) h8.1 h8.2
    obtain ⟨x, rfl, a1, a2⟩ := ho v hv
    exact ss_ret (ev_idx (ev_var rfl) ((ev_bin ((ev_bin (ev_var rfl) (evE_int _ _ _ _)).trans (bin_fdiv _ (by decide) (by decide))) (evE_int _ _ _ _)).trans (bin_mod _ (by decide))) ei) ⟨x, _, ext_app _ _, rfl, a1, a2⟩
  | false =>
    have hk := fmod_lt (c.fdiv 11) hm
    have eb := bi_str (i := f + (c.fdiv 11).fmod m) (by omega) (H ++ [.list odd])
    obtain ⟨k, hk2⟩ := Int.eq_ofNat_of_zero_le (show 0 ≤ f + (c.fdiv 11).fmod m by omega)
    have ok := num_ok (m := k) (by omega)
    rw [hk2] at eb
    refine ss_ret (ev_bi (G_hd _) (evs_one ((ev_bin (ev_var rfl) ((ev_bin ((ev_bin (ev_var rfl) (evE_int _ _ _ _)).trans (bin_fdiv _ (by decide) (by decide))) (ev_var rfl)).trans (bin_mod _ (by omega)))).trans ((bin_add _ _ _).trans (by rw [hk2])))) eb) ⟨_, _, ext_app _ _, rfl, ok.1, Nat.le_trans ok.2 (by decide)⟩
end Mine.L13

/-! P13n -/
namespace Mine.L13
open Mine PySem

theorem turns_some (P : V → Prop) (f : V → Hp → R V) (chk : Hp → Bool) (H : Hp) (hc : ∀ ys, chk (H ++ [.list ys]) = true) : ∀ (xs done : List V), (∀ y ∈ xs, ∀ ys, ∃ v, f y (H ++ [.list ys]) = .ok v (H ++ [.list ys]) ∧ P v) → done.length + xs.length ≤ line →
    ∃ vs, turns f chk H.length xs (H ++ [.list done]) = .ok () (H ++ [.list (done ++ vs)]) ∧ vs.length = xs.length ∧ ∀ v ∈ vs, P v
  | [], done, _, _ => ⟨[], by simp [turns, hc], rfl, fun _ q => nomatch q⟩
  | y :: ys, done, h, hl => by
    obtain ⟨v, ev, pv⟩ := h y (List.mem_cons_self ..) done
    obtain ⟨vs, e, l, p⟩ := turns_some P f chk H hc ys (done ++ [v]) (fun z hz => h z (List.mem_cons_of_mem _ hz)) (by simp at hl ⊢; omega)
    refine ⟨v :: vs, ?_, by simp [l], fun z hz => ?_⟩
    · rw [turns, if_pos (hc _), ev]
      simp only [len_app1, set_app1]
      rw [if_pos (by simp at hl; omega), e]; simp
    · rcases List.mem_cons.mp hz with rfl | hz
      · exact pv
      · exact p z hz
theorem forL_all (I : Nat → Rho → Hp → Prop) (body : V → Rho → Hp → RS) (chk : Hp → Bool) (hc : ∀ H, chk H = true) (N : Nat) : ∀ (xs : List V) (i : Nat), i + xs.length ≤ N → (∀ y ∈ xs, ∀ i ρ H, i < N → I i ρ H → ∃ ρ' H', I (i + 1) ρ' H' ∧ body y ρ H = .next ρ' H') →
    ∀ ρ H, I i ρ H → ∃ ρ' H', I (i + xs.length) ρ' H' ∧ forL body chk xs ρ H = .next ρ' H'
  | [], i, _, _, ρ, H, z => ⟨ρ, H, z, by rw [forL, if_pos (hc H)]⟩
  | y :: ys, i, hN, h, ρ, H, z => by
    rw [List.length_cons] at hN
    obtain ⟨ρ1, H1, i1, e1⟩ := h y (List.mem_cons_self ..) i ρ H (by omega) z
    obtain ⟨ρ2, H2, i2, e2⟩ := forL_all I body chk hc N ys (i + 1) (by omega) (fun z hz => h z (List.mem_cons_of_mem _ hz)) ρ1 H1 i1
    exact ⟨ρ2, H2, by rw [List.length_cons, show i + (ys.length + 1) = i + 1 + ys.length by omega]; exact i2, by rw [forL, if_pos (hc H), e1, RS.bind_next, e2]⟩
theorem ss_asgS {T : RS → Prop} {Γ : Fn} {ρ : Rho} {y : String} {e : E} {ss : List S} {H : Hp} {B : Nat} (h : EvS Γ ρ e H B) (k : ∀ x H', Ext H H' → Asc x → x.length ≤ B → T (exSs Γ ss (setL y (.str x) ρ) H')) : T (exSs Γ (.asg y e :: ss) ρ H) := by
  obtain ⟨x, H', x1, e1, a1, l1⟩ := h
  exact ss_asg e1 (k x H' x1 a1 l1)
inductive Cells (ρ : Rho) (H : Hp) : Prop
  | mk (j : Nat) (cs : List V) (l : ρ.lookup "_law_cells" = some (.ref j)) (g : H[j]? = some (.list cs)) (n : cs.length = 36) (i : ∀ v ∈ cs, ∃ c : Int, v = .int c) : Cells ρ H
theorem Cells.ext {ρ : Rho} {H H' : Hp} (x : Cells ρ H) (e : Ext H H') : Cells ρ H' := let ⟨j, cs, l, g, n, i⟩ := x; ⟨j, cs, l, e.get g, n, i⟩
theorem Cells.set {ρ : Rho} {H : Hp} {y : String} {v : V} (x : Cells ρ H) (hy : "_law_cells" ≠ y) : Cells (setL y v ρ) H := let ⟨j, cs, l, g, n, i⟩ := x; ⟨j, cs, setL_other hy l, g, n, i⟩
theorem Cells.at {Γ : Fn} {ρ : Rho} {H : Hp} (x : Cells ρ H) {e : E} {i : Int} (h : evE Γ ρ e H = .ok (.int i) H) (h0 : 0 ≤ i) (h1 : i < 36) : ∃ c, evE Γ ρ (.idx (.var "_law_cells") e) H = .ok (.int c) H := by
  obtain ⟨j, cs, l, g, n, iv⟩ := x
  obtain ⟨v, hv, e1⟩ := idx_mem g h0 (by omega)
  obtain ⟨c, rfl⟩ := iv v hv
  exact ⟨c, ev_idx (ev_var l) h e1⟩
theorem EvS.num {n : Nat} {ρ : Rho} {e : E} {H : Hp} {c f m : Int} (he : evE (G (n + 1)) ρ e H = .ok (.int c) H) (hf : 0 ≤ f) (hm : 0 < m) (hfm : f + m ≤ 1000000) : EvS (G (n + 1)) ρ (.call "_law_number" [e, .int f, .int m]) H 5000 := by
  obtain ⟨x, H', x1, e1, a1, l1⟩ := c_lnum n c f m H hf hm hfm
  exact ⟨x, H', x1, ev_call (G_hd _) (evs_cons he (evs_cons (evE_int _ _ _ _) (evs_one (evE_int _ _ _ _)))) rfl e1, a1, l1⟩
theorem EvS.cell {n : Nat} {ρ : Rho} {e : E} {H : Hp} {i f m : Int} (x : Cells ρ H) (he : evE (G (n + 1)) ρ e H = .ok (.int i) H) (h0 : 0 ≤ i) (h1 : i < 36) (hf : 0 ≤ f) (hm : 0 < m) (hfm : f + m ≤ 1000000) : EvS (G (n + 1)) ρ (.call "_law_number" [.idx (.var "_law_cells") e, .int f, .int m]) H 5000 := by
  obtain ⟨c, e1⟩ := x.at he h0 h1
  exact EvS.num e1 hf hm hfm
noncomputable abbrev tbB : List S := [
    .asg "_law_text" (.bin .add (.bin .add (.var "_law_text") (.str "stop ")) (.call "_law_number" [(.idx (.var "_law_cells") (.bin .add (.int 4) (.bin .mod (.bin .mul (.int 4) (.var "_law_k")) (.int 32)))), (.int 0), (.int 10)])),
    .asg "_law_text" (.bin .add (.bin .add (.var "_law_text") (.str " from ")) (.call "_law_number" [(.idx (.var "_law_cells") (.bin .add (.int 4) (.bin .mod (.bin .add (.bin .mul (.int 4) (.var "_law_k")) (.int 1)) (.int 32)))), (.int 0), (.int 31)])),
    .asg "_law_text" (.bin .add (.bin .add (.var "_law_text") (.str " to ")) (.call "_law_number" [(.idx (.var "_law_cells") (.bin .add (.int 4) (.bin .mod (.bin .add (.bin .mul (.int 4) (.var "_law_k")) (.int 2)) (.int 32)))), (.int 30), (.int 31)])),
    .asg "_law_text" (.bin .add (.bin .add (.bin .add (.var "_law_text") (.str " for ")) (.call "_law_number" [(.idx (.var "_law_cells") (.bin .add (.int 4) (.bin .mod (.bin .add (.bin .mul (.int 4) (.var "_law_k")) (.int 3)) (.int 32)))), (.int 0), (.int 10)])) (.str "\n"))]
structure TextI (ρ : Rho) (H : Hp) (B : Nat) : Prop where
  c : Cells ρ H
  t : ∃ x, ρ.lookup "_law_text" = some (.str x) ∧ Asc x ∧ x.length ≤ B
theorem TextI.set {ρ : Rho} {H H' : Hp} {x : Str} {B : Nat} (c : Cells ρ H) (e : Ext H H') (a : Asc x) (l : x.length ≤ B) : TextI (setL "_law_text" (.str x) ρ) H' B := ⟨(c.ext e).set (by decide), x, setL_self _ _ _, a, l⟩
theorem TextI.ev {Γ : Fn} {ρ : Rho} {H : Hp} {B : Nat} (i : TextI ρ H B) : EvS Γ ρ (.var "_law_text") H B := let ⟨_, e, a, l⟩ := i.t; EvS.var e a l
theorem tb_ix (n : Nat) (ρ : Rho) (H : Hp) (e : E) (z : Int) (h : evE (G (n + 1)) ρ e H = .ok (.int z) H) : ∃ i, evE (G (n + 1)) ρ (.bin .add (.int 4) (.bin .mod e (.int 32))) H = .ok (.int i) H ∧ 0 ≤ i ∧ i < 36 := by
  have := fmod_lt z (show (0 : Int) < 32 by decide)
  exact ⟨4 + z.fmod 32, (ev_bin (evE_int _ _ _ _) ((ev_bin h (evE_int _ _ _ _)).trans (bin_mod H (by decide)))).trans (bin_add _ _ _), by omega, by omega⟩
theorem tb_part {n : Nat} {ρ : Rho} {H : Hp} {B : Nat} {s : String} {e : E} {z f m : Int} {c : Nat} (i : TextI ρ H B) (hB : B ≤ 980000) (hc : c ≤ 6) (hs : litOk s c = true) (he : ∀ H', evE (G (n + 1)) ρ e H' = .ok (.int z) H') (hf : 0 ≤ f) (hm : 0 < m) (hfm : f + m ≤ 1000000) :
      EvS (G (n + 1)) ρ (.bin .add (.bin .add (.var "_law_text") (.str s)) (.call "_law_number" [(.idx (.var "_law_cells") (.bin .add (.int 4) (.bin .mod e (.int 32)))), .int f, .int m])) H (B + c + 5000) := by
  refine EvS.add (EvS.add i.ev (fun _ _ => EvS.lit hs) (by omega)) (fun H' x => ?_) (by omega)
  obtain ⟨j, ej, j0, j1⟩ := tb_ix n ρ H' e z (he H')
  exact EvS.cell (i.c.ext x) ej j0 j1 hf hm hfm
theorem sum_le {a B : Nat} (h : a ≤ B + 5 + 5000 + 6 + 5000 + 4 + 5000 + 5 + 5000 + 1) : a ≤ B + 20021 := Nat.le_trans h (Nat.le_of_eq (by simp only [Nat.add_assoc, Nat.reduceAdd]))
theorem tb_turn (n : Nat) (k : Nat) (ρ : Rho) (H : Hp) (B : Nat) (hB : B ≤ 900000) (i : TextI ρ H B) : ∃ ρ' H', TextI ρ' H' (B + 20021) ∧ Ext H H' ∧ exSs (G (n + 1)) tbB (setL "_law_k" (.int k) ρ) H = .next ρ' H' := by
  have k4 : ∀ {ρ : Rho} {H : Hp}, ρ.lookup "_law_k" = some (.int k) → evE (G (n + 1)) ρ (.bin .mul (.int 4) (.var "_law_k")) H = .ok (.int (4 * k)) H := fun h => (ev_bin (evE_int _ _ _ _) (ev_var h)).trans (bin_mul_l _ (by decide))
  have k4a : ∀ {ρ : Rho} {H : Hp} (m : Int), ρ.lookup "_law_k" = some (.int k) → evE (G (n + 1)) ρ (.bin .add (.bin .mul (.int 4) (.var "_law_k")) (.int m)) H = .ok (.int (4 * k + m)) H := fun m h => (ev_bin (k4 h) (evE_int _ _ _ _)).trans (bin_add _ _ _)
  obtain ⟨x0, ex0, ax0, lx0⟩ := i.t
  have i0 : TextI (setL "_law_k" (.int k) ρ) H B := ⟨i.c.set (by decide), x0, setL_other (by decide) ex0, ax0, lx0⟩
  have lk0 : (setL "_law_k" (.int k) ρ).lookup "_law_k" = some (.int k) := setL_self _ _ _
  refine ss_asgS (T := fun r => ∃ ρ' H', TextI ρ' H' (B + 20021) ∧ Ext H H' ∧ r = .next ρ' H') (tb_part (c := 5) i0 (by omega) (by decide) (by decide +kernel) (fun _ => k4 lk0) (by decide) (by decide) (by decide)) fun x1 H1 e1 a1 l1 => ?_
  have i1 := TextI.set i0.c e1 a1 l1
  have lk1 : (setL "_law_text" (.str x1) (setL "_law_k" (.int k) ρ)).lookup "_law_k" = some (.int k) := setL_other (by decide) lk0
  refine ss_asgS (T := fun r => ∃ ρ' H', TextI ρ' H' (B + 20021) ∧ Ext H H' ∧ r = .next ρ' H') (tb_part (c := 6) i1 (by omega) (by decide) (by decide +kernel) (fun _ => k4a 1 lk1) (by decide) (by decide) (by decide)) fun x2 H2 e2 a2 l2 => ?_
  have i2 := TextI.set i1.c e2 a2 l2
  have lk2 := setL_other (v := V.str x2) (y := "_law_k") (x := "_law_text") (by decide) lk1
  refine ss_asgS (T := fun r => ∃ ρ' H', TextI ρ' H' (B + 20021) ∧ Ext H H' ∧ r = .next ρ' H') (tb_part (c := 4) i2 (by omega) (by decide) (by decide +kernel) (fun _ => k4a 2 lk2) (by decide) (by decide) (by decide)) fun x3 H3 e3 a3 l3 => ?_
  have i3 := TextI.set i2.c e3 a3 l3
  have lk3 := setL_other (v := V.str x3) (y := "_law_k") (x := "_law_text") (by decide) lk2
  refine ss_asgS (T := fun r => ∃ ρ' H', TextI ρ' H' (B + 20021) ∧ Ext H H' ∧ r = .next ρ' H') (EvS.add (tb_part (c := 5) i3 (by omega) (by decide) (by decide +kernel) (fun _ => k4a 3 lk3) (by decide) (by decide) (by decide)) (fun _ _ => EvS.lit (B := 1) (by decide +kernel)) (by omega)) fun x4 H4 e4 a4 l4 => ?_
  exact ⟨_, H4, TextI.set i3.c e4 a4 (sum_le l4), ((e1.trans e2).trans e3).trans e4, rfl⟩
theorem c_cells (n : Nat) (ns : List Int) (H : Hp) (hl : ns.length ≤ 63) : ∃ cs, evE (G (n + 1)) [("_law_script", .scr ns)] (.comp (.call "_law_cell_at" [(.var "_law_script"), (.var "_law_k")]) "_law_k" (.call "range" [(.int 36)])) H = .ok (.ref H.length) (H ++ [.list cs]) ∧ cs.length = 36 ∧ ∀ v ∈ cs, ∃ c : Int, v = .int c := by
  obtain ⟨cs, e, l, p⟩ := turns_some (fun v => ∃ c : Int, v = .int c) (fun y H2 => evE (G (n + 1)) (("_law_k", y) :: [("_law_script", .scr ns)]) (.call "_law_cell_at" [(.var "_law_script"), (.var "_law_k")]) H2) (sameO (.rng 0 36 1) H) H (fun _ => rfl) ((List.range' 0 36).map fun (k : Nat) => .int (k : Int)) [] (fun y hy ys => by
    obtain ⟨k, _, rfl⟩ := List.mem_map.mp hy
    obtain ⟨c, ec⟩ := c_cell n ns k (H ++ [.list ys]) hl
    exact ⟨.int c, ev_call (G_hd _) (evs_cons (ev_var rfl) (evs_one (ev_var rfl))) rfl ec, c, rfl⟩) (by simp [line])
  refine ⟨cs, ev_comp (G_hd _) (ev_bi (G_hd _) (evs_one (evE_int _ _ _ _)) (bi_range _ _)) (items_range H 36 (by decide)) e, by rw [l]; simp, p⟩
end Mine.L13

/-! P13o -/
namespace Mine.L13
open Mine PySem

theorem menu_at {vs : List V} {k : Int} {H : Hp} (h0 : 0 ≤ k) (h1 : k < vs.length) : ∃ v, v ∈ vs ∧ index (.lst vs) (.int k) H = .ok v H := by
  have h3 : k.toNat < vs.length := by omega
  refine ⟨vs[k.toNat], List.getElem_mem h3, ?_⟩
  have hp : place k vs.length = some k.toNat := by unfold place; rw [if_pos h0, if_pos h1]
  have q : index (.lst vs) (.int k) H = itemAt vs k H := rfl
  rw [q, itemAt, hp]; simp [h3]
theorem EvS.menu {n : Nat} {ρ : Rho} {e : E} {H : Hp} {c : Int} (he : evE (G n) ρ e H = .ok (.int c) H) : EvS (G n) ρ (.menu [(.str "line "), (.str "ring ")] (.bin .mod e (.int 2))) H 5 := by
  have h2 := fmod_lt c (show (0 : Int) < 2 by decide)
  obtain ⟨v, hv, ei⟩ := menu_at (vs := [.str (Str.ofString "line "), .str (Str.ofString "ring ")]) (H := H) h2.1 h2.2
  have e1 : evE (G n) ρ (.menu [(.str "line "), (.str "ring ")] (.bin .mod e (.int 2))) H = .ok v H := by
    rw [evE_menu, evs_cons (evE_str _ _ _ _) (evs_one (evE_str _ _ _ _)), R.bind_ok, ev_bin he (evE_int _ _ _ _), bin_mod H (by decide), R.bind_ok, ei]
  simp only [List.mem_cons, List.not_mem_nil, or_false] at hv
  rcases hv with rfl | rfl
  · have := lit_of (s := "line ") (B := 5) (by decide +kernel)
    exact ⟨_, H, Ext.refl H, e1, this.1, this.2⟩
  · have := lit_of (s := "ring ") (B := 5) (by decide +kernel)
    exact ⟨_, H, Ext.refl H, e1, this.1, this.2⟩
noncomputable def TextP (H : Hp) (B : Nat) (r : R V) : Prop := ∃ x H', Ext H H' ∧ r = .ok (.str x) H' ∧ Asc x ∧ x.length ≤ B
theorem EvS.ret {Γ : Fn} {ρ : Rho} {e : E} {ss : List S} {H0 H : Hp} {B B' : Nat} (h : EvS Γ ρ e H B) (x : Ext H0 H) (hB : B ≤ B') : Fin (TextP H0 B') (exSs Γ (.ret e :: ss) ρ H) := by
  obtain ⟨y, H', x1, e1, a1, l1⟩ := h
  exact ss_ret e1 ⟨y, H', x.trans x1, rfl, a1, Nat.le_trans l1 hB⟩
theorem sliceS_ok {x : Str} {l u : V} {a b : Option Int} {H : Hp} (hl : intO l = some a) (hu : intO u = some b) (ha : Asc x) (hx : x.length ≤ 1000000) : sliceV (.str x) l u H = .ok (.str (Txt.slice x a b)) H := by
  have q : sliceV (.str x) l u H = sliceS x l u H := rfl
  rw [q, sliceS, hl]
  dsimp only
  rw [hu]
  dsimp only
  rw [if_pos ⟨by unfold line; omega, (ha.slice _ _).ok⟩]
theorem ev_slice {Γ : Fn} {ρ : Rho} {o lo hi : E} {x : Str} {l u : V} {a b : Option Int} {H : Hp} (ho : evE Γ ρ o H = .ok (.str x) H) (h1 : evE Γ ρ lo H = .ok l H) (h2 : evE Γ ρ hi H = .ok u H) (hl : intO l = some a) (hu : intO u = some b) (ha : Asc x) (hx : x.length ≤ 1000000) : evE Γ ρ (.slice o lo hi) H = .ok (.str (Txt.slice x a b)) H := by
  rw [evE_slice, ho, R.bind_ok, h1, R.bind_ok, h2, R.bind_ok, sliceS_ok hl hu ha hx]
theorem ss_rep {n : Nat} {ρ : Rho} {e : E} {k c : Int} {y a b : String} {one : Bool} {ss : List S} {H0 H : Hp} {x : Str} {B : Nat} (he : evE (G n) ρ e H = .ok (.int c) H) (hy : ρ.lookup y = some (.str x)) (x0 : Ext H0 H) (ha : Asc x) (hx : x.length ≤ 500000) (hB : x.length + 1 ≤ B)
    (h1 : litOk a 1 = true) (h2 : litOk b 2 = true) (h3 : (Str.ofString a).length = 1) (h4 : (Str.ofString b).length = 1 ∨ (one = true ∧ (Str.ofString b).length = 2)) (h5 : (Str.ofString a == Str.ofString b) = false) (go : Fin (TextP H0 B) (exSs (G n) ss ρ H)) :
    Fin (TextP H0 B) (exSs (G n) (.ifRep e k y a b one :: ss) ρ H) := by
  have as := swap_asc (y := Str.ofString a) ha (lit_of h2).1 one
  have ok : swapOk' x a b one = true := by
    unfold swapOk'
    have hb := (lit_of h2).2
    have : (x.length + 1) * (Str.ofString b).length ≤ (x.length + 1) * 2 := Nat.mul_le_mul_left _ hb
    rw [h5, (lit_of h1).1.ok, (lit_of h2).1.ok, as.ok, decide_eq_true (by omega)]; rfl
  have q : exSs (G n) (.ifRep e k y a b one :: ss) ρ H = if c = k then .ret (.str (Txt_swap x (Str.ofString a) (Str.ofString b) one)) H else exSs (G n) ss ρ H := by
    rw [exSs_cons, exS_ifRep, G_hd, if_neg (by decide), he, ofR_ok, hy]
    show RS.bind (if c = k then (if swapOk' x a b one = true then .ret (.str (Txt_swap x (Str.ofString a) (Str.ofString b) one)) H else .stuck) else .next ρ H) _ = _
    rw [if_pos ok]
    split <;> rfl
  rw [q]
  split
  · exact ⟨_, H, x0, rfl, as, Nat.le_trans (swap_len h3 one h4) hB⟩
  · exact go
theorem c_text (n : Nat) (ns : List Int) (H : Hp) (hl : ns.length ≤ 63) : TextP H 499990 ((G (n + 2)).call "_law_text_by" [.scr ns] H) := by
  rw [lk_call (d := d__law_text_by) (by kernel_rfl)]
  refine runDef_P (ρ := [("_law_script", .scr ns)]) rfl ?_
  obtain ⟨cs, ec, lc, pc⟩ := c_cells n ns H hl
  refine ss_asg ec ?_
  have C0 : Cells (setL "_law_cells" (.ref H.length) [("_law_script", .scr ns)]) (H ++ [.list cs]) := ⟨H.length, cs, setL_self _ _ _, len_app1 _ _, lc, pc⟩
  have x0 : Ext H (H ++ [.list cs]) := ext_app _ _
  obtain ⟨c0, e0⟩ := C0.at (Γ := G (n + 1)) (e := .int 0) (evE_int _ _ _ _) (by decide) (by decide)
  refine ss_asgS (EvS.add (EvS.add (EvS.menu e0) (fun H' x => by
    obtain ⟨c, e⟩ := (C0.ext x).at (Γ := G (n + 1)) (e := .int 0) (evE_int _ _ _ _) (by decide) (by decide)
    exact EvS.num ((ev_bin e (evE_int _ _ _ _)).trans (bin_fdiv _ (by decide) (by decide))) (by decide) (by decide) (by decide)) (by decide)) (fun _ _ => EvS.lit (B := 1) (by decide +kernel)) (by decide)) fun t1 H1 x1 a1 l1 => ?_
  have I1 := TextI.set C0 x1 a1 l1
  refine ss_asgS (EvS.add (EvS.add (EvS.add (EvS.add (EvS.add I1.ev (fun _ _ => EvS.lit (B := 5) (by decide +kernel)) (by decide)) (fun H' x => EvS.cell (I1.c.ext x) (evE_int _ _ _ _) (by decide) (by decide) (by decide) (by decide) (by decide)) (by decide)) (fun _ _ => EvS.lit (B := 4) (by decide +kernel)) (by decide))
    (fun H' x => EvS.cell (I1.c.ext x) (evE_int _ _ _ _) (by decide) (by decide) (by decide) (by decide) (by decide)) (by decide)) (fun _ _ => EvS.lit (B := 1) (by decide +kernel)) (by decide)) fun t2 H2 x2 a2 l2 => ?_
  have I2 := TextI.set I1.c x2 a2 l2
  have xx := (x0.trans x1).trans x2
  generalize hρ : setL "_law_text" (.str t2) (setL "_law_text" (.str t1) (setL "_law_cells" (.ref H.length) [("_law_script", .scr ns)])) = ρ at I2 ⊢
  obtain ⟨c3, e3⟩ := I2.c.at (Γ := G (n + 1)) (e := .int 3) (evE_int _ _ _ _) (by decide) (by decide)
  have h9 := fmod_lt c3 (show (0 : Int) < 9 by decide)
  obtain ⟨N, eN, hN⟩ : ∃ N : Nat, evE (G (n + 1)) ρ (.call "range" [(.bin .mul (.bin .mod (.idx (.var "_law_cells") (.int 3)) (.int 9)) (.bin .add (.int 1) (.bin .mul (.int 2) (.call "int" [(.cmp (.bin .mod (.bin .fdiv (.idx (.var "_law_cells") (.int 3)) (.int 9)) (.int 9)) .eq (.int 1))]))))]) H2 = .ok (.rng 0 N 1) H2 ∧ N ≤ 24 := by
    have e9 := (ev_bin e3 (evE_int _ _ 9 _)).trans (bin_mod (a := c3) (b := 9) H2 (by decide))
    have eb : ∃ b : Int, evE (G (n + 1)) ρ (.bin .add (.int 1) (.bin .mul (.int 2) (.call "int" [(.cmp (.bin .mod (.bin .fdiv (.idx (.var "_law_cells") (.int 3)) (.int 9)) (.int 9)) .eq (.int 1))]))) H2 = .ok (.int b) H2 ∧ (b = 1 ∨ b = 3) := by
      have ei := ev_bi (Γ := G (n + 1)) (f := "int") (G_hd _) (evs_one (ev_cmp ((ev_bin ((ev_bin e3 (evE_int _ _ 9 _)).trans (bin_fdiv H2 (by decide) (by decide))) (evE_int _ _ 9 _)).trans (bin_mod H2 (by decide))) (evE_int _ _ 1 _) (cmp_eq_int _ _ _))) rfl
      refine ⟨_, (ev_bin (evE_int _ _ _ _) ((ev_bin (evE_int _ _ _ _) ei).trans (bin_mul_l H2 (by decide)))).trans (bin_add _ _ _), ?_⟩
      split
      · exact .inr rfl
      · exact .inl rfl
    obtain ⟨b, eb, hb⟩ := eb
    have em := (ev_bin e9 eb).trans (bin_mul_l H2 (by omega))
    have hm : 0 ≤ c3.fmod 9 * b ∧ c3.fmod 9 * b ≤ 24 := by rcases hb with rfl | rfl <;> omega
    obtain ⟨N, hN⟩ := Int.eq_ofNat_of_zero_le hm.1
    refine ⟨N, (ev_bi (G_hd _) (evs_one em) (bi_range _ _)).trans (by rw [hN]), by omega⟩
  obtain ⟨ρ3, H3, ⟨I3, x3⟩, e⟩ := forL_all (fun i ρ' H' => TextI ρ' H' (15016 + i * 20021) ∧ Ext H2 H') (fun v ρ1 H2 => exSs (G (n + 1)) tbB (setL "_law_k" v ρ1) H2) (sameO (.rng 0 N 1) H2) (fun _ => rfl) 24 ((List.range' 0 N).map fun (k : Nat) => .int (k : Int)) 0 (by simp; omega) (fun y hy i ρ' H' hi ⟨z1, z2⟩ => by
    obtain ⟨k, _, rfl⟩ := List.mem_map.mp hy
    obtain ⟨ρ4, H4, I4, x4, e4⟩ := tb_turn n k ρ' H' (15016 + i * 20021) (by omega) z1
    refine ⟨ρ4, H4, ⟨?_, z2.trans x4⟩, e4⟩
    rw [Nat.succ_mul, ← Nat.add_assoc]; exact I4) ρ H2 ⟨I2, Ext.refl _⟩
  refine ss_for (G_hd _) eN (items_range _ _ (by omega)) e ?_
  have x4 := xx.trans x3
  obtain ⟨c, tx, atx, ltx⟩ := I3.t
  rw [List.length_map, List.length_range'] at ltx
  have ltx' : c.length ≤ 495520 := by
    refine Nat.le_trans ltx ?_
    have : (0 + N) * 20021 ≤ 24 * 20021 := Nat.mul_le_mul_right _ (by omega)
    omega
  obtain ⟨c34, e34⟩ := I3.c.at (Γ := G (n + 1)) (e := .int 34) (evE_int _ _ _ _) (by decide) (by decide)
  have em := (ev_bin e34 (evE_int _ _ 9 _)).trans (bin_mod (a := c34) (b := 9) H3 (by decide))
  refine ss_if (ev_cmp em (evE_int _ _ _ _) (cmp_eq_int _ _ _)) ?_
  cases (c34.fmod 9 == 1) with
  | true =>
    refine EvS.ret (B := 499990) ⟨_, H3, Ext.refl H3, ev_slice (u := .int (-1)) (ev_var tx) (evE_none _ _ _) (by rw [evE_neg, evE_int]; rfl) rfl rfl atx (by omega), atx.slice _ _, ?_⟩ x4 (Nat.le_refl _)
    exact Nat.le_trans (Txt.slice_le c _ _) (by omega)
  | false =>
  refine ss_if (ev_cmp em (evE_int _ _ _ _) (cmp_eq_int _ _ _)) ?_
  cases (c34.fmod 9 == 2) with
  | true => exact EvS.ret (EvS.add (EvS.var tx atx ltx') (fun _ _ => EvS.lit (B := 1) (by decide +kernel)) (by decide)) x4 (by decide)
  | false =>
  refine ss_rep em tx x4 atx (by omega) (by omega) (by decide +kernel) (by decide +kernel) (by decide +kernel) (.inr ⟨rfl, by decide +kernel⟩) (by decide +kernel) ?_
  refine ss_rep em tx x4 atx (by omega) (by omega) (by decide +kernel) (by decide +kernel) (by decide +kernel) (.inl (by decide +kernel)) (by decide +kernel) ?_
  exact EvS.ret (EvS.var tx atx ltx') x4 (by decide)
end Mine.L13

/-! P13p -/
namespace Mine.L13
open Mine PySem

theorem slice_to_len {x : Str} {i : Nat} (h : i ≤ x.length) : (Txt.slice x Option.none (some (i : Int))).length ≤ i := by
  have hc := PyProof.Rows.slice_closes_to (x := x) (j := (i : Int)) ⟨by omega, by rw [len_cps]; omega⟩
  rw [beq_iff_eq.mp hc, ← len_cps]
  show ((x.cps.toList.drop 0).take ((i : Int) - 0).toNat).length ≤ i
  rw [List.length_take]; omega
theorem slice_from_len {x : Str} {i : Nat} (h : i ≤ x.length) : (Txt.slice x (some (i : Int)) Option.none).length ≤ x.length - i := by
  rw [PyProof.Rows.slice_from_eq (b := (x.length : Int)) (by omega) (by omega) rfl, ← len_cps]
  show ((x.cps.toList.drop (i : Int).toNat).take ((x.length : Int) - i).toNat).length ≤ _
  rw [List.length_take, List.length_drop, len_cps]; omega
theorem slice_from_len' {x : Str} {i : Nat} (h : i ≤ x.length) : (Txt.slice x (some ((i + 1 : Nat) : Int)) Option.none).length ≤ x.length - i := by
  by_cases h1 : i + 1 ≤ x.length
  · exact Nat.le_trans (slice_from_len h1) (by omega)
  · rw [PyProof.Rows.slice_beyond (by omega)]
    exact Nat.zero_le _
noncomputable abbrev sg1 : String := "0123456789  \n\n0123456789  \n\n !\"#$&'()*+,-./:;<=>?@ABCDEFGHIJKLMNOPQRSTUVWXYZ[\\]^_`"
noncomputable abbrev sg2 : String := "abcdefghijklmnopqrstuvwxyz{|}~\t"
theorem signs_ok : litOk sg1 200 = true ∧ litOk sg2 200 = true ∧ (Str.ofString sg1).length ≠ 0 := by decide +kernel
theorem idx_sign {x : Str} (ha : Asc x) (hl : x.length ≤ 1000000) {i : Int} (h0 : 0 ≤ i) (h1 : i < x.length) (H : Hp) : ∃ c, c < 128 ∧ index (.str x) (.int i) H = .ok (.str ⟨#[c]⟩) H := by
  have h3 : i.toNat < x.cps.toList.length := by rw [len_cps]; omega
  refine ⟨x.cps.toList[i.toNat], ha _ (List.getElem_mem h3), ?_⟩
  have q : index (.str x) (.int i) H = (if x.length ≤ line then itemAt (signs x) i H else .stuck) := rfl
  have hp : place i (signs x).length = some i.toNat := by
    unfold place signs
    rw [List.length_map, len_cps, if_pos h0, if_pos h1]
  rw [q, if_pos (by unfold line; omega), itemAt, hp]
  show ofO H ((signs x)[i.toNat]?) = _
  unfold signs
  rw [List.getElem?_map, List.getElem?_eq_getElem h3]; rfl
theorem c_spoilt (n : Nat) (t : Str) (c b : Int) (H : Hp) (ha : Asc t) (hl : t.length ≤ 499998) : TextP H (t.length + 1) ((G (n + 1)).call "_law_spoilt" [.str t, .int c, .int b] H) := by
  rw [lk_call (d := d__law_spoilt) (by kernel_rfl)]
  refine runDef_P (ρ := [("_law_text", .str t), ("_law_cell", .int c), ("_law_by", .int b)]) rfl ?_
  have hm := fmod_lt (c.fdiv 3) (show (0 : Int) < (t.length : Int) + 1 by omega)
  obtain ⟨i, hi⟩ := Int.eq_ofNat_of_zero_le hm.1
  have hit : i ≤ t.length := by omega
  have bl : ∀ H, builtin "len" [.str t] H = .ok (.int t.length) H := bi_len_str (by unfold line; omega)
  refine ss_asg (v := .int (i : Int)) (H1 := H) ((ev_bin ((ev_bin (ev_var rfl) (evE_int _ _ _ _)).trans (bin_fdiv H (by decide) (by decide))) ((ev_bin (ev_bi (G_hd _) (evs_one (ev_var rfl)) (bl H)) (evE_int _ _ _ _)).trans (bin_add _ _ _))).trans ((bin_mod H (by omega)).trans (by rw [hi]))) ?_
  have s1 := lit_of signs_ok.1
  have s2 := lit_of signs_ok.2.1
  have b1 := s1.2
  have b2 := s2.2
  have hlen : (Str.ofString sg1 ++ Str.ofString sg2).length = (Str.ofString sg1).length + (Str.ofString sg2).length := Str.length_append _ _
  refine ss_asg (evE_str _ _ _ _) ?_
  refine ss_asg ((ev_bin (ev_var rfl) (evE_str _ _ _ _)).trans (bin_add_str (x := Str.ofString sg1) (y := Str.ofString sg2) H (by unfold line; omega))) ?_
  have asg := s1.1.app s2.1
  have n0 := signs_ok.2.2
  generalize Str.ofString sg1 ++ Str.ofString sg2 = sg at hlen asg ⊢
  have hb := fmod_lt b (show (0 : Int) < sg.length by omega)
  obtain ⟨ch, hch, ech⟩ := idx_sign asg (by omega) hb.1 hb.2 H
  refine ss_asg (ev_idx (ev_var rfl) ((ev_bin (ev_var rfl) (ev_bi (G_hd _) (evs_one (ev_var rfl)) (bi_len_str (by unfold line; omega) H))).trans (bin_mod H (by omega))) ech) ?_
  have ach : Asc ⟨#[ch]⟩ := fun d hd => by rw [show d = ch by simpa using hd]; exact hch
  let ρ : Rho := [("_law_text", .str t), ("_law_cell", .int c), ("_law_by", .int b), ("_law_at", .int (i : Int)), ("_law_signs", .str sg), ("_law_sign", .str ⟨#[ch]⟩)]
  have em : ∀ k : Int, evE (G n) ρ (.cmp (.bin .mod (.var "_law_cell") (.int 3)) .eq (.int k)) H = .ok (.bool (c.fmod 3 == k)) H := fun k => ev_cmp ((ev_bin (ev_var rfl) (evE_int _ _ _ _)).trans (bin_mod H (by decide))) (evE_int _ _ _ _) (cmp_eq_int _ _ _)
  have p1 : EvS (G n) ρ (.slice (.var "_law_text") .none (.var "_law_at")) H i := ⟨_, H, Ext.refl H, ev_slice (ev_var rfl) (evE_none _ _ _) (ev_var rfl) rfl rfl ha (by omega), ha.slice _ _, slice_to_len hit⟩
  have p2 : ∀ H', EvS (G n) ρ (.var "_law_sign") H' 1 := fun H' => EvS.var rfl ach (Nat.le_refl 1)
  have p3 : ∀ H', EvS (G n) ρ (.slice (.var "_law_text") (.var "_law_at") .none) H' (t.length - i) := fun H' => ⟨_, H', Ext.refl H', ev_slice (ev_var rfl) (ev_var rfl) (evE_none _ _ _) rfl rfl ha (by omega), ha.slice _ _, slice_from_len hit⟩
  have p4 : ∀ H', EvS (G n) ρ (.slice (.var "_law_text") (.bin .add (.var "_law_at") (.int 1)) .none) H' (t.length - i) := fun H' => ⟨_, H', Ext.refl H', ev_slice (l := .int ((i + 1 : Nat) : Int)) (ev_var rfl) ((ev_bin (ev_var rfl) (evE_int _ _ _ _)).trans (bin_add _ _ _)) (evE_none _ _ _) rfl rfl ha (by omega), ha.slice _ _, slice_from_len' hit⟩
  refine ss_if (em 0) ?_
  cases (c.fmod 3 == 0) with
  | true => exact EvS.ret (EvS.add (EvS.add p1 (fun H' _ => p2 H') (by omega)) (fun H' _ => p3 H') (by omega)) (Ext.refl H) (by omega)
  | false =>
  refine ss_if (em 1) ?_
  cases (c.fmod 3 == 1) with
  | true => exact EvS.ret (EvS.add p1 (fun H' _ => p4 H') (by omega)) (Ext.refl H) (by omega)
  | false => exact EvS.ret (EvS.add (EvS.add p1 (fun H' _ => p2 H') (by omega)) (fun H' _ => p4 H') (by omega)) (Ext.refl H) (by omega)
end Mine.L13

/-! P13q -/
namespace Mine.L13
open Mine PySem

theorem eqV_of {a b : V} {H : Hp} {x y : PyData} {r : Bool} (ha : snap 8 H a = some x) (hb : snap 8 H b = some y) (h : PyData.eqv x y = r) : eqV H a b = some r := by
  unfold eqV eqData
  rw [ha, hb]
  show some (PyData.eqv x y) = _
  rw [h]
theorem eqv_int (a : Int) : PyData.eqv (.int a) (.int a) = true := beq_self_eq_true a
theorem eqv_str (a : Str) : PyData.eqv (.str a) (.str a) = true := beq_self_eq_true a
theorem eqvAll_self : ∀ xs : List PyData, (∀ x ∈ xs, PyData.eqv x x = true) → PyData.eqvAll xs xs = true
  | [], _ => rfl
  | x :: xs, h => by
    show (PyData.eqv x x && PyData.eqvAll xs xs) = true
    rw [h x (List.mem_cons_self ..), eqvAll_self xs fun y hy => h y (List.mem_cons_of_mem _ hy)]; rfl
theorem eq_road (w : Str) (l : Int) (H : Hp) : eqV H (.tup [.str w, .int l]) (.tup [.str w, .int l]) = some true :=
  eqV_of (x := .tuple [.str w, .int l]) (y := .tuple [.str w, .int l]) rfl rfl (eqvAll_self [.str w, .int l] fun x hx => by
    simp only [List.mem_cons, List.not_mem_nil, or_false] at hx
    rcases hx with rfl | rfl
    · exact eqv_str w
    · exact eqv_int l)
noncomputable def dQ (q : Q4) : PyData := .tuple [.int q.1, .int q.2.1, .int q.2.2.1, .int q.2.2.2]
theorem eqv_dQ (q : Q4) : PyData.eqv (dQ q) (dQ q) = true := eqvAll_self _ fun x hx => by
  simp only [List.mem_cons, List.not_mem_nil, or_false] at hx
  rcases hx with rfl | rfl | rfl | rfl <;> exact eqv_int _
theorem snap_dQs (H : Hp) : ∀ qs : List Q4, (qs.map tupQ).mapM (snap 7 H) = some (qs.map dQ)
  | [] => rfl
  | q :: qs => by rw [List.map_cons, List.mapM_cons, snap_dQs H qs]; rfl
theorem eq_stops {H : Hp} {qs : List Q4} {i j : Nat} (hi : H[i]? = some (.list (qs.map tupQ))) (hj : H[j]? = some (.list (qs.map tupQ))) : eqV H (.ref i) (.ref j) = some true := by
  have a : ∀ k, H[k]? = some (.list (qs.map tupQ)) → snap 8 H (.ref k) = some (.list (qs.map dQ)) := fun k hk => by
    have q : snap 8 H (.ref k) = (listAt (.ref k) H).bind fun vs => (vs.mapM (snap 7 H)).map .list := rfl
    rw [q, listAt_of hk, Option.bind_some, snap_dQs]; rfl
  exact eqV_of (a i hi) (a j hj) (eqvAll_self _ fun x hx => by obtain ⟨q, _, rfl⟩ := List.mem_map.mp hx; exact eqv_dQ q)
theorem ev_attr {Γ : Fn} {ρ : Rho} {o : E} {a : String} {u v : V} {H : Hp} (h : evE Γ ρ o H = .ok u H) (hv : attrV u a H = .ok v H) : evE Γ ρ (.attr o a) H = .ok v H := by rw [evE_attr, h, R.bind_ok, hv]
theorem DayAt.attr {d : Dy} {i dn k : Nat} {H : Hp} {a : String} {v : V} (x : DayAt d i dn k H) (h : (dayFs d k).lookup a = some v) : attrV (.ref i) a H = .ok v H := by
  have q : attrV (.ref i) a H = (match H[i]? with | some (.inst _ d) => (match H[d]? with | some (.ns fs) => ofO H (fs.lookup a) | _ => .stuck) | _ => .stuck) := rfl
  rw [q, x.inst]
  dsimp only
  rw [x.ns]
  dsimp only
  rw [h]; rfl
noncomputable def getQ (qs : List Q4) (k : Nat) : V := match qs[k]? with
  | some q => tupQ q
  | Option.none => .none
theorem getQ_all (qs : List Q4) : (List.range' 0 qs.length).map (getQ qs) = qs.map tupQ := by
  rw [← List.range_eq_range']
  refine List.ext_getElem? fun i => ?_
  rw [List.getElem?_map, List.getElem?_map]
  by_cases h : i < qs.length
  · rw [List.getElem?_range h, List.getElem?_eq_getElem h]
    show some (getQ qs i) = _
    unfold getQ
    rw [List.getElem?_eq_getElem h]; rfl
  · rw [List.getElem?_eq_none (by rw [List.length_range]; omega), List.getElem?_eq_none (by omega)]; rfl
noncomputable abbrev lawB : List S := [
  .asg "_law_raw_here" (.call "_law_raw" [(.var "_law_text")]),
  .asg "_law_found" (.call "_law_came" [(.var "_law_text")]),
  .iff (.cmp (.call "_law_due" [(.var "_law_raw_here")]) .ne (.str "day")) [
    .ret (.and [(.cmp (.var "_law_found") .eq (.call "_law_due" [(.var "_law_raw_here")])), (.cmp (.call "_law_based" [(.var "_law_text")]) .is (.bool true))])] [],
  .iff (.or [(.not (.isinst (.var "_law_found") "Day")), (.cmp (.attr (.var "_law_found") "road") .ne (.tup [(.idx (.var "_law_raw_here") (.int 0)), (.idx (.var "_law_raw_here") (.int 1))])), (.cmp (.attr (.var "_law_found") "home") .ne (.idx (.var "_law_raw_here") (.int 2))), (.cmp (.attr (.var "_law_found") "start") .ne (.idx (.var "_law_raw_here") (.int 3)))]) [
    .ret (.bool false)] [],
  .ret (.cmp (.attr (.var "_law_found") "stops") .eq (.comp (.tup [(.idx (.var "_law_raw_here") (.var "_law_k")), (.idx (.var "_law_raw_here") (.bin .add (.var "_law_k") (.int 1))), (.idx (.var "_law_raw_here") (.bin .add (.var "_law_k") (.int 2))), (.idx (.var "_law_raw_here") (.bin .add (.var "_law_k") (.int 3)))]) "_law_k" (.call "range" [(.int 4), (.call "len" [(.var "_law_raw_here")]), (.int 4)])))]
noncomputable def True' (r : R V) : Prop := ∃ H', r = .ok (.bool true) H'
theorem word_day {c : String} (h : isC c) : (Str.ofString (wordC c) == Str.ofString "day") = false := by
  rcases h with rfl | rfl | rfl | rfl | rfl <;> decide +kernel
theorem law_no (n : Nat) (t : Str) (c : String) (hc : isC c) (rv : V) (ρ : Rho) (H : Hp) (ha : Asc t) (hl : t.length ≤ 499999) (hE : textE t = some c) (l1 : ρ.lookup "_law_text" = some (.str t)) (l2 : ρ.lookup "_law_raw_here" = some rv) (l3 : ρ.lookup "_law_found" = some (dueW (some c)))
    (hd : (G (n + 7)).call "_law_due" [rv] H = .ok (dueW (some c)) H) (ss : List S) : Fin True' (exSs (G (n + 7)) (.iff (.cmp (.call "_law_due" [(.var "_law_raw_here")]) .ne (.str "day")) [
    .ret (.and [(.cmp (.var "_law_found") .eq (.call "_law_due" [(.var "_law_raw_here")])), (.cmp (.call "_law_based" [(.var "_law_text")]) .is (.bool true))])] [] :: ss) ρ H) := by
  have ed := ev_call (f := "_law_due") (G_hd (n + 7)) (evs_one (ev_var (H := H) l2)) rfl hd
  refine ss_if (c := true) (ev_cmp ed (evE_str _ _ _ _) (by
    show cmp .ne (.str (Str.ofString (wordC c))) (.str (Str.ofString "day")) H = some true
    rw [cmp_ne_str, word_day hc]; rfl)) ?_
  obtain ⟨H', x, eb⟩ := c_based n t H ha hl hE
  refine ss_ret (v := .bool true) (H1 := H') ?_ ⟨H', rfl⟩
  rw [evE_and]
  refine ev_and (c := true) (ev_cmp (ev_var l3) ed (by
    show cmp .eq (.str (Str.ofString (wordC c))) (.str (Str.ofString (wordC c))) H = some true
    rw [cmp_eq_str]; simp)) ?_
  rw [if_pos rfl, evAnd_one]
  exact ev_cmp (ev_call (G_hd _) (evs_one (ev_var l1)) rfl eb) (evE_bool _ _ _ _) rfl
theorem law_end (n : Nat) (t : Str) (ρ : Rho) (H : Hp) (ha : Asc t) (hl : t.length ≤ 499999) (l1 : ρ.lookup "_law_text" = some (.str t)) : Fin True' (exSs (G (n + 7)) lawB ρ H) := by
  obtain ⟨H1, x1, e1⟩ := c_raw (n + 4) t H ha hl
  obtain ⟨H2, x2, e2⟩ := c_came n t H1 ha hl
  cases hP : dayP t with
  | none =>
    have hE : textE t = some "NoDay" := by unfold textE; rw [hP]
    rw [hP] at e1
    rw [hE] at e2
    refine ss_asg (ev_call (G_hd _) (evs_one (ev_var l1)) rfl e1) ?_
    refine ss_asg (ev_call (G_hd _) (evs_one (ev_var (setL_other (by decide) l1))) rfl e2) ?_
    exact law_no n t "NoDay" (.inl rfl) .none _ H2 ha hl hE (setL_other (by decide) (setL_other (by decide) l1)) (setL_other (by decide) (setL_self _ _ _)) (setL_self _ _ _) (c_due_none (n + 6) H2) _
  | some d =>
    rw [hP] at e1
    obtain ⟨i, e1, g1⟩ := e1
    have hE : textE t = dayE d := by unfold textE; rw [hP]
    refine ss_asg (ev_call (G_hd _) (evs_one (ev_var l1)) rfl e1) ?_
    have g2 : H2[i]? = some (.list (rawL d)) := x2.get g1
    have ed := c_due (n := n + 5) g2
    cases hD : dayE d with
    | some c =>
      rw [hD] at hE ed
      rw [hE] at e2
      refine ss_asg (ev_call (G_hd _) (evs_one (ev_var (setL_other (by decide) l1))) rfl e2) ?_
      exact law_no n t c (textE_cls hE) (.ref i) _ H2 ha hl hE (setL_other (by decide) (setL_other (by decide) l1)) (setL_other (by decide) (setL_self _ _ _)) (setL_self _ _ _) ed _
    | none =>
      rw [hD] at hE ed
      rw [hE] at e2
      obtain ⟨d', k, dn, ks, h0, e2, D⟩ := e2
      have : d' = d := by rw [hP] at h0; exact (Option.some.inj h0).symm
      subst this
      refine ss_asg (ev_call (G_hd _) (evs_one (ev_var (setL_other (by decide) l1))) rfl e2) ?_
      have r1 : (setL "_law_found" (.ref k) (setL "_law_raw_here" (.ref i) ρ)).lookup "_law_raw_here" = some (.ref i) := setL_other (by decide) (setL_self _ _ _)
      have r2 : (setL "_law_found" (.ref k) (setL "_law_raw_here" (.ref i) ρ)).lookup "_law_found" = some (.ref k) := setL_self _ _ _
      generalize setL "_law_found" (.ref k) (setL "_law_raw_here" (.ref i) ρ) = ρ2 at r1 r2 ⊢
      refine ss_if (c := false) (ev_cmp (ev_call (G_hd _) (evs_one (ev_var r1)) rfl ed) (evE_str _ _ _ _) (by
        show cmp .ne (.str (Str.ofString "day")) (.str (Str.ofString "day")) H2 = some false
        rw [cmp_ne_str]; simp)) ?_
      have ix : ∀ {m : Nat} {v : V}, (rawL d')[m]? = some v → evE (G (n + 7)) ρ2 (.idx (.var "_law_raw_here") (.int m)) H2 = .ok v H2 := fun h => ev_idx (ev_var r1) (evE_int _ _ _ _) (idx_ref g2 h)
      have at' : ∀ {a : String} {v : V}, (dayFs d' ks).lookup a = some v → evE (G (n + 7)) ρ2 (.attr (.var "_law_found") a) H2 = .ok v H2 := fun h => ev_attr (ev_var r2) (D.attr h)
      refine ss_if (c := false) (H1 := H2) ?_ ?_
      · rw [evE_or]
        refine ev_or (c := false) (ev_not (c := true) (by
          rw [evE_isinst, ev_var r2, R.bind_ok]
          have q : isinst (.ref k) "Day" H2 = (match H2[k]? with | some (.inst c _) => if c = "Day" then some true else Option.none | _ => Option.none) := rfl
          rw [q, D.inst]; rfl)) ?_
        refine ev_or (c := false) (ev_cmp (at' rfl) (ev_tup (evs_cons (ix (m := 0) rfl) (evs_one (ix (m := 1) rfl)))) (by
          show (eqV H2 (.tup [.str d'.w, .int (d'.l : Int)]) (.tup [.str d'.w, .int (d'.l : Int)])).map (!·) = some false
          rw [eq_road]; rfl)) ?_
        refine ev_or (c := false) (ev_cmp (at' rfl) (ix (m := 2) rfl) (by
          show cmp .ne (.int (d'.h : Int)) (.int (d'.h : Int)) H2 = some false
          rw [cmp_ne_int]; simp)) ?_
        exact ev_cmp (at' rfl) (ix (m := 3) rfl) (by
          show cmp .ne (.int (d'.s : Int)) (.int (d'.s : Int)) H2 = some false
          rw [cmp_ne_int]; simp)
      have bl := bi_len_ref g2
      rw [rawL_len] at bl
      have h7 : d'.qs.length ≤ 1000 := by
        unfold dayE at hD
        split at hD
        · cases hD
        · split at hD
          · cases hD
          · split at hD
            · cases hD
            · split at hD
              · cases hD
              · omega
      have ec := ev_comp (Γ := G (n + 7)) (ρ := ρ2) (x := "_law_k") (elt := .tup [(.idx (.var "_law_raw_here") (.var "_law_k")), (.idx (.var "_law_raw_here") (.bin .add (.var "_law_k") (.int 1))), (.idx (.var "_law_raw_here") (.bin .add (.var "_law_k") (.int 2))), (.idx (.var "_law_raw_here") (.bin .add (.var "_law_k") (.int 3)))])
        (G_hd _) (ev_bi (G_hd _) (evs_cons (evE_int _ _ _ _) (evs_cons (ev_bi (G_hd _) (evs_one (ev_var r1)) bl) (evs_one (evE_int _ _ _ _)))) (bi_range3 _ _)) (items_range4 H2 d'.qs.length h7)
        (turns_maps (fun (k : Nat) => V.int ((4 * k + 4 : Nat) : Int)) (getQ d'.qs) _ _ H2 (fun _ => rfl) (List.range' 0 d'.qs.length) [] (fun z hz ys => by
          have hz' : z < d'.qs.length := by have := List.mem_range'_1.mp hz; omega
          have hq : d'.qs[z]? = some d'.qs[z] := List.getElem?_eq_getElem hz'
          obtain ⟨q0, q1, q2, q3⟩ := flat_get hq
          have gy : (H2 ++ [.list ys])[i]? = some (.list (rawL d')) := (ext_app _ _).get g2
          have lr : (("_law_k", V.int ((4 * z + 4 : Nat) : Int)) :: ρ2).lookup "_law_raw_here" = some (.ref i) := by rw [lookup_next (by decide)]; exact r1
          have lk : (("_law_k", V.int ((4 * z + 4 : Nat) : Int)) :: ρ2).lookup "_law_k" = some (.int ((4 * z + 4 : Nat) : Int)) := lookup_here _ _ _
          have pl : ∀ m : Nat, evE (G (n + 7)) (("_law_k", V.int ((4 * z + 4 : Nat) : Int)) :: ρ2) (.bin .add (.var "_law_k") (.int m)) (H2 ++ [.list ys]) = .ok (.int ((4 * z + m + 4 : Nat) : Int)) (H2 ++ [.list ys]) := fun m => (ev_bin (ev_var lk) (evE_int _ _ _ _)).trans ((bin_add _ _ _).trans (congrArg (fun x => R.ok (V.int x) (H2 ++ [.list ys])) (by omega)))
          have rw' : ∀ {m v : Nat} {e : E}, evE (G (n + 7)) (("_law_k", V.int ((4 * z + 4 : Nat) : Int)) :: ρ2) e (H2 ++ [.list ys]) = .ok (.int ((m + 4 : Nat) : Int)) (H2 ++ [.list ys]) → (flat d'.qs)[m]? = some v → evE (G (n + 7)) (("_law_k", V.int ((4 * z + 4 : Nat) : Int)) :: ρ2) (.idx (.var "_law_raw_here") e) (H2 ++ [.list ys]) = .ok (.int (v : Int)) (H2 ++ [.list ys]) :=
            fun h g => ev_idx (ev_var lr) h (idx_ref gy (rawL_get g))
          have gq : getQ d'.qs z = tupQ d'.qs[z] := by unfold getQ; rw [hq]
          rw [gq]
          exact ev_tup (evs_cons (rw' (ev_var lk) q0) (evs_cons (rw' (pl 1) q1) (evs_cons (rw' (pl 2) q2) (evs_one (rw' (pl 3) q3)))))) (by rw [List.length_range']; unfold line; simp; omega))
      rw [getQ_all, List.nil_append] at ec
      exact ss_ret (ev_cmp (at' rfl) ec (eq_stops ((ext_app _ _).get D.list) (len_app1 _ _))) ⟨_, rfl⟩
end Mine.L13

/-! P13z -/
namespace Mine.L13
open Mine PySem

noncomputable abbrev spB : List S := [.asg "_law_text" (.call "_law_spoilt" [(.var "_law_text"), (.call "_law_cell_at" [(.var "_law_script"), (.bin .add (.int 41) (.bin .mul (.int 2) (.var "_law_k")))]), (.call "_law_cell_at" [(.var "_law_script"), (.bin .add (.int 42) (.bin .mul (.int 2) (.var "_law_k")))])])]
structure LawI (ns : List Int) (i : Nat) (ρ : Rho) : Prop where
  s : ρ.lookup "_law_script" = some (.scr ns)
  t : ∃ t, ρ.lookup "_law_text" = some (.str t) ∧ Asc t ∧ t.length ≤ 499990 + i
theorem sp_turn (n : Nat) (ns : List Int) (hl : ns.length ≤ 63) (k i : Nat) (hi : i < 2) (ρ : Rho) (H : Hp) (z : LawI ns i ρ) : ∃ ρ' H', LawI ns (i + 1) ρ' ∧ exSs (G (n + 1)) spB (setL "_law_k" (.int k) ρ) H = .next ρ' H' := by
  obtain ⟨s, t, lt, at', ll⟩ := z
  have r1 : (setL "_law_k" (.int k) ρ).lookup "_law_script" = some (.scr ns) := setL_other (by decide) s
  have r2 : (setL "_law_k" (.int k) ρ).lookup "_law_text" = some (.str t) := setL_other (by decide) lt
  have r3 : (setL "_law_k" (.int k) ρ).lookup "_law_k" = some (.int k) := setL_self _ _ _
  have ec : ∀ a : Int, ∃ c, evE (G (n + 1)) (setL "_law_k" (.int k) ρ) (.call "_law_cell_at" [(.var "_law_script"), (.bin .add (.int a) (.bin .mul (.int 2) (.var "_law_k")))]) H = .ok (.int c) H := fun a => by
    obtain ⟨c, e⟩ := c_cell n ns (a + 2 * k) H hl
    exact ⟨c, ev_call (G_hd _) (evs_cons (ev_var r1) (evs_one ((ev_bin (evE_int _ _ _ _) ((ev_bin (evE_int _ _ _ _) (ev_var r3)).trans (bin_mul_l H (by decide)))).trans (bin_add _ _ _)))) rfl e⟩
  obtain ⟨c1, e1⟩ := ec 41
  obtain ⟨c2, e2⟩ := ec 42
  obtain ⟨x, H', _, e, ax, lx⟩ := c_spoilt n t c1 c2 H at' (by omega)
  refine ss_asg (T := fun r => ∃ ρ' H', LawI ns (i + 1) ρ' ∧ r = .next ρ' H') (ev_call (G_hd _) (evs_cons (ev_var r2) (evs_cons e1 (evs_one e2))) rfl e) ?_
  exact ⟨_, H', ⟨setL_other (by decide) r1, x, setL_self _ _ _, ax, by omega⟩, rfl⟩
theorem law_true (n : Nat) (ns : List Int) (hl : ns.length ≤ 63) : ∃ H', (G (n + 9)).call "law" [.scr ns] [] = .ok (.bool true) H' := by
  rw [lk_call (d := d_law) (by kernel_rfl)]
  refine runDef_P (P := True') (ρ := [("_law_script", .scr ns)]) rfl ?_
  obtain ⟨t, H1, _, e, a1, l1⟩ := c_text (n + 6) ns [] hl
  refine ss_asg (ev_call (G_hd _) (evs_one (ev_var rfl)) rfl e) ?_
  obtain ⟨c, ec⟩ := c_cell (n + 7) ns 40 H1 hl
  have h3 := fmod_lt c (show (0 : Int) < 3 by decide)
  obtain ⟨N, hN⟩ := Int.eq_ofNat_of_zero_le h3.1
  have eN : evE (G (n + 8)) [("_law_script", .scr ns), ("_law_text", .str t)] (.call "range" [(.bin .mod (.call "_law_cell_at" [(.var "_law_script"), (.int 40)]) (.int 3))]) H1 = .ok (.rng 0 N 1) H1 :=
    (ev_bi (G_hd _) (evs_one ((ev_bin (ev_call (G_hd _) (evs_cons (ev_var rfl) (evs_one (evE_int _ _ _ _))) rfl ec) (evE_int _ _ _ _)).trans (bin_mod H1 (by decide)))) (bi_range _ _)).trans (by rw [hN])
  obtain ⟨ρ', H2, I2, eL⟩ := forL_all (fun i ρ _ => LawI ns i ρ) (fun v ρ1 H2 => exSs (G (n + 8)) spB (setL "_law_k" v ρ1) H2) (sameO (.rng 0 N 1) H1) (fun _ => rfl) 2 ((List.range' 0 N).map fun (k : Nat) => .int (k : Int)) 0 (by simp; omega) (fun y hy i ρ H hi z => by
    obtain ⟨k, _, rfl⟩ := List.mem_map.mp hy
    exact sp_turn (n + 7) ns hl k i hi ρ H z) [("_law_script", .scr ns), ("_law_text", .str t)] H1 ⟨rfl, t, rfl, a1, l1⟩
  refine ss_for (G_hd _) eN (items_range _ _ (by omega)) eL ?_
  obtain ⟨_, t2, lt, at2, l2⟩ := I2
  rw [List.length_map, List.length_range'] at l2
  exact law_end (n + 1) t2 ρ' H2 at2 (by omega) lt
end Mine.L13

set_option maxRecDepth 100000
set_option maxHeartbeats 8000000
namespace Mine.L13
open PySem PySem.W PyProof.Rows
noncomputable abbrev r2 : OpenRow := PySem.Challenge.rw_uf040004_13.row
noncomputable abbrev p2 : Program := r2.prog
noncomputable def view : Program := { p2 with main := { p2.main with body := p2.main.body.filter fun s => match s with | .Assign [.Name n _] _ _ => !(n == ("__name__" : Str)) | _ => true } }
noncomputable def U : List String := ["LINE", "RING", "LONGEST", "LATEST", "MOST", "FIGURES", "LONGEST_NUMBER", "is_within", "is_road", "is_place", "Day", "looked_at", "number_of", "numbers_of", "read", "_law_cell_at", "_law_spoilt", "_law_number", "_law_text_by", "_law_read_number", "_law_read_row", "_law_raw", "_law_off", "_law_due", "_law_came", "_law_based", "law",
  "RouteError", "BadRoad", "OffRoad", "BadTime", "TooMany", "NoDay"]
noncomputable def B : List String := ["len", "all", "max", "isinstance", "range", "list", "int", "bool", "str", "zip", "ValueError"]
noncomputable def Xs : List String := ["RouteError", "BadRoad", "OffRoad", "BadTime", "TooMany", "NoDay"]
theorem left : LeftO p2 view ["LONGEST", "LATEST"] (fun s => recOk (RowW.records r2.toRowW) s) (fun s => seenOk U B Xs constL clss (fragOf s.heap)) (fun _ => true) 4000 := fun w => by
  unfold openEnds fencedOpening topFrom
  rw [PySem.W.Fast.te14082659384304107361, PySem.W.Fast.te10274390034422433532, PySem.W.Fast.te14289696077712309145, PySem.W.Fast.te4187177175401517315, PySem.W.Fast.te1435165496053646825, PySem.W.Fast.te14364793385576792824]
  kernel_rfl
theorem isDef : (defOf view r2.name).isSome = true := by kernel_rfl
noncomputable def dk : DefRec × List (Str × Expr) := (defOf view r2.name).get isDef
theorem hd13 (hc : WalkO view ["LONGEST", "LATEST"] (fun _ _ => True) (fun _ h => Says U B Xs constL clss h) r2.toRowW dk.1 dk.2 fun f vs => PySem.call f vs) : PySem.Challenge.rw_uf040004_13.Holds := by
  refine holds_law (by decide +kernel) fun said => ?_
  refine holds_open (q := view) (loose := ["LONGEST", "LATEST"]) (Xt := fun s => recOk (RowW.records r2.toRowW) s) (XP := fun _ _ => True) (Yf := fun s => seenOk U B Xs constL clss (fragOf s.heap)) (Ya := fun _ => true) (YP := fun _ h => Says U B Xs constL clss h) (N := 4000) left
    (fun w s e => ⟨_, fragOf_in _, e⟩) (fun w h h' x k => x.keeps k) (fun s e => trivial) (fun _ _ _ _ _ => trivial) (d := dk.1) (kwd := dk.2) (Option.some_get isDef).symm (by kernel_rfl) (by kernel_rfl) (fun s e => recFacts_of e) (by first | rfl | decide) said (by decide +kernel) ⟨rfl, rfl, rfl, rfl, rfl, by decide +kernel⟩ ?hw hc
  case hw => w_witness2
end Mine.L13
open PySem PySem.W PyProof.Rows Mine in
theorem PySem.Challenge.cw_uf040004_13_holds : PySem.Challenge.rw_uf040004_13.Holds := by
  refine L13.hd13 ?_
  intro w s₀ s₁ mg mb G Y fa o pm cd doc dV kV ho hd hcd hD hmg hg args vals as hpre hlay hrd hwl hlo
  obtain ⟨K, KX, seen⟩ := Y
  have T := G.T
  clear ho hd hcd hD
  wrow_args hpre hlay hrd hwl hlo
  rename_i ns _ _ _ _ _ _ _ l vs _ hL _ _ _ hI _ hlen _
  have hlen' : ns.length ≤ 63 := by omega
  simp only [seenOk, Bool.and_eq_true] at seen
  obtain ⟨⟨⟨⟨hu, hb⟩, hx⟩, hc⟩, hcl⟩ := seen
  have hn : okN L13.U L13.B L13.Xs = true := by kernel_rfl
  let X : Cx := cxOf (U := L13.U) (B := L13.B) (Xs := L13.Xs) Challenge.rw_uf040004_13.row.prog w T KX L13.clss hu hb hx hn hcl
  have S : SoundFn X 9 (lk L13.defs L13.clss L13.consts 9) := lk_sound (X := X) T (okC_at T KX hc X rfl) (by kernel_rfl) (cls_at _ w T KX L13.clss hu hb hx hn hcl) 9
  obtain ⟨H', run⟩ := L13.law_true 0 ns hlen'
  refine law_call (X := X) rfl S (by decide) hmg run hL hI hlen' fun s' ⟨h', tk, e, k⟩ => ?_
  subst e
  exact GoodW.toG ⟨.inl ⟨_, .bool true, [], rfl, fun cls => rfl, .bool true, (by kernel_rfl), fun _ => ⟨List.nodup_nil, fun _ q => nomatch q⟩⟩, k, rfl, hg⟩

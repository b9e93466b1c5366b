import PyProof.Rows.All
import PyProof.P3Statements
import PyProof.TableCode
import PyProof.DictRoadsH
import PyProof.DictKinds
import PyProof.Rows.Top
import PyProof.Rows.TupIn
import PyProof.RangeIter
import PyProof.Cells
import PyProof.CompFree
import OpenK.KWalk
import OpenK.KOwn
import OpenK.KMake
import PyProof.DictStraight
import KE.KIsAll
import PyProof.TupleOps
import PyProof.Rows.TupAdd
import PyProof.StrOps2
import PyProof.DictIter
import PyProof.DictUpdate
import PyProof.DictTruth
import KE.KDictOf
import KE.KEqDict
import PyProof.FactsAll.dict_3
import PyProof.Rows.SortWalk
import PyProof.TupleIter
import PyProof.TupleOfSeq
import PyProof.RangeFor
import PyProof.Rows.Range3
import PyProof.ListCopy
import PyProof.ListRange
import PyProof.SetNew
import PyProof.SetRoads
import PyProof.Rows.SortShell
import PyProof.SliceMore
import PyProof.SliceStr
import PyProof.CallRoads
import PyProof.AutoListH
import PyProof.AutoSeq1
import PyProof.DictRoads
import PyProof.CompMap
import PyProof.WalksMore
import PyProof.Rows.TupAssign
import PyProof.ForAny
import PyProof.WalksPairs
import KE.KUnpack
import PyProof.CompUse
import PyProof.AssignAttr
import OpenK.KLine
import Wide.All
import OpenK.AllK
import Wide.FinOn
import Lean
import PySem.Challenge.RW_uf040004_05
set_option Elab.async false
set_option autoImplicit false
set_option linter.all false
set_option genSizeOf false
namespace Mine
open PySem
noncomputable section
inductive V where
  | none
  | bool (b : Bool)
  | int (i : Int)
  | str (s : Str)
  | tup (vs : List V)
  | ref (n : Nat)
  | rng (a b c : Int)
  | scr (ns : List Int)
  | lst (vs : List V)
noncomputable instance : DecidableEq V := fun a b => Classical.propDecidable (a = b)
noncomputable abbrev Key := List Int × Int
inductive O where
  | list (vs : List V)
  | inst (c : String) (d : Nat)
  | ns (fs : List (String × V))
  | keys (ks : List Int)
  | tab (xs : List ((List Int × Int) × V)) (ep : Nat)
noncomputable abbrev Hp := List O
noncomputable abbrev Rho := List (String × V)
inductive R (α : Type) where
  | ok (a : α) (H : Hp)
  | raise (c : String) (H : Hp)
  | stuck
noncomputable def R.bind {α β : Type} : R α -> (α -> Hp -> R β) -> R β
  | .ok a H, f => f a H
  | .raise c H, _ => .raise c H
  | .stuck, _ => .stuck
@[simp] theorem R.bind_ok {α β : Type} (a : α) (H : Hp) (f : α -> Hp -> R β) : (R.ok a H).bind f = f a H := rfl
@[simp] theorem R.bind_raise {α β : Type} (c : String) (H : Hp) (f : α -> Hp -> R β) : (R.raise c H : R α).bind f = .raise c H := rfl
@[simp] theorem R.bind_stuck {α β : Type} (f : α -> Hp -> R β) : (R.stuck : R α).bind f = .stuck := rfl
inductive RS where
  | next (r : Rho) (H : Hp)
  | cont (r : Rho) (H : Hp)
  | ret (v : V) (H : Hp)
  | raise (c : String) (r : Rho) (H : Hp)
  | stuck
inductive Op | add | sub | mul | fdiv | mod | pow
  deriving DecidableEq
inductive Cm | eq | ne | lt | le | gt | isIn | notIn | is | isNot
  deriving DecidableEq
set_option genInjectivity false in
inductive E where
  | var (x : String)
  | glob (x : String)
  | none
  | bool (b : Bool)
  | int (i : Int)
  | str (s : String)
  | bin (op : Op) (l r : E)
  | neg (e : E)
  | not (e : E)
  | and (es : List E)
  | or (es : List E)
  | cmp (l : E) (op : Cm) (r : E)
  | cmp2 (l : E) (op : Cm) (m : E) (op' : Cm) (r : E)
  | call (f : String) (args : List E)
  | isinst (e : E) (T : String)
  | meth (o : E) (m : String) (args : List E)
  | attr (o : E) (a : String)
  | idx (o i : E)
  | slice (o lo hi : E)
  | list (es : List E)
  | tup (es : List E)
  | menu (es : List E) (i : E)
  | comp (elt : E) (x : String) (it : E) (cond : Option E)
  | dict0
  | tab0
  | sset (e : E)
  | dictOf (e : E)
set_option genInjectivity false in
inductive S where
  | asg (x : String) (e : E)
  | unpack (xs : List String) (e : E)
  | setattr (o : E) (a : String) (e : E)
  | ret (e : E)
  | iff (t : E) (a b : List S)
  | for1 (x : String) (e : E) (b : List S)
  | whil (t : E) (b : List S)
  | setidx (o i e : E)
  | ret0
  | cont
  | expr (e : E)
  | raise (c : String) (msg : String)
  | tryE (b : List S) (hs : List (String × List S))
noncomputable def line : Nat := 4194304
noncomputable def new (o : O) (H : Hp) : R V := .ok (.ref H.length) (H ++ [o])
noncomputable def place (i : Int) (n : Nat) : Option Nat :=
  if 0 <= i then (if i < n then some i.toNat else none) else (if -(n : Int) <= i then some (i + n).toNat else none)
noncomputable def refAt : V -> Option Nat
  | .ref n => some n
  | _ => Option.none
noncomputable def listO : O -> Option (List V)
  | .list xs => some xs
  | _ => Option.none
noncomputable def keysO : O -> Option (List Int)
  | .keys ks => some ks
  | _ => Option.none
noncomputable def tabO : O -> Option (List (Key × V) × Nat)
  | .tab xs ep => some (xs, ep)
  | _ => Option.none
noncomputable def listAt (v : V) (H : Hp) : Option (List V) := (refAt v).bind fun n => (H[n]?).bind listO
noncomputable def flatD : V -> Option PyData
  | .none => some .none
  | .bool b => some (.bool b)
  | .int i => some (.int i)
  | .str s => some (.str s)
  | _ => Option.none
noncomputable def snap : Nat -> Hp -> V -> Option PyData
  | 0, _, v => flatD v
  | n + 1, H, v => match v with
    | .tup vs => (vs.mapM (snap n H)).map .tuple
    | .ref k => (listAt (.ref k) H).bind fun vs => (vs.mapM (snap n H)).map .list
    | v => flatD v
noncomputable def eqData (H : Hp) (a b : V) : Option Bool := do
  let x <- snap 8 H a
  let y <- snap 8 H b
  return PyData.eqv x y
noncomputable def eqV (H : Hp) (a b : V) : Option Bool := eqData H a b
noncomputable def intOp (op : Op) (x y : Int) : Option Int := match op with
  | .add => some (x + y)
  | .sub => some (x - y)
  | .mul => if x.natAbs < 2 ^ 64 \/ y.natAbs < 2 ^ 64 then some (x * y) else Option.none
  | .fdiv => if y ≠ 0 /\ y.natAbs < 1073741824 then some (x.fdiv y) else Option.none
  | .mod => if y ≠ 0 then some (x.fmod y) else Option.none
  | .pow => if 0 <= x /\ x <= 10 /\ 0 <= y /\ y <= 100 then some (x ^ y.toNat) else Option.none
noncomputable def intAt : V -> Option Int
  | .int i => some i
  | _ => Option.none
noncomputable def strAt : V -> Option Str
  | .str s => some s
  | _ => Option.none
noncomputable def addL (a b : V) (H : Hp) : R V := match listAt a H with
  | some x => (match listAt b H with
    | some y => if x.length + y.length <= line then new (.list (x ++ y)) H else .stuck
    | Option.none => .stuck)
  | Option.none => .stuck
noncomputable def tupAt : V -> Option (List V)
  | .tup vs => some vs
  | _ => Option.none
noncomputable def addT (a b : V) (H : Hp) : R V := match tupAt a with
  | some x => (match tupAt b with
    | some y => if x.length + y.length <= line /\ y.length ≠ 0 then .ok (.tup (x ++ y)) H else .stuck
    | Option.none => .stuck)
  | Option.none => addL a b H
noncomputable def bin (op : Op) (a b : V) (H : Hp) : R V := match intAt a with
  | some x => (match intAt b with
    | some y => (match intOp op x y with | some z => .ok (.int z) H | Option.none => .stuck)
    | Option.none => .stuck)
  | Option.none => if op = .add then addT a b H else .stuck
noncomputable def keysAt (v : V) (H : Hp) : Option (List Int) := (refAt v).bind fun n => (H[n]?).bind keysO
noncomputable def tabAt (v : V) (H : Hp) : Option (List (Key × V) × Nat) := (refAt v).bind fun n => (H[n]?).bind tabO
noncomputable def intsV (vs : List V) : Option (List Int) := vs.mapM intAt
noncomputable def keyAt : V -> Option Key
  | .tup [a, b] => (match (tupAt a).bind intsV with
    | some ks => (match intAt b with | some i => some (ks, i) | Option.none => Option.none)
    | Option.none => Option.none)
  | _ => Option.none
noncomputable def keyV (k : Key) : V := .tup [.tup (k.1.map .int), .int k.2]
noncomputable def inKeys (H : Hp) (a b : V) : Option Bool := match keysAt b H with
  | some ks => (intAt a).map fun k => ks.contains k
  | Option.none => (match tabAt b H with
    | some p => (keyAt a).map fun k => (p.1.map (·.1)).contains k
    | Option.none => Option.none)
noncomputable def inTup (H : Hp) (x : V) (vs : List V) : Option Bool := (snap 8 H x).bind fun d => (vs.mapM (snap 8 H)).map fun ys => ys.any fun y => PyData.eqv y d
noncomputable def isIn (H : Hp) (a b : V) : Option Bool :=
  match b with
  | .tup vs => inTup H a vs
  | b => (match listAt b H with
    | some vs => inTup H a vs
    | Option.none => inKeys H a b)
noncomputable def isNoneV : V -> Bool
  | .none => true
  | _ => false
noncomputable def cmpI (op : Cm) (x y : Int) : Option Bool := match op with
  | .lt => some (decide (x < y))
  | .le => some (decide (x <= y))
  | .gt => some (decide (y < x))
  | _ => Option.none
noncomputable def eqT (H : Hp) (a b : V) : Option Bool := match tabAt a H with
  | some p => (match tabAt b H with
    | some q => if p.1 = q.1 /\ (p.1.all fun x => (snap 8 H x.2).isSome) = true then some true else Option.none
    | Option.none => Option.none)
  | Option.none => eqV H a b
noncomputable def cmp (op : Cm) (a b : V) (H : Hp) : Option Bool :=
  match op with
  | .eq => eqT H a b
  | .ne => (eqV H a b).map (!·)
  | .isIn => isIn H a b
  | .notIn => if (keysAt b H).isSome then Option.none else (isIn H a b).map (!·)
  | .is => match b with
    | .none => some (isNoneV a)
    | .bool y => match a with
      | .bool x => some (x == y)
      | _ => Option.none
    | _ => Option.none
  | .isNot => match b with
    | .none => some (!isNoneV a)
    | _ => Option.none
  | op => match intAt a with
    | some x => (match intAt b with | some y => cmpI op x y | Option.none => Option.none)
    | Option.none => Option.none
noncomputable def truth (v : V) : Option Bool :=
  match v with
  | .bool b => some b
  | _ => Option.none
noncomputable def ofO {α : Type} (H : Hp) : Option α -> R α
  | some a => .ok a H
  | Option.none => .stuck
noncomputable def rangeL (a b c : Int) : List Int := (List.range b.toNat).map fun (k : Nat) => a + c * k
noncomputable def rngOk (a b c : Int) : Bool := decide (a = 0) && decide (c = 1) && decide (0 <= b) && decide (b <= 500000)
noncomputable def items (H : Hp) : V -> Option (List V)
  | .tup vs => some vs
  | .rng a b c => if rngOk a b c then some ((rangeL a b c).map .int) else Option.none
  | v => (match listAt v H with
    | some xs => some xs
    | Option.none => (tabAt v H).map fun p => p.1.map fun x => keyV x.1)
noncomputable def biLen (vs : List V) (H : Hp) : R V := match vs with
  | [v] => (match v with
    | .scr xs => .ok (.int xs.length) H
    | .tup xs => .ok (.int xs.length) H
    | v => (match listAt v H with
      | some xs => .ok (.int xs.length) H
      | Option.none => (match tabAt v H with | some p => .ok (.int p.1.length) H | Option.none => .stuck)))
  | _ => .stuck
noncomputable def two' (vs : List V) : Option (Int × Int) := match vs with
  | [a, b] => (match intAt a with | some x => (match intAt b with | some y => some (x, y) | Option.none => Option.none) | Option.none => Option.none)
  | _ => Option.none
noncomputable def biMin (vs : List V) (H : Hp) : R V := match two' vs with
  | some p => .ok (.int (if p.2 < p.1 then p.2 else p.1)) H
  | Option.none => .stuck
noncomputable def biMax (vs : List V) (H : Hp) : R V := match two' vs with
  | some p => .ok (.int (if p.1 < p.2 then p.2 else p.1)) H
  | Option.none => .stuck
noncomputable def biAbs (vs : List V) (H : Hp) : R V := match vs with
  | [v] => (match intAt v with | some i => .ok (.int i.natAbs) H | Option.none => .stuck)
  | _ => .stuck
noncomputable def biRange (vs : List V) (H : Hp) : R V := match vs with
  | [v] => (match intAt v with
    | some a => .ok (.rng 0 a 1) H
    | Option.none => .stuck)
  | _ => .stuck
noncomputable def seqV (v : V) (H : Hp) : Option (List V) := match v with
  | .tup xs => some xs
  | v => listAt v H
noncomputable def rngV (v : V) : Option (Int × Int × Int) := match v with
  | .rng a b c => some (a, b, c)
  | _ => Option.none
noncomputable def biList (vs : List V) (H : Hp) : R V := match vs with
  | [v] => (match seqV v H with
    | some xs => new (.list xs) H
    | Option.none => (match rngV v with
      | some p => if rngOk p.1 p.2.1 p.2.2 = true then new (.list ((rangeL p.1 p.2.1 p.2.2).map .int)) H else .stuck
      | Option.none => .stuck))
  | _ => .stuck
noncomputable def biTuple (vs : List V) (H : Hp) : R V := match vs with
  | [v] => (match listAt v H with | some xs => .ok (.tup xs) H | Option.none => .stuck)
  | _ => .stuck
noncomputable def biSorted (vs : List V) (H : Hp) : R V := match vs with
  | [v] => (match (seqV v H).bind intsV with
    | some ns => if ns.length < 64 then new (.list ((ns.mergeSort fun a b => decide (a <= b)).map .int)) H else .stuck
    | Option.none => .stuck)
  | _ => .stuck
noncomputable def ssetV (v : V) (H : Hp) : R V := match (tupAt v).bind intsV with
  | some ns => if (ns.all fun n => decide (0 <= n)) = true /\ (ns.map Int.toNat).isSublist (List.range 7) = true then new (.list (ns.map .int)) H else .stuck
  | Option.none => .stuck
noncomputable def boolAt : V -> Option Bool
  | .bool b => some b
  | _ => Option.none
noncomputable def builtin (f : String) (vs : List V) (H : Hp) : R V :=
  if f = "len" then biLen vs H else if f = "min" then biMin vs H else if f = "max" then biMax vs H else if f = "abs" then biAbs vs H
  else if f = "range" then biRange vs H else if f = "list" then biList vs H else if f = "tuple" then biTuple vs H else if f = "sorted" then biSorted vs H else .stuck
noncomputable def upto (a : Int) : Nat -> List Int
  | 0 => []
  | n + 1 => a :: upto (a + 1) n
noncomputable def subs : List Int -> List (List Int)
  | [] => [[]]
  | a :: r => subs r ++ (subs r).map (a :: ·)
noncomputable def keys7 : List Key := (subs (upto 0 7)).flatMap fun ds => ds.map fun d => (ds, d)
noncomputable def keysOk (xs : List (Key × V)) : Bool := xs.all fun x => keys7.contains x.1
noncomputable def kindV (v : V) (H : Hp) : Option String := match listAt v H with
  | some _ => some "list"
  | Option.none => (match tabAt v H with | some _ => some "dict" | Option.none => Option.none)
noncomputable def mAppend (o : V) (vs : List V) (H : Hp) : R V := match o with
  | .ref n => (match listAt (.ref n) H with
    | some xs => (match vs with | [v] => if xs.length < line then .ok .none (H.set n (.list (xs ++ [v]))) else .stuck | _ => .stuck)
    | Option.none => .stuck)
  | _ => .stuck
noncomputable def tabGet (xs : List (Key × V)) (k : Key) : Option V := (xs.find? fun x => decide (x.1 = k)).map (·.2)
noncomputable def tabPut (xs : List (Key × V)) (k : Key) (v : V) : List (Key × V) := if (tabGet xs k).isSome then xs.map fun x => if x.1 = k then (x.1, v) else x else xs ++ [(k, v)]
noncomputable def tabEp (xs : List (Key × V)) (k : Key) (ep : Nat) : Nat := if (tabGet xs k).isSome then ep else ep + 1
noncomputable def tabMerge (xs ys : List (Key × V)) : List (Key × V) := ys.foldl (fun acc y => tabPut acc y.1 y.2) xs
noncomputable def tabMEp (xs ys : List (Key × V)) (ep : Nat) : Nat := if xs.isEmpty then (if ys.isEmpty then ep else ep + 1) else ep + ((tabMerge xs ys).length - xs.length)
noncomputable def firstOk (ys : List (Key × V)) : Bool := ys.all fun y => decide (y.1.1 = [y.1.2]) && (decide (0 <= y.1.2) && decide (y.1.2 < 7))
noncomputable def mUpdate (o : V) (vs : List V) (H : Hp) : R V := match o with
  | .ref n => (match tabAt (.ref n) H with
    | some p => (match vs with
      | [v] => (match v with
        | .ref m => (match tabAt (.ref m) H with
          | some q => if n ≠ m /\ (p.1.isEmpty = false \/ firstOk q.1 = true) /\ p.1.length + q.1.length <= 100000 then .ok .none (H.set n (.tab (tabMerge p.1 q.1) (tabMEp p.1 q.1 p.2))) else .stuck
          | Option.none => .stuck)
        | _ => .stuck)
      | _ => .stuck)
    | Option.none => .stuck)
  | _ => .stuck
noncomputable def mClear (o : V) (vs : List V) (H : Hp) : R V := match o with
  | .ref n => (match tabAt (.ref n) H with
    | some p => if vs.isEmpty = true then .ok .none (H.set n (.tab [] (p.2 + 1))) else .stuck
    | Option.none => .stuck)
  | _ => .stuck
noncomputable def biDict (v : V) (H : Hp) : R V := match tabAt v H with
  | some p => if keysOk p.1 = true then new (.tab p.1 (tabMEp [] p.1 0)) H else .stuck
  | Option.none => .stuck
noncomputable def mName (m : String) : Bool := m == "append" || m == "update" || m == "clear"
noncomputable def mType (m : String) : String := if m = "append" then "list" else "dict"
noncomputable def meth (o : V) (m : String) (vs : List V) (H : Hp) : R V :=
  if m = "append" then mAppend o vs H else if m = "update" then mUpdate o vs H else if m = "clear" then mClear o vs H else .stuck
noncomputable def itemAt (xs : List V) (k : Int) (H : Hp) : R V := ofO H ((place k xs.length).bind (xs[·]?))
noncomputable def index (o i : V) (H : Hp) : R V :=
  match intAt i with
  | some k => (match o with
    | .tup xs => itemAt xs k H
    | .scr xs => itemAt (xs.map .int) k H
    | .lst xs => itemAt xs k H
    | o => (match listAt o H with
      | some xs => itemAt xs k H
      | Option.none => .stuck))
  | Option.none => (match tabAt o H with
    | some p => (match keyAt i with | some k => ofO H (tabGet p.1 k) | Option.none => .stuck)
    | Option.none => .stuck)
noncomputable def intO : V -> Option (Option Int)
  | .none => some Option.none
  | .int i => some (some i)
  | _ => Option.none
noncomputable def clipV (n : Nat) (i : Int) : Nat := (max 0 (min (if i < 0 then i + n else i) n)).toNat
noncomputable def cutL (xs : List V) (a b : Option Int) : List V := (xs.drop (a.elim 0 (clipV xs.length))).take (b.elim xs.length (clipV xs.length) - a.elim 0 (clipV xs.length))
noncomputable def sliceV (o l u : V) (H : Hp) : R V := match listAt o H with
  | some xs => (match intO l with
    | some a => (match intO u with
      | some b => new (.list (cutL xs a b)) H
      | Option.none => .stuck)
    | Option.none => .stuck)
  | Option.none => .stuck
noncomputable def attrName (a : String) : Bool := a == "road" || a == "home" || a == "start" || a == "stops"
noncomputable def attrV (o : V) (a : String) (H : Hp) : R V :=
  match o with
  | .ref n => match H[n]? with
    | some (.inst _ d) => match H[d]? with
      | some (.ns fs) => ofO H (fs.lookup a)
      | _ => .stuck
    | _ => .stuck
  | _ => .stuck
noncomputable def setL (x : String) (v : V) : Rho -> Rho
  | [] => [(x, v)]
  | (y, w) :: r => if y = x then (y, v) :: r else (y, w) :: setL x v r
noncomputable def setA (o : V) (a : String) (v : V) (H : Hp) : R Unit :=
  match o with
  | .ref n => match H[n]? with
    | some (.inst _ d) => match H[d]? with
      | some (.ns fs) => if fs.length <= 20 then .ok () (H.set d (.ns (setL a v fs))) else .stuck
      | _ => .stuck
    | _ => .stuck
  | _ => .stuck
noncomputable def setK (o i v : V) (H : Hp) : R Unit := match o with
  | .ref n => (match keysAt (.ref n) H with
    | some ks => (match intAt i with
      | some k => if ks.length < line then .ok () (H.set n (.keys (if ks.contains k then ks else ks ++ [k]))) else .stuck
      | Option.none => .stuck)
    | Option.none => (match tabAt (.ref n) H with
      | some p => (match keyAt i with
        | some k => if p.1.length < 100000 then .ok () (H.set n (.tab (tabPut p.1 k v) (tabEp p.1 k p.2))) else .stuck
        | Option.none => .stuck)
      | Option.none => .stuck))
  | _ => .stuck
noncomputable def excIs (c T : String) : Bool := c == T || T == "RouteError" || T == "ValueError"
noncomputable def exName (T : String) : Bool := T == "RouteError" || T == "BadRoad" || T == "OffRoad" || T == "BadTime" || T == "TooMany" || T == "BadOrder" || T == "Missed" || T == "NoDay" || T == "ValueError"
noncomputable def isinst (v : V) (T : String) (H : Hp) : Option Bool :=
  if T = "int" then (intAt v).map fun _ => true else if T = "bool" then (intAt v).map fun _ => false else if T = "tuple" then (tupAt v).map fun _ => true
  else if T = "list" then (listAt v H).map fun _ => true else if T = "dict" then (tabAt v H).map fun _ => true else Option.none
set_option genInjectivity false in
structure Fn where
  call : String -> List V -> Hp -> R V
  const : String -> Option V
  hd : Bool := false
noncomputable def turns (f : V -> Hp -> R (Option V)) (chk : Hp -> Bool) (k : Nat) : List V -> Hp -> R Unit
  | [], H => if chk H then .ok () H else .stuck
  | v :: vs, H => if chk H then match f v H with
      | .ok (some w) H1 => match H1[k]? with
        | some (.list ys) => if ys.length < line then turns f chk k vs (H1.set k (.list (ys ++ [w]))) else .stuck
        | _ => .stuck
      | .ok Option.none H1 => turns f chk k vs H1
      | _ => .stuck
    else .stuck
noncomputable def eqO (a b : O) : Bool := match a with
  | .list xs => (match b with | .list ys => decide (xs = ys) | _ => false)
  | .tab xs e => (match b with | .tab ys f => decide (xs = ys) && e == f | _ => false)
  | _ => false
noncomputable def sameO (o : V) (H : Hp) (H' : Hp) : Bool := match o with
  | .ref n => (match H[n]? with
    | some a => (match H'[n]? with | some b => eqO a b | Option.none => false)
    | Option.none => false)
  | _ => true
noncomputable def truthR (x : R V) : R Bool := x.bind fun v H => ofO H (truth v)
noncomputable def compV (f : V -> Hp -> R (Option V)) (v : V) (H1 : Hp) : R V := match items H1 v with
  | some xs => (turns f (sameO v H1) H1.length xs (H1 ++ [.list []])).bind fun _ H5 => .ok (.ref H1.length) H5
  | Option.none => .stuck
noncomputable def callF (Γ : Fn) (f : String) (vs : List V) (H : Hp) : R V := if Γ.hd then .stuck else match builtin f vs H with
  | .stuck => Γ.call f vs H
  | r => r
noncomputable def negV (v : V) (H : Hp) : R V := match intAt v with
  | some i => .ok (.int (-i)) H
  | Option.none => .stuck
mutual
noncomputable def evE (Γ : Fn) (ρ : Rho) : E -> Hp -> R V
  | .var x, H => ofO H (ρ.lookup x)
  | .glob x, H => ofO H (Γ.const x)
  | .none, H => .ok .none H
  | .bool b, H => .ok (.bool b) H
  | .int i, H => .ok (.int i) H
  | .str s, H => .ok (.str (Str.ofString s)) H
  | .bin op l r, H => (evE Γ ρ l H).bind fun a H1 => (evE Γ ρ r H1).bind fun b H2 => bin op a b H2
  | .neg e, H => (evE Γ ρ e H).bind fun v H1 => negV v H1
  | .not e, H => (truthR (evE Γ ρ e H)).bind fun b H1 => .ok (.bool (!b)) H1
  | .and es, H => evAnd Γ ρ es H
  | .or es, H => evOr Γ ρ es H
  | .cmp l op r, H => (evE Γ ρ l H).bind fun a H1 => (evE Γ ρ r H1).bind fun b H2 => ofO H2 ((cmp op a b H2).map .bool)
  | .cmp2 l op m op' r, H => (evE Γ ρ l H).bind fun a H1 => (evE Γ ρ m H1).bind fun b H2 => (ofO H2 (cmp op a b H2)).bind fun t H3 =>
      if t then (evE Γ ρ r H3).bind fun c H4 => ofO H4 ((cmp op' b c H4).map .bool) else .ok (.bool false) H3
  | .call f args, H => (evEs Γ ρ args H).bind fun vs H1 => callF Γ f vs H1
  | .isinst e T, H => (evE Γ ρ e H).bind fun v H1 => ofO H1 ((isinst v T H1).map .bool)
  | .meth o m args, H => (evE Γ ρ o H).bind fun v H1 => if kindV v H1 = some (mType m) then (evEs Γ ρ args H1).bind fun vs H2 => meth v m vs H2 else .stuck
  | .attr o a, H => (evE Γ ρ o H).bind fun v H1 => attrV v a H1
  | .idx o i, H => (evE Γ ρ o H).bind fun v H1 => (evE Γ ρ i H1).bind fun k H2 => index v k H2
  | .slice o lo hi, H => (evE Γ ρ o H).bind fun v H1 => (evE Γ ρ lo H1).bind fun l H2 => (evE Γ ρ hi H2).bind fun u H3 => sliceV v l u H3
  | .list es, H => (evEs Γ ρ es H).bind fun vs H1 => new (.list vs) H1
  | .tup es, H => (evEs Γ ρ es H).bind fun vs H1 => .ok (.tup vs) H1
  | .menu es i, H => (evEs Γ ρ es H).bind fun vs H1 => (evE Γ ρ i H1).bind fun k H2 => index (.lst vs) k H2
  | .comp elt x it cond, H => if Γ.hd then .stuck else (evE Γ ρ it H).bind fun v H1 => compV (fun y H2 => (evC Γ ((x, y) :: ρ) cond H2).bind fun t H3 => if t then (evE Γ ((x, y) :: ρ) elt H3).bind fun w H4 => .ok (some w) H4 else .ok Option.none H3) v H1
  | .dict0, H => new (.keys []) H
  | .tab0, H => new (.tab [] 0) H
  | .sset e, H => (evE Γ ρ e H).bind fun v H1 => if Γ.hd then .stuck else ssetV v H1
  | .dictOf e, H => (evE Γ ρ e H).bind fun v H1 => if Γ.hd then .stuck else biDict v H1
noncomputable def evC (Γ : Fn) (ρ : Rho) : Option E -> Hp -> R Bool
  | Option.none, H => .ok true H
  | some c, H => truthR (evE Γ ρ c H)
noncomputable def evAnd (Γ : Fn) (ρ : Rho) : List E -> Hp -> R V
  | [], _ => .stuck
  | [e], H => evE Γ ρ e H
  | e :: es, H => (truthR (evE Γ ρ e H)).bind fun t H2 => if t then evAnd Γ ρ es H2 else .ok (.bool false) H2
noncomputable def evOr (Γ : Fn) (ρ : Rho) : List E -> Hp -> R V
  | [], _ => .stuck
  | [e], H => evE Γ ρ e H
  | e :: es, H => (truthR (evE Γ ρ e H)).bind fun t H2 => if t then .ok (.bool true) H2 else evOr Γ ρ es H2
noncomputable def evEs (Γ : Fn) (ρ : Rho) : List E -> Hp -> R (List V)
  | [], H => .ok [] H
  | e :: es, H => (evE Γ ρ e H).bind fun v H1 => (evEs Γ ρ es H1).bind fun vs H2 => .ok (v :: vs) H2
end
@[simp] theorem evE_var (Γ : Fn) (ρ : Rho) (x : String) (H : Hp) : evE Γ ρ (.var x) H = (ofO H (ρ.lookup x)) := rfl
@[simp] theorem evE_glob (Γ : Fn) (ρ : Rho) (x : String) (H : Hp) : evE Γ ρ (.glob x) H = (ofO H (Γ.const x)) := rfl
@[simp] theorem evE_none (Γ : Fn) (ρ : Rho)  (H : Hp) : evE Γ ρ (.none) H = (.ok .none H) := rfl
@[simp] theorem evE_bool (Γ : Fn) (ρ : Rho) (b : Bool) (H : Hp) : evE Γ ρ (.bool b) H = (.ok (.bool b) H) := rfl
@[simp] theorem evE_int (Γ : Fn) (ρ : Rho) (i : Int) (H : Hp) : evE Γ ρ (.int i) H = (.ok (.int i) H) := rfl
@[simp] theorem evE_str (Γ : Fn) (ρ : Rho) (s : String) (H : Hp) : evE Γ ρ (.str s) H = (.ok (.str (Str.ofString s)) H) := rfl
@[simp] theorem evE_bin (Γ : Fn) (ρ : Rho) (op : Op) (l r : E) (H : Hp) : evE Γ ρ (.bin op l r) H = ((evE Γ ρ l H).bind fun a H1 => (evE Γ ρ r H1).bind fun b H2 => bin op a b H2) := rfl
@[simp] theorem evE_neg (Γ : Fn) (ρ : Rho) (e : E) (H : Hp) : evE Γ ρ (.neg e) H = ((evE Γ ρ e H).bind fun v H1 => negV v H1) := rfl
@[simp] theorem evE_not (Γ : Fn) (ρ : Rho) (e : E) (H : Hp) : evE Γ ρ (.not e) H = ((truthR (evE Γ ρ e H)).bind fun b H1 => .ok (.bool (!b)) H1) := rfl
@[simp] theorem evE_and (Γ : Fn) (ρ : Rho) (es : List E) (H : Hp) : evE Γ ρ (.and es) H = (evAnd Γ ρ es H) := rfl
@[simp] theorem evE_or (Γ : Fn) (ρ : Rho) (es : List E) (H : Hp) : evE Γ ρ (.or es) H = (evOr Γ ρ es H) := rfl
@[simp] theorem evE_cmp (Γ : Fn) (ρ : Rho) (l : E) (op : Cm) (r : E) (H : Hp) : evE Γ ρ (.cmp l op r) H = ((evE Γ ρ l H).bind fun a H1 => (evE Γ ρ r H1).bind fun b H2 => ofO H2 ((cmp op a b H2).map .bool)) := rfl
@[simp] theorem evE_cmp2 (Γ : Fn) (ρ : Rho) (l : E) (op : Cm) (m : E) (op' : Cm) (r : E) (H : Hp) : evE Γ ρ (.cmp2 l op m op' r) H = ((evE Γ ρ l H).bind fun a H1 => (evE Γ ρ m H1).bind fun b H2 => (ofO H2 (cmp op a b H2)).bind fun t H3 =>
      if t then (evE Γ ρ r H3).bind fun c H4 => ofO H4 ((cmp op' b c H4).map .bool) else .ok (.bool false) H3) := rfl
@[simp] theorem evE_call (Γ : Fn) (ρ : Rho) (f : String) (args : List E) (H : Hp) : evE Γ ρ (.call f args) H = ((evEs Γ ρ args H).bind fun vs H1 => callF Γ f vs H1) := rfl
@[simp] theorem evE_isinst (Γ : Fn) (ρ : Rho) (e : E) (T : String) (H : Hp) : evE Γ ρ (.isinst e T) H = ((evE Γ ρ e H).bind fun v H1 => ofO H1 ((isinst v T H1).map .bool)) := rfl
@[simp] theorem evE_meth (Γ : Fn) (ρ : Rho) (o : E) (m : String) (args : List E) (H : Hp) : evE Γ ρ (.meth o m args) H = ((evE Γ ρ o H).bind fun v H1 => if kindV v H1 = some (mType m) then (evEs Γ ρ args H1).bind fun vs H2 => meth v m vs H2 else .stuck) := rfl
@[simp] theorem evE_attr (Γ : Fn) (ρ : Rho) (o : E) (a : String) (H : Hp) : evE Γ ρ (.attr o a) H = ((evE Γ ρ o H).bind fun v H1 => attrV v a H1) := rfl
@[simp] theorem evE_idx (Γ : Fn) (ρ : Rho) (o i : E) (H : Hp) : evE Γ ρ (.idx o i) H = ((evE Γ ρ o H).bind fun v H1 => (evE Γ ρ i H1).bind fun k H2 => index v k H2) := rfl
@[simp] theorem evE_slice (Γ : Fn) (ρ : Rho) (o lo hi : E) (H : Hp) : evE Γ ρ (.slice o lo hi) H = ((evE Γ ρ o H).bind fun v H1 => (evE Γ ρ lo H1).bind fun l H2 => (evE Γ ρ hi H2).bind fun u H3 => sliceV v l u H3) := rfl
@[simp] theorem evE_list (Γ : Fn) (ρ : Rho) (es : List E) (H : Hp) : evE Γ ρ (.list es) H = ((evEs Γ ρ es H).bind fun vs H1 => new (.list vs) H1) := rfl
@[simp] theorem evE_tup (Γ : Fn) (ρ : Rho) (es : List E) (H : Hp) : evE Γ ρ (.tup es) H = ((evEs Γ ρ es H).bind fun vs H1 => .ok (.tup vs) H1) := rfl
@[simp] theorem evE_menu (Γ : Fn) (ρ : Rho) (es : List E) (i : E) (H : Hp) : evE Γ ρ (.menu es i) H = ((evEs Γ ρ es H).bind fun vs H1 => (evE Γ ρ i H1).bind fun k H2 => index (.lst vs) k H2) := rfl
@[simp] theorem evE_comp (Γ : Fn) (ρ : Rho) (elt : E) (x : String) (it : E) (cond : Option E) (H : Hp) : evE Γ ρ (.comp elt x it cond) H = (if Γ.hd then .stuck else (evE Γ ρ it H).bind fun v H1 => compV (fun y H2 => (evC Γ ((x, y) :: ρ) cond H2).bind fun t H3 => if t then (evE Γ ((x, y) :: ρ) elt H3).bind fun w H4 => .ok (some w) H4 else .ok Option.none H3) v H1) := rfl
@[simp] theorem evE_dict0 (Γ : Fn) (ρ : Rho) (H : Hp) : evE Γ ρ .dict0 H = new (.keys []) H := rfl
@[simp] theorem evE_tab0 (Γ : Fn) (ρ : Rho) (H : Hp) : evE Γ ρ .tab0 H = new (.tab [] 0) H := rfl
theorem evE_dictOf (Γ : Fn) (ρ : Rho) (e : E) (H : Hp) : evE Γ ρ (.dictOf e) H = ((evE Γ ρ e H).bind fun v H1 => if Γ.hd then .stuck else biDict v H1) := rfl
@[simp] theorem evE_sset (Γ : Fn) (ρ : Rho) (e : E) (H : Hp) : evE Γ ρ (.sset e) H = ((evE Γ ρ e H).bind fun v H1 => if Γ.hd then .stuck else ssetV v H1) := rfl
@[simp] theorem evC_none (Γ : Fn) (ρ : Rho) (H : Hp) : evC Γ ρ Option.none H = .ok true H := rfl
@[simp] theorem evC_some (Γ : Fn) (ρ : Rho) (c : E) (H : Hp) : evC Γ ρ (some c) H = truthR (evE Γ ρ c H) := rfl
@[simp] theorem evAnd_one (Γ : Fn) (ρ : Rho) (e : E) (H : Hp) : evAnd Γ ρ [e] H = evE Γ ρ e H := rfl
@[simp] theorem evOr_one (Γ : Fn) (ρ : Rho) (e : E) (H : Hp) : evOr Γ ρ [e] H = evE Γ ρ e H := rfl
@[simp] theorem evAnd_cons (Γ : Fn) (ρ : Rho) (e e2 : E) (es : List E) (H : Hp) : evAnd Γ ρ (e :: e2 :: es) H = (truthR (evE Γ ρ e H)).bind fun t H2 => if t then evAnd Γ ρ (e2 :: es) H2 else .ok (.bool false) H2 := rfl
@[simp] theorem evOr_cons (Γ : Fn) (ρ : Rho) (e e2 : E) (es : List E) (H : Hp) : evOr Γ ρ (e :: e2 :: es) H = (truthR (evE Γ ρ e H)).bind fun t H2 => if t then .ok (.bool true) H2 else evOr Γ ρ (e2 :: es) H2 := rfl
@[simp] theorem evEs_nil (Γ : Fn) (ρ : Rho) (H : Hp) : evEs Γ ρ [] H = .ok [] H := rfl
@[simp] theorem evEs_cons (Γ : Fn) (ρ : Rho) (e : E) (es : List E) (H : Hp) : evEs Γ ρ (e :: es) H = (evE Γ ρ e H).bind fun v H1 => (evEs Γ ρ es H1).bind fun vs H2 => .ok (v :: vs) H2 := rfl
noncomputable def evT (Γ : Fn) (ρ : Rho) (e : E) (H : Hp) : R Bool := truthR (evE Γ ρ e H)
noncomputable def setAll : List String -> List V -> Rho -> Option Rho
  | [], [], ρ => some ρ
  | x :: xs, v :: vs, ρ => setAll xs vs (setL x v ρ)
  | _, _, _ => Option.none
noncomputable def RS.bind (r : RS) (k : Rho -> Hp -> RS) : RS := match r with
  | .next ρ H => k ρ H
  | .cont ρ H => .cont ρ H
  | .ret v H => .ret v H
  | .raise c ρ H => .raise c ρ H
  | .stuck => .stuck
noncomputable def RS.loop (r : RS) : RS := match r with
  | .cont ρ H => .next ρ H
  | r => r
noncomputable def forL (body : V -> Rho -> Hp -> RS) (chk : Hp -> Bool) : List V -> Rho -> Hp -> RS
  | [], ρ, H => if chk H then .next ρ H else .stuck
  | v :: vs, ρ, H => if chk H then (body v ρ H).loop.bind fun ρ1 H1 => forL body chk vs ρ1 H1 else .stuck
theorem forL_nil (body : V -> Rho -> Hp -> RS) (chk : Hp -> Bool) (ρ : Rho) (H : Hp) : forL body chk [] ρ H = if chk H then .next ρ H else .stuck := rfl
theorem forL_cons (body : V -> Rho -> Hp -> RS) (chk : Hp -> Bool) (v : V) (vs : List V) (ρ : Rho) (H : Hp) : forL body chk (v :: vs) ρ H = if chk H then (body v ρ H).loop.bind fun ρ1 H1 => forL body chk vs ρ1 H1 else .stuck := rfl
noncomputable def forV (body : V -> Rho -> Hp -> RS) (v : V) (ρ : Rho) (H : Hp) : RS := match items H v with
  | some xs => forL body (sameO v H) xs ρ H
  | Option.none => .stuck
noncomputable def ofR {α : Type} (ρ : Rho) (x : R α) (k : α -> Hp -> RS) : RS :=
  match x with
  | .ok a H => k a H
  | .raise c H => .raise c ρ H
  | .stuck => .stuck
noncomputable def partsV (v : V) (H : Hp) : Option (List V) := match v with
  | .tup vs => some vs
  | v => listAt v H
noncomputable def unpackV (xs : List String) (v : V) (ρ : Rho) (H : Hp) (k : Rho -> RS) : RS := match partsV v H with
  | some vs => (match setAll xs vs ρ with
    | some ρ1 => k ρ1
    | Option.none => .stuck)
  | Option.none => .stuck
noncomputable def tryV (r : RS) (k : String -> Rho -> Hp -> RS) : RS := match r with
  | .raise c ρ H => k c ρ H
  | .cont _ _ => .stuck
  | r => r
noncomputable def noR (r : RS) : RS := match r with
  | .raise _ _ _ => .stuck
  | .cont _ _ => .stuck
  | r => r
noncomputable def whileL (t : Rho -> Hp -> R Bool) (b : Rho -> Hp -> RS) : Nat -> Rho -> Hp -> RS
  | 0, _, _ => .stuck
  | n + 1, ρ, H => match t ρ H with
    | .ok c H1 => if c then (noR (b ρ H1)).bind fun ρ1 H2 => whileL t b n ρ1 H2 else .next ρ H1
    | _ => .stuck
mutual
noncomputable def exS (Γ : Fn) : S -> Rho -> Hp -> RS
  | .asg x e, ρ, H => ofR ρ (evE Γ ρ e H) fun v H1 => .next (setL x v ρ) H1
  | .unpack xs e, ρ, H => if Γ.hd then .stuck else ofR ρ (evE Γ ρ e H) fun v H1 => unpackV xs v ρ H1 fun ρ1 => .next ρ1 H1
  | .setattr o a e, ρ, H => ofR ρ (evE Γ ρ e H) fun v H1 => ofR ρ (evE Γ ρ o H1) fun w H2 => ofR ρ (setA w a v H2) fun _ H3 => .next ρ H3
  | .ret e, ρ, H => ofR ρ (evE Γ ρ e H) fun v H1 => .ret v H1
  | .iff t a b, ρ, H => ofR ρ (evT Γ ρ t H) fun c H1 => if c then exSs Γ a ρ H1 else exSs Γ b ρ H1
  | .for1 x e b, ρ, H => if Γ.hd then .stuck else ofR ρ (evE Γ ρ e H) fun v H1 => forV (fun v ρ1 H2 => exSs Γ b (setL x v ρ1) H2) v ρ H1
  | .whil t b, ρ, H => if Γ.hd then .stuck else whileL (fun ρ H => evT Γ ρ t H) (fun ρ H => exSs Γ b ρ H) 64 ρ H
  | .setidx o i e, ρ, H => ofR ρ (evE Γ ρ e H) fun v H1 => ofR ρ (evE Γ ρ o H1) fun w H2 => ofR ρ (evE Γ ρ i H2) fun k H3 => ofR ρ (setK w k v H3) fun _ H4 => .next ρ H4
  | .ret0, _, H => .ret .none H
  | .cont, ρ, H => .cont ρ H
  | .expr e, ρ, H => ofR ρ (evE Γ ρ e H) fun _ H1 => .next ρ H1
  | .raise c _, ρ, H => if Γ.hd then .stuck else .raise c ρ H
  | .tryE b hs, ρ, H => if Γ.hd then .stuck else tryV (exSs Γ b ρ H) fun c ρ1 H1 => exH { Γ with hd := true } c hs ρ1 H1
noncomputable def exSs (Γ : Fn) : List S -> Rho -> Hp -> RS
  | [], ρ, H => .next ρ H
  | s :: ss, ρ, H => (exS Γ s ρ H).bind fun ρ1 H1 => exSs Γ ss ρ1 H1
noncomputable def exH (Γ : Fn) (c : String) : List (String × List S) -> Rho -> Hp -> RS
  | [], ρ, H => .raise c ρ H
  | (T, b) :: r, ρ, H => if excIs c T then noR (exSs Γ b ρ H) else exH Γ c r ρ H
end
@[simp] theorem exS_asg (Γ : Fn) (x : String) (e : E) (ρ : Rho) (H : Hp) : exS Γ (.asg x e) ρ H = (ofR ρ (evE Γ ρ e H) fun v H1 => .next (setL x v ρ) H1) := rfl
@[simp] theorem exS_unpack (Γ : Fn) (xs : List String) (e : E) (ρ : Rho) (H : Hp) : exS Γ (.unpack xs e) ρ H = (if Γ.hd then .stuck else ofR ρ (evE Γ ρ e H) fun v H1 => unpackV xs v ρ H1 fun ρ1 => .next ρ1 H1) := rfl
@[simp] theorem exS_setattr (Γ : Fn) (o : E) (a : String) (e : E) (ρ : Rho) (H : Hp) : exS Γ (.setattr o a e) ρ H = (ofR ρ (evE Γ ρ e H) fun v H1 => ofR ρ (evE Γ ρ o H1) fun w H2 => ofR ρ (setA w a v H2) fun _ H3 => .next ρ H3) := rfl
@[simp] theorem exS_ret (Γ : Fn) (e : E) (ρ : Rho) (H : Hp) : exS Γ (.ret e) ρ H = (ofR ρ (evE Γ ρ e H) fun v H1 => .ret v H1) := rfl
@[simp] theorem exS_iff (Γ : Fn) (t : E) (a b : List S) (ρ : Rho) (H : Hp) : exS Γ (.iff t a b) ρ H = (ofR ρ (evT Γ ρ t H) fun c H1 => if c then exSs Γ a ρ H1 else exSs Γ b ρ H1) := rfl
@[simp] theorem exS_for1 (Γ : Fn) (x : String) (e : E) (b : List S) (ρ : Rho) (H : Hp) : exS Γ (.for1 x e b) ρ H = (if Γ.hd then .stuck else ofR ρ (evE Γ ρ e H) fun v H1 => forV (fun v ρ1 H2 => exSs Γ b (setL x v ρ1) H2) v ρ H1) := rfl
@[simp] theorem exS_whil (Γ : Fn) (t : E) (b : List S) (ρ : Rho) (H : Hp) : exS Γ (.whil t b) ρ H = (if Γ.hd then .stuck else whileL (fun ρ H => evT Γ ρ t H) (fun ρ H => exSs Γ b ρ H) 64 ρ H) := rfl
@[simp] theorem exS_setidx (Γ : Fn) (o i e : E) (ρ : Rho) (H : Hp) : exS Γ (.setidx o i e) ρ H = (ofR ρ (evE Γ ρ e H) fun v H1 => ofR ρ (evE Γ ρ o H1) fun w H2 => ofR ρ (evE Γ ρ i H2) fun k H3 => ofR ρ (setK w k v H3) fun _ H4 => .next ρ H4) := rfl
@[simp] theorem exS_ret0 (Γ : Fn) (ρ : Rho) (H : Hp) : exS Γ .ret0 ρ H = .ret .none H := rfl
@[simp] theorem exS_cont (Γ : Fn) (ρ : Rho) (H : Hp) : exS Γ .cont ρ H = .cont ρ H := rfl
@[simp] theorem exS_expr (Γ : Fn) (e : E) (ρ : Rho) (H : Hp) : exS Γ (.expr e) ρ H = (ofR ρ (evE Γ ρ e H) fun _ H1 => .next ρ H1) := rfl
@[simp] theorem exS_raise (Γ : Fn) (c m : String) (ρ : Rho) (H : Hp) : exS Γ (.raise c m) ρ H = (if Γ.hd then .stuck else .raise c ρ H) := rfl
@[simp] theorem exS_tryE (Γ : Fn) (b : List S) (hs : List (String × List S)) (ρ : Rho) (H : Hp) : exS Γ (.tryE b hs) ρ H = (if Γ.hd then .stuck else tryV (exSs Γ b ρ H) fun c ρ1 H1 => exH { Γ with hd := true } c hs ρ1 H1) := rfl
@[simp] theorem exSs_nil (Γ : Fn) (ρ : Rho) (H : Hp) : exSs Γ [] ρ H = .next ρ H := rfl
@[simp] theorem exSs_cons (Γ : Fn) (s : S) (ss : List S) (ρ : Rho) (H : Hp) : exSs Γ (s :: ss) ρ H = (exS Γ s ρ H).bind fun ρ1 H1 => exSs Γ ss ρ1 H1 := rfl
@[simp] theorem exH_nil (Γ : Fn) (c : String) (ρ : Rho) (H : Hp) : exH Γ c [] ρ H = .raise c ρ H := rfl
@[simp] theorem exH_cons (Γ : Fn) (c T : String) (b : List S) (r : List (String × List S)) (ρ : Rho) (H : Hp) : exH Γ c ((T, b) :: r) ρ H = if excIs c T then noR (exSs Γ b ρ H) else exH Γ c r ρ H := rfl
set_option genInjectivity false in
structure Def where
  name : String
  params : List String
  body : List S
noncomputable def runDef (Γ : Fn) (d : Def) (vs : List V) (H : Hp) : R V :=
  match setAll d.params vs [] with
  | some ρ => match exSs Γ d.body ρ H with
    | .next _ H1 => .ok .none H1
    | .ret v H1 => .ok v H1
    | .raise c _ H1 => .raise c H1
    | _ => .stuck
  | Option.none => .stuck
noncomputable def runClass (Γ : Fn) (c : String) (d : Def) (vs : List V) (H : Hp) : R V :=
  (runDef Γ d (.ref (H.length + 1) :: vs) (H ++ [.ns [], .inst c H.length])).bind fun v H1 => match v with | .none => .ok (.ref (H.length + 1)) H1 | _ => .stuck
noncomputable def lk (defs : List Def) (cls : List (String × Def)) (const : String -> Option V) : Nat -> Fn
  | 0 => { call := fun _ _ _ => .stuck, const }
  | n + 1 => { const, call := fun f vs H => match defs.find? (fun d => d.name == f) with
      | some d => runDef (lk defs cls const n) d vs H
      | Option.none => match cls.lookup f with
        | some d => runClass (lk defs cls const n) f d vs H
        | Option.none => .stuck }
end
theorem at_of {α : Type} {f : O -> Option α} {H : Hp} {k : Nat} {o : O} (h : H[k]? = some o) : (H[k]?).bind f = f o := congrArg (·.bind f) h
theorem sort_tr (a b c : Int) (h1 : decide (a <= b) = true) (h2 : decide (b <= c) = true) : decide (a <= c) = true := decide_eq_true (Int.le_trans (of_decide_eq_true h1) (of_decide_eq_true h2))
theorem sort_tot (a b : Int) : (decide (a <= b) || decide (b <= a)) = true := (Int.le_total a b).elim (fun h => by rw [decide_eq_true h]; rfl) fun h => by rw [decide_eq_true h, Bool.or_true]
noncomputable abbrev PK := List Int × Int
section
variable (prog : Program) (w : World)
noncomputable def IsPairKey (h : Heap) (k : PK) (a : Addr) : Prop := ∃ o items n b t, h.get? a = some o /\ o.cls = .type "tuple" /\ o.data = .seq items n /\ items.toList = [.ref b, .int k.2 t] /\ IsTupleKey (intKind prog w) h k.1 b
variable {prog w}
theorem IsPairKey.typeIs {s : Shared} {k : PK} {a : Addr} (x : IsPairKey prog w s.heap k a) : s.TypeIs (.ref a) "tuple" := let ⟨o, _, _, _, _, ho, hc, _⟩ := x; ⟨o, ho, hc⟩
theorem IsPairKey.inj {h : Heap} {a : Addr} {x y : PK} (hx : IsPairKey prog w h x a) (hy : IsPairKey prog w h y a) : x = y := by
  obtain ⟨o, items, n, b, t, ho, _, hd, hi, hb⟩ := hx
  obtain ⟨o', items', n', b', t', ho', _, hd', hi', hb'⟩ := hy
  rw [ho] at ho'; cases ho'
  rw [hd] at hd'; cases hd'
  rw [hi] at hi'
  simp only [List.cons.injEq, Value.ref.injEq, Value.int.injEq, and_true] at hi'
  obtain ⟨rfl, h2, _⟩ := hi'
  exact Prod.ext (hb.inj hb') h2
theorem IsPairKey.keeps {h h' : Heap} {k : PK} {a d : Addr} {o : Obj} {es ep} (x : IsPairKey prog w h k a) (ho : h.get? d = some o) (hd : o.data = .dict es ep) (hs : Heap.SameBut d h h') : IsPairKey prog w h' k a := by
  obtain ⟨o', items, n, b, t, ho', hc, hd', hi, hb⟩ := x
  have hne : a ≠ d := by
    rintro rfl
    rw [ho'] at ho; cases ho
    rw [hd] at hd'; cases hd'
  exact ⟨o', items, n, b, t, (hs.2 a hne).trans ho', hc, hd', hi, hb.keeps ho hd hs⟩
noncomputable def pairHash (k : PK) : Int := reduceHash (Builtin.Tuple.tupleHashOf [tupleKeyHash (intKind prog w) k.1, hashInt k.2])
variable {A : Around} {E : Value -> Shared -> Prop} {s : Shared}
theorem pyHash_pair {k : PK} {a : Addr} {Q : Int -> Shared -> Prop} (hu : A.units + 2 < cLine) (hk : IsPairKey prog w s.heap k a) (h : Q (pairHash (prog := prog) (w := w) k) { s with toks := s.toks + (k.1.length + 3) }) :
    wpAny (model prog w) A (pyHash (.ref a)) Q E s := by
  have hT := hk.typeIs
  obtain ⟨o, items, n, b, t, ho, _, hd, hi, hb⟩ := hk
  unfold pyHash
  first | unfold pyHashByItsType | skip
  first | refine wpAny_bind (wpAny_cRoomFor_or (.inr (by omega)) ?_) | skip
  refine wpAny_bind (wpAny_specialOf hT F.slot_tuple_hash.lookup ?_)
  show wpAny _ _ (if (some (Value.builtin "tuple.__hash__") == some Value.none) = true then _ else _) Q E s
  rw [if_neg (by rw [beq_builtin_none]; exact Bool.false_ne_true)]
  refine wpAny_bind (wpAny_specialOf hT F.slot_tuple_hash.lookup ?_)
  show wpAny _ _ (callSpecialIfBoundUnlessNone? (.ref a) "__hash__" _ >>= _) Q E s
  refine wpAny_bind (wpAny_callSpecialIfBoundUnlessNone?_slot hT F.slot_tuple_hash (wpAny_call_entry F.slot_tuple_hash hT F.entry_tuple_hash ?_ (F.args_tuple_hash_1 _)))
  show wpAny _ _ (Builtin.Tuple.tupleItemsOf (.ref a) >>= _) _ _ s
  refine wpAny_bind (wpAny_tupleItemsOf ho hd ?_)
  refine wpAny_bind ?_
  rw [<- Array.forIn_toList, hi]
  refine wpAny_forIn_list _
    (fun rest (c : Array Int) s' => (rest = [.ref b, .int k.2 t] /\ c.toList = [] /\ s' = s) \/ (rest = [.int k.2 t] /\ c.toList = [tupleKeyHash (intKind prog w) k.1] /\ s' = { s with toks := s.toks + (k.1.length + 1) }) \/ (rest = [] /\ c.toList = [tupleKeyHash (intKind prog w) k.1, hashInt k.2] /\ s' = { s with toks := s.toks + (k.1.length + 2) }))
    _ ?_ ?_ _ _ (.inl ⟨rfl, rfl, rfl⟩)
  · rintro x rest c s' (⟨hr, hc, rfl⟩ | ⟨hr, hc, rfl⟩ | ⟨hr, _⟩)
    · cases hr
      refine wpAny_bind (wpAny_pyHash_tuple (knd := intKind prog w) (by show A.units + 1 < cLine; omega) hb ?_)
      first
        | exact wpAny_pure (.inr (.inl ⟨rfl, by simp [hc], rfl⟩))
        | exact wpAny_bind (wpAny_pure (wpAny_pure (.inr (.inl ⟨rfl, by simp [hc], rfl⟩))))
    · cases hr
      refine wpAny_bind (wpAny_pyHash_int ?_)
      first
        | exact wpAny_pure (.inr (.inr ⟨rfl, by simp [hc], rfl⟩))
        | exact wpAny_bind (wpAny_pure (wpAny_pure (.inr (.inr ⟨rfl, by simp [hc], rfl⟩))))
    · cases hr
  · rintro c s' (⟨hr, _⟩ | ⟨hr, _⟩ | ⟨_, hc, rfl⟩)
    · cases hr
    · cases hr
    show wpAny _ _ (retInt (Builtin.Tuple.tupleHashOf c.toList)) _ _ _
    rw [hc]
    refine wpAny_ret_mkInt ?_
    unfold pairHash reduceHash at h
    generalize Builtin.Tuple.tupleHashOf [tupleKeyHash (intKind prog w) k.1, hashInt k.2] = z at h ⊢
    show wpAny _ _ (if (decide (-(2 : Int) ^ 63 <= z) && decide (z < 2 ^ 63)) = true then _ else _) Q E _
    by_cases hr : (decide (-(2 : Int) ^ 63 <= z) && decide (z < 2 ^ 63)) = true
    · rw [if_pos hr]
      rw [if_pos hr] at h
      exact wpAny_pure (by simpa [Nat.add_assoc] using h)
    · rw [if_neg hr]
      rw [if_neg hr] at h
      exact wpAny_bind (wpAny_rule (wpAny_pure (by simpa [Nat.add_assoc] using h)))
theorem pair_eq_tree {x y : PK} {a b : Addr} {P : Fin -> Shared -> Prop} (hu : A.units + 1 < cLine) (hx : IsPairKey prog w s.heap x a) (hy : IsPairKey prog w s.heap y b) (h : P (.done (.ret (.bool (decide (x = y))))) s) :
    wpAny (model prog w) A (Builtin.«tuple.__eq__» ⟨[.ref a, .ref b], []⟩) P E s := by
  have hTb := hy.typeIs
  obtain ⟨oa, xs, na, ba, ta, hoa, _, hda, hia, hka⟩ := hx
  obtain ⟨ob, ys, nb, bb, tb, hob, _, hdb, hib, hkb⟩ := hy
  show wpAny _ _ (isInstance (.ref b) (.type "tuple") >>= _) _ _ s
  refine wpAny_bind (wpAny_isInstance hTb isSubtype_tuple_tuple ?_)
  rw [if_neg (show ¬((!true) = true) from Bool.false_ne_true)]
  refine wpAny_bind (wpAny_tupleItemsOf hoa hda ?_)
  refine wpAny_bind (wpAny_tupleItemsOf hob hdb ?_)
  have sx : xs.size = 2 := by rw [<- Array.length_toList, hia]; rfl
  have sy : ys.size = 2 := by rw [<- Array.length_toList, hib]; rfl
  refine wpAny_bind ?_
  rw [hia, hib]
  refine wpAny_forIn_list _
    (fun rest r s' => r.1 = none /\ s' = s /\ ((rest = [(.ref ba, .ref bb), (.int x.2 ta, .int y.2 tb)]) \/ (rest = [(.int x.2 ta, .int y.2 tb)] /\ x.1 = y.1) \/ (rest = [] /\ x = y)))
    _ ?_ ?_ _ _ ⟨rfl, rfl, .inl rfl⟩
  · rintro ⟨u, v⟩ rest r s' ⟨hr, rfl, (hz | ⟨hz, e1⟩ | ⟨hz, _⟩)⟩
    · cases hz
      refine wpAny_bind (wpAny_eqBool_tuple (knd := intKind prog w) (by omega) hka hkb ?_)
      by_cases hk : x.1 = y.1
      · rw [decide_eq_true hk]
        rw [if_neg (show ¬((!true) = true) from Bool.false_ne_true)]
        exact wpAny_pure ⟨rfl, rfl, .inr (.inl ⟨by trivial, hk⟩)⟩
      · rw [decide_eq_false hk]
        rw [if_pos (show (!false) = true from rfl)]
        rw [decide_eq_false (fun e => hk (by rw [e]))] at h
        exact wpAny_bind (wpAny_pure (wpAny_pure (wpAny_pure h)))
    · cases hz
      refine wpAny_bind (wpAny_eqBool_int ?_)
      by_cases hk : x.2 = y.2
      · rw [show (x.2 == y.2) = true by simpa using hk]
        rw [if_neg (show ¬((!true) = true) from Bool.false_ne_true)]
        exact wpAny_pure ⟨rfl, rfl, .inr (.inr ⟨by trivial, Prod.ext e1 hk⟩)⟩
      · rw [show (x.2 == y.2) = false by simpa using hk]
        rw [if_pos (show (!false) = true from rfl)]
        rw [decide_eq_false (fun e => hk (by rw [e]))] at h
        exact wpAny_bind (wpAny_pure (wpAny_pure (wpAny_pure h)))
    · cases hz
  · rintro ⟨r1, r2⟩ s' ⟨hr, rfl, (hz | ⟨hz, e1⟩ | ⟨_, e1⟩)⟩
    · cases hz
    · cases hz
    simp only at hr
    subst hr
    refine wpAny_pure ?_
    show P (.done (.ret (.bool (xs.size == ys.size)))) s'
    rw [sx, sy]
    rw [decide_eq_true e1] at h
    exact h
theorem eqBool_pair {x y : PK} {a b : Addr} {Q : Bool -> Shared -> Prop} (hu : A.units + 2 < cLine) (hx : IsPairKey prog w s.heap x a) (hy : IsPairKey prog w s.heap y b) (h : Q (decide (x = y)) s) :
    wpAny (model prog w) A (eqBool (.ref a) (.ref b)) Q E s := by
  unfold eqBool
  try with_reducible refine wpAny_holding ?_
  show wpAny _ _ (if (Value.ref a == Value.ref b) = true then _ else _) Q E s
  by_cases hab : (Value.ref a == Value.ref b) = true
  · rw [if_pos hab]
    have e : a = b := by have := eq_of_beq hab; injection this
    subst e
    obtain rfl := hx.inj hy
    exact wpAny_bind (wpAny_rule (wpAny_pure (by simpa using h)))
  · rw [if_neg hab]
    exact wpAny_bind (wpAny_richCompare_same_room (op := .Eq) hx.typeIs hy.typeIs F.slot_tuple_eq
      (wpAny_call_entry F.slot_tuple_eq hx.typeIs F.entry_tuple_eq (pair_eq_tree (by first | (show A.units + 1 + 1 < cLine; omega) | (show A.units + 1 + 1 + 1 < cLine; omega)) hx hy ⟨_, rfl, (fun e => nomatch e), wpAny_truthy_bool h⟩) (F.args_tuple_eq_2 _ _)) (by omega))
theorem quiet_tuple (m : Nat) {ks : List Int} {a : Addr} {Q : Bool -> Shared -> Prop} (hk : IsTupleKey (intKind prog w) s.heap ks a) (h : Q true s) : wpAny (model prog w) A (eqIsQuiet (m + 1) (.ref a)) Q E s := by
  have hT := hk.typeIs
  obtain ⟨o, items, n, ho, _, hd, hi⟩ := hk
  unfold eqIsQuiet
  refine wpAny_bind (wpAny_specialOf hT F.slot_tuple_eq.lookup ?_)
  show wpAny _ _ (isInstance (.ref a) (.type "tuple") >>= _) _ _ s
  refine wpAny_bind (wpAny_isInstance hT isSubtype_tuple_tuple ?_)
  rw [if_neg (show ¬((!true) = true) from Bool.false_ne_true)]
  refine wpAny_bind (wpAny_seqItems ho hd ?_)
  refine wpAny_bind ?_
  show wpAny _ _ (forIn items _ _) _ _ s
  rw [<- Array.forIn_toList]
  refine wpAny_forIn_list _ (fun rest r s' => r.1 = none /\ s' = s /\ ∀ v ∈ rest, carriedByValue v = true) _ ?_ ?_ _ _ ⟨rfl, rfl, hi.byValue⟩
  · rintro v rest r s' ⟨hr, rfl, hall⟩
    rw [eqIsQuiet_byValue _ (hall v List.mem_cons_self)]
    refine wpAny_bind (wpAny_pure ?_)
    rw [if_neg (show ¬((!true) = true) from Bool.false_ne_true)]
    exact wpAny_pure ⟨rfl, rfl, fun u hu' => hall u (List.mem_cons_of_mem _ hu')⟩
  · rintro ⟨r1, r2⟩ s' ⟨hr, rfl, _⟩
    simp only at hr
    subst hr
    exact wpAny_pure h
theorem quiet_pair {k : PK} {a : Addr} {Q : Bool -> Shared -> Prop} (hk : IsPairKey prog w s.heap k a) (h : Q true s) : wpAny (model prog w) A (eqIsQuiet 8 (.ref a)) Q E s := by
  have hT := hk.typeIs
  obtain ⟨o, items, n, b, t, ho, _, hd, hi, hb⟩ := hk
  unfold eqIsQuiet
  refine wpAny_bind (wpAny_specialOf hT F.slot_tuple_eq.lookup ?_)
  show wpAny _ _ (isInstance (.ref a) (.type "tuple") >>= _) _ _ s
  refine wpAny_bind (wpAny_isInstance hT isSubtype_tuple_tuple ?_)
  rw [if_neg (show ¬((!true) = true) from Bool.false_ne_true)]
  refine wpAny_bind (wpAny_seqItems ho hd ?_)
  refine wpAny_bind ?_
  show wpAny _ _ (forIn items _ _) _ _ s
  rw [<- Array.forIn_toList, hi]
  refine wpAny_forIn_list _ (fun rest r s' => r.1 = none /\ s' = s /\ (rest = [.ref b, .int k.2 t] \/ rest = [.int k.2 t] \/ rest = [])) _ ?_ ?_ _ _ ⟨rfl, rfl, .inl rfl⟩
  · rintro v rest r s' ⟨hr, rfl, (hz | hz | hz)⟩
    · cases hz
      refine wpAny_bind (quiet_tuple 6 hb ?_)
      rw [if_neg (show ¬((!true) = true) from Bool.false_ne_true)]
      exact wpAny_pure ⟨rfl, rfl, .inr (.inl (by trivial))⟩
    · cases hz
      rw [eqIsQuiet_byValue _ rfl]
      refine wpAny_bind (wpAny_pure ?_)
      rw [if_neg (show ¬((!true) = true) from Bool.false_ne_true)]
      exact wpAny_pure ⟨rfl, rfl, .inr (.inr (by trivial))⟩
    · cases hz
  · rintro ⟨r1, r2⟩ s' ⟨hr, rfl, _⟩
    simp only at hr
    subst hr
    exact wpAny_pure h
noncomputable def pairKind (prog : Program) (w : World) : HeapKind prog w PK where
  is := IsPairKey prog w
  hash := pairHash (prog := prog) (w := w)
  draws := fun k => k.1.length + 3
  room := fun A => A.units + 3 < cLine
  inj := fun hx hy => hx.inj hy
  keeps := fun x ho hd hs => x.keeps ho hd hs
  pyHash := fun hu hk h => pyHash_pair (by omega) hk h
  eqBool := fun hu hx hy h => eqBool_pair (by omega) hx hy h
  quiet := fun hk h => quiet_pair hk h
end
end Mine
namespace Mine
open PySem PyProof.Rows
theorem ofString_inj {a b : String} (h : Str.ofString a = Str.ofString b) : a = b := by
  rw [Str.ofString_eq_toList, Str.ofString_eq_toList] at h
  have h1 := congrArg (fun s : Str => s.cps.toList) h
  simp only at h1
  have inj : ∀ l l' : List Char, l.map Char.toNat = l'.map Char.toNat -> l = l' := by
    intro l
    induction l with
    | nil => intro l' h; cases l' with | nil => rfl | cons => cases h
    | cons c l ih =>
      intro l' h
      cases l' with
      | nil => cases h
      | cons d l' =>
        simp only [List.map_cons, List.cons.injEq] at h
        rw [ih l' h.2]
        have : c = d := by
          have h3 : c.val.toNat = d.val.toNat := h.1
          exact Char.ext (UInt32.toNat_inj.mp h3)
        rw [this]
  exact String.toList_inj.mp (inj _ _ h1)
noncomputable def biTable : List (String × Value) := [("len", .builtin "len"), ("min", .builtin "min"), ("max", .builtin "max"), ("abs", .builtin "abs"), ("sorted", .builtin "sorted"), ("isinstance", .builtin "isinstance"), ("range", .type "range"), ("list", .type "list"), ("tuple", .type "tuple"), ("set", .type "set"), ("dict", .type "dict"), ("int", .type "int"), ("bool", .type "bool"), ("str", .type "str")]
noncomputable def biVal (f : String) : Option Value := biTable.lookup f
theorem biVal_noRef {f : String} {v : Value} (h : biVal f = some v) (a : Addr) : v ≠ .ref a := by
  have key : ∀ (l : List (String × Value)), (l.all fun p => match p.2 with | .ref _ => false | _ => true) = true -> l.lookup f = some v -> v ≠ .ref a := by
    intro l
    induction l with
    | nil => intro _ e; cases e
    | cons p l ih =>
      intro ha e
      rw [List.all_cons, Bool.and_eq_true] at ha
      rw [List.lookup_cons] at e
      cases hb : f == p.1 with
      | true => rw [hb] at e; cases e; intro q; rw [q] at ha; exact nomatch ha.1
      | false => rw [hb] at e; exact ih ha.2 e
  exact key biTable (by decide) h
noncomputable def Loads (mg mb : Str -> Option Value) (f : String) (v : Value) : Prop := mg (Str.ofString f) = some v \/ (mg (Str.ofString f) = Option.none /\ mb (Str.ofString f) = some v)
noncomputable abbrev bmVE : List Value := [.type "ValueError", .type "Exception", .type "BaseException", .type "object"]
inductive OwnExc (mg : Str -> Option Value) (h : Heap) (ex : String -> Bool) (c : String) : Prop
  | mk (C : Addr) (own : OwnCls (Str.ofString c) C bmVE "ValueError.__new__" mg h)
    (hs : ∀ T D o cd, ex T = true -> mg (Str.ofString T) = some (.ref D) -> h.get? C = some o -> o.data = .cls cd -> cd.mro.contains (.ref D) = excIs c T) : OwnExc mg h ex c
structure ClsOk (K : PySem.W.Frag) (C fI : Addr) : Prop where
  makes : PySem.W.makesIn K C = true
  init : PySem.W.findIn K (.ref C) "__init__" = some (some (.ref fI))
  fn : PySem.W.typeIn K (.ref fI) = some (.type "function")
  get : PySem.W.findIn K (.ref C) "__getattribute__" = some (some (.builtin "object.__getattribute__"))
  set : PySem.W.findIn K (.ref C) "__setattr__" = some (some (.builtin "object.__setattr__"))
  over : PySem.W.plainOver K C = true
  dict : (PySem.W.clsIn K C).any (·.hasDict) = true
  names : ∀ a, attrName a = true -> PySem.W.findIn K (.ref C) (Str.ofString a) = some Option.none
set_option genInjectivity false in
structure Cx where
  prog : Program
  w : World
  base : Heap
  mg : Str -> Option Value
  mb : Str -> Option Value
  g : base.Ns mainGlobals mg
  b : base.Ns builtinsNs mb
  nolimit : base.NoLimit
  kn : String -> Bool
  known : ∀ f, kn f = true -> ∃ v, Loads mg mb f v
  bi : ∀ f v, biVal f = some v -> kn f = true -> mg (Str.ofString f) = Option.none /\ mb (Str.ofString f) = some v
  ex : String -> Bool
  own : ∀ c, ex c = true -> OwnExc mg base ex c
  K : PySem.W.Frag
  kin : K.In base
  sysm : (K.lookup sysModules).isSome = true
  cl : String -> Bool
  cls : ∀ c, cl c = true -> ∃ C fI, mg (Str.ofString c) = some (.ref C) /\ ClsOk K C fI
  kp : ∀ f v, kn f = true -> Loads mg mb f v -> ∀ h : Heap, (∀ b o, base.get? b = some o -> h.get? b = some o) ->
    ∃ k, (k = Keeper.frame \/ k = Keeper.machine \/ k = Keeper.boundFrame) /\ PySem.W.Looks (model prog w) h (keeperOf v) k
noncomputable abbrev Cx.M (X : Cx) : Model := model X.prog X.w
noncomputable def ExCls (X : Cx) (c : String) (C : Addr) : Prop := X.mg (Str.ofString c) = some (.ref C) /\ X.ex c = true
noncomputable def ObjCls (o : Obj) (C : Addr) : Prop := o.cls = .ref C /\ o.dict = Option.none
mutual
inductive VR (X : Cx) (η : List Addr) (h : Heap) : V -> Value -> Prop
  | none : VR X η h .none .none
  | bool (b : Bool) : VR X η h (.bool b) (.bool b)
  | int (i : Int) (t : Tok) : VR X η h (.int i) (.int i t)
  | str (s : Str) (t : Tok) : PyData.strOk s = true -> VR X η h (.str s) (.str s t)
  | tup {a : Addr} {items : Array Value} {n : Nat} {vs : List V} : h.get? a = some { cls := .type "tuple", data := .seq items n } -> a ∉ η -> VRs X η h vs items.toList -> vs.length <= line -> VR X η h (.tup vs) (.ref a)
  | ref {n : Nat} {a : Addr} : η[n]? = some a -> VR X η h (.ref n) (.ref a)
  | rng {a b c : Int} {t u v : Tok} {r : Addr} : IsRange h r a b c t u v -> r ∉ η -> VR X η h (.rng a b c) (.ref r)
  | lst {a : Addr} {items : Array Value} {n : Nat} {vs : List V} : h.get? a = some { cls := .type "list", data := .seq items n } -> a ∉ η -> VRs X η h vs items.toList -> vs.length <= line -> VR X η h (.lst vs) (.ref a)
  | scr {a : Addr} {items : Array Value} {ns : List Int} : X.base.IsList a items -> IntsAre items.toList ns -> ns.length <= line -> VR X η h (.scr ns) (.ref a)
inductive VRs (X : Cx) (η : List Addr) (h : Heap) : List V -> List Value -> Prop
  | nil : VRs X η h [] []
  | cons {v : V} {vs : List V} {m : Value} {ms : List Value} : VR X η h v m -> VRs X η h vs ms -> VRs X η h (v :: vs) (m :: ms)
end
structure Step (fr own η : List Addr) (h : Heap) (η' : List Addr) (h' : Heap) : Prop where
  pre : ∃ l, η' = η ++ l /\ ∀ a ∈ l, h.get? a = Option.none
  alive : ∀ b o, h.get? b = some o -> ∃ o', h'.get? b = some o'
  data : ∀ b o, h.get? b = some o -> b ∉ η -> b ∉ own -> ∃ sl, h'.get? b = some { o with slots := sl } /\ (b ∉ fr -> sl = o.slots)
  dicts : ∀ b o, h.get? b = some o -> b ∉ η -> ∀ es n, o.data = .dict es n -> ∃ o' es' n', h'.get? b = some o' /\ o'.data = .dict es' n'
  cells : ∀ b o, h.get? b = some o -> b ∉ η -> ∀ v, o.data = .cell v -> ∃ o' v', h'.get? b = some o' /\ o'.data = .cell v'
section
variable {fr own η η' : List Addr} {h h' : Heap}
theorem Step.same (x : Step fr own η h η' h') (b : Addr) (o : Obj) (e : h.get? b = some o) (hb : b ∉ η) (ho : b ∉ own) (hf : b ∉ fr) : h'.get? b = some o := by
  obtain ⟨sl, e', q⟩ := x.data b o e hb ho
  rw [q hf] at e'; exact e'
theorem Step.mem (x : Step fr own η h η' h') {b : Addr} {o : Obj} (e : h.get? b = some o) (hb : b ∉ η) : b ∉ η' := by
  obtain ⟨l, rfl, hl⟩ := x.pre
  intro hm
  rcases List.mem_append.mp hm with hm | hm
  · exact hb hm
  · rw [hl b hm] at e; cases e
theorem Step.old (x : Step fr own η h η' h') {b : Addr} (e : h'.get? b = Option.none) : h.get? b = Option.none := by
  cases q : h.get? b with
  | none => rfl
  | some o => obtain ⟨o', e'⟩ := x.alive b o q; rw [e] at e'; cases e'
theorem Step.trans {η1 η2 : List Addr} {h1 h2 : Heap} (x : Step fr own η h η1 h1) (y : Step fr own η1 h1 η2 h2) : Step fr own η h η2 h2 := by
  refine ⟨?_, fun b o e => let ⟨o1, e1⟩ := x.alive b o e; y.alive b o1 e1, fun b o e hb ho => let ⟨sl, e1, q1⟩ := x.data b o e hb ho; let ⟨sl2, e2, q2⟩ := y.data b _ e1 (x.mem e hb) ho; ⟨sl2, e2, fun hf => (q2 hf).trans (q1 hf)⟩,
    fun b o e hb es k d => let ⟨o1, es1, n1, e1, d1⟩ := x.dicts b o e hb es k d; y.dicts b o1 e1 (x.mem e hb) es1 n1 d1, fun b o e hb v d => let ⟨o1, v1, e1, d1⟩ := x.cells b o e hb v d; y.cells b o1 e1 (x.mem e hb) v1 d1⟩
  obtain ⟨l1, rfl, h1'⟩ := x.pre
  obtain ⟨l2, rfl, h2'⟩ := y.pre
  refine ⟨l1 ++ l2, List.append_assoc .., fun a ha => ?_⟩
  rcases List.mem_append.mp ha with ha | ha
  · exact h1' a ha
  · exact x.old (h2' a ha)
theorem Step.weak {own' : List Addr} (x : Step fr own η h η' h') (ho : ∀ a ∈ own, a ∈ own') : Step fr own' η h η' h' :=
  ⟨x.pre, x.alive, fun b o e hb hb' => x.data b o e hb (fun q => hb' (ho b q)), x.dicts, x.cells⟩
end
theorem Step.grow (fr own η : List Addr) {l : List Addr} {h h' : Heap} (hl : ∀ a ∈ l, h.get? a = Option.none) (k : ∀ b o, h.get? b = some o -> h'.get? b = some o) : Step fr own η h (η ++ l) h' :=
  ⟨⟨l, rfl, hl⟩, fun b o e => ⟨o, k b o e⟩, fun b o e _ _ => ⟨o.slots, k b o e, fun _ => rfl⟩, fun b o e _ es n d => ⟨o, es, n, k b o e, d⟩, fun b o e _ v d => ⟨o, v, k b o e, d⟩⟩
theorem Step.ext (fr own η : List Addr) {h h' : Heap} (k : ∀ b o, h.get? b = some o -> h'.get? b = some o) : Step fr own η h η h' := by
  have := Step.grow fr own η (l := []) (fun _ q => nomatch q) k
  rwa [List.append_nil] at this
theorem Step.refl (fr own η : List Addr) (h : Heap) : Step fr own η h η h := Step.ext fr own η fun _ _ e => e
theorem Step.make (fr own η : List Addr) {h h' : Heap} {a : Addr} (k : ∀ b o, h.get? b = some o -> h'.get? b = some o) (ha : h.get? a = Option.none) : Step fr own η h (η ++ [a]) h' :=
  Step.grow fr own η (fun _ hb => List.mem_singleton.mp hb ▸ ha) k
noncomputable def Frm (h : Heap) (l : List Addr) : Prop := ∀ b ∈ l, ∃ o, h.get? b = some o /\ ((∃ es n, o.data = .dict es n) \/ ∃ v, o.data = .cell v)
theorem Frm.not {h : Heap} {l : List Addr} (x : Frm h l) {b : Addr} {o : Obj} (e : h.get? b = some o) (hd : (∀ es n, o.data ≠ .dict es n) /\ ∀ v, o.data ≠ .cell v) : b ∉ l := by
  intro hm
  obtain ⟨o', e', hq⟩ := x b hm
  rw [e] at e'; cases e'
  rcases hq with ⟨es, n, q⟩ | ⟨v, q⟩
  · exact hd.1 es n q
  · exact hd.2 v q
theorem getElem?_pre {η l : List Addr} {n : Nat} {a : Addr} (e : η[n]? = some a) : (η ++ l)[n]? = some a := by
  rw [List.getElem?_append_left (List.getElem?_eq_some_iff.mp e).1]; exact e
structure Holds (η : List Addr) (h : Heap) (η' : List Addr) (h' : Heap) : Prop where
  seq : ∀ a o, h.get? a = some o -> a ∉ η -> ((∃ xs n, o.data = .seq xs n) \/ o.cls = .type "range" /\ ∃ fs, o.data = .fields fs) -> h'.get? a = some o /\ a ∉ η'
section
variable {X : Cx} {fr own η η' : List Addr} {h h' : Heap}
theorem VR.map (hp : ∃ l, η' = η ++ l) (x : Holds η h η' h') {v : V} {m : Value} (r : VR X η h v m) : VR X η' h' v m := by
  refine VR.rec (motive_1 := fun v m _ => VR X η' h' v m) (motive_2 := fun v m _ => VRs X η' h' v m) .none .bool .int .str (fun e hn _ l ih => ?_) (fun e => ?_) (fun e hn => ?_) (fun e hn _ l ih => ?_) (fun e i l => .scr e i l) .nil (fun _ _ a b => .cons a b) r
  · exact .tup (x.seq _ _ e hn (.inl ⟨_, _, rfl⟩)).1 (x.seq _ _ e hn (.inl ⟨_, _, rfl⟩)).2 ih l
  · obtain ⟨l, rfl⟩ := hp
    exact .ref (getElem?_pre e)
  · exact .rng (x.seq _ _ e hn (.inr ⟨rfl, _, rfl⟩)).1 (x.seq _ _ e hn (.inr ⟨rfl, _, rfl⟩)).2
  · exact .lst (x.seq _ _ e hn (.inl ⟨_, _, rfl⟩)).1 (x.seq _ _ e hn (.inl ⟨_, _, rfl⟩)).2 ih l
theorem VRs.ind {P : List V -> List Value -> Prop} (h0 : P [] []) (h1 : ∀ {v m vs ms}, VR X η h v m -> VRs X η h vs ms -> P vs ms -> P (v :: vs) (m :: ms)) : ∀ {vs : List V} {ms : List Value}, VRs X η h vs ms -> P vs ms
  | _, _, .nil => h0
  | _, _, .cons a r => h1 a r (VRs.ind h0 h1 r)
theorem VRs.map (hp : ∃ l, η' = η ++ l) (x : Holds η h η' h') {v : List V} {m : List Value} (r : VRs X η h v m) : VRs X η' h' v m := VRs.ind (P := VRs X η' h') .nil (fun a _ ih => .cons (a.map hp x) ih) r
theorem Frm.of {l l' : List Addr} (x : Frm h l) (y : Frm h l') : Frm h (l ++ l') := fun b hb => (List.mem_append.mp hb).elim (x b) (y b)
theorem Step.holds (x : Step fr own η h η' h') (f : Frm h (own ++ fr)) : Holds η h η' h' := by
  have go : ∀ a o, h.get? a = some o -> a ∉ η -> ((∀ es n, o.data ≠ .dict es n) /\ ∀ v, o.data ≠ .cell v) -> h'.get? a = some o /\ a ∉ η' := fun a o e hn hd =>
    have q := f.not e hd
    ⟨x.same a o e hn (fun z => q (List.mem_append.mpr (.inl z))) (fun z => q (List.mem_append.mpr (.inr z))), x.mem e hn⟩
  exact ⟨fun a o e hn hs => go a o e hn (by rcases hs with ⟨xs, n, d⟩ | ⟨_, fs, d⟩ <;> rw [d] <;> exact ⟨fun _ _ q => (nomatch q), fun _ q => (nomatch q)⟩)⟩
theorem Step.pre' (x : Step fr own η h η' h') : ∃ l, η' = η ++ l := let ⟨l, e, _⟩ := x.pre; ⟨l, e⟩
theorem Frm.nil (h : Heap) : Frm h [] := fun _ q => nomatch q
theorem VR.step (x : Step fr own η h η' h') (f : Frm h (own ++ fr)) {v : V} {m : Value} (r : VR X η h v m) : VR X η' h' v m := r.map x.pre' (x.holds f)
theorem VRs.step (x : Step fr own η h η' h') (f : Frm h (own ++ fr)) {v : List V} {m : List Value} (r : VRs X η h v m) : VRs X η' h' v m := r.map x.pre' (x.holds f)
theorem VR.up (x : Step fr [] η h η' h') (f : Frm h fr) {v : V} {m : Value} (r : VR X η h v m) : VR X η' h' v m := r.step x f
theorem VR.grow (x : Step [] [] η h η' h') {v : V} {m : Value} (r : VR X η h v m) : VR X η' h' v m := r.step x (Frm.nil h)
theorem VRs.grow (x : Step [] [] η h η' h') {v : List V} {m : List Value} (r : VRs X η h v m) : VRs X η' h' v m := r.step x (Frm.nil h)
end
inductive NRs (X : Cx) (η : List Addr) (h : Heap) : List (String × V) -> List DictEntry -> Prop
  | nil : NRs X η h [] []
  | cons {k : String} {v : V} {t : Tok} {es : List (String × V)} {e : DictEntry} {ds : List DictEntry} : e.key = .str (Str.ofString k) t -> VR X η h v e.val -> NRs X η h es ds -> NRs X η h ((k, v) :: es) (e :: ds)
inductive TRs (X : Cx) (η : List Addr) (h : Heap) : List (Key × V) -> List DictEntry -> Prop
  | nil : TRs X η h [] []
  | cons {k : Key} {v : V} {xs : List (Key × V)} {e : DictEntry} {ds : List DictEntry} : e.hash = pairHash (prog := X.prog) (w := X.w) k -> VR X η h (keyV k) e.key -> VR X η h v e.val -> TRs X η h xs ds -> TRs X η h ((k, v) :: xs) (e :: ds)
inductive OR (X : Cx) (η : List Addr) (h : Heap) : O -> Obj -> Prop
  | list {vs : List V} {items : Array Value} {n : Nat} : VRs X η h vs items.toList -> vs.length <= line -> OR X η h (.list vs) { cls := .type "list", data := .seq items n }
  | inst {c : String} {d : Nat} {C dx : Addr} : X.cl c = true -> X.mg (Str.ofString c) = some (.ref C) -> η[d]? = some dx -> OR X η h (.inst c d) { cls := .ref C, dict := some dx, data := .plain }
  | ns {fs : List (String × V)} {ds : Array DictEntry} {n : Nat} : NRs X η h fs ds.toList -> fs.length <= 21 -> OR X η h (.ns fs) { cls := .type "dict", data := .dict ds n }
  | keys {ks : List Int} {kvs : List (Int × Value)} {ob : Obj} : ob.IsDictOf (intKind X.prog X.w) kvs -> kvs.map (·.1) = ks -> ks.length <= line -> OR X η h (.keys ks) ob
  | tab {xs : List (Key × V)} {ds : Array DictEntry} {ep : Nat} : TRs X η h xs ds.toList -> (xs.map (·.1)).Nodup -> xs.length <= 100000 -> OR X η h (.tab xs ep) { cls := .type "dict", data := .dict ds ep }
structure Inv (X : Cx) (η : List Addr) (H : Hp) (h : Heap) : Prop where
  keep : ∀ b o, X.base.get? b = some o -> h.get? b = some o
  len : η.length = H.length
  fresh : ∀ a ∈ η, X.base.get? a = Option.none
  nodup : η.Nodup
  objs : ∀ (n : Nat) (a : Addr) (o : O), η[n]? = some a -> H[n]? = some o -> ∃ ob, h.get? a = some ob /\ OR X η h o ob
section
variable {X : Cx} {fr own η η' : List Addr} {h h' : Heap} {H : Hp}
theorem NRs.map (hp : ∃ l, η' = η ++ l) (x : Holds η h η' h') {es : List (String × V)} {ds : List DictEntry} (r : NRs X η h es ds) : NRs X η' h' es ds := by
  induction r with
  | nil => exact .nil
  | cons a c _ ih => exact .cons a (c.map hp x) ih
theorem TRs.map (hp : ∃ l, η' = η ++ l) (x : Holds η h η' h') {xs : List (Key × V)} {ds : List DictEntry} (r : TRs X η h xs ds) : TRs X η' h' xs ds := by
  induction r with
  | nil => exact .nil
  | cons a b c _ ih => exact .cons a (b.map hp x) (c.map hp x) ih
theorem OR.map (hp : ∃ l, η' = η ++ l) (x : Holds η h η' h') {o : O} {ob : Obj} (r : OR X η h o ob) : OR X η' h' o ob := by
  cases r with
  | list d e => exact .list (d.map hp x) e
  | inst a a' b =>
    obtain ⟨l, rfl⟩ := hp
    exact .inst a a' (getElem?_pre b)
  | ns d e => exact .ns (d.map hp x) e
  | keys d e l => exact .keys d e l
  | tab a b c => exact .tab (a.map hp x) b c
theorem Inv.still (i : Inv X η H h) (x : Step fr own η h η h') (f : Frm h (own ++ fr)) (hm : ∀ a ∈ η, ∀ o, h.get? a = some o -> h'.get? a = some o) (hf : ∀ b ∈ own ++ fr, X.base.get? b = Option.none) : Inv X η H h' := by
  refine ⟨fun b o e => ?_, i.len, i.fresh, i.nodup, fun n a o ha ho => ?_⟩
  · have no : b ∉ own ++ fr := fun q => by rw [hf b q] at e; cases e
    exact x.same b o (i.keep b o e) (fun q => by rw [i.fresh b q] at e; cases e) (fun q => no (List.mem_append.mpr (.inl q))) fun q => no (List.mem_append.mpr (.inr q))
  · obtain ⟨ob, e, r⟩ := i.objs n a o ha ho
    exact ⟨ob, hm a (List.mem_of_getElem? ha) ob e, r.map x.pre' (x.holds f)⟩
theorem Inv.ext (i : Inv X η H h) (k : ∀ b o, h.get? b = some o -> h'.get? b = some o) : Inv X η H h' :=
  i.still (fr := []) (own := []) (Step.ext _ _ _ k) (Frm.nil h) (fun _ _ o e => k _ o e) fun _ q => nomatch q
end
theorem Inv.alive {X : Cx} {η : List Addr} {H : Hp} {h : Heap} (i : Inv X η H h) {a : Addr} (ha : a ∈ η) : ∃ ob, h.get? a = some ob := by
  obtain ⟨n, hn, e⟩ := List.getElem_of_mem ha
  have hH : n < H.length := i.len ▸ hn
  obtain ⟨ob, e', _⟩ := i.objs n a H[n] (by rw [List.getElem?_eq_getElem hn, e]) (List.getElem?_eq_getElem hH)
  exact ⟨ob, e'⟩
theorem push_keeps (h : Heap) (ob : Obj) : ∀ b o, h.get? b = some o -> (h.push ob).get? b = some o := fun _ _ e => Heap.get?_push_of_some ob e
theorem size_none (h : Heap) : h.get? h.objs.size = Option.none := by
  cases e : h.get? h.objs.size with
  | none => rfl
  | some o => exact absurd (Heap.lt_size e) (Nat.lt_irrefl _)
theorem Inv.size_off {X : Cx} {η : List Addr} {H : Hp} {h : Heap} (i : Inv X η H h) : h.objs.size ∉ η := fun q => by
  obtain ⟨ob, e⟩ := i.alive q
  rw [size_none] at e; cases e
theorem Inv.make {X : Cx} {η : List Addr} {h h' : Heap} {H : Hp} {a : Addr} {o : O} {ob : Obj} (i : Inv X η H h) (k : ∀ b o, h.get? b = some o -> h'.get? b = some o) (ha : h.get? a = Option.none) (e : h'.get? a = some ob) (r : OR X (η ++ [a]) h' o ob) : Inv X (η ++ [a]) (H ++ [o]) h' := by
  have an : a ∉ η := fun q => by obtain ⟨ob', z⟩ := i.alive q; rw [ha] at z; cases z
  refine ⟨fun b o e => k b o (i.keep b o e), by simp [i.len], fun b hb => ?_, ?_, fun n b o' hb ho => ?_⟩
  · rcases List.mem_append.mp hb with hb | hb
    · exact i.fresh b hb
    · rw [List.mem_singleton] at hb; subst hb
      cases g : X.base.get? b with
      | none => rfl
      | some o => have := i.keep _ _ g; rw [ha] at this; cases this
  · rw [List.nodup_append]
    refine ⟨i.nodup, List.nodup_cons.mpr ⟨(fun q => nomatch q), List.nodup_nil⟩, fun b hb c hc => ?_⟩
    rw [List.mem_singleton] at hc; subst hc
    rintro rfl
    exact an hb
  · by_cases hn : n < η.length
    · rw [List.getElem?_append_left hn] at hb
      rw [List.getElem?_append_left (i.len ▸ hn)] at ho
      obtain ⟨ob', e', r'⟩ := i.objs n b o' hb ho
      exact ⟨ob', k _ _ e', r'.map ⟨_, rfl⟩ ((Step.make [] [] η k ha).holds (Frm.nil h))⟩
    · have hn' := Nat.le_of_not_lt hn
      rw [List.getElem?_append_right hn'] at hb
      rw [List.getElem?_append_right (i.len ▸ hn')] at ho
      have e0 : n - η.length = 0 := by
        cases q : n - η.length with
        | zero => rfl
        | succ j => rw [q] at hb; cases hb
      rw [e0] at hb
      rw [<- i.len, e0] at ho
      cases hb; cases ho
      exact ⟨ob, e, r⟩
theorem Step.push (fr own η : List Addr) (h : Heap) (ob : Obj) : Step fr own η h (η ++ [h.objs.size]) (h.push ob) := Step.make fr own η (push_keeps h ob) (size_none h)
theorem Inv.alloc {X : Cx} {η : List Addr} {h : Heap} {H : Hp} (i : Inv X η H h) {o : O} {ob : Obj} (r : OR X (η ++ [h.objs.size]) (h.push ob) o ob) (hfree : ob.isFreed = false) : Inv X (η ++ [h.objs.size]) (H ++ [o]) (h.push ob) :=
  i.make (push_keeps h ob) (size_none h) (Heap.get?_push_size _ hfree) r
theorem Frm.step {fr own η η' : List Addr} {h h' : Heap} {l : List Addr} (x : Step fr own η h η' h') (f : Frm h l) (hl : ∀ b ∈ l, b ∉ η) : Frm h' l := by
  intro b hb
  obtain ⟨o, e, q⟩ := f b hb
  rcases q with ⟨es, n, d⟩ | ⟨v, d⟩
  · obtain ⟨o', es', n', e', d'⟩ := x.dicts b o e (hl b hb) es n d
    exact ⟨o', e', .inl ⟨es', n', d'⟩⟩
  · obtain ⟨o', v', e', d'⟩ := x.cells b o e (hl b hb) v d
    exact ⟨o', e', .inr ⟨v', d'⟩⟩
theorem Step.data' {fr η η' : List Addr} {h h' : Heap} (x : Step fr [] η h η' h') {b : Addr} {o : Obj} (e : h.get? b = some o) (hb : b ∉ η) : ∃ sl, h'.get? b = some { o with slots := sl } := let ⟨sl, e, _⟩ := x.data b o e hb (fun q => nomatch q); ⟨sl, e⟩
noncomputable def frs (st : List Env) : List Addr := st.filterMap (·.frame)
structure Stk (X : Cx) (η : List Addr) (A : Around) (st : List Env) (h : Heap) : Prop where
  frames : A.frames = some st
  ok : h.FunFrames X.base st
  off : ∀ a ∈ frs st, a ∉ η
  frm : Frm h (frs st)
noncomputable def ownOf (env : Env) : List Addr := env.locals :: env.cells.map (·.2)
noncomputable def isVar (sc : Scope) (x : Str) : Bool := !(x == (".0" : Str)) && match sc.names.lookup x with
  | some .local | some .cell | some .free => true
  | _ => false
noncomputable def Held (h : Heap) (env : Env) (x : Str) (mv : Value) : Prop :=
  (env.kindOf x = some .local /\ ∃ m, h.Ns env.locals m /\ m x = some mv) \/
  ((env.kindOf x = some .cell \/ env.kindOf x = some .free) /\ ∃ c o, env.cells.lookup x = some c /\ h.get? c = some o /\ o.data = .cell (some mv))
structure FrameOK (X : Cx) (η : List Addr) (h : Heap) (env : Env) : Prop where
  kind : env.scope.kind = .function
  glob : env.globals = mainGlobals
  blt : env.builtins = builtinsNs
  ns : ∃ m, h.Ns env.locals m
  cell : ∀ p ∈ env.cells, ∃ o v, h.get? p.2 = some o /\ o.data = .cell v
  cells : ∀ x, env.kindOf x = some .cell -> ∃ c, env.cells.lookup x = some c
  inj : ∀ x y c, env.cells.lookup x = some c -> env.cells.lookup y = some c -> x = y
  off : ∀ a ∈ ownOf env, a ∉ η /\ X.base.get? a = Option.none
structure Room (n : Nat) (A : Around) : Prop where
  depth : A.depth + 2 * n < recursionLimit
  units : A.units + 8 * n + 300 < cLine
noncomputable def RhoR (X : Cx) (η : List Addr) (h : Heap) (env : Env) (ρ : Rho) : Prop := ∀ x v, ρ.lookup x = some v -> isVar env.scope (Str.ofString x) = true -> ∃ mv, Held h env (Str.ofString x) mv /\ VR X η h v mv
set_option genInjectivity false in
structure Ct where
  X : Cx
  n : Nat
  A : Around
  env : Env
  st : List Env
  Γ : Fn
noncomputable abbrev Ct.inn (κ : Ct) (e : Env) : Ct := { κ with env := e }
noncomputable abbrev Ct.mark (κ : Ct) (e : Addr) : Ct := { κ with A := κ.A.mark (some (.ref e)), Γ := { κ.Γ with hd := true } }
structure At (κ : Ct) (η : List Addr) (ρ : Rho) (H : Hp) (s : Shared) : Prop where
  inv : Inv κ.X η H s.heap
  fok : FrameOK κ.X η s.heap κ.env
  rho : RhoR κ.X η s.heap κ.env ρ
  stk : Stk κ.X η κ.A κ.st s.heap
  room : Room κ.n κ.A
  hand : κ.Γ.hd = false -> κ.A.handled = Option.none
theorem lookup_mem {α β : Type} [BEq α] [LawfulBEq α] {l : List (α × β)} {a : α} {b : β} (e : l.lookup a = some b) : (a, b) ∈ l := by
  induction l with
  | nil => cases e
  | cons p l ih =>
    obtain ⟨x, y⟩ := p
    rw [List.lookup_cons] at e
    by_cases h : (a == x) = true
    · simp only [h] at e
      cases e
      rw [eq_of_beq h]; exact List.Mem.head _
    · simp only [h] at e
      exact List.Mem.tail _ (ih e)
section
variable {X : Cx} {A : Around} {env : Env} {st : List Env} {κ : Ct} {η η' : List Addr} {ρ : Rho} {H H' : Hp} {s : Shared} {h' : Heap} {fr : List Addr}
theorem FrameOK.frm (x : FrameOK X η s.heap env) : Frm s.heap (ownOf env) := by
  intro b hb
  rcases List.mem_cons.mp hb with rfl | hb
  · obtain ⟨m, o, es, ep, e, d, _⟩ := x.ns
    exact ⟨o, e, .inl ⟨es, ep, d⟩⟩
  · obtain ⟨p, hp, rfl⟩ := List.mem_map.mp hb
    obtain ⟨o, v, e, d⟩ := x.cell p hp
    exact ⟨o, e, .inr ⟨v, d⟩⟩
theorem Ns.step {a : Addr} {m : Str -> Option Value} (x : Step fr [] η s.heap η' h') (hn : s.heap.Ns a m) (ha : a ∉ η) : h'.Ns a m := by
  obtain ⟨o, es, ep, e, d, r⟩ := hn
  obtain ⟨sl, e'⟩ := x.data' e ha
  exact ⟨_, es, ep, e', d, r⟩
theorem Held.step {x : Str} {mv : Value} (st' : Step fr [] η s.heap η' h') (f : FrameOK X η s.heap env) (hh : Held s.heap env x mv) : Held h' env x mv := by
  rcases hh with ⟨hk, m, hn, hm⟩ | ⟨hk, c, o, hc, e, d⟩
  · exact .inl ⟨hk, m, Ns.step st' hn (f.off _ (List.Mem.head _)).1, hm⟩
  · obtain ⟨sl, e'⟩ := st'.data' e (f.off c (List.mem_cons.mpr (.inr (List.mem_map.mpr ⟨(x, c), lookup_mem hc, rfl⟩)))).1
    exact .inr ⟨hk, c, _, hc, e', d⟩
theorem FrameOK.step (st' : Step fr [] η s.heap η' h') (f : FrameOK X η s.heap env) : FrameOK X η' h' env := by
  have al : ∀ a ∈ ownOf env, ∃ o, s.heap.get? a = some o := fun a ha => let ⟨o, e, _⟩ := f.frm a ha; ⟨o, e⟩
  refine ⟨f.kind, f.glob, f.blt, ?_, fun p hp => ?_, f.cells, f.inj, fun a ha => ⟨?_, (f.off a ha).2⟩⟩
  · obtain ⟨m, hn⟩ := f.ns
    exact ⟨m, Ns.step st' hn (f.off _ (List.Mem.head _)).1⟩
  · obtain ⟨o, v, e, d⟩ := f.cell p hp
    obtain ⟨sl, e'⟩ := st'.data' e (f.off p.2 (List.mem_cons.mpr (.inr (List.mem_map.mpr ⟨p, hp, rfl⟩)))).1
    exact ⟨_, v, e', d⟩
  · obtain ⟨o, e⟩ := al a ha
    exact st'.mem e (f.off a ha).1
theorem Stk.step {own : List Addr} (x : Step fr own η s.heap η' h') (k : Stk X η A st s.heap) : Stk X η' A st h' := by
  refine ⟨k.frames, ?_, fun a ha => ?_, k.frm.step x k.off⟩
  · have : ∀ l : List Env, (∀ a ∈ frs l, a ∉ η) -> Frm s.heap (frs l) -> s.heap.FunFrames X.base l -> h'.FunFrames X.base l := by
      intro l
      induction l with
      | nil => intro _ _ _; trivial
      | cons e l ih =>
        intro ho hf ⟨hk, ⟨L, o, hfr, hn, hg, hd⟩, hr⟩
        have hL : L ∈ frs (e :: l) := by unfold frs; rw [List.filterMap_cons, hfr]; exact List.Mem.head _
        have sub : ∀ a ∈ frs l, a ∈ frs (e :: l) := by intro a ha; unfold frs at *; rw [List.filterMap_cons, hfr]; exact List.Mem.tail _ ha
        refine ⟨hk, ?_, ih (fun a ha => ho a (sub a ha)) (fun a ha => hf a (sub a ha)) hr⟩
        obtain ⟨o', e', q⟩ := (Frm.step x hf ho) L hL
        refine ⟨L, o', hfr, hn, e', fun vs z => ?_⟩
        rcases q with ⟨_, _, q⟩ | ⟨_, q⟩ <;> (rw [z] at q; cases q)
    exact this st k.off k.frm k.ok
  · obtain ⟨o, e, _⟩ := k.frm a ha
    exact x.mem e (k.off a ha)
theorem Stk.fresh (k : Stk X η A st s.heap) : ∀ a ∈ frs st, X.base.get? a = Option.none := fun _ ha => (k.ok.mem ha).1
theorem At.step (a : At κ η ρ H s) (x : Step (frs κ.st) [] η s.heap η' h') (i : Inv κ.X η' H' h') (tk : Nat) : At κ η' ρ H' { s with heap := h', toks := tk } :=
  ⟨i, a.fok.step x, fun y v e hv => let ⟨mv, hh, r⟩ := a.rho y v e hv; ⟨mv, hh.step x a.fok, r.up x a.stk.frm⟩, a.stk.step x, a.room, a.hand⟩
end
inductive Post (X : Cx) (fr own η : List Addr) (s : Shared) (H' : Hp) (P : List Addr -> Heap -> Prop) (s' : Shared) : Prop
  | mk (η' : List Addr) (h' : Heap) (tk : Nat) (e : s' = { s with heap := h', toks := tk }) (i : Inv X η' H' h') (x : Step fr own η s.heap η' h') (p : P η' h') : Post X fr own η s H' P s'
inductive TbAt (X : Cx) (st : List Env) (h0 : Heap) (e : Addr) (vs : Array Value) (η' : List Addr) (h' : Heap) : Prop
  | mk (T : Addr) (oT : Obj) (ts : Array Value) (fl : Value) (q1 : vs[1]? = some (.ref T)) (q2 : T ≠ e) (q3 : h'.get? T = some oT) (q4 : oT.cls = .type "traceback") (q5 : oT.data = .fields ts) (q6 : T ∉ η') (q7 : h0.get? T = Option.none) (q8 : ts[3]? = some fl)
    (q9 : fl = .none \/ ∃ L, (frs st).head? = some L /\ fl = rawInt L) : TbAt X st h0 e vs η' h'
inductive ExcAt (X : Cx) (st : List Env) (h0 : Heap) (ev : Value) (c : String) (η' : List Addr) (h' : Heap) : Prop
  | mk (e : Addr) (oe : Obj) (vs : Array Value) (C : Addr) (q1 : ev = .ref e) (q2 : h'.get? e = some oe) (q3 : ExCls X c C) (q4 : ObjCls oe C) (q5 : oe.data = .fields vs) (q6 : e ∉ η') (q7 : h0.get? e = Option.none) (q8 : 4 < vs.size)
    (q9 : vs[1]? = some .none \/ TbAt X st h0 e vs η' h') : ExcAt X st h0 ev c η' h'
theorem ExcAt.older {X : Cx} {st : List Env} {h0 h1 : Heap} {ev : Value} {c : String} {η : List Addr} {h : Heap} (x : ExcAt X st h1 ev c η h) (k : ∀ b o, h0.get? b = some o -> ∃ o', h1.get? b = some o') : ExcAt X st h0 ev c η h := by
  have old : ∀ b, h1.get? b = Option.none -> h0.get? b = Option.none := fun b hb => by
    cases e : h0.get? b with
    | none => rfl
    | some o => obtain ⟨o', e'⟩ := k b o e; rw [hb] at e'; cases e'
  obtain ⟨e, oe, vs, C, h1, h2, h3, h4, h5, h6, h7, h8, h9⟩ := x
  refine ⟨e, oe, vs, C, h1, h2, h3, h4, h5, h6, old _ h7, h8, ?_⟩
  rcases h9 with h9 | ⟨T, oT, ts, fl, g1, g2, g3, g4, g5, g5', g6, g7, g8⟩
  · exact .inl h9
  · exact .inr ⟨T, oT, ts, fl, g1, g2, g3, g4, g5, g5', old _ g6, g7, g8⟩
noncomputable abbrev noE : Value -> Shared -> Prop := fun _ _ => False
theorem monoN {M : Model} {A : Around} {α : Type} {m : Sem α} {Q Q' : α -> Shared -> Prop} {E : Value -> Shared -> Prop} {s : Shared} (h : wpAny M A m Q noE s) (hq : ∀ a s, Q a s -> Q' a s) : wpAny M A m Q' E s := wpAny_mono h hq fun _ _ q => q.elim
inductive OkAt (X : Cx) (st : List Env) {α β : Type} (rel : β -> α -> Prop × List (V × Value)) (η : List Addr) (s : Shared) (r : R β) (a : α) (s' : Shared) : Prop
  | mk (b : β) (H' : Hp) (e : r = .ok b H') (q : (rel b a).1) (p : Post X (frs st) [] η s H' (fun η' h' => ∀ p ∈ (rel b a).2, VR X η' h' p.1 p.2) s') : OkAt X st rel η s r a s'
inductive RaiseAt (X : Cx) (st : List Env) {β : Type} (η : List Addr) (s : Shared) (r : R β) (ev : Value) (s' : Shared) : Prop
  | mk (c : String) (H' : Hp) (e : r = .raise c H') (p : Post X (frs st) [] η s H' (fun η' h' => ExcAt X st s.heap ev c η' h') s') : RaiseAt X st η s r ev s'
noncomputable def Tri (κ : Ct) (ρ : Rho) {α β : Type} (vs : List (V × Value)) (m : Sem α) (H : Hp) (r : R β) (rel : β -> α -> Prop × List (V × Value)) : Prop :=
  r ≠ .stuck -> ∀ η s, At κ η ρ H s -> (∀ p ∈ vs, VR κ.X η s.heap p.1 p.2) -> wpAny κ.X.M κ.A m (OkAt κ.X κ.st rel η s r) (RaiseAt κ.X κ.st η s r) s
section
variable {X : Cx} {κ : Ct} {ρ : Rho} {α β γ δ : Type} {vs : List (V × Value)} {H : Hp}
theorem Post.trans {fr own η η1 : List Addr} {s : Shared} {h1 : Heap} {tk : Nat} {H' : Hp} {P P' : List Addr -> Heap -> Prop} {s' : Shared} (x : Step fr own η s.heap η1 h1)
    (y : Post X fr own η1 { s with heap := h1, toks := tk } H' P s') (hp : ∀ η' h', P η' h' -> P' η' h') : Post X fr own η s H' P' s' := by
  obtain ⟨η', h', tk', rfl, i, st, p⟩ := y
  exact ⟨η', h', tk', rfl, i, x.trans st, hp _ _ p⟩
section
variable {st : List Env} {η η1 : List Addr} {s : Shared} {h1 : Heap} {tk : Nat} {r : R β} {s' : Shared}
theorem OkAt.after {rel : β -> α -> Prop × List (V × Value)} {a : α} (x : Step (frs st) [] η s.heap η1 h1) (y : OkAt X st rel η1 { s with heap := h1, toks := tk } r a s') : OkAt X st rel η s r a s' := by
  obtain ⟨b, H', e, q, p⟩ := y
  exact ⟨b, H', e, q, p.trans x fun _ _ q => q⟩
theorem RaiseAt.after {ev : Value} (x : Step (frs st) [] η s.heap η1 h1) (y : RaiseAt X st η1 { s with heap := h1, toks := tk } r ev s') : RaiseAt X st η s r ev s' := by
  obtain ⟨c, H', e, p⟩ := y
  exact ⟨c, H', e, p.trans x fun _ _ q => q.older x.alive⟩
end
theorem Tri.via {m : Sem α} {m' : Sem γ} {W : α -> (γ -> Shared -> Prop) -> (Value -> Shared -> Prop) -> Shared -> Prop} {r : R β} {f : β -> Hp -> R δ} {rel : β -> α -> Prop × List (V × Value)} {rel' : δ -> γ -> Prop × List (V × Value)}
    (hw : ∀ Q E s, wpAny κ.X.M κ.A m (fun a s1 => W a Q E s1) E s -> wpAny κ.X.M κ.A m' Q E s) (h1 : Tri κ ρ vs m H r rel)
    (h2 : ∀ b H1 a, r = .ok b H1 -> (rel b a).1 -> f b H1 ≠ .stuck -> ∀ η s Q E, At κ η ρ H1 s -> (∀ p ∈ vs ++ (rel b a).2, VR κ.X η s.heap p.1 p.2) -> (∀ d s', OkAt κ.X κ.st rel' η s (f b H1) d s' -> Q d s') -> (∀ ev s', RaiseAt κ.X κ.st η s (f b H1) ev s' -> E ev s') -> W a Q E s) :
    Tri κ ρ vs m' H (r.bind f) rel' := by
  intro hs η s a hv
  have hr : r ≠ .stuck := by rintro rfl; exact hs rfl
  refine hw _ _ _ (wpAny_mono (h1 hr η s a hv) (fun x s1 hx => ?_) fun ev s1 hx => ?_)
  · obtain ⟨b, H1, rfl, hrel, η1, h', tk, rfl, i, stp, hp⟩ := hx
    refine h2 b H1 x rfl hrel hs η1 _ _ _ (a.step stp i tk) (fun p hm => ?_) (fun d s' o => o.after stp) fun ev s' o => o.after stp
    rcases List.mem_append.mp hm with hm | hm
    · exact (hv p hm).up stp a.stk.frm
    · exact hp p hm
  · obtain ⟨c, H1, rfl, hP⟩ := hx
    exact ⟨c, H1, rfl, hP⟩
theorem Tri.bind {m : Sem α} {k : α -> Sem γ} {r : R β} {f : β -> Hp -> R δ} {rel : β -> α -> Prop × List (V × Value)} {rel' : δ -> γ -> Prop × List (V × Value)}
    (h1 : Tri κ ρ vs m H r rel) (h2 : ∀ b H1 a, r = .ok b H1 -> (rel b a).1 -> Tri κ ρ (vs ++ (rel b a).2) (k a) H1 (f b H1) rel') :
    Tri κ ρ vs (m >>= k) H (r.bind f) rel' :=
  Tri.via (W := fun a Q E s => wpAny κ.X.M κ.A (k a) Q E s) (fun _ _ _ q => wpAny_bind q) h1 fun b H1 a e q hs η s Q E at' hv hq he => wpAny_mono (h2 b H1 a e q hs η s at' hv) hq he
theorem Tri.skip {m : Sem α} {k : α -> Sem γ} {r : R δ} {rel' : δ -> γ -> Prop × List (V × Value)} {a₀ : α}
    (hm : ∀ (Q : α -> Shared -> Prop) (E : Value -> Shared -> Prop) (s : Shared), Q a₀ s -> wpAny κ.X.M κ.A m Q E s) (h : Tri κ ρ vs (k a₀) H r rel') : Tri κ ρ vs (m >>= k) H r rel' :=
  fun hs η s a hv => wpAny_bind (hm _ _ _ (h hs η s a hv))
theorem Tri.holding {m : Sem α} {l : List Value} {r : R β} {rel : β -> α -> Prop × List (V × Value)} (h : Tri κ ρ vs m H r rel) : Tri κ ρ vs (PySem.holding l m) H r rel :=
  fun hs η s a hv => wpAny_holding (h hs η s a hv)
theorem Tri.stand {pos : Pos} {k : Unit -> Sem γ} {r : R δ} {rel' : δ -> γ -> Prop × List (V × Value)} (h : Tri κ ρ vs (k ()) H r rel') : Tri κ ρ vs (standAt pos >>= k) H r rel' :=
  Tri.skip (a₀ := ()) (fun _ _ _ q => wpAny_standAt q) h
theorem Tri.pure {a : α} {b : β} {rel : β -> α -> Prop × List (V × Value)} (h1 : (rel b a).1) (h2 : ∀ p ∈ (rel b a).2, p ∈ vs) : Tri κ ρ vs (Pure.pure a) H (.ok b H) rel :=
  fun _ η s at' hv => wpAny_pure ⟨b, H, rfl, h1, η, s.heap, s.toks, rfl, at'.inv, Step.refl _ _ _ _, fun p hp => hv p (h2 p hp)⟩
theorem Tri.fewer {m : Sem α} {r : R β} {rel : β -> α -> Prop × List (V × Value)} {vs' : List (V × Value)} (h : Tri κ ρ vs' m H r rel) (h1 : ∀ p ∈ vs', p ∈ vs) : Tri κ ρ vs m H r rel :=
  fun hs η s a hv => h hs η s a fun p hp => hv p (h1 p hp)
theorem Tri.any {m : Sem α} {r : R β} {rel : β -> α -> Prop × List (V × Value)} (h : Tri κ ρ [] m H r rel) : Tri κ ρ vs m H r rel := h.fewer fun _ q => nomatch q
theorem Tri.rel_of {m : Sem α} {r r' : R β} {rel : β -> α -> Prop × List (V × Value)} (h : Tri κ ρ vs m H r rel) (e : r = r') : Tri κ ρ vs m H r' rel := e ▸ h
theorem Tri.stuck {m : Sem α} {rel : β -> α -> Prop × List (V × Value)} : Tri κ ρ vs m H .stuck rel := fun h => absurd rfl h
theorem Tri.operate {m : Sem Value} {l : List Value} {r : R β} {rel : β -> Value -> Prop × List (V × Value)} (h : Tri κ ρ vs m H r rel) : Tri κ ρ vs (PySem.operate l m) H r rel :=
  fun hs η s a hv => wpAny_operating (h hs η s a hv)
theorem Tri.reads {m : Sem α} {b : β} {rel : β -> α -> Prop × List (V × Value)}
    (h : ∀ (η : List Addr) (s : Shared) (Q : α -> Shared -> Prop) (E : Value -> Shared -> Prop), At κ η ρ H s -> (∀ p ∈ vs, VR κ.X η s.heap p.1 p.2) ->
      (∀ a h' tk, (∀ b o, s.heap.get? b = some o -> h'.get? b = some o) -> (rel b a).1 -> (∀ p ∈ (rel b a).2, VR κ.X η h' p.1 p.2) -> Q a { s with heap := h', toks := tk }) -> wpAny κ.X.M κ.A m Q E s) :
    Tri κ ρ vs m H (.ok b H) rel :=
  fun _ η s at' hv => h η s _ _ at' hv fun a h' tk k h1 h2 => ⟨b, H, rfl, h1, η, h', tk, rfl, at'.inv.ext k, Step.ext _ _ _ k, h2⟩
end
noncomputable def rV (v : V) (m : Value) : Prop × List (V × Value) := (True, [(v, m)])
theorem rV1 {X : Cx} {η : List Addr} {h : Heap} {v : V} {m : Value} {p : V × Value} (hp : p ∈ (rV v m).2) (r : VR X η h v m) : VR X η h p.1 p.2 := List.mem_singleton.mp hp ▸ r
theorem m0 {α : Type} {a : α} {l : List α} : a ∈ l ++ [a] := List.mem_append.mpr (.inr (List.Mem.head _))
theorem m1 {α : Type} {a : α} {l k : List α} (h : a ∈ l) : a ∈ l ++ k := List.mem_append.mpr (.inl h)
noncomputable def rL (vs : List V) (ms : List Value) : Prop × List (V × Value) := (vs.length = ms.length, vs.zip ms)
noncomputable def rB (b : Bool) (a : Bool) : Prop × List (V × Value) := (a = b, [])
theorem VRs.of_zip {X : Cx} {η : List Addr} {h : Heap} : ∀ {vs : List V} {ms : List Value}, vs.length = ms.length -> (∀ p ∈ vs.zip ms, VR X η h p.1 p.2) -> VRs X η h vs ms
  | [], [], _, _ => .nil
  | _ :: _, _ :: _, e, hp => .cons (hp (_, _) (List.Mem.head _)) (VRs.of_zip (Nat.succ.inj e) fun p hm => hp p (List.Mem.tail _ hm))
  | [], _ :: _, e, _ => nomatch e
  | _ :: _, [], e, _ => nomatch e
theorem VRs.length {X : Cx} {η : List Addr} {h : Heap} {vs : List V} {ms : List Value} (r : VRs X η h vs ms) : vs.length = ms.length := VRs.ind (P := fun vs ms => vs.length = ms.length) rfl (fun _ _ ih => congrArg Nat.succ ih) r
noncomputable def Ends (X : Cx) (env : Env) (ρ : Rho) (η : List Addr) (h : Heap) : Prop := FrameOK X η h env /\ RhoR X η h env ρ
inductive Rd (h : Heap) (n : Nat) (m : Value) (d : PyData) : Prop
  | mk (as : List Addr) (r : Reads h m d as) (c : d.canLay0 = true) (e : d.depth <= n) : Rd h n m d
inductive Rds (h : Heap) (n : Nat) (ms : List Value) (ds : List PyData) : Prop
  | mk (as : List Addr) (r : ReadsAll h ms ds as) (c : PyData.canLayAll0 ds = true) (e : PyData.depthAll ds <= n) : Rds h n ms ds
section
variable {X : Cx} {η : List Addr} {H : Hp} {h : Heap}
theorem flat_reads {n : Nat} {v : V} {m : Value} {d : PyData} (r : VR X η h v m) (e : flatD v = some d) : Rd h n m d := by
  cases r with
  | none => cases e; exact ⟨_, .none, by simp [PyData.canLay0], by simp [PyData.depth]⟩
  | bool b => cases e; exact ⟨_, .bool b, by simp [PyData.canLay0], by simp [PyData.depth]⟩
  | int b t => cases e; exact ⟨_, .int b t, by simp [PyData.canLay0], by simp [PyData.depth]⟩
  | str b t q => cases e; exact ⟨_, .str b t, by simp [PyData.canLay0, q], by simp [PyData.depth]⟩
  | _ => cases e
theorem mapM_reads {n : Nat} {f : V -> Option PyData} (ih : ∀ {v : V} {m : Value} {d : PyData}, VR X η h v m -> f v = some d -> Rd h n m d) : ∀ {vs : List V} {ms : List Value} {ds : List PyData}, VRs X η h vs ms -> vs.mapM f = some ds -> Rds h n ms ds := fun {vs ms ds} r e =>
  VRs.ind (P := fun vs ms => ∀ ds, vs.mapM f = some ds -> Rds h n ms ds) (fun ds e => by
    cases e
    exact ⟨_, .nil, by simp [PyData.canLayAll0], by simp [PyData.depthAll]⟩) (fun a r rec ds e => by
    rw [List.mapM_cons] at e
    obtain ⟨d, e1, e⟩ := Option.bind_eq_some_iff.mp e
    obtain ⟨es, e2, e⟩ := Option.bind_eq_some_iff.mp e
    cases e
    obtain ⟨as, q, c, dd⟩ := ih a e1
    obtain ⟨bs, p, c', dd'⟩ := rec _ e2
    exact ⟨_, .cons q p, by simp [PyData.canLayAll0, c, c'], by simp only [PyData.depthAll]; omega⟩) r ds e
theorem line_lt : line <= sizeLine := by unfold line sizeLine; decide
theorem list_of_H {k : Nat} {a : Addr} {xs : List V} (i : Inv X η H h) (ha : η[k]? = some a) (hk : H[k]? = some (.list xs)) :
    ∃ items n, h.get? a = some { cls := .type "list", data := .seq items n } /\ VRs X η h xs items.toList /\ xs.length <= line := by
  obtain ⟨ob, g, o⟩ := i.objs k a _ ha hk
  cases o with
  | list r l => exact ⟨_, _, g, r, l⟩
theorem refAt_inv {v : V} {n : Nat} (e : refAt v = some n) : v = .ref n := by cases v <;> cases e; rfl
theorem listAt_inv {v : V} {xs : List V} (e : listAt v H = some xs) : ∃ k, v = .ref k /\ H[k]? = some (.list xs) := by
  obtain ⟨k, e1, e2⟩ := Option.bind_eq_some_iff.mp e
  obtain ⟨o, e3, e4⟩ := Option.bind_eq_some_iff.mp e2
  refine ⟨k, refAt_inv e1, e3.trans (congrArg some ?_)⟩
  cases o <;> cases e4; rfl
theorem vr_list {v : V} {m : Value} {xs : List V} (i : Inv X η H h) (r : VR X η h v m) (e : listAt v H = some xs) : ∃ a items c, m = .ref a /\ h.get? a = some { cls := .type "list", data := .seq items c } /\ VRs X η h xs items.toList /\ xs.length <= line := by
  obtain ⟨k, rfl, hk⟩ := listAt_inv e
  cases r with
  | ref ea =>
    obtain ⟨items, c, g, r, l⟩ := list_of_H i ea hk
    exact ⟨_, items, c, rfl, g, r, l⟩
theorem vr_int {v : V} {m : Value} {i : Int} (r : VR X η h v m) (e : intAt v = some i) : ∃ t, m = .int i t := by
  cases r with
  | int j t => cases e; exact ⟨t, rfl⟩
  | _ => cases e
theorem snap_reads (i : Inv X η H h) : ∀ (n : Nat) {v : V} {m : Value} {d : PyData}, VR X η h v m -> snap n H v = some d -> Rd h n m d
  | 0, _, _, _, r, e => flat_reads r e
  | n + 1, v, m, d, r, e => by
    cases v with
    | tup vs =>
      cases r with
      | tup g hn r _ =>
        obtain ⟨ds, e2, rfl⟩ := Option.map_eq_some_iff.mp e
        obtain ⟨as, q, c, dd⟩ := mapM_reads (snap_reads i n) r e2
        exact ⟨as, .tuple g rfl rfl q, by simpa [PyData.canLay0] using c, by simp only [PyData.depth]; omega⟩
    | ref k =>
      obtain ⟨vs, e1, e⟩ := Option.bind_eq_some_iff.mp e
      obtain ⟨ds, e2, rfl⟩ := Option.map_eq_some_iff.mp e
      obtain ⟨a, items, c0, rfl, g, r, _⟩ := vr_list i r e1
      obtain ⟨as, q, c, dd⟩ := mapM_reads (snap_reads i n) r e2
      exact ⟨_, .list g rfl rfl q, by simpa [PyData.canLay0] using c, by simp only [PyData.depth]; omega⟩
    | _ => exact flat_reads r e
theorem shaped_of {d : PyData} {n : Nat} (c : d.canLay0 = true) (e : d.depth <= n) (hn : n <= 64) : SeqAt.shaped d = true := by
  unfold SeqAt.shaped
  rw [c, Bool.true_and]
  exact decide_eq_true (Nat.le_trans e hn)
theorem VRs.append {xs ys : List V} {ms ns : List Value} (l : VRs X η h xs ms) (r : VRs X η h ys ns) : VRs X η h (xs ++ ys) (ms ++ ns) := VRs.ind (P := fun xs ms => VRs X η h (xs ++ ys) (ms ++ ns)) r (fun a _ ih => .cons a ih) l
theorem VRs.size {xs : List V} {ms : Array Value} (r : VRs X η h xs ms.toList) : ms.size = xs.length := by rw [r.length]; simp
end
section
variable {κ : Ct} {X : Cx} {A : Around} {ρ : Rho} {vs : List (V × Value)} {H : Hp}
theorem Tri.plain {m : Sem Value} {v : V} (h : ∀ (η : List Addr) (s : Shared) (Q : Value -> Shared -> Prop) (E : Value -> Shared -> Prop), At κ η ρ H s -> (∀ p ∈ vs, VR κ.X η s.heap p.1 p.2) ->
      (∀ a tk, VR κ.X η s.heap v a -> Q a { s with toks := tk }) -> wpAny κ.X.M κ.A m Q E s) : Tri κ ρ vs m H (.ok v H) rV :=
  Tri.reads fun η s Q E at' hv hq => h η s Q E at' hv fun a tk r => hq a s.heap tk (fun _ _ e => e) trivial fun p hp => rV1 hp r
noncomputable def opOf : Op -> Operator
  | .add => .Add
  | .sub => .Sub
  | .mul => .Mult
  | .fdiv => .FloorDiv
  | .mod => .Mod
  | .pow => .Pow
theorem Tri.made {m : Sem Value} {o : O}
    (h : ∀ (η : List Addr) (s : Shared) (Q : Value -> Shared -> Prop) (E : Value -> Shared -> Prop), At κ η ρ H s -> (∀ p ∈ vs, VR κ.X η s.heap p.1 p.2) ->
      (∀ a h' ob tk, s.heap.get? a = Option.none -> (∀ b o, s.heap.get? b = some o -> h'.get? b = some o) -> h'.get? a = some ob -> OR κ.X (η ++ [a]) h' o ob -> Q (.ref a) { s with heap := h', toks := tk }) -> wpAny κ.X.M κ.A m Q E s) :
    Tri κ ρ vs m H (new o H) rV := by
  intro _ η s a hv
  refine h η s _ _ a hv fun b h' ob tk hb k e r => ⟨_, _, rfl, trivial, η ++ [b], h', tk, rfl, a.inv.make k hb e r, Step.make _ _ _ k hb, fun p hp => rV1 hp (.ref ?_)⟩
  rw [<- a.inv.len, List.getElem?_append_right (Nat.le_refl _), Nat.sub_self]; rfl
theorem Tri.madeL {m : Sem Value} {ws : List V} (hl : ws.length <= line)
    (h : ∀ (η : List Addr) (s : Shared) (Q : Value -> Shared -> Prop) (E : Value -> Shared -> Prop), At κ η ρ H s -> (∀ p ∈ vs, VR κ.X η s.heap p.1 p.2) ->
      (∀ a h' items c tk, s.heap.get? a = Option.none -> (∀ b o, s.heap.get? b = some o -> h'.get? b = some o) -> h'.get? a = some { cls := .type "list", data := .seq items c } -> VRs κ.X η s.heap ws items.toList -> Q (.ref a) { s with heap := h', toks := tk }) -> wpAny κ.X.M κ.A m Q E s) :
    Tri κ ρ vs m H (new (.list ws) H) rV :=
  Tri.made fun η s Q E at' hv hq => h η s Q E at' hv fun a h' items c tk ha k e r => hq a h' _ tk ha k e (.list (r.grow (Step.make [] [] η k ha)) hl)
theorem abs10 {x : Int} (h : 0 <= x) (h2 : x <= 10) : x.natAbs < 2 ^ 64 := by
  obtain ⟨k, rfl⟩ := Int.eq_ofNat_of_zero_le h
  exact Nat.lt_of_le_of_lt (Int.ofNat_le.mp h2) (by decide)
theorem bits64 {x : Int} (h : x.natAbs < 2 ^ 64) : Builtin.Int.intBits x <= 64 := intBits_le_64 (Int.lt_of_lt_of_le (Int.neg_lt_neg (Int.ofNat_lt.mpr h)) (Int.neg_le_of_neg_le (Int.natAbs_neg x ▸ Int.le_natAbs))) (Int.lt_of_le_of_lt Int.le_natAbs (Int.ofNat_lt.mpr h))
theorem intOp_ok {op : Op} {x y z : Int} {t u : Tok} {s : Shared} {Q : Value -> Shared -> Prop} {E : Value -> Shared -> Prop} (e : intOp op x y = some z) (hq : ∀ tk w, Q (.int z w) { s with toks := tk }) : wpAny X.M A (binaryOp (opOf op) (.int x t) (.int y u)) Q E s := by
  cases op with
  | add => cases e; exact PyProof.Rows.add_int (hq _ _)
  | sub => cases e; exact PyProof.Rows.sub_int (hq _ _)
  | mul =>
    have e : (if x.natAbs < 2 ^ 64 \/ y.natAbs < 2 ^ 64 then some (x * y) else Option.none) = some z := e
    split at e
    · rename_i hm
      cases e
      refine PyProof.Rows.mul_int (hq _ _) ?_
      rcases hm with hm | hm
      · exact .of_left (bits64 hm)
      · exact .of_right (bits64 hm)
    · cases e
  | fdiv =>
    have e : (if y ≠ 0 /\ y.natAbs < 1073741824 then some (x.fdiv y) else Option.none) = some z := e
    split at e
    · rename_i hm
      cases e
      refine PyProof.Rows.floordiv_int hm.1 (hq _ _) (Or.inl (PyProof.noPylong_small hm.2))
    · cases e
  | mod =>
    have e : (if y ≠ 0 then some (x.fmod y) else Option.none) = some z := e
    split at e
    · rename_i hm
      cases e
      exact PyProof.Rows.mod_int' hm (hq _ _)
    · cases e
  | pow =>
    have e : (if 0 <= x /\ x <= 10 /\ 0 <= y /\ y <= 100 then some (x ^ y.toNat) else Option.none) = some z := e
    split at e
    · rename_i hm
      cases e
      exact PyProof.Rows.pow_int_small hm.2.2.1 (Int.le_trans hm.2.2.2 (by decide)) (abs10 hm.1 hm.2.1) (hq _ _)
    · cases e
theorem addL_ok {a b : V} {ma mb : Value} (ha : (a, ma) ∈ vs) (hb : (b, mb) ∈ vs) : Tri κ ρ vs (binaryOp .Add ma mb) H (addL a b H) rV := by
  unfold addL
  cases hx : listAt a H with
  | none => exact Tri.stuck
  | some x =>
    cases hy : listAt b H with
    | none => exact Tri.stuck
    | some y =>
      dsimp only
      split
      · rename_i hm
        refine Tri.madeL (by rw [List.length_append]; exact hm) fun η s Q E at' hv hq => ?_
        obtain ⟨a1, i1, m1, rfl, g1, r1, l1⟩ := vr_list at'.inv (hv _ ha) hx
        obtain ⟨a2, i2, m2, rfl, g2, r2, l2⟩ := vr_list at'.inv (hv _ hb) hy
        exact P.add_list g1 g2 (hq _ _ _ _ s.toks (size_none _) (push_keeps _ _) (Heap.get?_push_size _ rfl) (by rw [Array.toList_append]; exact r1.append r2)) (by rw [r1.size, r2.size]; exact Nat.le_trans hm line_lt)
      · exact Tri.stuck
theorem vr_tup {a : V} {ma : Value} {x : List V} {η : List Addr} {h : Heap} (r : VR κ.X η h a ma) (e : tupAt a = some x) : a = .tup x := by
  cases a <;> cases e; rfl
theorem addT_ok {a b : V} {ma mb : Value} (ha : (a, ma) ∈ vs) (hb : (b, mb) ∈ vs) : Tri κ ρ vs (binaryOp .Add ma mb) H (addT a b H) rV := by
  unfold addT
  cases hx : tupAt a with
  | none => exact addL_ok ha hb
  | some x =>
    cases hy : tupAt b with
    | none => exact Tri.stuck
    | some y =>
      dsimp only
      split
      · rename_i hm
        refine Tri.reads fun η s Q E at' hv hq => ?_
        have va := hv _ ha
        have vb := hv _ hb
        have ea := vr_tup va hx
        have eb := vr_tup vb hy
        subst ea; subst eb
        have vb' := vb
        cases va with
        | tup g1 n1 r1 l1 =>
        cases vb with
        | tup g2 n2 r2 l2 =>
        rename_i a1 i1 c1 a2 i2 c2
        have hsz : i1.size + i2.size <= sizeLine := by rw [r1.size, r2.size]; exact Nat.le_trans hm.1 line_lt
        have hne : ¬ i2.isEmpty = true := fun q => hm.2 (by rw [<- r2.size, Array.isEmpty_iff.mp q]; rfl)
        by_cases e1 : i1.isEmpty = true
        · refine concat_meets ⟨_, g1, rfl⟩ ⟨_, g2, rfl⟩ noFill_tuple_add seq_tuple_add F.slot_tuple_add F.entry_tuple_add (F.args_tuple_add_2 _ _) (PyProof.Rows.tuple_addW0 _ _ _ _ _ _ _ _ _ _ e1) ⟨g1, g2, ?_⟩
          have hx0 : x = [] := List.length_eq_zero_iff.mp (by rw [<- r1.size, Array.isEmpty_iff.mp e1]; rfl)
          subst hx0
          exact hq _ s.heap s.toks (fun _ _ e => e) trivial fun p hp => rV1 hp vb'
        · refine P.add_tuple g1 g2 e1 hne ?_ hsz
          refine hq _ _ s.toks (push_keeps _ _) trivial fun p hp => rV1 hp ?_
          have st := Step.ext [] [] η (push_keeps s.heap { cls := .type "tuple", data := .seq (i1 ++ i2) })
          exact .tup (Heap.get?_push_size _ rfl) at'.inv.size_off (by rw [Array.toList_append]; exact (r1.append r2).grow st) (by rw [List.length_append]; exact hm.1)
      · exact Tri.stuck
theorem bin_ok {op : Op} {a b : V} {ma mb : Value} (ha : (a, ma) ∈ vs) (hb : (b, mb) ∈ vs) : Tri κ ρ vs (binaryOp (opOf op) ma mb) H (bin op a b H) rV := by
  unfold bin
  cases hx : intAt a with
  | some x =>
    cases hy : intAt b with
    | none => exact Tri.stuck
    | some y =>
      dsimp only
      cases hz : intOp op x y with
      | none => exact Tri.stuck
      | some z =>
        refine Tri.plain fun η s Q E at' hv hq => ?_
        obtain ⟨t, rfl⟩ := vr_int (hv _ ha) hx
        obtain ⟨u, rfl⟩ := vr_int (hv _ hb) hy
        exact intOp_ok hz fun tk w => hq _ tk (.int _ _)
  | none =>
    dsimp only
    by_cases ho : op = .add
    · rw [if_pos ho]; subst ho; exact addT_ok ha hb
    · rw [if_neg ho]; exact Tri.stuck
end
end Mine
namespace Mine
open PySem
section
variable {prog : Program} {w : World} {A : Around} {E : Value -> Shared -> Prop} {s : Shared} {d it : Addr} {o : Obj} {es : Array DictEntry} {i ep : Nat}
theorem dictT (ho : s.heap.get? d = some o) (hc : o.ExactDict) : s.TypeIs (.ref d) "dict" := ⟨o, ho, hc.1⟩
theorem pyIter_raw {Q : Value -> Shared -> Prop} (hd : (d == sysModules) = false) (ho : s.heap.get? d = some o) (hc : o.ExactDict) (hdat : o.data = .dict es ep)
    (hQ : Q (.ref s.heap.objs.size) { s with heap := s.heap.push { cls := .type "dict_keyiterator", data := .fields #[.ref d, .int 0 0, .int es.size 0, .int ep 0] } }) :
    wpAny (model prog w) A (pyIter (.ref d)) Q E s := by
  have hT := dictT ho hc
  refine wpAny_pyIter_slot hT F.slot_dict_iter (wpAny_call_entry F.slot_dict_iter hT F.entry_dict_iter ?_ (F.args_dict_iter_1 _))
  unfold Builtin.«dict.__iter__»
  refine wpAny_bind ?_
  unfold Builtin.Dict.dictSlotNone
  refine wpAny_bind (wpAny_notOrdered_dict hT ?_)
  show wpAny _ _ (pure (Value.ref d)) _ _ s
  refine wpAny_pure ?_
  show wpAny _ _ (Builtin.Dict.showsAll d >>= _) _ _ s
  unfold Builtin.Dict.showsAll
  rw [if_neg (by rw [hd]; exact Bool.false_ne_true)]
  refine wpAny_bind (wpAny_pure ?_)
  refine wpAny_bind (wpAny_dictEntries ho hdat ?_)
  refine wpAny_bind (wpAny_dictEpoch ho hdat ?_)
  refine wpAny_bind (wpAny_newObj_type (wpAny_pure ⟨_, rfl, "dict_keyiterator", _, ⟨_, Heap.get?_push_size _ rfl, rfl⟩, F.slot_dict_keyiterator_next.lookup, ?_⟩))
  simpa [rawInt] using hQ
theorem pyNext_raw_item {e : DictEntry} {Q : Option Value -> Shared -> Prop} (hit : s.heap.IsKeyIter it d i es.size ep) (hod : s.heap.get? d = some o) (hdd : o.data = .dict es ep) (hx : es[i]? = some e)
    (hQ : ∀ h', h'.IsKeyIter it d (i + 1) es.size ep -> Heap.SameBut it s.heap h' -> Q (some e.key) { s with heap := h' }) :
    wpAny (model prog w) A (pyNext (.ref it)) Q E s := by
  obtain ⟨oi, ho, hc, hd⟩ := id hit
  unfold pyNext
  refine wpAny_bind (wpAny_attempt (wpAny_callSpecial?_slot (name := Str.ofString "__next__") hit.typeIs F.slot_dict_keyiterator_next
    (wpAny_call_entry F.slot_dict_keyiterator_next hit.typeIs F.entry_dict_keyiterator_next ?_ (F.args_dict_keyiterator_next_1 _))))
  refine wpAny_bind (wpAny_pure ?_)
  refine wpAny_bind ?_
  refine wpAny_bind ?_
  first | refine wpAny_bind (wpAny_typeNameOfWhole_keyiter hit.typeIs (wpAny_pure ?_)) | refine wpAny_bind (wpAny_typeNameOf_keyiter hit.typeIs (wpAny_pure ?_))
  refine wpAny_bind (wpAny_fieldsOf ho hd ?_)
  have hown : Builtin.Dict_items.ownsTuple "dict_keyiterator" = false := by decide
  rw [hown, if_neg Bool.false_ne_true]
  show wpAny _ _ (if (Value.ref d == Value.none) = true then _ else _) _ _ s
  rw [if_neg (show ¬ ((Value.ref d == Value.none) = true) from Bool.false_ne_true)]
  refine wpAny_bind (wpAny_pure ?_)
  refine wpAny_bind (wpAny_dictEntries hod hdd ?_)
  rw [if_neg (by simp)]
  refine wpAny_bind (wpAny_pure ?_)
  refine wpAny_bind (wpAny_dictEpoch hod hdd ?_)
  rw [if_neg (by simp)]
  refine wpAny_pure ?_
  obtain ⟨hlt, he⟩ := Array.getElem?_eq_some_iff.mp hx
  dsimp only
  rw [if_neg (show ¬ ((i : Int) < 0) from Int.not_lt.mpr (Int.natCast_nonneg i)), Int.toNat_natCast, hx]
  dsimp only
  refine wpAny_bind ?_
  first | refine wpAny_bind (wpAny_typeNameOfWhole_keyiter hit.typeIs (wpAny_pure ?_)) | refine wpAny_bind (wpAny_typeNameOf_keyiter hit.typeIs (wpAny_pure ?_))
  refine wpAny_bind (wpAny_isOneOf_keyiter hit.typeIs ?_)
  show wpAny _ _ (setField (.ref it) 1 (rawInt ((i : Int) + 1)) >>= _) _ _ s
  refine wpAny_bind (wpAny_setField ho hd (by simp) ?_)
  have hit' : (s.heap.update it (Obj.mapFields (·.setIfInBounds 1 (rawInt ((i : Int) + 1))))).IsKeyIter it d (i + 1) es.size ep :=
    ⟨_, Heap.get?_update_self _ ho (Obj.isFreed_of_fields (Obj.data_mapFields hd _)), (Obj.cls_mapFields ..).trans hc, by rw [Obj.data_mapFields hd]; simp [rawInt]⟩
  refine wpAny_bind (wpAny_holding ?_)
  refine wpAny_bind (wpAny_isOneOf_keyiter (s := { s with heap := s.heap.update it (Obj.mapFields (·.setIfInBounds 1 (rawInt ((i : Int) + 1)))) }) hit'.typeIs ?_)
  show wpAny _ _ (pure e.key) _ _ _
  exact wpAny_pure (wpAny_pure ⟨_, rfl, wpAny_pure (hQ _ hit' (Heap.SameBut.update ..))⟩)
theorem pyNext_raw_end {Q : Option Value -> Shared -> Prop} (hh : A.handled = Option.none) (hit : s.heap.IsKeyIter it d i es.size ep) (hod : s.heap.get? d = some o) (hdd : o.data = .dict es ep) (hx : es[i]? = Option.none)
    (hQ : ∀ h', Heap.ExtBut it s.heap h' -> Q Option.none { s with heap := h' }) : wpAny (model prog w) A (pyNext (.ref it)) Q E s := by
  obtain ⟨oi, ho, hc, hd⟩ := id hit
  unfold pyNext
  refine wpAny_bind (wpAny_attempt (wpAny_callSpecial?_slot (name := Str.ofString "__next__") hit.typeIs F.slot_dict_keyiterator_next
    (wpAny_call_entry F.slot_dict_keyiterator_next hit.typeIs F.entry_dict_keyiterator_next ?_ (F.args_dict_keyiterator_next_1 _))))
  refine wpAny_bind (wpAny_pure ?_)
  refine wpAny_bind ?_
  refine wpAny_bind ?_
  first | refine wpAny_bind (wpAny_typeNameOfWhole_keyiter hit.typeIs (wpAny_pure ?_)) | refine wpAny_bind (wpAny_typeNameOf_keyiter hit.typeIs (wpAny_pure ?_))
  refine wpAny_bind (wpAny_fieldsOf ho hd ?_)
  have hown : Builtin.Dict_items.ownsTuple "dict_keyiterator" = false := by decide
  rw [hown, if_neg Bool.false_ne_true]
  show wpAny _ _ (if (Value.ref d == Value.none) = true then _ else _) _ _ s
  rw [if_neg (show ¬ ((Value.ref d == Value.none) = true) from Bool.false_ne_true)]
  refine wpAny_bind (wpAny_pure ?_)
  refine wpAny_bind (wpAny_dictEntries hod hdd ?_)
  rw [if_neg (by simp)]
  refine wpAny_bind (wpAny_pure ?_)
  refine wpAny_bind (wpAny_dictEpoch hod hdd ?_)
  rw [if_neg (by simp)]
  refine wpAny_pure ?_
  dsimp only
  rw [if_neg (show ¬ ((i : Int) < 0) from Int.not_lt.mpr (Int.natCast_nonneg i)), Int.toNat_natCast, hx]
  dsimp only
  refine wpAny_bind ?_
  first | refine wpAny_bind (wpAny_typeNameOfWhole_keyiter hit.typeIs (wpAny_pure ?_)) | refine wpAny_bind (wpAny_typeNameOf_keyiter hit.typeIs (wpAny_pure ?_))
  show wpAny _ _ (setField (.ref it) 0 .none >>= _) _ _ s
  refine wpAny_bind (wpAny_setField ho hd (by simp) ?_)
  show wpAny _ _ (newExc (.type "StopIteration") [] >>= _) _ _ _
  refine wpAny_bind ?_
  unfold newExc newTuple
  refine wpAny_bind (wpAny_newObj_type ?_ (by size_fits))
  refine wpAny_bind (m := firstArgMember _ _) (wpAny_of_eq (a := Value.none) (by first | rfl | (simp only [firstArgMember]; rfl)) ?_)
  refine wpAny_newObj_type ?_ (by size_fits)
  unfold raiseNew
  refine wpAny_bind (wpAny_handled ?_)
  rw [show A.in1.handled = Option.none from hh]
  refine wpAny_bind (wpAny_pure (wpAny_throw ?_))
  refine wpAny_bind (wpAny_isInstance (T := "StopIteration") (b := true) ⟨_, Heap.get?_push_size _ rfl, rfl⟩ isSubtype_stop ?_)
  exact wpAny_pure (hQ _ (((Heap.SameBut.update ..).extBut.push _).push _))
end
section
variable {prog : Program} {w : World} {K : Type} [DecidableEq K] {knd : HeapKind prog w K} {A : Around} {E : Value -> Shared -> Prop} {s : Shared}
noncomputable def mergedH (xs ys : List (K × Addr × Value)) : List (K × Addr × Value) := ys.foldl (fun acc y => storedH acc y.1 y.2.1 y.2.2) xs
theorem storedH_len (xs : List (K × Addr × Value)) (k : K) (a : Addr) (v : Value) : (storedH xs k a v).length <= xs.length + 1 := by
  unfold storedH
  split
  · rw [List.length_map]; exact Nat.le_succ _
  · rw [List.length_append]; exact Nat.le_refl _
theorem mergedH_len : ∀ (ys xs : List (K × Addr × Value)), (mergedH xs ys).length <= xs.length + ys.length
  | [], xs => Nat.le_refl _
  | y :: ys, xs => by
    have h1 := mergedH_len ys (storedH xs y.1 y.2.1 y.2.2)
    have h2 := storedH_len xs y.1 y.2.1 y.2.2
    exact Nat.le_trans h1 (Nat.le_trans (Nat.add_le_add_right h2 _) (Nat.le_of_eq (by rw [List.length_cons, Nat.add_assoc, Nat.add_comm 1])))
theorem mergedH_take (xs ys : List (K × Addr × Value)) (i : Nat) (y : K × Addr × Value) (h : ys[i]? = some y) : mergedH xs (ys.take (i + 1)) = storedH (mergedH xs (ys.take i)) y.1 y.2.1 y.2.2 := by
  unfold mergedH
  rw [List.take_add_one, h, List.foldl_append]; rfl
theorem mergedH_fresh : ∀ (ys xs : List (K × Addr × Value)), ((xs ++ ys).map (·.1)).Nodup -> mergedH xs ys = xs ++ ys
  | [], xs, _ => by simp [mergedH]
  | y :: ys, xs, hn => by
    have hno : atKey xs y.1 = Option.none := by
      refine atKey_none_of_get fun j p hj => ?_
      rw [List.map_append, List.nodup_append] at hn
      exact hn.2.2 y.1 (List.mem_map.mpr ⟨(y.1, p), List.mem_of_getElem? hj, rfl⟩) y.1 (by simp) rfl
    show mergedH (storedH xs y.1 y.2.1 y.2.2) ys = _
    rw [storedH_new hno, mergedH_fresh ys (xs ++ [(y.1, y.2.1, y.2.2)]) (by simpa using hn)]; simp
noncomputable def HashOk (knd : HeapKind prog w K) (ys : List (K × Addr × Value)) : Prop := ∀ y ∈ ys, (ys.filter fun z => knd.hash z.1 == knd.hash y.1).length <= 1
theorem entries_heap {id : String} {o : Addr} {oo : Obj} {es : Array DictEntry} {ep : Nat} {ys : List (K × Addr × Value)} {Q : Array DictEntry -> Shared -> Prop} (ho : s.heap.get? o = some oo) (hd : oo.data = .dict es ep) (he : es.toList = ys.map (entryOfKey knd)) (hT : ∀ y ∈ ys, s.TypeIs (.ref y.2.1) "tuple") (hk : HashOk knd ys) (h : Q es s) :
    wpAny (model prog w) A (Builtin.Dict.entriesForEmpty id o) Q E s := by
  unfold Builtin.Dict.entriesForEmpty
  refine wpAny_bind (wpAny_dictEntries ho hd ?_)
  refine wpAny_bind ?_
  rw [<- Array.forIn_toList]
  refine wpAny_forIn_list _ (fun rest _ s' => s' = s /\ ∀ e ∈ rest, ∃ y ∈ ys, e = entryOfKey knd y) _ ?_ ?_ _ _ ⟨rfl, fun e hm => by rw [he] at hm; obtain ⟨y, hy, rfl⟩ := List.mem_map.mp hm; exact ⟨y, hy, rfl⟩⟩
  · rintro e rest b s' ⟨rfl, hall⟩
    obtain ⟨y, hy, rfl⟩ := hall e (List.mem_cons_self ..)
    refine wpAny_bind ?_
    show wpAny _ _ (specialOf (.ref y.2.1) "__eq__" >>= _) _ _ _
    refine wpAny_bind (wpAny_specialOf (hT y hy) F.slot_tuple_eq.lookup ?_)
    refine wpAny_pure ?_
    have hsz : ¬ ((es.filter (·.hash == (entryOfKey knd y).hash)).size > 1) := by
      have := hk y hy
      rw [<- Array.length_toList, Array.toList_filter, he, List.filter_map, List.length_map]
      exact Nat.not_lt.mpr this
    have hq : (some (Value.builtin "tuple.__eq__") == some (Value.builtin "object.__eq__")) = false := by decide
    rw [hq]
    rw [if_pos (show (!false) = true from rfl)]
    rw [if_neg hsz]
    exact wpAny_pure ⟨rfl, fun e hm => hall e (List.mem_cons_of_mem _ hm)⟩
  · rintro b s' ⟨rfl, _⟩
    exact wpAny_pure h
end
section
variable {prog : Program} {w : World} {K : Type} [DecidableEq K] (knd : HeapKind prog w K)
noncomputable def DictE (h : Heap) (d : Addr) (xs : List (K × Addr × Value)) (ep : Nat) : Prop :=
  ∃ o es, h.get? d = some o /\ o.ExactDict /\ o.data = .dict es ep /\ es.toList = xs.map (entryOfKey knd) /\ (∀ x ∈ xs, knd.is h x.1 x.2.1) /\ (xs.map (·.1)).Nodup
variable {knd}
theorem DictE.of {h : Heap} {d : Addr} {xs : List (K × Addr × Value)} {ep : Nat} (x : DictE knd h d xs ep) : h.DictOfH knd d xs := let ⟨o, es, r⟩ := x; ⟨o, es, ep, r⟩
variable {A : Around} {E : Value -> Shared -> Prop} {s : Shared}
noncomputable def epAt (xs : List (K × Addr × Value)) (k : K) (ep : Nat) : Nat := if (atKey xs k).isSome = true then ep else ep + 1
theorem setHashedE {d a : Addr} {xs : List (K × Addr × Value)} {k : K} {v : Value} {ep : Nat} {Q : Unit -> Shared -> Prop} (hu : knd.room A) (hkey : knd.is s.heap k a) (hm : DictE knd s.heap d xs ep)
    (hQ : ∀ h', DictE knd h' d (storedH xs k a v) (epAt xs k ep) -> Heap.SameBut d s.heap h' -> Q () { s with heap := h' }) (hsz : xs.length <= sizeLine) :
    wpAny (model prog w) A (dictSetHashed d (.ref a) (knd.hash k) v) Q E s := by
  obtain ⟨o, es, ho, hc, hd, he, his, hn⟩ := hm
  unfold epAt at hQ
  unfold dictSetHashed
  try with_reducible refine wpAny_holding ?_
  refine wpAny_bind (wpAny_dictFind_heap hu hkey ho hd he his hn ?_ ?_)
  · intro hno
    have hnot : k ∉ xs.map (·.1) := not_mem_keys_of_get hno
    rw [atKey_none_of_get hno] at hQ
    refine wpAny_bind (wpAny_rule (wpAny_updateDictKeys (hz := size_of_entries he ▸ hsz) ho hd (hQ _ ⟨_, _, Heap.get?_update_self _ ho (Obj.isFreed_of_dict (Obj.data_mapDictKeys hd _)),
      hc.mapDictKeys _, Obj.data_mapDictKeys hd _, ?_, ?_, ?_⟩ (Heap.SameBut.update ..))))
    · rw [storedH_new (atKey_none_of_get hno)]
      simp [he, entryOfKey]
    · rw [storedH_new (atKey_none_of_get hno)]
      intro x hx
      rcases List.mem_append.mp hx with hx | hx
      · exact knd.keeps (his x hx) ho hd (Heap.SameBut.update ..)
      · simp only [List.mem_singleton] at hx
        subst hx
        exact knd.keeps hkey ho hd (Heap.SameBut.update ..)
    · rw [storedH_new (atKey_none_of_get hno)]
      rw [List.map_append, List.nodup_append]
      refine ⟨hn, by simp, ?_⟩
      intro x hx y hy
      simp only [List.map_cons, List.map_nil, List.mem_singleton] at hy
      subst hy
      exact fun e => hnot (e ▸ hx)
  · intro j p hj
    rw [atKey_of_get hn hj] at hQ
    refine wpAny_bind (wpAny_rule (wpAny_bind (wpAny_updateDict ho hd (wpAny_point (hQ _ ⟨_, _, Heap.get?_update_self _ ho (Obj.isFreed_of_dict (Obj.data_mapDict hd _)),
      hc.mapDict _, Obj.data_mapDict hd _, ?_, ?_, ?_⟩ (Heap.SameBut.update ..))))))
    · rw [storedH_old (atKey_of_get hn hj)]
      have := modify_map_putAt (entryOfKey knd) (fun e : DictEntry => { e with val := v }) k v (fun _ _ => rfl) hn hj
      rw [<- he] at this
      obtain ⟨l⟩ := es
      simpa using this
    · rw [storedH_old (atKey_of_get hn hj)]
      intro x hx
      obtain ⟨y, hy, rfl⟩ := List.mem_map.mp hx
      unfold putAt
      split <;> exact knd.keeps (his y hy) ho hd (Heap.SameBut.update ..)
    · rw [storedH_old (atKey_of_get hn hj)]
      rw [keys_map_putAt]; exact hn
theorem setItemE {d a : Addr} {xs : List (K × Addr × Value)} {k : K} {v : Value} {ep : Nat} {Q : Unit -> Shared -> Prop} (hu : knd.room A.in1) (hkey : knd.is s.heap k a) (hm : DictE knd s.heap d xs ep)
    (hQ : ∀ h', DictE knd h' d (storedH xs k a v) (epAt xs k ep) -> Heap.SameBut d s.heap h' -> Q () { s with heap := h', toks := s.toks + knd.draws k }) (hsz : xs.length <= sizeLine) :
    wpAny (model prog w) A (setItem (.ref d) (.ref a) v) Q E s := by
  have hT := hm.of.typeIs
  unfold setItem
  try with_reducible refine wpAny_holding ?_
  refine wpAny_bind (wpAny_sequenceKey hT (by decide) ?_)
  refine wpAny_bind (wpAny_callSpecial?_slot (name := Str.ofString "__setitem__") hT slot_dict_setitem
    (wpAny_call_entry slot_dict_setitem hT entry_dict_setitem ?_ (args_dict_setitem _ _ _)))
  show wpAny _ _ (Builtin.Dict.notOrdered "__setitem__" ⟨[.ref d, .ref a, v], []⟩ >>= _) _ _ s
  refine wpAny_bind (wpAny_notOrdered_dict hT ?_)
  show wpAny _ _ (dictSet d (.ref a) v >>= _) _ _ s
  refine wpAny_bind ?_
  unfold dictSet
  try with_reducible refine wpAny_holding ?_
  refine wpAny_bind (knd.pyHash hu hkey ?_)
  exact setHashedE (s := { s with toks := s.toks + knd.draws k }) hu hkey hm (fun h' hm' hs' => wpAny_pure ⟨.none, rfl, wpAny_pure (hQ h' hm' hs')⟩) hsz
theorem call_lenE {d : Addr} {xs : List (K × Addr × Value)} {ep : Nat} {Q : Value -> Shared -> Prop} (hd : (d == sysModules) = false) (hm : DictE knd s.heap d xs ep) (hfit : (xs.length : Int) < 2 ^ 63)
    (h : ∀ t k, Q (.int xs.length t) { s with toks := k }) : wpAny (model prog w) A (PySem.call (.builtin "len") [.ref d]) Q E s := by
  have hT := hm.of.typeIs
  obtain ⟨o, es, ho, hc, hdat, he, _⟩ := hm
  have hsz := size_of_entries he
  refine Calls.call_function_entry kind_len plain_len entry_len (args_len1 _) ?_
  unfold Builtin.«len»
  refine wpAny_bind (m := oneArg "len" _) (wpAny_pure ?_)
  refine wpAny_bind (m := callSpecial? (.ref d) (Str.ofString "__len__")) (wpAny_callSpecial?_slot (name := Str.ofString "__len__") hT F.slot_dict_len
    (wpAny_call_entry F.slot_dict_len hT F.entry_dict_len ?_ (F.args_dict_len_1 _)))
  show wpAny _ _ (dictSize d >>= _) _ _ s
  unfold dictSize
  refine wpAny_bind (wpAny_bind (wpAny_dictEntries ho hdat (wpAny_pure ?_)))
  show wpAny _ _ (Builtin.Dict.pendingCount d >>= _) _ _ s
  refine wpAny_bind (wpAny_pendingCount_other hd ?_)
  refine wpAny_ret_mkInt ?_
  have hz : ((es.size : Int) + ((0 : Nat) : Int)) = xs.length := by rw [hsz]; simp
  rw [hz]
  refine wpAny_bind (wpAny_holding (wpAny_pure ?_))
  refine wpAny_bind (wpAny_letGo ?_)
  show wpAny _ _ (if ((xs.length : Nat) : Int) < 0 then _ else _) _ _ _
  rw [if_neg (Int.not_lt.mpr (Int.natCast_nonneg _))]
  show wpAny _ _ (if ((xs.length : Nat) : Int) ≥ 2 ^ 63 then _ else _) _ _ _
  rw [if_neg (Int.not_le.mpr hfit)]
  exact wpAny_bind (wpAny_mkInt (wpAny_pure ⟨_, rfl, h _ _⟩))
noncomputable def epM (xs ys : List (K × Addr × Value)) (ep : Nat) : Nat := if xs = [] then (if ys = [] then ep else ep + 1) else ep + ((mergedH xs ys).length - xs.length)
theorem le_stored (xs : List (K × Addr × Value)) (k : K) (a : Addr) (v : Value) : xs.length <= (storedH xs k a v).length := by
  unfold storedH
  split
  · rw [List.length_map]; exact Nat.le_refl _
  · rw [List.length_append]; exact Nat.le_add_right _ _
theorem le_mergedH : ∀ (ys xs : List (K × Addr × Value)), xs.length <= (mergedH xs ys).length
  | [], xs => Nat.le_refl _
  | y :: ys, xs => Nat.le_trans (le_stored xs y.1 y.2.1 y.2.2) (le_mergedH ys (storedH xs y.1 y.2.1 y.2.2))
theorem epAt_len {zs : List (K × Addr × Value)} {m ep : Nat} {k : K} {a : Addr} {v : Value} (h : m <= zs.length) : epAt zs k (ep + (zs.length - m)) = ep + ((storedH zs k a v).length - m) := by
  unfold epAt storedH
  split
  · rw [List.length_map]
  · rw [List.length_append, List.length_singleton, Nat.sub_add_comm h, Nat.add_assoc]
theorem epM_loop {xs ys : List (K × Addr × Value)} {ep : Nat} (h : xs = [] -> ys = []) : epM xs ys ep = ep + ((mergedH xs ys).length - xs.length) := by
  unfold epM
  by_cases hx : xs = []
  · rw [if_pos hx, if_pos (h hx), hx, h hx]; simp [mergedH]
  · rw [if_neg hx]
theorem size_step {i n : Nat} (h : i < n) : n - i = (n - (i + 1)) + 1 := by rw [Nat.sub_add_eq, Nat.sub_add_cancel (Nat.le_sub_of_add_le' (Nat.succ_le_of_lt h))]
theorem forIn_upto {β : Type} (n : Nat) (b : β) (f : Nat -> β -> Sem (ForInStep β)) : forIn [:n] b f = forIn (List.range' 0 n) b f := by
  rw [Std.Legacy.Range.forIn_eq_forIn_range']
  simp only [Std.Legacy.Range.size, Nat.sub_zero, Nat.add_sub_cancel, Nat.div_one]
theorem mergeE {nm : String} {d o : Addr} {xs ys : List (K × Addr × Value)} {ep epo : Nat} {Q : Unit -> Shared -> Prop} (hu : knd.room A) (hdo : d ≠ o) (hoS : (o == sysModules) = false) (hd : DictE knd s.heap d xs ep) (ho : DictE knd s.heap o ys epo)
    (hT : ∀ y ∈ ys, s.TypeIs (.ref y.2.1) "tuple") (hk : xs = [] -> HashOk knd ys) (hsz : xs.length + ys.length <= sizeLine)
    (hQ : ∀ h', DictE knd h' d (mergedH xs ys) (epM xs ys ep) -> Heap.SameBut d s.heap h' -> Q () { s with heap := h' }) :
    wpAny (model prog w) A (Builtin.Dict.mergeDict nm d o) Q E s := by
  obtain ⟨od, esd, hod, hcd, hdd, hed, hid, hnd⟩ := id hd
  obtain ⟨oo, eso, hoo, hco, hdo', heo, hio, hno⟩ := id ho
  unfold Builtin.Dict.mergeDict
  rw [if_neg (by simpa using hdo)]
  unfold Builtin.Dict.showsAll
  rw [if_neg (by rw [hoS]; exact Bool.false_ne_true)]
  refine wpAny_bind (wpAny_pure ?_)
  refine wpAny_bind (wpAny_dictEntries hoo hdo' ?_)
  have hlen : eso.size = ys.length := size_of_entries heo
  have loop : (xs = [] -> ys = []) -> wpAny (model prog w) A (do
      let epoch <- dictEpoch o
      let l <- dictEntries o
      forIn [:l.size] PUnit.unit fun i (_ : PUnit) => (do
          let l' <- dictEntries o
          match l'[i]? with
            | some e => do
              holding [e.key, e.val] (dictSetHashed d e.key e.hash e.val)
              let ep' <- dictEpoch o
              if (ep' != epoch) = true then do
                  (unsupported (toString nm ++ toString ":source-changed-during-callback") : Sem PUnit)
                  pure (ForInStep.yield PUnit.unit)
                else pure (ForInStep.yield PUnit.unit)
            | _ => do
              (unsupported "internal:dict-merge" : Sem PUnit)
              pure (ForInStep.yield PUnit.unit) : Sem (ForInStep PUnit))
      pure ()) Q E s := fun hloop => by
    refine wpAny_bind (wpAny_dictEpoch hoo hdo' ?_)
    refine wpAny_bind (wpAny_dictEntries hoo hdo' ?_)
    refine wpAny_bind ?_
    rw [forIn_upto]
    refine wpAny_forIn_list _
      (fun rest _ s' => ∃ h' i, s' = { s with heap := h' } /\ rest = List.range' i (eso.size - i) /\ i <= eso.size /\ DictE knd h' d (mergedH xs (ys.take i)) (ep + ((mergedH xs (ys.take i)).length - xs.length)) /\ h'.get? o = some oo /\ (∀ y ∈ ys, knd.is h' y.1 y.2.1) /\ Heap.SameBut d s.heap h')
      _ ?_ ?_ _ _ ⟨s.heap, 0, rfl, by simp, Nat.zero_le _, by simpa [mergedH] using hd, hoo, hio, Heap.SameBut.refl _ _⟩
    · rintro x rest b s' ⟨h', i, rfl, hr, hi, hd', hoo', hio', hs'⟩
      have hlt : i < eso.size := by
        rcases Nat.lt_or_ge i eso.size with h | h
        · exact h
        · rw [Nat.sub_eq_zero_of_le h] at hr; simp at hr
      obtain ⟨rfl, hrest⟩ : x = i /\ rest = List.range' (i + 1) (eso.size - (i + 1)) := by
        rw [size_step hlt, List.range'_succ] at hr
        injection hr with h1 h2
        exact ⟨h1, h2⟩
      refine wpAny_bind (wpAny_dictEntries hoo' hdo' ?_)
      obtain ⟨y, hy⟩ : ∃ y, ys[x]? = some y := ⟨ys[x]'(hlen ▸ hlt), List.getElem?_eq_getElem _⟩
      rw [entry_at heo x, hy]
      show wpAny _ _ (holding [.ref y.2.1, y.2.2] (dictSetHashed d (.ref y.2.1) (knd.hash y.1) y.2.2) >>= _) _ _ _
      have hmx : (mergedH xs (ys.take x)).length <= sizeLine := Nat.le_trans (mergedH_len _ _) (Nat.le_trans (Nat.add_le_add_left (List.length_take_le' ..) _) hsz)
      refine wpAny_bind (wpAny_holding (setHashedE hu (hio' y (List.mem_of_getElem? hy)) hd' (fun h'' hd'' hs'' => ?_) hmx))
      have hoo'' : h''.get? o = some oo := (hs''.2 o (Ne.symm hdo)).trans hoo'
      obtain ⟨od', es', hod', _, hdd', _⟩ := hd'
      refine wpAny_bind (wpAny_dictEpoch hoo'' hdo' ?_)
      rw [if_neg (by simp)]
      exact wpAny_pure ⟨h'', x + 1, rfl, hrest, hlt, by rw [mergedH_take xs ys x y hy, <- epAt_len (le_mergedH _ _)]; exact hd'', hoo'', fun z hz => knd.keeps (hio' z hz) hod' hdd' hs'', hs'.trans hs''⟩
    · rintro b s' ⟨h', i, rfl, hr, hi, hd', hoo', hio', hs'⟩
      have hin : i = eso.size := by
        rcases Nat.lt_or_ge i eso.size with h | h
        · rw [size_step h, List.range'_succ] at hr; exact nomatch hr
        · exact Nat.le_antisymm hi h
      refine wpAny_pure (hQ h' ?_ hs')
      rw [hin, hlen, List.take_length] at hd'
      rw [epM_loop hloop]; exact hd'
  dsimp only
  split
  · refine wpAny_bind (wpAny_dictEntries hod hdd ?_)
    split
    · rename_i hemp
      have hxs : xs = [] := by
        have h0 : esd = #[] := Array.isEmpty_iff.mp hemp
        have := size_of_entries hed; rw [h0] at this; exact List.length_eq_zero_iff.mp (by simpa using this.symm)
      subst hxs
      refine wpAny_bind (entries_heap (knd := knd) hoo hdo' heo hT (hk rfl) ?_)
      have hm : mergedH [] ys = ys := by rw [mergedH_fresh ys [] (by simpa using hno)]; simp
      rw [hm] at hQ
      unfold epM at hQ
      split
      · rename_i hne
        have hys : ys ≠ [] := fun q => by
          have : eso.size = 0 := by rw [hlen, q]; rfl
          rw [Array.size_eq_zero_iff.mp this] at hne
          exact absurd hne (by decide)
        rw [if_pos rfl, if_neg hys] at hQ
        have hto : eso.size <= sizeLine + 1 := Nat.le_succ_of_le (hlen ▸ Nat.zero_add ys.length ▸ hsz)
        refine wpAny_bind (wpAny_updateDictKeysTo hod hdd (wpAny_pure (hQ _ ⟨_, _, Heap.get?_update_self _ hod (Obj.isFreed_of_dict (Obj.data_mapDictKeys hdd _)), hcd.mapDictKeys _,
          Obj.data_mapDictKeys hdd _, heo, fun y hy => knd.keeps (hio y hy) hod hdd (Heap.SameBut.update ..), hno⟩ (Heap.SameBut.update ..))) hto)
      · rename_i hne
        have h0 : eso = #[] := Array.isEmpty_iff.mp (by simpa using hne)
        have hm0 : ys = [] := List.length_eq_zero_iff.mp (by rw [<- hlen, h0]; rfl)
        subst hm0
        exact wpAny_pure (hQ _ hd (Heap.SameBut.refl _ _))
    · rename_i hemp
      refine loop fun q => absurd ?_ hemp
      subst q
      have := size_of_entries hed
      rw [Array.isEmpty_iff, <- Array.size_eq_zero_iff, this]; rfl
  · rename_i hfew
    refine loop fun _ => ?_
    have hf : (decide (eso.size <= 8) && eso.all fun e => (keyPart e.key).isSome) = true := by
      cases h : (decide (eso.size <= 8) && eso.all fun e => (keyPart e.key).isSome) with
      | true => rfl
      | false => exact absurd (by rw [h]; rfl) hfew
    rw [Bool.and_eq_true, Array.all_eq_true'] at hf
    cases ys with
    | nil => rfl
    | cons y ys =>
      have hm : entryOfKey knd y ∈ eso := Array.mem_toList_iff.mp (by rw [heo]; exact List.mem_map.mpr ⟨y, List.mem_cons_self .., rfl⟩)
      have := hf.2 _ hm
      exact absurd this Bool.false_ne_true
theorem call_updateE {d o : Addr} {xs ys : List (K × Addr × Value)} {ep epo : Nat} {Q : Value -> Shared -> Prop} (hu : knd.room A.in1) (hdo : d ≠ o) (hoS : (o == sysModules) = false) (hd : DictE knd s.heap d xs ep) (ho : DictE knd s.heap o ys epo)
    (hT : ∀ y ∈ ys, s.TypeIs (.ref y.2.1) "tuple") (hk : xs = [] -> HashOk knd ys) (hsz : xs.length + ys.length <= sizeLine)
    (hQ : ∀ h', DictE knd h' d (mergedH xs ys) (epM xs ys ep) -> Heap.SameBut d s.heap h' -> Q .none { s with heap := h' }) :
    wpAny (model prog w) A (PySem.call (.builtin "dict.update") [.ref d, .ref o]) Q E s := by
  refine wpAny_call_entry F.slot_dict_update hd.of.typeIs F.entry_dict_update ?_ (F.args_dict_update_2 _ _)
  unfold Builtin.«dict.update»
  refine wpAny_bind ?_
  unfold Builtin.Dict.selfAndRest
  refine wpAny_bind (wpAny_notOrdered_dict hd.of.typeIs ?_)
  show wpAny _ _ (pure (d, [Value.ref o])) _ _ s
  refine wpAny_pure ?_
  show wpAny _ _ (Builtin.Dict.updateFrom "dict.update" d (.ref o) [] .none) _ _ s
  unfold Builtin.Dict.updateFrom
  refine wpAny_bind (wpAny_typeOf ho.of.typeIs ?_)
  rw [if_neg (by decide)]
  refine wpAny_bind ?_
  unfold Builtin.Dict.merge
  refine wpAny_bind ?_
  · unfold Builtin.Dict.readDirectly
    refine wpAny_bind (wpAny_isInstance ho.of.typeIs isSubtype_dict_dict ?_)
    simp only [Bool.not_true, Bool.false_eq_true, if_false]
    refine wpAny_bind (wpAny_specialOf ho.of.typeIs F.slot_dict_iter.lookup (wpAny_pure ?_))
    simp only [beq_self_eq_true, if_true]
    refine wpAny_bind (wpAny_pure ?_)
    refine mergeE hu hdo hoS hd ho hT hk hsz fun h' hd' hs' => ?_
    show wpAny _ _ (Builtin.Dict.addKeywords d [] >>= _) _ _ _
    exact wpAny_bind (wpAny_pure (wpAny_pure ⟨.none, rfl, hQ h' hd' hs'⟩))
end
section
variable {prog : Program} {w : World} {K : Type} [DecidableEq K] {knd : HeapKind prog w K} {A : Around} {E : Value -> Shared -> Prop} {s : Shared}
theorem call_clearE {d : Addr} {xs : List (K × Addr × Value)} {ep : Nat} {Q : Value -> Shared -> Prop} (hd : DictE knd s.heap d xs ep) (hsz : xs.length <= sizeLine)
    (hQ : ∀ h', DictE knd h' d [] (ep + 1) -> Heap.SameBut d s.heap h' -> Q .none { s with heap := h' }) : wpAny (model prog w) A (PySem.call (.builtin "dict.clear") [.ref d]) Q E s := by
  obtain ⟨o, es, ho, hc, hdat, hes, _, _⟩ := id hd
  refine wpAny_call_entry F.slot_dict_clear hd.of.typeIs F.entry_dict_clear ?_ (F.args_dict_clear_1 _)
  unfold Builtin.«dict.clear»
  refine wpAny_bind ?_
  unfold Builtin.Dict.noArgs
  refine wpAny_bind (wpAny_notOrdered_dict hd.of.typeIs ?_)
  show wpAny _ _ (pure d) _ _ s
  refine wpAny_pure ?_
  refine wpAny_bind (wpAny_dictEntries ho hdat ?_)
  refine wpAny_bind ?_
  unfold bearsInstanceDictMark
  refine wpAny_bind (wpAny_load ho (wpAny_pure ?_))
  refine wpAny_bind (wpAny_updateDictKeys (hz := size_of_entries hes ▸ hsz) ho hdat ?_)
  have hnew : DictE knd (s.heap.update d (Obj.mapDictKeys fun _ => #[])) d [] (ep + 1) :=
    ⟨_, _, Heap.get?_update_self _ ho (Obj.isFreed_of_dict (Obj.data_mapDictKeys hdat _)), hc.mapDictKeys _, Obj.data_mapDictKeys hdat _, rfl, (fun _ q => nomatch q), List.nodup_nil⟩
  split
  · exact wpAny_bind (wpAny_letGo (wpAny_pure ⟨.none, rfl, hQ _ hnew (Heap.SameBut.update ..)⟩))
  · exact wpAny_bind (wpAny_pure (wpAny_pure ⟨.none, rfl, hQ _ hnew (Heap.SameBut.update ..)⟩))
theorem call_dictE {o : Addr} {ys : List (K × Addr × Value)} {epo : Nat} {Q : Value -> Shared -> Prop} (grow : ∀ {h h' : Heap} {k : K} {a : Addr}, knd.is h k a -> (∀ b ob, h.get? b = some ob -> h'.get? b = some ob) -> knd.is h' k a) (hu : knd.room A.in1.in1) (hoS : (o == sysModules) = false) (ho : DictE knd s.heap o ys epo) (hT : ∀ y ∈ ys, s.TypeIs (.ref y.2.1) "tuple") (hk : HashOk knd ys) (hsz : ys.length <= sizeLine)
    (hQ : ∀ h', DictE knd h' s.heap.objs.size ys (epM [] ys 0) -> Heap.SameBut s.heap.objs.size (s.heap.push { cls := .type "dict", data := .dict #[] }) h' -> Q (.ref s.heap.objs.size) { s with heap := h' }) :
    wpAny (model prog w) A (PySem.call (.type "dict") [.ref o]) Q E s := by
  refine callType_codes (Q₁ := fun obj s₁ => obj = .ref s.heap.objs.size /\ s₁ = { s with heap := s.heap.push { cls := .type "dict", data := .dict #[] } }) F.kt_called_dict (F.kt_typeCall_dict_1 _) F.entry_dict_init (kt_code_dict_new _ ⟨rfl, rfl⟩) ?_
  rintro obj s₁ ⟨rfl, rfl⟩
  have kp : ∀ a ob, s.heap.get? a = some ob -> (s.heap.push { cls := .type "dict", data := .dict #[] }).get? a = some ob := fun a ob e => Heap.get?_push_of_some _ e
  have hnew : DictE knd (s.heap.push { cls := .type "dict", data := .dict #[] }) s.heap.objs.size [] 0 := ⟨_, _, Heap.get?_push_size _ rfl, ⟨rfl, rfl, rfl⟩, rfl, rfl, (fun _ q => nomatch q), List.nodup_nil⟩
  obtain ⟨oo, es, hg, hc, hdat, hes, his, hn⟩ := ho
  have ho' : DictE knd (s.heap.push { cls := .type "dict", data := .dict #[] }) o ys epo := ⟨oo, es, kp _ _ hg, hc, hdat, hes, fun x hx => grow (his x hx) kp, hn⟩
  have hdo : s.heap.objs.size ≠ o := fun e => absurd (Heap.lt_size hg) (by rw [e]; exact Nat.lt_irrefl _)
  have hT' : ∀ y ∈ ys, ({ s with heap := s.heap.push { cls := .type "dict", data := .dict #[] } } : Shared).TypeIs (.ref y.2.1) "tuple" := fun y hy => by
    obtain ⟨ob, e, c⟩ := hT y hy
    exact ⟨ob, kp _ _ e, c⟩
  refine ⟨hnew.of.typeIs, F.args_dict_init_2 _ _, ?_⟩
  unfold Builtin.«dict.__init__»
  refine wpAny_bind ?_
  unfold Builtin.Dict.selfAndRest
  refine wpAny_bind (wpAny_notOrdered_dict hnew.of.typeIs ?_)
  show wpAny _ _ (pure (s.heap.objs.size, [Value.ref o])) _ _ _
  refine wpAny_pure ?_
  show wpAny _ _ (Builtin.Dict.updateFrom "dict.__init__" s.heap.objs.size (.ref o) [] .none) _ _ _
  unfold Builtin.Dict.updateFrom
  refine wpAny_bind (wpAny_typeOf ho'.of.typeIs ?_)
  rw [if_neg (by decide)]
  refine wpAny_bind ?_
  unfold Builtin.Dict.merge
  refine wpAny_bind ?_
  unfold Builtin.Dict.readDirectly
  refine wpAny_bind (wpAny_isInstance ho'.of.typeIs isSubtype_dict_dict ?_)
  simp only [Bool.not_true, Bool.false_eq_true, if_false]
  refine wpAny_bind (wpAny_specialOf ho'.of.typeIs F.slot_dict_iter.lookup (wpAny_pure ?_))
  simp only [beq_self_eq_true, if_true]
  refine wpAny_bind (wpAny_pure ?_)
  refine mergeE (knd := knd) hu hdo hoS hnew ho' hT' (fun _ => hk) (by rw [List.length_nil, Nat.zero_add]; exact hsz) fun h' hd' hs' => ?_
  show wpAny _ _ (Builtin.Dict.addKeywords s.heap.objs.size [] >>= _) _ _ _
  rw [mergedH_fresh ys [] hn] at hd'
  exact wpAny_bind (wpAny_pure (wpAny_pure ⟨rfl, hQ h' hd' hs'⟩))
theorem samePairsE {nm : String} {a b : Addr} {xs ys : List (K × Addr × Value)} {ep ep' : Nat} {Q : Bool -> Shared -> Prop} (hu : knd.room A) (ha : (a == sysModules) = false) (hb : (b == sysModules) = false) (da : DictE knd s.heap a xs ep) (db : DictE knd s.heap b ys ep') (hl : xs.length = ys.length)
    (hits : ∀ x ∈ xs, ∃ p, atKey ys x.1 = some p /\ PySem.SeqAt.EqAt A s x.2.2 p.2 true) (h : Q true s) : wpAny (model prog w) A (Builtin.Dict.samePairs nm a b) Q E s := by
  obtain ⟨oa, es, hoa, _, hda, hes, hia, _⟩ := da
  obtain ⟨ob, es', hob, _, hdb, hes', hib, hnb⟩ := db
  have la : es.size = xs.length := size_of_entries hes
  have lb : es'.size = ys.length := size_of_entries hes'
  unfold Builtin.Dict.samePairs Builtin.Dict.showsAll
  rw [if_neg (show ¬ (a == sysModules) = true by rw [ha]; exact Bool.false_ne_true), if_neg (show ¬ (b == sysModules) = true by rw [hb]; exact Bool.false_ne_true)]
  refine wpAny_bind (wpAny_pure (wpAny_bind (wpAny_pure ?_)))
  refine wpAny_bind (wpAny_dictEntries hoa hda ?_)
  dsimp only
  refine wpAny_bind (wpAny_dictEntries hob hdb ?_)
  rw [if_neg (by rw [la, lb, hl]; simp)]
  refine wpAny_bind (wpAny_dictEpoch hoa hda ?_)
  refine wpAny_bind ?_
  rw [forIn_upto]
  refine wpAny_forIn_list _
    (fun rest q s' => s' = s /\ q = (none, ()) /\ ∃ i, rest = List.range' i (es.size - i) /\ i <= es.size)
    _ ?_ ?_ _ _ ⟨rfl, rfl, 0, rfl, Nat.zero_le _⟩
  · rintro x rest q s' ⟨rfl, rfl, i, hr, hi⟩
    have hlt : i < es.size := by
      rcases Nat.lt_or_ge i es.size with h | h
      · exact h
      · rw [Nat.sub_eq_zero_of_le h] at hr; cases hr
    obtain ⟨rfl, hrest⟩ : x = i /\ rest = List.range' (i + 1) (es.size - (i + 1)) := by
      rw [size_step hlt, List.range'_succ] at hr
      injection hr with h1 h2
      exact ⟨h1, h2⟩
    refine wpAny_bind (wpAny_dictEntries hoa hda ?_)
    obtain ⟨y, hy⟩ : ∃ y, xs[x]? = some y := ⟨xs[x]'(la ▸ hlt), List.getElem?_eq_getElem _⟩
    have hm := List.mem_of_getElem? hy
    rw [entry_at hes x, hy]
    obtain ⟨p, hp, he⟩ := hits y hm
    show wpAny _ _ (holding [.ref y.2.1, y.2.2] (dictFind b (.ref y.2.1) (knd.hash y.1) >>= _) >>= _) _ _ _
    refine wpAny_bind (wpAny_holding (wpAny_bind (wpAny_dictFind_heap hu (hia y hm) hob hdb hes' hib hnb (fun no => ?_) fun j p' hj => ?_)))
    · rw [atKey_none_of_get no] at hp; cases hp
    · rw [atKey_of_get hnb hj] at hp
      cases hp
      refine wpAny_bind (wpAny_dictEntries hob hdb ?_)
      rw [entry_at hes' j, hj]
      refine wpAny_holding (he prog w _ _ ?_)
      show wpAny _ _ (if (!true) = true then _ else _) _ _ _
      rw [if_neg (by decide)]
      refine wpAny_bind (wpAny_dictEpoch hoa hda ?_)
      rw [if_neg (by simp)]
      exact wpAny_pure ⟨rfl, rfl, x + 1, hrest, hlt⟩
  · rintro q s' ⟨rfl, rfl, _⟩
    exact wpAny_pure h
theorem eqE {a b : Addr} {xs ys : List (K × Addr × Value)} {ep ep' : Nat} {Q : Value -> Shared -> Prop} (hr : knd.room A.in1) (hu : A.units < cLine) (ha : (a == sysModules) = false) (hb : (b == sysModules) = false) (da : DictE knd s.heap a xs ep) (db : DictE knd s.heap b ys ep') (hl : xs.length = ys.length)
    (hits : ∀ x ∈ xs, ∃ p, atKey ys x.1 = some p /\ PySem.SeqAt.EqAt A.in1 s x.2.2 p.2 true) (h : Q (.bool true) s) : wpAny (model prog w) A (compareOp .Eq (.ref a) (.ref b)) Q E s := by
  refine wpAny_richCompare_same_room (op := .Eq) da.of.typeIs db.of.typeIs PySem.F.slot_dict_eq (wpAny_call_entry PySem.F.slot_dict_eq da.of.typeIs PySem.F.entry_dict_eq ?_ (PySem.F.args_dict_eq_2 _ _)) hu
  show wpAny _ _ (Builtin.Dict.dictSlotArgs "__eq__" ⟨[.ref a, .ref b], []⟩ >>= _) _ _ s
  refine wpAny_bind ?_
  unfold Builtin.Dict.dictSlotArgs
  refine wpAny_bind (wpAny_notOrdered_dict da.of.typeIs ?_)
  show wpAny _ _ (pure (Value.ref a, Value.ref b)) _ _ s
  refine wpAny_pure ?_
  refine wpAny_bind (wpAny_isInstance (T := "dict") db.of.typeIs PySem.F.sub_dict_dict ?_)
  simp only [Bool.not_true, Bool.false_eq_true, if_false]
  refine wpAny_bind (wpAny_pure (wpAny_bind (wpAny_pure ?_)))
  refine wpAny_bind (samePairsE hr ha hb da db hl hits ?_)
  refine wpAny_pure ⟨_, rfl, ?_, ?_⟩
  · exact fun x => nomatch x
  · exact h
end
end Mine
namespace Mine
open PySem PyProof.Rows
section
variable {κ : Ct} {ρ : Rho} {vs : List (V × Value)} {H : Hp}
noncomputable def cmOf : Cm -> CmpOp
  | .eq => .Eq
  | .ne => .NotEq
  | .lt => .Lt
  | .le => .LtE
  | .gt => .Gt
  | .isIn => .In
  | .notIn => .NotIn
  | .is => .Is
  | .isNot => .IsNot
theorem At.units {η : List Addr} {s : Shared} (a : At κ η ρ H s) : κ.A.units + 64 < cLine := by
  exact Nat.lt_of_le_of_lt (Nat.add_le_add (Nat.le_add_right _ _) (by decide)) a.room.units
theorem At.pair {η : List Addr} {s : Shared} (a : At κ η ρ H s) : (pairKind κ.X.prog κ.X.w).room κ.A.in1 :=
  Nat.lt_of_le_of_lt (Nat.add_le_add_left (by decide : 1 + 3 <= 64) κ.A.units) a.units
theorem eqV_ok {op : Cm} {a b : V} {ma mb : Value} {r : Bool} (hop : op = .eq \/ op = .ne) (ha : (a, ma) ∈ vs) (hb : (b, mb) ∈ vs) (he : eqV H a b = some r) :
    Tri κ ρ vs (compareOp (cmOf op) ma mb) H (.ok (.bool (if op = .eq then r else !r)) H) rV := by
  refine Tri.plain fun η s Q E at' hv hq => ?_
  obtain ⟨x, e1, he⟩ := Option.bind_eq_some_iff.mp (show (snap 8 H a).bind (fun x => (snap 8 H b).bind fun y => some (PyData.eqv x y)) = some r from he)
  obtain ⟨y, e2, he⟩ := Option.bind_eq_some_iff.mp he
  cases he
  obtain ⟨as, ra, c1, d1⟩ := snap_reads at'.inv 8 (hv _ ha) e1
  obtain ⟨bs, rb, c2, d2⟩ := snap_reads at'.inv 8 (hv _ hb) e2
  rcases hop with rfl | rfl
  · exact PySem.SeqAt.compareEq_shaped ra rb (shaped_of c1 d1 (by decide)) (shaped_of c2 d2 (by decide)) at'.units (hq _ s.toks (.bool _))
  · exact PySem.SeqAt.compareNe_shaped ra rb (shaped_of c1 d1 (by decide)) (shaped_of c2 d2 (by decide)) at'.units (hq _ s.toks (.bool _))
theorem keysAt_inv {H : Hp} {v : V} {ks : List Int} (e : keysAt v H = some ks) : ∃ k, v = .ref k /\ H[k]? = some (.keys ks) := by
  obtain ⟨k, e1, e2⟩ := Option.bind_eq_some_iff.mp e
  obtain ⟨o, e3, e4⟩ := Option.bind_eq_some_iff.mp e2
  refine ⟨k, refAt_inv e1, e3.trans (congrArg some ?_)⟩
  cases o <;> cases e4; rfl
theorem keys_of_H {X : Cx} {H : Hp} {η : List Addr} {h : Heap} {k : Nat} {a : Addr} {ks : List Int} (i : Inv X η H h) (ha : η[k]? = some a) (hk : H[k]? = some (.keys ks)) :
    ∃ kvs, h.DictOf (intKind X.prog X.w) a kvs /\ kvs.map (·.1) = ks /\ ks.length <= line /\ (a == sysModules) = false := by
  obtain ⟨ob, g, o⟩ := i.objs k a _ ha hk
  cases o with
  | keys d e l =>
    refine ⟨_, Heap.dictOf_iff.mpr ⟨ob, g, d⟩, e, l, ?_⟩
    rw [beq_eq_false_iff_ne]
    rintro rfl
    obtain ⟨o, q⟩ := Option.isSome_iff_exists.mp X.sysm
    have := X.kin _ _ q
    rw [i.fresh _ (List.mem_of_getElem? ha)] at this
    cases this
theorem valueAt_keys (kvs : List (Int × Value)) (k : Int) : (valueAt kvs k).isSome = (kvs.map (·.1)).contains k := by
  unfold valueAt
  induction kvs with
  | nil => rfl
  | cons p kvs ih =>
    rw [List.find?_cons, List.map_cons, List.contains_cons]
    by_cases hk : p.1 = k
    · simp [hk]
    · have : (k == p.1) = false := by simpa using fun q => hk q.symm
      simp only [hk, decide_false, this, Bool.false_or]
      exact ih
theorem tabAt_inv {H : Hp} {v : V} {p : List (Key × V) × Nat} (e : tabAt v H = some p) : ∃ k, v = .ref k /\ H[k]? = some (.tab p.1 p.2) := by
  obtain ⟨k, e1, e2⟩ := Option.bind_eq_some_iff.mp e
  obtain ⟨o, e3, e4⟩ := Option.bind_eq_some_iff.mp e2
  refine ⟨k, refAt_inv e1, e3.trans (congrArg some ?_)⟩
  cases o <;> cases e4; rfl
theorem intsV_inv : ∀ {vs : List V} {ns : List Int}, intsV vs = some ns -> vs = ns.map .int
  | [], ns, e => by cases e; rfl
  | v :: vs, ns, e => by
    unfold intsV at e
    rw [List.mapM_cons] at e
    obtain ⟨i, h1, e⟩ := Option.bind_eq_some_iff.mp e
    obtain ⟨is, h2, e⟩ := Option.bind_eq_some_iff.mp e
    cases e
    cases v with
    | int j => cases h1; rw [List.map_cons, intsV_inv (vs := vs) h2]
    | _ => cases h1
theorem tupAt_inv {v : V} {vs : List V} (e : tupAt v = some vs) : v = .tup vs := by cases v <;> cases e; rfl
theorem keyAt_inv {v : V} {k : Key} (e : keyAt v = some k) : v = keyV k := by
  unfold keyAt at e
  split at e
  · rename_i a b
    cases h1 : (tupAt a).bind intsV with
    | none => rw [h1] at e; cases e
    | some ks =>
      rw [h1] at e
      cases h2 : intAt b with
      | none => rw [h2] at e; cases e
      | some i =>
        rw [h2] at e
        cases e
        obtain ⟨vs, h3, h4⟩ := Option.bind_eq_some_iff.mp h1
        have ea := tupAt_inv h3
        have eb : b = .int i := by cases b <;> cases h2; rfl
        subst eb; subst ea
        rw [intsV_inv h4]; rfl
  · cases e
section
variable {X : Cx} {η : List Addr} {h : Heap}
theorem items_are : ∀ {ks : List Int} {ms : List Value}, VRs X η h (ks.map .int) ms -> ItemsAre (intKind X.prog X.w) ks ms
  | [], _, r => by cases r; exact .nil
  | k :: ks, _, r => by
    cases r with
    | cons a b => cases a; exact .cons (by simp [intKind, Value.isInt]) (items_are b)
theorem key_of {k : Key} {m : Value} (r : VR X η h (keyV k) m) : ∃ a, m = .ref a /\ IsPairKey X.prog X.w h k a := by
  cases r with
  | tup g n r l =>
    rename_i a items c
    refine ⟨a, rfl, { cls := .type "tuple", data := .seq items c }, items, c, ?_⟩
    cases hi : items.toList with
    | nil => rw [hi] at r; cases r
    | cons x xs =>
      rw [hi] at r
      cases r with
      | cons ra rb =>
        cases rb with
        | cons rc rd =>
          cases rd
          cases rc
          cases ra with
          | tup g2 n2 r2 l2 => exact ⟨_, _, g, rfl, rfl, rfl, _, _, _, g2, rfl, rfl, items_are r2⟩
theorem TRs.rows {xs : List (Key × V)} {ds : List DictEntry} (r : TRs X η h xs ds) : ∃ ys : List (Key × Addr × Value), ds = ys.map (entryOfKey (pairKind X.prog X.w)) /\ ys.map (·.1) = xs.map (·.1) /\ (∀ y ∈ ys, IsPairKey X.prog X.w h y.1 y.2.1 /\ VR X η h (keyV y.1) (.ref y.2.1)) /\ VRs X η h (xs.map (·.2)) (ys.map (·.2.2)) := by
  induction r with
  | nil => exact ⟨[], rfl, rfl, fun _ q => (nomatch q), .nil⟩
  | @cons k v xs e ds a b c _ ih =>
    obtain ⟨ys, i1, i2, i3, i4⟩ := ih
    obtain ⟨p, e1, hp⟩ := key_of b
    refine ⟨(k, p, e.val) :: ys, ?_, by rw [List.map_cons, List.map_cons, i2], fun y hy => ?_, .cons c i4⟩
    · rw [List.map_cons, <- i1]
      refine congrArg (· :: ds) ?_
      obtain ⟨eh, ek, ev⟩ := e
      dsimp only at a e1
      subst a; subst e1; rfl
    · rcases List.mem_cons.mp hy with rfl | hy
      · exact ⟨hp, e1 ▸ b⟩
      · exact i3 y hy
theorem tab_of_H {H : Hp} {k : Nat} {a : Addr} {p : List (Key × V) × Nat} (i : Inv X η H h) (ha : η[k]? = some a) (hk : H[k]? = some (.tab p.1 p.2)) :
    ∃ ys, DictE (pairKind X.prog X.w) h a ys p.2 /\ ys.map (·.1) = p.1.map (·.1) /\ (∀ y ∈ ys, VR X η h (keyV y.1) (.ref y.2.1)) /\ VRs X η h (p.1.map (·.2)) (ys.map (·.2.2)) /\ p.1.length <= 100000 /\ (a == sysModules) = false := by
  obtain ⟨ob, g, o⟩ := i.objs k a _ ha hk
  cases o with
  | tab d e l =>
    obtain ⟨ys, e1, e2, e3, e4⟩ := d.rows
    refine ⟨ys, ⟨_, _, g, ⟨rfl, rfl, rfl⟩, rfl, e1, fun y hy => (e3 y hy).1, by rw [e2]; exact e⟩, e2, fun y hy => (e3 y hy).2, e4, l, ?_⟩
    rw [beq_eq_false_iff_ne]
    rintro rfl
    obtain ⟨o, q⟩ := Option.isSome_iff_exists.mp X.sysm
    have := X.kin _ _ q
    rw [i.fresh _ (List.mem_of_getElem? ha)] at this
    cases this
end
theorem contains_heap {prog : Program} {w : World} {K : Type} [DecidableEq K] {knd : HeapKind prog w K} {A : Around} {E : Value -> Shared -> Prop} {s : Shared} {d a : Addr} {k : K} {xs : List (K × Addr × Value)} {Q : Bool -> Shared -> Prop} (hu : knd.room A.in1) (hkey : knd.is s.heap k a) (hd : (d == sysModules) = false) (hm : s.heap.DictOfH knd d xs)
    (h : Q (atKey xs k).isSome { s with toks := s.toks + knd.draws k }) : wpAny (model prog w) A (contains (.ref d) (.ref a)) Q E s := by
  unfold contains
  try with_reducible refine wpAny_holding ?_
  refine wpAny_bind (wpAny_specialOf hm.typeIs slot_dict_contains.lookup ?_)
  show wpAny _ _ (if (some (Value.builtin "dict.__contains__") == some Value.none) = true then _ else _) _ E s
  rw [if_neg (by rw [beq_builtin_none]; exact Bool.false_ne_true)]
  refine wpAny_bind (wpAny_callSpecialUnlessNone?_slot (name := Str.ofString "__contains__") hm.typeIs slot_dict_contains
    (wpAny_call_entry slot_dict_contains hm.typeIs entry_dict_contains ?_ (args_dict_contains _ _)))
  show wpAny _ _ (dictGet d (.ref a) >>= _) _ _ s
  refine wpAny_bind (wpAny_dictGet_heap hu hkey hm ?_)
  cases hf : atKey xs k with
  | some p =>
    rw [hf] at h
    show wpAny _ _ (ret (.bool true)) _ _ _
    exact wpAny_pure ⟨_, rfl, wpAny_truthy_bool h⟩
  | none =>
    rw [hf] at h
    show wpAny _ _ (Builtin.Dict.pendingKey? d (.ref a) >>= _) _ _ _
    exact wpAny_bind (wpAny_pendingKey_other hd (wpAny_pure ⟨_, rfl, wpAny_truthy_bool h⟩))
theorem atKey_mem {K : Type} [DecidableEq K] (xs : List (K × Addr × Value)) (k : K) : (atKey xs k).isSome = true ↔ k ∈ xs.map (·.1) := by
  unfold atKey
  induction xs with
  | nil => simp
  | cons p xs ih =>
    rw [List.find?_cons, List.map_cons, List.mem_cons]
    by_cases hk : p.1 = k
    · simp [hk]
    · simp only [hk, decide_false, ih]
      exact ⟨.inr, fun h => h.resolve_left fun q => hk q.symm⟩
theorem isIn_ok {op : Cm} {a b : V} {ma mb : Value} {r : Bool} (hop : op = .isIn \/ (op = .notIn /\ keysAt b H = Option.none)) (ha : (a, ma) ∈ vs) (hb : (b, mb) ∈ vs) (he : isIn H a b = some r) : Tri κ ρ vs (compareOp (cmOf op) ma mb) H (.ok (.bool (if op = .isIn then r else !r)) H) rV := by
  refine Tri.plain fun η s Q E at' hv hq => ?_
  have vb := hv _ hb
  have hu : ∀ (ys : List PyData) (x : PyData), x.depth <= 8 -> κ.A.units + 1 + min (PyData.depthAll ys) x.depth < cLine := fun ys x d => Nat.lt_of_le_of_lt (Nat.add_le_add_left (Nat.le_trans (Nat.min_le_right _ _) d) _) (Nat.lt_of_le_of_lt (Nat.add_le_add_left (by decide : 1 + 8 <= 64) κ.A.units) at'.units)
  have key : (match listAt b H with | some vs => inTup H a vs | Option.none => inKeys H a b) = some r -> wpAny κ.X.M κ.A (compareOp (cmOf op) ma mb) Q E s := fun he => by
    cases hx : listAt b H with
    | some vs =>
      rw [hx] at he
      obtain ⟨x, e1, he⟩ := Option.bind_eq_some_iff.mp (show inTup H a vs = some _ from he)
      obtain ⟨ys, e2, rfl⟩ := Option.map_eq_some_iff.mp he
      obtain ⟨as, ra, c1, d1⟩ := snap_reads at'.inv 8 (hv _ ha) e1
      obtain ⟨l, items, c, rfl, g, r, _⟩ := vr_list at'.inv vb hx
      obtain ⟨bs, rb, c2, d2⟩ := mapM_reads (snap_reads at'.inv 8) r e2
      rcases hop with rfl | ⟨rfl, _⟩
      · exact PySem.SeqAt.in_list_reads (.list g rfl rfl rb) ra c2 c1 (hu ys x d1) (hq _ s.toks (.bool _))
      · exact PySem.SeqAt.notIn_list_reads (.list g rfl rfl rb) ra c2 c1 (hu ys x d1) (hq _ s.toks (.bool _))
    | none =>
      rw [hx] at he
      unfold inKeys at he
      cases hk : keysAt b H with
      | some ks =>
        rw [hk] at he
        rcases hop with rfl | ⟨_, q⟩
        · obtain ⟨k, hi, rfl⟩ := Option.map_eq_some_iff.mp he
          obtain ⟨t, rfl⟩ := vr_int (hv _ ha) hi
          obtain ⟨n, rfl, hn⟩ := keysAt_inv hk
          cases vb with
          | ref e =>
            obtain ⟨kvs, hd, rfl, _, hs⟩ := keys_of_H at'.inv e hn
            refine wpAny_in_of (knd := intKind κ.X.prog κ.X.w) (intKind_is κ.X.prog κ.X.w k t) hs hd.mapOf ?_
            rw [valueAt_keys]
            exact hq _ _ (.bool _)
        · rw [hk] at q; cases q
      | none =>
        rw [hk] at he
        cases ht : tabAt b H with
        | none => rw [ht] at he; cases he
        | some p =>
          rw [ht] at he
          obtain ⟨k, hi, rfl⟩ := Option.map_eq_some_iff.mp he
          obtain ⟨n, rfl, hn⟩ := tabAt_inv ht
          have va := hv _ ha
          rw [keyAt_inv hi] at va
          obtain ⟨c, rfl, hkey⟩ := key_of va
          cases vb with
          | ref e =>
            obtain ⟨ys, D, e2, _, _, _, hs⟩ := tab_of_H at'.inv e hn
            have hroom := at'.pair
            have hc : (atKey ys k).isSome = (p.1.map (·.1)).contains k := by rw [Bool.eq_iff_iff, atKey_mem, e2, List.contains_iff_mem]
            rcases hop with rfl | ⟨rfl, _⟩
            · show wpAny _ _ (do return .bool (<- contains (.ref _) (.ref c))) Q E s
              refine wpAny_bind (contains_heap (knd := pairKind κ.X.prog κ.X.w) hroom hkey hs D.of (wpAny_pure ?_))
              rw [hc]; exact hq _ _ (.bool _)
            · show wpAny _ _ (do return .bool (!(<- contains (.ref _) (.ref c)))) Q E s
              refine wpAny_bind (contains_heap (knd := pairKind κ.X.prog κ.X.w) hroom hkey hs D.of (wpAny_pure ?_))
              rw [hc]; exact hq _ _ (.bool _)
  cases b with
  | tup ws =>
    cases vb with
    | tup g nn r _ =>
      obtain ⟨x, e1, he⟩ := Option.bind_eq_some_iff.mp (show inTup H a ws = some _ from he)
      obtain ⟨ys, e2, rfl⟩ := Option.map_eq_some_iff.mp he
      obtain ⟨as, ra, c1, d1⟩ := snap_reads at'.inv 8 (hv _ ha) e1
      obtain ⟨bs, rb, c2, d2⟩ := mapM_reads (snap_reads at'.inv 8) r e2
      rcases hop with rfl | ⟨rfl, _⟩
      · exact PySem.SeqAt.in_tuple_reads (.tuple g rfl rfl rb) ra c2 c1 (hu ys x d1) (hq _ s.toks (.bool _))
      · exact PySem.SeqAt.notIn_tuple_reads (.tuple g rfl rfl rb) ra c2 c1 (hu ys x d1) (hq _ s.toks (.bool _))
  | _ => exact key he
theorem cmpI_ok {op : Cm} {a b : V} {ma mb : Value} {r : Bool} (ho : op = .lt \/ op = .le \/ op = .gt) (ha : (a, ma) ∈ vs) (hb : (b, mb) ∈ vs) (he : (match intAt a with | some x => (match intAt b with | some y => cmpI op x y | Option.none => Option.none) | Option.none => Option.none) = some r) :
    Tri κ ρ vs (compareOp (cmOf op) ma mb) H (.ok (.bool r) H) rV := by
  cases hx : intAt a with
  | none => rw [hx] at he; cases he
  | some x =>
    cases hy : intAt b with
    | none => rw [hx, hy] at he; cases he
    | some y =>
      rw [hx, hy] at he
      refine Tri.plain fun η s Q E at' hv hq => ?_
      obtain ⟨t, rfl⟩ := vr_int (hv _ ha) hx
      obtain ⟨u, rfl⟩ := vr_int (hv _ hb) hy
      rcases ho with rfl | rfl | rfl
      · cases he; exact PyProof.Rows.lt_int (hq _ s.toks (.bool _))
      · cases he; exact PyProof.Rows.le_int (hq _ s.toks (.bool _))
      · cases he; exact PyProof.Rows.gt_int (hq _ s.toks (.bool _))
theorem VRs.get {X : Cx} {η : List Addr} {h : Heap} {vs : List V} {ms : List Value} (r : VRs X η h vs ms) {j : Nat} {v : V} (e : vs[j]? = some v) : ∃ m, ms[j]? = some m /\ VR X η h v m :=
  VRs.ind (P := fun vs ms => ∀ (j : Nat) (v : V), vs[j]? = some v -> ∃ m, ms[j]? = some m /\ VR X η h v m) (fun _ _ e => nomatch e) (fun a _ ih j v e => by
    cases j with
    | zero => cases e; exact ⟨_, rfl, a⟩
    | succ j => exact ih j v e) r j v e
theorem eqT_ok {a b : V} {ma mb : Value} {r : Bool} (ha : (a, ma) ∈ vs) (hb : (b, mb) ∈ vs) (he : eqT H a b = some r) : Tri κ ρ vs (compareOp .Eq ma mb) H (.ok (.bool r) H) rV := by
  unfold eqT at he
  cases hx : tabAt a H with
  | none => rw [hx] at he; exact eqV_ok (op := .eq) (.inl rfl) ha hb he
  | some p =>
    rw [hx] at he
    cases hy : tabAt b H with
    | none => rw [hy] at he; cases he
    | some q =>
      rw [hy] at he
      dsimp only at he
      by_cases hc : p.1 = q.1 /\ (p.1.all fun x => (snap 8 H x.2).isSome) = true
      · rw [if_pos hc] at he
        cases he
        refine Tri.plain fun η s Q E at' hv hq => ?_
        obtain ⟨n, rfl, hn⟩ := tabAt_inv hx
        obtain ⟨k, rfl, hk⟩ := tabAt_inv hy
        cases hv _ ha with
        | ref e1 =>
        cases hv _ hb with
        | ref e2 =>
        obtain ⟨ys, D, q1, _, q2, _, hs⟩ := tab_of_H at'.inv e1 hn
        obtain ⟨zs, D2, r1, _, r2, _, hs2⟩ := tab_of_H at'.inv e2 hk
        rw [<- hc.1] at r1 r2
        have l1 : ys.length = p.1.length := by have := congrArg List.length q1; rwa [List.length_map, List.length_map] at this
        have l2 : zs.length = p.1.length := by have := congrArg List.length r1; rwa [List.length_map, List.length_map] at this
        obtain ⟨_, _, _, _, _, _, _, nd⟩ := id D2
        refine eqE (knd := pairKind κ.X.prog κ.X.w) at'.pair (Nat.lt_of_le_of_lt (Nat.le_add_right _ _) at'.units) hs hs2 D D2 (l1.trans l2.symm) (fun y hy => ?_) (hq _ s.toks (.bool _))
        obtain ⟨i, hi⟩ := List.getElem?_of_mem hy
        have hip : i < p.1.length := l1 ▸ (List.getElem?_eq_some_iff.mp hi).1
        obtain ⟨z, hz⟩ : ∃ z, zs[i]? = some z := ⟨_, List.getElem?_eq_getElem (l2.symm ▸ hip)⟩
        obtain ⟨x, hxi⟩ : ∃ x, p.1[i]? = some x := ⟨_, List.getElem?_eq_getElem hip⟩
        have kz : z.1 = y.1 := by
          have a1 := congrArg (·[i]?) q1
          have a2 := congrArg (·[i]?) r1
          simp only [List.getElem?_map, hi, hz, hxi, Option.map_some] at a1 a2
          exact (Option.some.inj a2).trans (Option.some.inj a1).symm
        obtain ⟨m1, g1, v1⟩ := q2.get (j := i) (by rw [List.getElem?_map, hxi]; rfl)
        obtain ⟨m2, g2, v2⟩ := r2.get (j := i) (by rw [List.getElem?_map, hxi]; rfl)
        rw [List.getElem?_map, hi] at g1
        rw [List.getElem?_map, hz] at g2
        cases g1
        cases g2
        obtain ⟨d, hd⟩ := Option.isSome_iff_exists.mp (List.all_eq_true.mp hc.2 x (List.mem_of_getElem? hxi))
        obtain ⟨as, ra, c1, d1⟩ := snap_reads at'.inv 8 v1 hd
        obtain ⟨bs, rb, c2, d2⟩ := snap_reads at'.inv 8 v2 hd
        refine ⟨z.2, atKey_of_get nd (by rw [hz, <- kz]), ?_⟩
        have := PySem.W.keq_at (A := κ.A) ra rb (shaped_of c1 d1 (by decide)) (shaped_of c2 d2 (by decide)) (Nat.lt_of_le_of_lt (Nat.le_trans (show κ.A.units + 1 + 64 <= κ.A.units + 300 from (by rw [Nat.add_assoc]; exact Nat.add_le_add_left (by decide) _)) (Nat.add_le_add_right (Nat.le_add_right _ _) 300)) at'.room.units)
        rwa [PySem.SeqAt.eqv_refl d c1] at this
      · rw [if_neg hc] at he; cases he
theorem cmp_ok {op : Cm} {a b : V} {ma mb : Value} {r : Bool} (ha : (a, ma) ∈ vs) (hb : (b, mb) ∈ vs) (he : cmp op a b H = some r) :
    Tri κ ρ vs (compareOp (cmOf op) ma mb) H (.ok (.bool r) H) rV := by
  cases op with
  | eq => exact eqT_ok ha hb he
  | ne =>
    obtain ⟨q, he', rfl⟩ := Option.map_eq_some_iff.mp he
    exact eqV_ok (op := .ne) (.inr rfl) ha hb he'
  | isIn => exact isIn_ok (.inl rfl) ha hb he
  | notIn =>
    have he : (if (keysAt b H).isSome then Option.none else (isIn H a b).map (!·)) = some r := he
    cases hk : keysAt b H with
    | some _ => rw [hk] at he; cases he
    | none =>
      rw [hk] at he
      obtain ⟨q, he', rfl⟩ := Option.map_eq_some_iff.mp he
      exact isIn_ok (op := .notIn) (.inr ⟨rfl, hk⟩) ha hb he'
  | is =>
    refine Tri.plain fun η s Q E at' hv hq => ?_
    have va := hv _ ha; have vb := hv _ hb
    cases b with
    | none =>
      cases vb
      cases he
      cases va
      · exact wpAny_is_self rfl (hq _ s.toks (.bool _))
      all_goals exact PyProof.Rows.is_none_ne (by intro q; cases q) (hq _ s.toks (.bool _))
    | bool y =>
      cases vb
      cases va with
      | bool x =>
        cases he
        exact PyProof.Rows.is_bool (hq _ s.toks (.bool _))
      | _ => cases he
    | _ => cases he
  | isNot =>
    refine Tri.plain fun η s Q E at' hv hq => ?_
    have va := hv _ ha; have vb := hv _ hb
    cases b with
    | none =>
      cases vb
      cases he
      cases va <;> exact isNot_none (hq _ s.toks (.bool _))
    | _ => cases he
  | lt => exact cmpI_ok (.inl rfl) ha hb he
  | le => exact cmpI_ok (.inr (.inl rfl)) ha hb he
  | gt => exact cmpI_ok (.inr (.inr rfl)) ha hb he
end
end Mine
namespace Mine
open PySem PyProof.Rows PySem.W
theorem Loads.det {mg mb : Str -> Option Value} {f : String} {v w : Value} (a : Loads mg mb f v) (b : Loads mg mb f w) : v = w := by
  rcases a with a | a <;> rcases b with b | b
  · rw [a] at b; exact Option.some.inj b
  · rw [a] at b; cases b.1
  · rw [a.1] at b; cases b
  · exact Option.some.inj (a.2.symm.trans b.2)
noncomputable def Keepable (X : Cx) (f : Value) : Prop := ∀ h : Heap, (∀ b o, X.base.get? b = some o -> h.get? b = some o) -> ∃ k, (k = Keeper.frame \/ k = Keeper.machine \/ k = Keeper.boundFrame) /\ Looks X.M h (keeperOf f) k
theorem keepable_builtin (X : Cx) (id : String) : Keepable X (.builtin id) := fun _ _ => ⟨.machine, .inr (.inl rfl), Looks.now⟩
noncomputable def isGlob (sc : Scope) (x : Str) : Bool := sc.names.lookup x == some .globalImplicit
section
variable {κ : Ct} {X : Cx} {n : Nat} {hd : Bool} {A : Around} {env : Env} {st : List Env} {ρ : Rho} {vs : List (V × Value)} {H : Hp}
noncomputable def rEq (v : Value) (m : Value) : Prop × List (V × Value) := (m = v, [])
theorem Tri.name {x : String} {id : Str} {pos : Pos} (hi : id = Str.ofString x) (hv : isVar κ.env.scope id = true) (hd1 : (id == ("__debug__" : Str)) = false) (hd2 : (id == ("__classdict__" : Str)) = false) :
    Tri κ ρ vs (eval (.Name id pos) κ.env) H (ofO H (ρ.lookup x)) rV := by
  cases e : ρ.lookup x with
  | none => exact Tri.stuck
  | some v =>
    refine Tri.plain fun η s Q E at' _ hq => wpAny_Name ?_ hd1
    subst hi
    obtain ⟨mv, hh, r⟩ := at'.rho x v e hv
    rcases hh with ⟨hk, m, hn, hm⟩ | ⟨hk | hk, c, o, hc, g, d⟩
    · exact wpAny_loadName_local at'.fok.kind hk hn hm (hq mv s.toks r)
    · exact wpAny_loadName_cell at'.fok.kind hk hc ⟨o, g, d⟩ (hq mv s.toks r)
    · exact wpAny_loadName_free at'.fok.kind hk hc ⟨o, g, d⟩ (hq mv s.toks r) hd2
theorem wpAny_glob {id : Str} {pos : Pos} {x : String} {v : Value} {η : List Addr} {s : Shared} {Q : Value -> Shared -> Prop} {E : Value -> Shared -> Prop} (at' : At κ η ρ H s) (hi : id = Str.ofString x) (hg : isGlob κ.env.scope id = true)
    (hd1 : (id == ("__debug__" : Str)) = false) (hl : Loads κ.X.mg κ.X.mb x v) (hq : Q v s) : wpAny κ.X.M κ.A (eval (.Name id pos) κ.env) Q E s := by
  subst hi
  refine PySem.Calls.Name_function_global at'.fok.kind (by unfold isGlob at hg; exact beq_iff_eq.mp hg) ?_ hd1
  have g1 : s.heap.Ns κ.env.globals κ.X.mg := by rw [at'.fok.glob]; exact κ.X.g.keeps at'.inv.keep
  have b1 : s.heap.Ns κ.env.builtins κ.X.mb := by rw [at'.fok.blt]; exact κ.X.b.keeps at'.inv.keep
  rcases hl with hl | ⟨hl, hl2⟩
  · exact PySem.Calls.loadGlobal_global g1 hl hq
  · exact PySem.Calls.loadGlobal_builtin g1 hl b1 hl2 hq
theorem Tri.glob {x : String} {id : Str} {pos : Pos} {v : Value} (hi : id = Str.ofString x) (hg : isGlob κ.env.scope id = true) (hd1 : (id == ("__debug__" : Str)) = false) (hl : Loads κ.X.mg κ.X.mb x v) :
    Tri κ ρ vs (eval (.Name id pos) κ.env) H (.ok v H) rEq :=
  Tri.reads fun _ s _ _ at' _ hq => wpAny_glob at' hi hg hd1 hl (hq v s.heap s.toks (fun _ _ e => e) rfl fun _ hp => nomatch hp)
theorem Tri.const_int {i : Int} {k : Nat} {pos : Pos} : Tri κ ρ vs (eval (.Constant (.int i) k pos) κ.env) H (.ok (.int i) H) rV :=
  Tri.plain fun _ _ _ _ _ _ hq => wpAny_Constant_int (hq _ _ (.int _ _))
theorem Tri.const_str {x : Str} {k : Nat} {pos : Pos} (ok : PyData.strOk x = true) : Tri κ ρ vs (eval (.Constant (.str x) k pos) κ.env) H (.ok (.str x) H) rV :=
  Tri.plain fun _ _ _ _ _ _ hq => PySem.Calls.Constant_str (hq _ _ (.str _ _ ok))
theorem Tri.const_none {k : Nat} {pos : Pos} : Tri κ ρ vs (eval (.Constant .none k pos) κ.env) H (.ok .none H) rV :=
  Tri.plain fun _ s _ _ _ _ hq => wpAny_pure (hq _ s.toks .none)
theorem Tri.const_bool {b : Bool} {k : Nat} {pos : Pos} : Tri κ ρ vs (eval (.Constant (.bool b) k pos) κ.env) H (.ok (.bool b) H) rV :=
  Tri.plain fun _ s _ _ _ _ hq => wpAny_pure (hq _ s.toks (.bool b))
theorem Tri.truthy {v : V} {m : Value} (hm : (v, m) ∈ vs) : Tri κ ρ vs (PySem.truthy m) H (ofO H (truth v)) rB := by
  cases v with
  | bool b =>
    refine Tri.reads fun _ s _ _ _ hv hq => ?_
    have r := hv _ hm
    cases r
    exact wpAny_truthy_bool (hq _ s.heap s.toks (fun _ _ e => e) rfl fun _ hp => nomatch hp)
  | _ => exact Tri.stuck
theorem Tri.spliced_nil : Tri κ ρ vs (spliced []) H (.ok ([] : List V) H) rL := Tri.pure rfl (fun _ hp => nomatch hp)
theorem Tri.spliced_cons {t : Sem Value} {rest : List (Bool × Sem Value)} {r1 : R V} {f : V -> Hp -> R (List V)}
    (h1 : Tri κ ρ vs t H r1 rV) (h2 : ∀ v H1 m, r1 = .ok v H1 -> Tri κ ρ (vs ++ [(v, m)]) (spliced rest) H1 (f v H1) rL) :
    Tri κ ρ vs (spliced ((false, t) :: rest)) H (r1.bind fun v H1 => (f v H1).bind fun ws H2 => .ok (v :: ws) H2) rL := by
  rw [spliced]
  refine Tri.bind h1 fun v H1 m e _ => ?_
  simp only [Bool.false_eq_true, if_false]
  show Tri _ _ _ (Pure.pure [m] >>= _) _ _ _
  refine Tri.skip (a₀ := [m]) (fun _ _ _ q => wpAny_pure q) ?_
  refine Tri.bind (Tri.holding (h2 v H1 m e)) fun ws H2 ms _ hl => ?_
  refine Tri.pure ?_ ?_
  · show (v :: ws).length = ([m] ++ ms).length
    have : ws.length = ms.length := hl
    simp [this]
  · intro p hp
    rcases List.mem_cons.mp hp with rfl | hp
    · exact m1 m0
    · exact List.mem_append.mpr (.inr hp)
theorem backTo_cons {pos : Pos} {t : Sem Value} {rest : List (Bool × Sem Value)} : backTo pos ((false, t) :: rest) = (false, t) :: backTo pos rest := rfl
theorem Tri.args {fv : Value} {args : List (Bool × Sem Value)} {r1 : R (List V)} (hp : args.any (·.1) = false) (h1 : Tri κ ρ vs (spliced args) H r1 rL) :
    Tri κ ρ vs (evalArgs fv true args []) H r1 (fun ws (a : Args) => (ws.length = a.pos.length /\ a.kw = [], ws.zip a.pos)) := by
  intro hs1 η s a hv
  have hm := h1 hs1 η s a hv
  cases args with
  | nil =>
    unfold evalArgs
    show wpAny κ.X.M κ.A (spliced [] >>= _) _ _ s
    refine wpAny_bind (wpAny_mono hm (fun ms s' ⟨ws, H', e, hl, P⟩ => ?_) fun _ _ q => q)
    refine wpAny_holding ?_
    exact wpAny_bind (wpAny_pure (wpAny_bind (wpAny_pure (wpAny_pure ⟨ws, H', e, ⟨hl, rfl⟩, P⟩))))
  | cons x rest =>
    obtain ⟨b, t⟩ := x
    have hb : b = false := by simp only [List.any_cons, Bool.or_eq_false_iff] at hp; exact hp.1
    subst hb
    exact PySem.Calls.evalArgs_plain (wpAny_mono hm (fun ms s' ⟨ws, H', e, hl, P⟩ => ⟨ws, H', e, ⟨hl, rfl⟩, P⟩) fun _ _ q => q)
theorem Tri.callWith {pos : Pos} {fv : Value} {first : List Value} {args : List (Bool × Sem Value)} {r1 : R (List V)} {f : List V -> Hp -> R V} (hk : Keepable κ.X fv) (hp : args.any (·.1) = false)
    (h1 : Tri κ ρ vs (spliced args) H r1 rL) (h2 : ∀ ws H1 ms, r1 = .ok ws H1 -> ws.length = ms.length -> Tri κ ρ (vs ++ ws.zip ms) (PySem.call fv (first ++ ms)) H1 (f ws H1) rV) :
    Tri κ ρ vs (PySem.callWith pos fv first args []) H (r1.bind f) rV := by
  refine Tri.via (fun Q E s q => callWith_of (P := fun h => ∀ b o, κ.X.base.get? b = some o -> h.get? b = some o) (by rw [hp]; rfl) hk q) (Tri.args hp h1) fun ws H1 ar e hl hs η s Q E at' hv hq he => ⟨at'.inv.keep, ?_⟩
  rw [hl.2]
  exact wpAny_mono (h2 ws H1 ar.pos e hl.1 hs η s at' hv) hq he
end
end Mine
namespace Mine
open PySem PyProof.Rows
section
variable {prog : Program} {w : World} {A : Around} {E : Value -> Shared -> Prop} {s : Shared}
theorem collect_tuple {l : Addr} {vs : List Value} {Q : List Value -> Shared -> Prop} (hl : s.heap.IsTuple l vs.toArray) (hsz : vs.length <= sizeLine)
    (h : Q vs { s with heap := (s.heap.push (seqObj "list" #[] 0)).update s.heap.objs.size (Obj.mapSeq (· ++ vs.toArray)) }) :
    wpAny (model prog w) A (collect (.ref l)) Q E s := by
  obtain ⟨o, ho, hc, n, hd⟩ := id hl
  unfold collect
  refine wpAny_bind (wpAny_runValue (codeAny_builtin entry_proto_collect' ?_))
  show wpAny _ _ (do again (.builtin "list.__iadd__" ⟨[<- newList [], .ref l], []⟩)) _ _ s
  refine wpAny_bind (wpAny_newList (wpAny_pure ⟨Code.quiet_builtin _ (by decide +kernel), codeAny_builtin entry_list_iadd' ?_⟩))
  show wpAny _ _ (Builtin.List.listExtendWith (.ref s.heap.objs.size) (.ref l) (.ref s.heap.objs.size)) _ _ { s with heap := s.heap.push (seqObj "list" #[] 0) }
  unfold Builtin.List.listExtendWith
  have ho' : (s.heap.push (seqObj "list" #[] 0)).get? l = some o := Heap.get?_push_of_some _ ho
  refine wpAny_bind (wpAny_typeOf (T := "tuple") ⟨o, ho', hc⟩ ?_)
  have ht : (Value.type "tuple" == Value.type "tuple") = true := by rfl
  rw [if_pos (by rw [ht]; simp)]
  refine wpAny_bind (listItems_at ho' hd ?_)
  refine wpAny_bind (listItems_at (xs := #[]) (n := 0) (Heap.get?_push_size _ rfl) rfl ?_)
  rw [if_neg (by simp)]
  refine wpAny_bind (listUpdate_at (xs := #[]) (n := 0) (Heap.get?_push_size _ rfl) rfl ?_ (Nat.zero_le _) (by show (#[] ++ vs.toArray).size <= sizeLine + 1; simp only [Array.size_append, List.size_toArray, List.length_nil]; omega))
  refine wpAny_pure ?_
  show wpAny (model prog w) A (do
      let o <- load s.heap.objs.size
      match o.data with
      | .seq xs _ => pure xs.toList
      | _ => unsupported "internal:collect") Q E { s with heap := (s.heap.push (seqObj "list" #[] 0)).update s.heap.objs.size (Obj.mapSeq (· ++ vs.toArray)) }
  refine wpAny_bind (wpAny_load (get?_update_seq (Heap.get?_push_size _ rfl) _) ?_)
  show wpAny _ _ (pure ((#[] : Array Value) ++ vs.toArray).toList) Q E _
  rw [show ((#[] : Array Value) ++ vs.toArray).toList = vs by simp]
  exact wpAny_pure h
theorem sorted_tuple {l : Addr} {vs : List Value} {ns : List Int} {Q : Value -> Shared -> Prop} (hl : s.heap.IsTuple l vs.toArray) (hI : IntsAre vs ns) (h64 : vs.length < 64)
    (h : ∀ (out : Array Value) (ns' : List Int), IntsAre out.toList ns' -> ns'.Perm ns -> ns'.Pairwise (· <= ·) -> Q (.ref (s.heap.objs.size + 1)) { s with heap := sortedAll s.heap vs out }) :
    wpAny (model prog w) A (PySem.call (.builtin "sorted") [.ref l]) Q E s := by
  refine Calls.call_function_entry kind_sorted plain_sorted entry_sorted (args_sorted1 _) ?_
  unfold Builtin.«sorted»
  refine wpAny_bind (m := checkCount "sorted" 1 1 _) (wpAny_pure ?_)
  refine wpAny_bind (collect_tuple hl (by unfold sizeLine; omega) ?_)
  refine wpAny_bind (wpAny_newList ?_ (by unfold sizeLine; omega))
  have hsz : ((s.heap.push (seqObj "list" #[] 0)).update s.heap.objs.size (Obj.mapSeq (· ++ vs.toArray))).objs.size = s.heap.objs.size + 1 := by
    rw [Heap.size_update, size_push']
  have hoL : (((s.heap.push (seqObj "list" #[] 0)).update s.heap.objs.size (Obj.mapSeq (· ++ vs.toArray))).push (seqObj "list" vs.toArray 0)).get? (s.heap.objs.size + 1) = some (seqObj "list" vs.toArray 0) := by
    rw [<- hsz]; exact Heap.get?_push_size _ rfl
  show wpAny _ _ _ _ _ { s with heap := ((s.heap.push (seqObj "list" #[] 0)).update s.heap.objs.size (Obj.mapSeq (· ++ vs.toArray))).push (seqObj "list" vs.toArray 0) }
  rw [hsz]
  refine wpAny_bind (wpAny_holding (wpAny_call_entry slot_list_sort ⟨_, hoL, rfl⟩ entry_list_sort (list_sort_tree hoL hI h64 fun out ns' a1 a2 a3 => ⟨_, rfl, ?_⟩) (args_list_sort _)))
  exact wpAny_pure ⟨_, rfl, h out ns' a1 a2 a3⟩
end
end Mine
namespace Mine
open PySem PyProof.Rows PySem.W
theorem lng {i : Int} (h0 : 0 <= i) (h1 : i <= 500001) : -2 ^ 63 <= i /\ i < 2 ^ 63 := ⟨Int.le_trans (by decide) h0, Int.lt_of_le_of_lt h1 (by decide)⟩
theorem rng_facts {a b c : Int} (h : rngOk a b c = true) : Builtin.Range.rangeSize a b c = ((rangeL a b c).length : Int) /\ Builtin.Range.small a b c = true /\ (rangeL a b c).length <= line := by
  unfold rngOk at h
  simp only [Bool.and_eq_true, decide_eq_true_eq] at h
  obtain ⟨⟨⟨rfl, rfl⟩, h3⟩, h4⟩ := h
  have hl : (rangeL 0 b 1).length = b.toNat := by unfold rangeL; rw [List.length_map, List.length_range]
  have e1 : Builtin.Range.rangeSize 0 b 1 = b := by
    unfold Builtin.Range.rangeSize
    rw [if_pos (by decide)]
    split <;> omega
  rw [hl, e1, Int.toNat_of_nonneg h3]
  refine ⟨rfl, ?_, by unfold line; omega⟩
  unfold Builtin.Range.small
  rw [e1]
  unfold Builtin.Range.rangeFitsLong
  rw [if_pos (by decide)]
  simp only [Bool.and_eq_true, Bool.or_eq_true, decide_eq_true_eq]
  have lb := lng h3 (Int.le_trans h4 (by decide))
  refine ⟨⟨⟨⟨?_, ?_⟩, ?_⟩, ?_⟩, .inr ?_⟩ <;> first | exact lb | (constructor <;> first | decide | omega)
theorem rangeL_get {a b c : Int} {i : Nat} (h : i < (rangeL a b c).length) : (rangeL a b c)[i] = a + c * i := by simp [rangeL]
section
variable {κ : Ct} {X : Cx} {ρ : Rho} {vs : List (V × Value)} {H : Hp}
theorem line_63 : (line : Int) < 2 ^ 63 := by decide
theorem len_63 {n : Nat} (h : n <= line) : (n : Int) < 2 ^ 63 := Int.lt_of_le_of_lt (Int.ofNat_le.mpr h) line_63
theorem one_of {α : Type} {v : V} {ms : List α} (h : [v].length = ms.length) : ∃ m, ms = [m] := match ms, h with | [m], _ => ⟨m, rfl⟩
theorem two_of {α : Type} {v w : V} {ms : List α} (h : [v, w].length = ms.length) : ∃ m k, ms = [m, k] := match ms, h with | [m, k], _ => ⟨m, k, rfl⟩
theorem two'_inv {vs : List V} {p : Int × Int} (h : two' vs = some p) : ∃ a b, vs = [a, b] /\ intAt a = some p.1 /\ intAt b = some p.2 := by
  cases vs with
  | nil => cases h
  | cons a r =>
    cases r with
    | nil => cases h
    | cons b r =>
      cases r with
      | cons => cases h
      | nil =>
        cases ha : intAt a with
        | none => rw [two', ha] at h; cases h
        | some x =>
          cases hb : intAt b with
          | none => rw [two', ha, hb] at h; cases h
          | some y => rw [two', ha, hb] at h; cases h; exact ⟨a, b, rfl, ha, hb⟩
theorem two'_vr {ws : List V} {ms : List Value} {p : Int × Int} {η : List Addr} {h : Heap} (e : two' ws = some p) (hl : ws.length = ms.length) (hw : ∀ q ∈ ws.zip ms, VR X η h q.1 q.2) : ∃ t u, ms = [.int p.1 t, .int p.2 u] := by
  obtain ⟨a, b, rfl, ha, hb⟩ := two'_inv e
  obtain ⟨m, k, rfl⟩ := two_of hl
  obtain ⟨t, rfl⟩ := vr_int (hw _ (List.Mem.head _)) ha
  obtain ⟨u, rfl⟩ := vr_int (hw _ (List.Mem.tail _ (List.Mem.head _))) hb
  exact ⟨t, u, rfl⟩
theorem len_ok {ws : List V} {ms : List Value} (hl : ws.length = ms.length) (hw : ∀ p ∈ ws.zip ms, p ∈ vs) : Tri κ ρ vs (PySem.call (.builtin "len") ms) H (biLen ws H) rV := by
  unfold biLen
  split
  · rename_i v
    obtain ⟨m, rfl⟩ := one_of hl
    have key : Tri κ ρ vs (PySem.call (.builtin "len") [m]) H (match listAt v H with | some xs => .ok (.int xs.length) H | Option.none => (match tabAt v H with | some p => .ok (.int p.1.length) H | Option.none => .stuck)) rV := by
      cases hx : listAt v H with
      | none =>
        dsimp only
        cases ht : tabAt v H with
        | none => exact Tri.stuck
        | some p =>
          refine Tri.plain fun η s Q E at' hv hq => ?_
          obtain ⟨n, rfl, hn⟩ := tabAt_inv ht
          have r := hv _ (hw _ (List.Mem.head _))
          cases r with
          | ref e =>
            obtain ⟨ys, D, e2, _, _, hl, hs⟩ := tab_of_H at'.inv e hn
            have hlen : ys.length = p.1.length := by have := congrArg List.length e2; simpa using this
            refine call_lenE hs D (by rw [hlen]; exact Int.lt_of_le_of_lt (Int.ofNat_le.mpr hl) (by decide)) fun t k => ?_
            rw [hlen]
            exact hq _ _ (.int _ _)
      | some xs =>
        refine Tri.plain fun η s Q E at' hv hq => ?_
        obtain ⟨a, items, c, rfl, g, r, l⟩ := vr_list at'.inv (hv _ (hw _ (List.Mem.head _))) hx
        have e := r.size
        refine PySem.Calls.call_len_list ⟨_, g, rfl, c, rfl⟩ (by rw [e]; exact len_63 ‹_›) ?_
        rw [e]
        exact hq _ _ (.int _ _)
    cases v with
    | scr ns =>
      refine Tri.plain fun η s Q E at' hv hq => ?_
      have r := hv _ (hw _ (List.Mem.head _))
      cases r with
      | @scr a items ns hb hi hln =>
        have e := (Array.length_toList (xs := items)).symm.trans hi.length
        have hl' : s.heap.IsList a items := let ⟨o, ho, q⟩ := hb; ⟨o, at'.inv.keep _ _ ho, q⟩
        refine PySem.Calls.call_len_list hl' (by rw [e]; exact len_63 ‹_›) ?_
        rw [e]
        exact hq _ _ (.int _ _)
    | tup xs =>
      refine Tri.plain fun η s Q E at' hv hq => ?_
      have r := hv _ (hw _ (List.Mem.head _))
      cases r with
      | tup g hn r l =>
        have e := r.size
        refine PyProof.Rows.len_tuple ⟨_, g, rfl, _, rfl⟩ (by rw [e]; exact len_63 ‹_›) ?_
        rw [e]
        exact hq _ _ (.int _ _)
    | _ => exact key
  · exact Tri.stuck
theorem min_ok {ws : List V} {ms : List Value} (hh : κ.Γ.hd = false) (hl : ws.length = ms.length) (hw : ∀ p ∈ ws.zip ms, p ∈ vs) : Tri κ ρ vs (PySem.call (.builtin "min") ms) H (biMin ws H) rV := by
  unfold biMin
  cases hp : two' ws with
  | none => exact Tri.stuck
  | some p =>
    refine Tri.reads fun η s Q E at' hv hq => ?_
    obtain ⟨t, u, rfl⟩ := two'_vr hp hl fun q hq => hv _ (hw _ hq)
    exact min_two_ints (at'.hand hh) fun h' tk hk => hq _ h' tk hk trivial fun q hq => rV1 hq (by split <;> exact .int _ _)
theorem max_ok {ws : List V} {ms : List Value} (hh : κ.Γ.hd = false) (hl : ws.length = ms.length) (hw : ∀ p ∈ ws.zip ms, p ∈ vs) : Tri κ ρ vs (PySem.call (.builtin "max") ms) H (biMax ws H) rV := by
  unfold biMax
  cases hp : two' ws with
  | none => exact Tri.stuck
  | some p =>
    refine Tri.reads fun η s Q E at' hv hq => ?_
    obtain ⟨t, u, rfl⟩ := two'_vr hp hl fun q hq => hv _ (hw _ hq)
    exact max_two_ints (at'.hand hh) fun h' tk hk => hq _ h' tk hk trivial fun q hq => rV1 hq (by split <;> exact .int _ _)
theorem abs_ok {ws : List V} {ms : List Value} (hl : ws.length = ms.length) (hw : ∀ p ∈ ws.zip ms, p ∈ vs) : Tri κ ρ vs (PySem.call (.builtin "abs") ms) H (biAbs ws H) rV := by
  unfold biAbs
  split
  · rename_i v
    obtain ⟨m, rfl⟩ := one_of hl
    cases hx : intAt v with
    | none => exact Tri.stuck
    | some i =>
      refine Tri.plain fun η s Q E at' hv hq => ?_
      obtain ⟨t, rfl⟩ := vr_int (hv _ (hw _ (List.Mem.head _))) hx
      refine PyProof.Rows.call_abs_int fun u tk => ?_
      have e : (if i < 0 then -i else i) = (i.natAbs : Int) := by
        split
        · rename_i h; exact (Int.ofNat_natAbs_of_nonpos (Int.le_of_lt h)).symm
        · rename_i h; exact (Int.natAbs_of_nonneg (Int.not_lt.mp h)).symm
      rw [e]
      exact hq _ _ (.int _ _)
  · exact Tri.stuck
theorem range_ok {ws : List V} {ms : List Value} (hl : ws.length = ms.length) (hw : ∀ p ∈ ws.zip ms, p ∈ vs) : Tri κ ρ vs (PySem.call (.type "range") ms) H (biRange ws H) rV := by
  unfold biRange
  split
  · rename_i v
    obtain ⟨m, rfl⟩ := one_of hl
    cases hx : intAt v with
    | none => exact Tri.stuck
    | some a =>
      refine Tri.reads fun η s Q E at' hv hq => ?_
      obtain ⟨t, rfl⟩ := vr_int (hv _ (hw _ (List.Mem.head _))) hx
      refine call_range_1 (hq _ _ _ (push_keeps _ _) trivial fun p hp => ?_)
      rw [rV, List.mem_singleton] at hp; subst hp
      exact .rng (Heap.get?_push_size _ rfl) at'.inv.size_off
  · exact Tri.stuck
theorem VRs.of_get {η : List Addr} {h : Heap} : ∀ {xs : List V} {ms : List Value}, xs.length = ms.length -> (∀ (i : Nat) v m, xs[i]? = some v -> ms[i]? = some m -> VR X η h v m) -> VRs X η h xs ms
  | [], [], _, _ => .nil
  | [], _ :: _, h, _ => by cases h
  | _ :: _, [], h, _ => by cases h
  | x :: xs, m :: ms, h, k => .cons (k 0 x m rfl rfl) (VRs.of_get (Nat.succ.inj h) fun i v n h1 h2 => k (i + 1) v n h1 h2)
theorem vr_seq {v : V} {m : Value} {xs : List V} {η : List Addr} {h : Heap} (i : Inv κ.X η H h) (r : VR κ.X η h v m) (e : seqV v H = some xs) : ∃ a items c T, m = .ref a /\ (T = "list" \/ T = "tuple") /\ h.get? a = some { cls := .type T, data := .seq items c } /\ VRs κ.X η h xs items.toList /\ xs.length <= line := by
  have key : listAt v H = some xs -> ∃ a items c T, m = .ref a /\ (T = "list" \/ T = "tuple") /\ h.get? a = some { cls := .type T, data := .seq items c } /\ VRs κ.X η h xs items.toList /\ xs.length <= line := fun e => by
    obtain ⟨a, items, c, rfl, g, r, l⟩ := vr_list i r e
    exact ⟨a, items, c, "list", rfl, .inl rfl, g, r, l⟩
  cases v with
  | tup ws =>
    cases e
    cases r with
    | tup g n r l => exact ⟨_, _, _, "tuple", rfl, .inr rfl, g, r, l⟩
  | _ => exact key e
theorem list_ok {ws : List V} {ms : List Value} (hh : κ.Γ.hd = false) (hl : ws.length = ms.length) (hw : ∀ p ∈ ws.zip ms, p ∈ vs) : Tri κ ρ vs (PySem.call (.type "list") ms) H (biList ws H) rV := by
  unfold biList
  split
  · rename_i v
    obtain ⟨m, rfl⟩ := one_of hl
    cases hx : seqV v H with
    | some xs =>
      by_cases hle : xs.length <= line
      · refine Tri.madeL hle fun η s Q E at' hv hq => ?_
        obtain ⟨a, items, c, T, rfl, hT, g, r, l⟩ := vr_seq at'.inv (hv _ (hw _ (List.Mem.head _))) hx
        exact call_list_seq _ hT g rfl rfl (fun h' c' k e => hq _ h' _ _ s.toks (size_none _) k e r) (by rw [r.size]; exact Nat.le_trans l line_lt)
      · intro _ η s at' hv
        obtain ⟨a, items, c, T, rfl, hT, g, r, l⟩ := vr_seq at'.inv (hv _ (hw _ (List.Mem.head _))) hx
        exact absurd l hle
    | none =>
      dsimp only
      cases hr : rngV v with
      | none => exact Tri.stuck
      | some p =>
        dsimp only
        split
        · rename_i hok
          obtain ⟨f1, f2, f3⟩ := rng_facts hok
          refine Tri.madeL (by rw [List.length_map]; exact f3) fun η s Q E at' hv hq => ?_
          have r := hv _ (hw _ (List.Mem.head _))
          cases r with
          | rng hg hn =>
            cases hr
            refine call_list_range (at'.hand hh) hg f2 f1 (Nat.le_trans f3 line_lt) fun h' tk acc c' k e it => hq _ h' _ _ tk (size_none _) k e (VRs.of_get ?_ fun i v m h1 h2 => ?_)
            · rw [List.length_map, Array.length_toList]; exact it.1.symm
            · rw [List.getElem?_map] at h1
              obtain ⟨j, hj, rfl⟩ := Option.map_eq_some_iff.mp h1
              obtain ⟨hlt, hj'⟩ := List.getElem?_eq_some_iff.mp hj
              rw [rangeL_get] at hj'
              rw [Array.getElem?_toList] at h2
              obtain ⟨t', rfl⟩ := it.2 i m h2
              rw [<- hj', Int.mul_comm]
              exact .int _ _
          | _ => cases hr
        · exact Tri.stuck
  · exact Tri.stuck
theorem ints_are {η : List Addr} {h : Heap} : ∀ {ns : List Int} {ms : List Value}, VRs X η h (ns.map .int) ms -> IntsAre ms ns
  | [], _, r => by cases r; exact .nil
  | n :: ns, _, r => by
    cases r with
    | cons a b => cases a; exact .cons _ _ (ints_are b)
theorem of_ints {η : List Addr} {h : Heap} {ns : List Int} {ms : List Value} (r : IntsAre ms ns) : VRs X η h (ns.map .int) ms := by
  induction r with
  | nil => exact .nil
  | cons _ _ _ ih => exact .cons (.int _ _) ih
theorem sort_eq {l m : List Int} (h : l.Perm m) (hl : l.Pairwise (· <= ·)) : l = m.mergeSort fun a b => decide (a <= b) := by
  refine List.Perm.eq_of_pairwise (fun a b _ _ h1 h2 => Int.le_antisymm h1 h2) hl ?_ (h.trans (List.mergeSort_perm m _).symm)
  have q := List.pairwise_mergeSort (le := fun (a b : Int) => decide (a <= b)) sort_tr sort_tot m
  exact q.imp fun h => of_decide_eq_true h
theorem sorted_ok {ws : List V} {ms : List Value} (hl : ws.length = ms.length) (hw : ∀ p ∈ ws.zip ms, p ∈ vs) : Tri κ ρ vs (PySem.call (.builtin "sorted") ms) H (biSorted ws H) rV := by
  unfold biSorted
  split
  · rename_i v
    obtain ⟨m, rfl⟩ := one_of hl
    cases hx : (seqV v H).bind intsV with
    | none => exact Tri.stuck
    | some ns =>
      dsimp only
      split
      · rename_i h64
        obtain ⟨xs, e1, e2⟩ := Option.bind_eq_some_iff.mp hx
        refine Tri.madeL (by rw [List.length_map, List.length_mergeSort]; exact Nat.le_trans (Nat.le_of_lt h64) (by decide)) fun η s Q E at' hv hq => ?_
        obtain ⟨a, items, c, T, rfl, hT, g, r, l⟩ := vr_seq at'.inv (hv _ (hw _ (List.Mem.head _))) e1
        rw [intsV_inv e2] at r
        have hI := ints_are r
        have hlen : items.toList.length < 64 := by rw [hI.length]; exact h64
        have fresh : s.heap.get? (s.heap.objs.size + 1) = Option.none := by
          cases q : s.heap.get? (s.heap.objs.size + 1) with
          | none => rfl
          | some o => exact absurd (Heap.lt_size q) (Nat.not_lt.mpr (Nat.le_succ _))
        have go : ∀ (out : Array Value) (ns' : List Int), IntsAre out.toList ns' -> ns'.Perm ns -> ns'.Pairwise (· <= ·) -> Q (.ref (s.heap.objs.size + 1)) { s with heap := sortedAll s.heap items.toList out } := fun out ns' a1 a2 a3 => by
          obtain ⟨e, he⟩ := sortedAll_at s.heap items.toList out
          rw [sort_eq a2 a3] at a1
          exact hq _ _ _ _ s.toks fresh (fun b o q => sortedAll_old q) he (of_ints a1)
        rcases hT with rfl | rfl
        · exact sorted_ints (vs := items.toList) ⟨_, g, rfl, c, by simp⟩ hI hlen go
        · exact sorted_tuple (vs := items.toList) ⟨_, g, rfl, c, by simp⟩ hI hlen go
      · exact Tri.stuck
  · exact Tri.stuck
theorem tuple_ok {ws : List V} {ms : List Value} (hl : ws.length = ms.length) (hw : ∀ p ∈ ws.zip ms, p ∈ vs) : Tri κ ρ vs (PySem.call (.type "tuple") ms) H (biTuple ws H) rV := by
  unfold biTuple
  split
  · rename_i v
    obtain ⟨m, rfl⟩ := one_of hl
    cases hx : listAt v H with
    | none => exact Tri.stuck
    | some xs =>
      refine Tri.reads fun η s Q E at' hv hq => ?_
      obtain ⟨a, items, c, rfl, g, r, l⟩ := vr_list at'.inv (hv _ (hw _ (List.Mem.head _))) hx
      refine call_tuple_list ⟨_, g, rfl, c, rfl⟩ (fun h' k => ?_) (by rw [r.size]; exact Nat.le_trans l line_lt)
      have k2 : ∀ b o, s.heap.get? b = some o -> (h'.push { cls := .type "tuple", data := .seq items }).get? b = some o := fun b o e => push_keeps _ _ b o (k b o e)
      have off : h'.objs.size ∉ η := fun q => by
        obtain ⟨o, e⟩ := at'.inv.alive q
        exact absurd (Heap.lt_size (k _ _ e)) (Nat.lt_irrefl _)
      exact hq _ _ s.toks k2 trivial fun p hp => rV1 hp (.tup (Heap.get?_push_size _ rfl) off (r.grow (Step.ext [] [] η k2)) l)
  · exact Tri.stuck
theorem builtin_ok {f : String} {fv : Value} {ws : List V} {ms : List Value} (hh : κ.Γ.hd = false) (hf : biVal f = some fv) (hl : ws.length = ms.length) (hw : ∀ p ∈ ws.zip ms, p ∈ vs) :
    Tri κ ρ vs (PySem.call fv ms) H (builtin f ws H) rV := by
  unfold builtin
  by_cases h1 : f = "len"
  · subst h1; cases hf; rw [if_pos rfl]; exact len_ok hl hw
  rw [if_neg h1]
  by_cases h3 : f = "min"
  · subst h3; cases hf; rw [if_pos rfl]; exact min_ok hh hl hw
  rw [if_neg h3]
  by_cases h4 : f = "max"
  · subst h4; cases hf; rw [if_pos rfl]; exact max_ok hh hl hw
  rw [if_neg h4]
  by_cases h2 : f = "abs"
  · subst h2; cases hf; rw [if_pos rfl]; exact abs_ok hl hw
  rw [if_neg h2]
  by_cases h5 : f = "range"
  · subst h5; cases hf; rw [if_pos rfl]; exact range_ok hl hw
  rw [if_neg h5]
  by_cases h6 : f = "list"
  · subst h6; cases hf; rw [if_pos rfl]; exact list_ok hh hl hw
  rw [if_neg h6]
  by_cases h7 : f = "tuple"
  · subst h7; cases hf; rw [if_pos rfl]; exact tuple_ok hl hw
  rw [if_neg h7]
  by_cases h8 : f = "sorted"
  · subst h8; cases hf; rw [if_pos rfl]; exact sorted_ok hl hw
  rw [if_neg h8]
  exact Tri.stuck
end
end Mine
namespace Mine
open PySem PyProof.Rows
noncomputable def tabL (led : Bool) (l : List Nat) : SetTable :=
  if l.length < 5 then { mask := 7, place := l.toArray, dummies := #[], finger := 0, led := led, moves := 0, plain := true }
  else { mask := 31, place := l.toArray, dummies := #[], finger := 0, led := led, moves := 1, plain := true }
noncomputable def withPlace (t : SetTable) (l : List Nat) : SetTable := { t with place := l.toArray }
noncomputable def stepOk (led : Bool) (l : List Nat) (a : Nat) : Bool :=
  (tabL led l).freeSlot (a : Int) == some (a, false) && ((tabL led l).put a == (withPlace (tabL led l) (l ++ [a]), l.length) && ((tabL led l).fits l.length && ((withPlace (tabL led l) (l ++ [a])).fits (l.length + 1)
    && ((tabL led (l ++ [a])).fits (l.length + 1) && (if (withPlace (tabL led l) (l ++ [a])).tooFull then (withPlace (tabL led l) (l ++ [a])).relaid ((l ++ [a]).map Int.ofNat).toArray (SetTable.grown (l.length + 1)) == some (tabL led (l ++ [a]), Array.range (l.length + 1)) && coversAll (Array.range (l.length + 1)) (l.length + 1)
      else withPlace (tabL led l) (l ++ [a]) == tabL led (l ++ [a])))))) && hashInt (a : Int) == (a : Int)
noncomputable def subl : List Nat -> List (List Nat)
  | [] => [[]]
  | x :: xs => subl xs ++ (subl xs).map (x :: ·)
theorem mem_subl {l r : List Nat} (h : l.Sublist r) : l ∈ subl r := by
  induction h with
  | slnil => exact List.mem_singleton.mpr rfl
  | cons x _ ih => exact List.mem_append.mpr (.inl ih)
  | cons_cons x _ ih => exact List.mem_append.mpr (.inr (List.mem_map.mpr ⟨_, ih, rfl⟩))
noncomputable abbrev seven : List Nat := List.range 7
theorem steps_all : ((subl seven).all fun L => L.isEmpty || (stepOk true L.dropLast (L.getLastD 0) && stepOk false L.dropLast (L.getLastD 0))) = true := by decide +kernel
theorem step_ok {l : List Nat} {a : Nat} (h : (l ++ [a]).Sublist seven) (led : Bool) : stepOk led l a = true := by
  have q := List.all_eq_true.mp steps_all _ (mem_subl h)
  rw [show (l ++ [a]).isEmpty = false by cases l <;> rfl, Bool.false_or, List.dropLast_concat, show (l ++ [a]).getLastD 0 = a by simp, Bool.and_eq_true] at q
  cases led
  · exact q.2
  · exact q.1
noncomputable def walkOk (l : List Nat) : Bool := SetTable.below l.toArray 0 == 0 && (List.range l.length).all fun k => SetTable.below l.toArray (l.getD k 0 + 1) == k + 1
theorem walks_all : ((subl seven).all walkOk) = true := by decide +kernel
noncomputable abbrev NT := Nat × Tok
noncomputable def ents (ps : List NT) : Array (Int × Value) := (ps.map fun p => ((p.1 : Int), Value.int (p.1 : Int) p.2)).toArray
noncomputable def nums (ps : List NT) : List Nat := ps.map (·.1)
noncomputable abbrev setObj (led : Bool) (ps : List NT) (ep : Nat) : Obj := { cls := .type "set", data := .set (ents ps) ep (tabL led (nums ps)) }
theorem ents_size (ps : List NT) : (ents ps).size = ps.length := by simp [ents]
section
variable {prog : Program} {w : World} {A : Around} {E : Value -> Shared -> Prop} {s : Shared}
theorem pick_list {α : Type} : ∀ l : List α, (List.range l.length).filterMap (fun i => l[i]?) = l
  | [] => rfl
  | x :: l => by
    rw [List.length_cons, List.range_succ_eq_map, List.filterMap_cons, List.filterMap_map]
    show x :: (List.range l.length).filterMap (fun i => l[i]?) = _
    rw [pick_list l]
theorem pick_all {α : Type} (es : Array α) : (Array.range es.size).filterMap (fun i => es[i]?) = es := by
  refine Array.toList_inj.mp ?_
  rw [Array.toList_filterMap, Array.toList_range, <- Array.length_toList]
  have := pick_list es.toList
  simpa using this
theorem insert_end (es : Array (Int × Value)) (x : Int × Value) : SetTable.insertAt es es.size x = es.push x := by
  unfold SetTable.insertAt
  simp
theorem lay_new {led : Bool} {ps : List NT} {n : Nat} {t : Tok} (h : stepOk led (nums ps) n = true) : layNew (tabL led (nums ps)) (ents ps) (n : Int) (.int n t) = (ents (ps ++ [(n, t)]), withPlace (tabL led (nums ps)) (nums ps ++ [n]), false, false) := by
  unfold stepOk at h
  simp only [Bool.and_eq_true, beq_iff_eq] at h
  obtain ⟨⟨h1, h2, h3, h4, h5, h6⟩, _⟩ := h
  have hl : (nums ps).length = ps.length := by simp [nums]
  unfold layNew
  rw [h1]
  dsimp only
  rw [h2]
  dsimp only
  have hi : SetTable.insertAt (ents ps) (nums ps).length ((n : Int), Value.int n t) = ents (ps ++ [(n, t)]) := by
    rw [hl, <- ents_size ps, insert_end]
    simp [ents]
  rw [hi, ents_size, List.length_append, List.length_singleton, <- hl]
  unfold SetTable.orStandIn
  rw [if_pos h4, h4]; rfl
theorem relay_new {led : Bool} {ps : List NT} {n : Nat} {t : Tok} (h : stepOk led (nums ps) n = true) (hf : (withPlace (tabL led (nums ps)) (nums ps ++ [n])).tooFull = true) :
    relayAll (withPlace (tabL led (nums ps)) (nums ps ++ [n])) (ents (ps ++ [(n, t)])) (SetTable.grown (ents (ps ++ [(n, t)])).size) = (ents (ps ++ [(n, t)]), tabL led (nums ps ++ [n]), false) := by
  unfold stepOk at h
  simp only [Bool.and_eq_true, beq_iff_eq] at h
  obtain ⟨⟨h1, h2, h3, h4, h5, h6⟩, _⟩ := h
  rw [if_pos hf, Bool.and_eq_true, beq_iff_eq] at h6
  have hl : (nums ps).length = ps.length := by simp [nums]
  have hs : (ents (ps ++ [(n, t)])).size = (nums ps).length + 1 := by rw [ents_size, hl]; simp
  have hm : (ents (ps ++ [(n, t)])).map (·.1) = ((nums ps ++ [n]).map Int.ofNat).toArray := by simp [ents, nums]
  unfold relayAll
  rw [hs, hm, h6.1]
  dsimp only
  have ho : (Array.range ((nums ps).length + 1)).filterMap (fun i => (ents (ps ++ [(n, t)]))[i]?) = ents (ps ++ [(n, t)]) := by
    rw [<- hs]; exact pick_all _
  rw [ho, hs, h6.2, h5]; rfl
theorem nums_app (ps : List NT) (n : Nat) (t : Tok) : nums (ps ++ [(n, t)]) = nums ps ++ [n] := by simp [nums]
theorem put_at {h : Heap} {a : Addr} {o : Obj} {es es' : Array (Int × Value)} {ep : Nat} {t t' : SetTable} (ho : h.get? a = some o) (hd : o.data = .set es ep t) : (h.update a (Obj.putSet es' t')).get? a = some { o with data := .set es' (ep + 1) t' } := by
  have := Heap.get?_update_self (Obj.putSet es' t') ho (by rw [putSet_of es' t' hd]; rfl)
  rw [putSet_of es' t' hd] at this; exact this
theorem hash7 : ∀ n : Nat, n < 7 -> hashInt (n : Int) = (n : Int) := by decide +kernel
theorem set_add {a : Addr} {led : Bool} {ps : List NT} {ep n : Nat} {t : Tok} {Q : Bool -> Shared -> Prop} (ho : s.heap.get? a = some (setObj led ps ep)) (hs : (nums ps ++ [n]).Sublist seven)
    (hQ : ∀ h' ep', h'.get? a = some (setObj led (ps ++ [(n, t)]) ep') -> Heap.SameBut a s.heap h' -> ∀ k, Q true { s with heap := h', toks := k }) : wpAny (model prog w) A (setAdd a (.int n t)) Q E s := by
  have h := step_ok hs led
  have hl : (nums ps).length = ps.length := by simp [nums]
  have hlay := lay_new (t := t) h
  have hrel := relay_new (t := t) h
  unfold stepOk at h
  simp only [Bool.and_eq_true, beq_iff_eq] at h
  obtain ⟨⟨_, _, h3, h4, h5, h6⟩, h7⟩ := h
  rw [hl] at h3
  have hp7 : ps.length <= 7 := by
    have := hs.length_le
    rw [List.length_append, hl] at this
    simp at this; omega
  have lt7 : ∀ {m : Nat}, m ∈ nums ps -> m < 7 := fun hm => List.mem_range.mp (hs.subset (List.mem_append.mpr (.inl hm)))
  have hne : ∀ m ∈ nums ps, m ≠ n := fun m hm q => by
    have hnd : (nums ps ++ [n]).Nodup := List.Nodup.sublist hs List.nodup_range
    rw [List.nodup_append] at hnd
    exact hnd.2.2 m hm n (List.mem_singleton.mpr rfl) q
  have hel : ElemsOf (intKind prog w) (ents ps).toList := by
    intro e he
    simp only [ents, List.mem_map] at he
    obtain ⟨p, hp, rfl⟩ := he
    exact ⟨⟨(p.1 : Int), by simp [intKind, Value.isInt], (hash7 p.1 (lt7 (List.mem_map.mpr ⟨p, hp, rfl⟩))).symm⟩, rfl⟩
  unfold setAdd
  refine wpAny_holding (wpAny_bind (wpAny_pyHash_int ?_))
  unfold setAddHashed setAddHashedIn
  have hf : (tabL led (nums ps)).fits (ents ps).size = true := by rw [ents_size]; exact h3
  refine wpAny_holding (wpAny_bind (wpAny_setState_of (s := { s with toks := s.toks + 1 }) ho rfl hf ?_))
  dsimp only
  rw [byScan_of (knd := intKind prog w) (x := .int n t) rfl (by rw [ents_size]; show ps.length < 4096; omega) hel]
  rw [if_pos rfl]
  unfold setAddByScan
  refine wpAny_bind (wpAny_bind (wpAny_rule ?_))
  refine wpAny_bind (wpAny_setScan_of (s := { s with toks := s.toks + 1 }) (knd := intKind prog w) (k := (n : Int)) (by simp [intKind, Value.isInt]) ho rfl hf hel ?_)
  have hno : (List.findIdx? (fun e => (intKind prog w).is (n : Int) e.2) (ents ps).toList) = Option.none := by
    rw [List.findIdx?_eq_none_iff]
    intro e he
    simp only [ents, List.mem_map] at he
    obtain ⟨p, hp, rfl⟩ := he
    have := hne p.1 (List.mem_map.mpr ⟨p, hp, rfl⟩)
    show Value.isInt (n : Int) (.int p.1 p.2) = false
    unfold Value.isInt
    simp only [beq_eq_false_iff_ne]
    omega
  rw [hno]
  dsimp only
  rw [h7, hlay]
  dsimp only
  have e1 := put_at (es' := ents (ps ++ [(n, t)])) (t' := withPlace (tabL led (nums ps)) (nums ps ++ [n])) ho rfl
  have hsz : (ents (ps ++ [(n, t)])).size <= sizeLine := by rw [ents_size, List.length_append]; unfold sizeLine; simp; omega
  refine wpAny_bind (wpAny_pure ?_)
  have hpl : (withPlace (tabL led (nums ps)) (nums ps ++ [n])).plain = true := by unfold withPlace tabL; split <;> rfl
  rw [hpl]
  rw [if_pos rfl]
  refine wpAny_bind ?_
  rw [hashByValue_scannable 8 rfl, show plainKind (Value.int (n : Int) t) = true from rfl]
  refine wpAny_pure ?_
  rw [if_pos rfl]
  refine wpAny_bind (wpAny_storeSet_of (s := { s with toks := s.toks + 1 }) ho rfl ?_ hsz)
  by_cases hf2 : (withPlace (tabL led (nums ps)) (nums ps ++ [n])).tooFull = true
  · rw [if_pos (by rw [hf2]; rfl), hrel hf2]
    dsimp only
    refine wpAny_bind (wpAny_pure ?_)
    have e2 := put_at (es' := ents (ps ++ [(n, t)])) (t' := tabL led (nums ps ++ [n])) e1 rfl
    refine wpAny_bind (wpAny_storeSet_of (s := { s with heap := _, toks := s.toks + 1 }) e1 rfl (wpAny_pure (wpAny_pure ?_)) hsz)
    exact hQ _ (ep + 1 + 1) (by rw [e2]; unfold setObj; rw [nums_app]) ((Heap.SameBut.update _ a _).trans (Heap.SameBut.update _ a _)) _
  · rw [if_neg (by simpa using hf2)]
    rw [if_neg hf2, beq_iff_eq] at h6
    refine wpAny_pure (wpAny_pure ?_)
    exact hQ _ (ep + 1) (by rw [e1, h6]; unfold setObj; rw [nums_app]) (Heap.SameBut.update _ a _) _
end
theorem entry_update_loop : entryFor table "set.update.loop" = some Builtin.«set.update.loop» := entryFor_of_fast (by kernel_rfl)
noncomputable def intsOf (ps : List NT) : List Value := ps.map fun p => .int (p.1 : Int) p.2
section
variable {prog : Program} {w : World} {A : Around} {a it t : Addr} {items : Array Value} {all : List NT} {led : Bool}
theorem update_loop (hh : A.handled = Option.none) (hall : items.toList = intsOf all) (hs : (nums all).Sublist seven) (n1 : a ≠ it) (n2 : a ≠ t) (n3 : it ≠ t) : ∀ (rest done : List NT) (ep : Nat) (s : Shared) (R : Result -> Shared -> Prop), done ++ rest = all -> s.heap.get? a = some (setObj led done ep) -> s.heap.IsTupleIter it t done.length -> s.heap.IsTuple t items ->
    (∀ h' ep' k, h'.get? a = some (setObj led all ep') -> (∀ b o, b ≠ a -> b ≠ it -> s.heap.get? b = some o -> h'.get? b = some o) -> R (.ok (.ret .none)) { s with heap := h', toks := k }) ->
    codeAny (model prog w) A (.builtin "set.update.loop" ⟨[.ref a, .ref it], []⟩) R s
  | [], done, ep, s, R, hd, ho, hit, ht, hR => by
    rw [List.append_nil] at hd
    subst hd
    refine codeAny_builtin entry_update_loop ?_
    show wpAny _ _ (pyNext (.ref it) >>= _) _ _ s
    have hx : items[done.length]? = Option.none := by
      rw [<- Array.getElem?_toList, hall]
      simp [intsOf]
    refine wpAny_bind (wpAny_pyNext_tuple_end (by exact hh) hit ht hx fun h' e => ?_)
    refine wpAny_pure ?_
    exact hR h' ep s.toks (e a _ n1 ho) (fun b o hb hi g => e b o hi g)
  | p :: rest, done, ep, s, R, hd, ho, hit, ht, hR => by
    refine codeAny_builtin entry_update_loop ?_
    show wpAny _ _ (pyNext (.ref it) >>= _) _ _ s
    have hx : items[done.length]? = some (.int (p.1 : Int) p.2) := by
      rw [<- Array.getElem?_toList, hall, <- hd]
      simp [intsOf]
    refine wpAny_bind (wpAny_pyNext_tuple_item hit ht hx fun h1 hit1 sb1 => ?_)
    have ho1 : h1.get? a = some (setObj led done ep) := (sb1.2 a n1).trans ho
    have hsub : (nums done ++ [p.1]).Sublist seven := by
      refine List.Sublist.trans ?_ hs
      rw [<- hd]
      unfold nums
      rw [List.map_append, List.map_cons]
      exact List.Sublist.append_left (List.Sublist.cons_cons _ (List.nil_sublist _)) _
    refine wpAny_bind (wpAny_holding (set_add (s := { s with heap := h1 }) (t := p.2) ho1 hsub fun h2 ep2 ho2 sb2 k => ?_))
    refine wpAny_pure ⟨Code.quiet_builtin _ (by decide +kernel), ?_⟩
    obtain ⟨ot, e1, e2, e3, e4⟩ := id ht
    refine update_loop hh hall hs n1 n2 n3 rest (done ++ [p]) ep2 { s with heap := h2, toks := k } R (by rw [<- hd]; simp) ho2 ?_ ⟨ot, (sb2.2 t n2.symm).trans ((sb1.2 t n3.symm).trans e1), e2, e3, e4⟩ fun h' ep' k' g keep => ?_
    · obtain ⟨oi, i1, i2, i3⟩ := hit1
      exact ⟨oi, (sb2.2 it n1.symm).trans i1, i2, by rw [i3]; simp⟩
    · exact hR h' ep' k' g fun b o hb hi q => keep b o hb hi ((sb2.2 b hb).trans ((sb1.2 b hi).trans q))
end
theorem typeCall_set_1 (x : Value) : checkTypeCall "set" ⟨[x], []⟩ = pure () := by kernel_rfl
theorem newCall_set_1 (x : Value) : checkBuiltinCall "set.__new__" ⟨[.type "set", x], []⟩ = pure () := by kernel_rfl
theorem sub_tuple_set : isSubtype (.type "tuple") (.type "set") = pure false := by rw [isSubtype_type]; kernel_rfl
theorem sub_tuple_fset : isSubtype (.type "tuple") (.type "frozenset") = pure false := by rw [isSubtype_type]; kernel_rfl
section
variable {prog : Program} {w : World} {A : Around} {E : Value -> Shared -> Prop} {s : Shared} {t : Addr} {items : Array Value} {all : List NT}
theorem update_tuple {a : Addr} {led : Bool} {ep : Nat} {Q : Unit -> Shared -> Prop} (hh : A.handled = Option.none) (ho : s.heap.get? a = some (setObj led [] ep)) (ht : s.heap.IsTuple t items) (hall : items.toList = intsOf all) (hs : (nums all).Sublist seven) (n2 : a ≠ t)
    (hQ : ∀ h' ep' k, h'.get? a = some (setObj led all ep') -> (∀ b o, b ≠ a -> s.heap.get? b = some o -> h'.get? b = some o) -> Q () { s with heap := h', toks := k }) :
    wpAny (model prog w) A (Builtin.Frozenset.updateFrom "set.__init__" a (.ref t)) Q E s := by
  have hT : s.TypeIs (.ref t) "tuple" := ht.typeIs
  unfold Builtin.Frozenset.updateFrom
  refine wpAny_bind ?_
  unfold Builtin.Frozenset.isAnySet
  refine wpAny_bind (wpAny_isInstance hT sub_tuple_set ?_)
  simp only [Bool.false_eq_true, if_false]
  refine wpAny_isInstance hT sub_tuple_fset ?_
  rw [if_neg Bool.false_ne_true]
  refine wpAny_bind (wpAny_typeOf hT ?_)
  rw [if_neg (by decide)]
  refine wpAny_bind (wpAny_pyIter_tuple ht ?_)
  have la := Heap.lt_size ho
  have lt : t < s.heap.objs.size := by obtain ⟨o, e, _⟩ := ht; exact Heap.lt_size e
  refine wpAny_bind (wpAny_runValue (update_loop (led := led) (by exact hh) hall hs (Nat.ne_of_lt la) n2 (Nat.ne_of_gt lt) all [] ep _ _ rfl (Heap.get?_push_of_some _ ho) ⟨_, Heap.get?_push_size _ rfl, rfl, rfl⟩ (by
    obtain ⟨o, e, r⟩ := ht; exact ⟨o, Heap.get?_push_of_some _ e, r⟩) fun h' ep' k g keep => ?_))
  exact wpAny_pure (hQ h' ep' k g fun b o hb e => keep b o hb (Nat.ne_of_lt (Heap.lt_size e)) (Heap.get?_push_of_some _ e))
theorem code_set_new1 {x : Value} {Q₁ : Value -> Shared -> Prop}
    (h : Q₁ (.ref s.heap.objs.size) { s with heap := s.heap.push (setObj (!w.params.followText "set-order") [] 0) }) :
    codeAny (model prog w) A (.call (.builtin "set.__new__") ⟨[.type "set", x], []⟩) (wants Q₁ E) s := by
  refine codeAny_of_tree ?_
  show wpAny _ A.in1 (do checkBuiltinCall "set.__new__" ⟨[.type "set", x], []⟩; again (.builtin "set.__new__" ⟨[.type "set", x], []⟩)) _ _ s
  refine wpAny_bind (wpAny_of_eq (newCall_set_1 x) (wpAny_pure ⟨plainId_quiet F.plain_set_new _, codeAny_builtin F.entry_set_new ?_⟩))
  rw [Around.under_plainId F.plain_set_new _]
  unfold Builtin.«set.__new__» Builtin.Frozenset.newClass
  have hsub := sub_set_self
  obtain ⟨hp, g, d, tk, os⟩ := s
  dsimp only
  wp_walk
  refine wpAny_askSetting (wpAny_pure ?_)
  dsimp only
  simp only [newObj]
  refine wpAny_bind (wpAny_alloc (wpAny_pure ?_))
  exact wpAny_pure h
theorem check_set_init1 {M : Model} {self x : Value} {Q : Unit -> Shared -> Prop} (hT : s.TypeIs self "set") (hQ : Q () s) :
    wpAny M A (checkBuiltinCall "set.__init__" ⟨[self, x], []⟩) Q E s := by
  simp only [checkBuiltinCall, kind_set_init, split_set_init, sig_set_init]
  refine wpAny_bind (wpAny_isInstance hT sub_set_self ?_)
  rw [if_neg (show ¬((!true) = true) from Bool.false_ne_true)]
  unfold Bind.checkArgs
  dsimp only
  refine wpAny_bind (m := Bind.printed "set" true _ _) (PyProof.Rows.printed_name (by decide) ?_)
  refine wpAny_bind (m := Bind.printed "*" false _ _) (PyProof.Rows.printed_star (self := self) rfl hT fun short => ?_)
  have hrn : (Manifest.Receiver.self == Manifest.Receiver.none) = false := by decide
  have hn : (if (Manifest.Receiver.self == Manifest.Receiver.none) = true then [self, x].length else [self, x].length - 1) = 1 := by simp [hrn]
  rw [hn]
  simp only [List.map_nil]
  have hc : Bind.check ⟨.positional, "set", "*", .self, [⟨"iterable", .posOnly, false⟩]⟩ "set" short 1 [] = pure () := by
    have hq : (Manifest.ParamKind.posOnly == Manifest.ParamKind.posOnly) = true := by decide
    simp [Bind.check, Bind.checkCount, Bind.isPositional, hq]
  rw [hc]
  exact wpAny_pure hQ
set_option maxHeartbeats 1000000 in
set_option maxRecDepth 100000 in
theorem call_set_1 {Q : Value -> Shared -> Prop} (hh : A.handled = Option.none) (ht : s.heap.IsTuple t items) (hall : items.toList = intsOf all) (hs : (nums all).Sublist seven)
    (h : ∀ h' ep k, h'.get? s.heap.objs.size = some (setObj (!w.params.followText "set-order") all ep) -> (∀ b o, s.heap.get? b = some o -> h'.get? b = some o) -> Q (.ref s.heap.objs.size) { s with heap := h', toks := k }) :
    wpAny (model prog w) A (PySem.call (.type "set") [.ref t]) Q E s := by
  obtain ⟨c, tl, hmro⟩ := F.called_set.mro
  have hmade := F.called_set.made
  have hsub := F.called_set.sub
  refine wpAny_call (codeAny_of_tree ?_)
  show wpAny _ _ (callAny (.type "set") _) _ _ _
  refine wpAny_pure ⟨Code.quiet_builtin _ (by decide +kernel), codeAny_builtin F.entry_type_call ?_⟩
  rw [Around.under_plain (weight_type_call_type "set" [.ref t] []) rfl]
  have h1 := F.called_set.notType
  have h2 := F.called_set.canCreate
  have hct := typeCall_set_1 (.ref t)
  repeat (any_goals (first | assumption | wp_step))
  refine codeAny_mono (code_set_new1 (E := E) (Q₁ := fun obj s₁ => obj = .ref s.heap.objs.size /\ s₁ = { s with heap := s.heap.push (setObj (!w.params.followText "set-order") [] 0) }) ⟨rfl, rfl⟩) fun r s₁ hr => ?_
  cases r with
  | error e => exact hr
  | ok fl =>
    cases fl with
    | ret obj =>
      obtain ⟨rfl, rfl⟩ := hr
      have hS : (s.heap.push (setObj (!w.params.followText "set-order") [] 0)).get? s.heap.objs.size = some (setObj (!w.params.followText "set-order") [] 0) := Heap.get?_push_size _ rfl
      have hT : Shared.TypeIs { s with heap := s.heap.push (setObj (!w.params.followText "set-order") [] 0) } (.ref s.heap.objs.size) "set" := ⟨_, hS, rfl⟩
      have hli := F.called_set.init.lookup
      have hbi := F.called_set.init.bind (.ref s.heap.objs.size)
      repeat (any_goals (first | assumption | wp_step))
      refine codeAny_mono (codeAny_call_builtin (R := wants (fun r s₂ => r = .none /\ Q (.ref s.heap.objs.size) s₂) E) F.called_set.init.plain F.entry_set_init (check_set_init1 hT ?_)) fun r₂ s₂ hr₂ => ?_
      · unfold Builtin.«set.__init__» noKeywords
        generalize hU : Builtin.Frozenset.updateFrom "set.__init__" = U
        wp_walk
        rw [<- hU]
        refine update_tuple (led := !w.params.followText "set-order") (by exact hh) hS (by obtain ⟨o, e, r⟩ := ht; exact ⟨o, Heap.get?_push_of_some _ e, r⟩) hall hs (by obtain ⟨o, e, _⟩ := ht; exact Nat.ne_of_gt (Heap.lt_size e)) fun h' ep' k g keep => ?_
        wp_walk
        exact ⟨rfl, h h' ep' k g fun b o e => keep b o (Nat.ne_of_lt (Heap.lt_size e)) (Heap.get?_push_of_some _ e)⟩
      · cases r₂ with
        | error e => exact hr₂
        | ok fl₂ =>
          cases fl₂ with
          | ret r =>
            obtain ⟨rfl, hq⟩ := hr₂
            repeat (any_goals (first | assumption | wp_step))
          | _ => exact hr₂.elim
    | _ => exact hr.elim
end
theorem erase_map {α β : Type} (f : α -> β) : ∀ (l : List α) (i : Nat), (l.map f).eraseIdx i = (l.eraseIdx i).map f
  | [], _ => rfl
  | _ :: _, 0 => rfl
  | x :: l, i + 1 => by
    show f x :: (l.map f).eraseIdx i = f x :: (l.eraseIdx i).map f
    rw [erase_map f l i]
theorem erase_perm {α : Type} : ∀ (l : List α) (i : Nat) (h : i < l.length), (l[i] :: l.eraseIdx i).Perm l
  | _ :: _, 0, _ => List.Perm.refl _
  | x :: l, i + 1, h => by
    show (l[i]'(by simpa using h) :: x :: l.eraseIdx i).Perm _
    exact (List.Perm.swap ..).trans (List.Perm.cons x (erase_perm l i (by simpa using h)))
theorem pick_go_map {α β : Type} (f : α -> β) (next : Nat -> Nat) : ∀ (n k : Nat) (left : List α) (out : Array α), pickOrder.go next n k (left.map f) (out.map f) = (pickOrder.go next n k left out).map f
  | 0, _, _, _ => rfl
  | n + 1, k, left, out => by
    unfold pickOrder.go
    rw [List.length_map, List.getElem?_map]
    cases h : left[next k % left.length]? with
    | none => rfl
    | some x =>
      have ih := pick_go_map f next n (k + 1) (left.eraseIdx (next k % left.length)) (out.push x)
      rw [Array.map_push] at ih
      rw [erase_map]
      exact ih
theorem pick_map {α β : Type} (f : α -> β) (next : Nat -> Nat) (l : List α) : pickOrder next (l.map f).toArray = (pickOrder next l.toArray).map f := by
  unfold pickOrder
  have := pick_go_map f next l.length 0 l #[]
  simpa using this
theorem pick_go_perm {α : Type} (next : Nat -> Nat) : ∀ (n k : Nat) (left : List α) (out : Array α), left.length = n -> (pickOrder.go next n k left out).toList.Perm (out.toList ++ left)
  | 0, _, left, out, h => by
    have : left = [] := List.length_eq_zero_iff.mp h
    subst this
    show out.toList.Perm _
    rw [List.append_nil]
  | n + 1, k, left, out, h => by
    unfold pickOrder.go
    have hlt : next k % left.length < left.length := Nat.mod_lt _ (h ▸ Nat.succ_pos n)
    rw [List.getElem?_eq_getElem hlt]
    dsimp only
    refine (pick_go_perm next n (k + 1) _ _ (by rw [List.length_eraseIdx_of_lt hlt, h]; rfl)).trans ?_
    rw [Array.toList_push, List.append_assoc]
    refine List.Perm.append_left _ ?_
    exact erase_perm _ _ hlt
theorem pick_perm {α : Type} (next : Nat -> Nat) (l : List α) : (pickOrder next l.toArray).toList.Perm l := by
  have := pick_go_perm next l.length 0 l #[] rfl
  simpa [pickOrder] using this
noncomputable def toV (p : NT) : Value := .int (p.1 : Int) p.2
section
variable {prog : Program} {w : World} {A : Around} {E : Value -> Shared -> Prop} {s : Shared}
noncomputable abbrev byT (w : World) : Bool := w.params.followText "set-order"
noncomputable def slotAt (w : World) (ps : List NT) (k : Nat) : Nat := if byT w = true then 0 else if k = 0 then 0 else (nums ps).getD (k - 1) 0 + 1
noncomputable def ordOf (w : World) (a : Addr) (ep : Nat) (ps : List NT) : List NT := if byT w = true then (pickOrder (w.params.setOrder a ep) ps.toArray).toList else ps
theorem ord_perm (w : World) (a : Addr) (ep : Nat) (ps : List NT) : (ordOf w a ep ps).Perm ps := by
  unfold ordOf
  split
  · exact pick_perm _ _
  · exact List.Perm.refl _
theorem walk_at {l : List Nat} (h : l.Sublist seven) {k : Nat} (hk : k <= l.length) : SetTable.below l.toArray (if k = 0 then 0 else l.getD (k - 1) 0 + 1) = k := by
  have q := List.all_eq_true.mp walks_all _ (mem_subl h)
  unfold walkOk at q
  rw [Bool.and_eq_true, beq_iff_eq] at q
  cases k with
  | zero => exact q.1
  | succ j => exact beq_iff_eq.mp (List.all_eq_true.mp q.2 j (List.mem_range.mpr hk))
theorem tab_fits {led : Bool} {ps : List NT} (h : (nums ps).Sublist seven) : (tabL led (nums ps)).fits (ents ps).size = true := by
  rw [ents_size]
  have hl : (nums ps).length = ps.length := by simp [nums]
  have h7 := h.length_le
  rw [hl] at h7
  have h7' : ps.length <= 7 := by simpa using h7
  unfold SetTable.fits SetTable.fill tabL
  split <;> simp [hl] <;> omega
theorem set_next {a : Addr} {ps : List NT} {ep k : Nat} {Q : Option (Value × Nat) -> Shared -> Prop} (ho : s.heap.get? a = some (setObj (!byT w) ps ep)) (hs : (nums ps).Sublist seven) (hk : k <= ps.length)
    (hQ : Q (((ordOf w a ep ps)[k]?).map fun p => (toV p, slotAt w ps (k + 1))) s) : wpAny (model prog w) A (setNext a (slotAt w ps k) k ep) Q E s := by
  have hl : (nums ps).length = ps.length := by simp [nums]
  unfold setNext
  refine wpAny_bind (wpAny_setState_of ho rfl (tab_fits hs) ?_)
  dsimp only
  refine wpAny_bind ?_
  unfold setsByText
  refine wpAny_bind (wpAny_askSetting (wpAny_pure ?_))
  dsimp only
  cases hb : byT w with
  | true =>
    rw [show (model prog w).w.params.followText "set-order" = true from hb]
    simp only [if_true, bne_self_eq_false, Bool.false_eq_true, if_false]
    refine wpAny_bind ?_
    unfold setWalk
    refine wpAny_bind (wpAny_setState_of ho rfl (tab_fits hs) ?_)
    dsimp only
    refine wpAny_bind ?_
    unfold setsByText
    refine wpAny_bind (wpAny_askSetting (wpAny_pure ?_))
    dsimp only
    rw [show (model prog w).w.params.followText "set-order" = true from hb]
    rw [if_pos rfl]
    refine wpAny_bind (wpAny_askSetting (wpAny_pure (wpAny_pure ?_)))
    dsimp only
    unfold ordOf at hQ
    unfold slotAt at hQ ⊢
    rw [hb] at hQ ⊢
    simp only [if_true] at hQ ⊢
    have hm : pickOrder (w.params.setOrder a ep) (ents ps) = (pickOrder (w.params.setOrder a ep) ps.toArray).map fun p => ((p.1 : Int), Value.int (p.1 : Int) p.2) := pick_map _ _ ps
    show Q (Option.map (fun e => (e.snd, 0)) (pickOrder (w.params.setOrder a ep) (ents ps))[k]?) s
    rw [hm, Array.getElem?_map, Option.map_map]
    rw [Array.getElem?_toList] at hQ
    exact hQ
  | false =>
    rw [show (model prog w).w.params.followText "set-order" = false from hb]
    rw [if_neg Bool.false_ne_true]
    have hpl : (tabL (!false) (nums ps)).plain = true := by unfold tabL; split <;> rfl
    have hld : (tabL (!false) (nums ps)).led = true := by unfold tabL; split <;> rfl
    have hpc : (tabL (!false) (nums ps)).place = (nums ps).toArray := by unfold tabL; split <;> rfl
    split
    · rename_i hd
      have hd' : (!(tabL (!false) (nums ps)).plain && decide ((ents ps).size > 1)) = true := hd
      rw [hpl] at hd'
      cases hd'
    refine wpAny_bind ?_
    show wpAny _ _ (if (!(tabL (!false) (nums ps)).led && !(ents ps).isEmpty) = true then _ else _) _ _ _
    rw [hld, if_neg (by simp)]
    refine wpAny_pure ?_
    rw [hpc]
    have hw : SetTable.below (nums ps).toArray (slotAt w ps k) = k := by
      unfold slotAt
      rw [hb]
      rw [if_neg Bool.false_ne_true]
      exact walk_at hs (by omega)
    rw [hw]
    refine wpAny_pure ?_
    unfold ordOf at hQ
    rw [hb] at hQ
    simp only [Bool.false_eq_true, if_false] at hQ
    cases hx : ps[k]? with
    | none =>
      rw [hx] at hQ
      have e1 : (ents ps)[k]? = Option.none := by simp [ents, hx]
      rw [e1]
      exact hQ
    | some p =>
      rw [hx] at hQ
      have e1 : (ents ps)[k]? = some ((p.1 : Int), Value.int (p.1 : Int) p.2) := by simp [ents, hx]
      have e2 : (nums ps).toArray[k]? = some p.1 := by simp [nums, hx]
      rw [e1, e2]
      have e3 : slotAt w ps (k + 1) = p.1 + 1 := by
        unfold slotAt
        rw [hb]
        simp only [Bool.false_eq_true, if_false, Nat.succ_ne_zero, Nat.add_sub_cancel]
        simp [nums, hx]
      rw [Option.map_some, e3] at hQ
      exact hQ
end
theorem slot_setit_next : Slot "set_iterator" "__next__" "set_iterator.__next__" :=
  .of (owner := "set_iterator") (n := "__next__") (by rw [typeLookup_type, builtinLookup_eq_fast]; kernel_rfl) (by decide +kernel) (by decide +kernel) (by decide +kernel)
    (by first | exact .inl (by decide +kernel) | exact .inr (by decide +kernel)) (by rw [isSubtype_type]; kernel_rfl)
theorem entry_setit_next : entryFor table "set_iterator.__next__" = some Builtin.«set_iterator.__next__» := entryFor_of_fast (by kernel_rfl)
theorem args_setit_next (a : Value) : argsOk "set_iterator.__next__" ⟨[a], []⟩ := by unfold argsOk; kernel_rfl
theorem entry_set_iter : entryFor table "set.__iter__" = some Builtin.«frozenset.__iter__» :=
  entryFor_alias (id' := "frozenset.__iter__") (by kernel_rfl) rfl (by decide +kernel) (by kernel_rfl)
section
variable {prog : Program} {w : World} {A : Around} {E : Value -> Shared -> Prop} {s : Shared}
noncomputable abbrev itObj (w : World) (a : Addr) (ps : List NT) (ep k : Nat) : Obj := { cls := .type "set_iterator", data := .fields #[.int (slotAt w ps k : Int) 0, .int (k : Int) 0, .ref a, .int (ps.length : Int) 0, .int (ep : Int) 0] }
theorem slot0 (w : World) (ps : List NT) : slotAt w ps 0 = 0 := by unfold slotAt; simp
theorem iter_set {a : Addr} {ps : List NT} {ep : Nat} {Q : Value -> Shared -> Prop} (ho : s.heap.get? a = some (setObj (!byT w) ps ep)) (hs : (nums ps).Sublist seven)
    (hQ : Q (.ref s.heap.objs.size) { s with heap := s.heap.push (itObj w a ps ep 0) }) : wpAny (model prog w) A (pyIter (.ref a)) Q E s := by
  have hT : s.TypeIs (.ref a) "set" := ⟨_, ho, rfl⟩
  refine wpAny_pyIter_slot hT F.slot_set_iter (wpAny_call_entry F.slot_set_iter hT entry_set_iter ?_ (F.args_set_iter_1 _))
  unfold Builtin.«frozenset.__iter__»
  refine wpAny_bind (wpAny_pure ?_)
  refine wpAny_bind ?_
  unfold Builtin.Frozenset.sizeOf
  refine wpAny_bind (wpAny_setEntries_of ho rfl (tab_fits hs) (wpAny_pure ?_))
  refine wpAny_bind ?_
  unfold setDrawn
  refine wpAny_bind (wpAny_setState_of ho rfl (tab_fits hs) ?_)
  dsimp only
  refine wpAny_bind ?_
  unfold setsByText
  refine wpAny_bind (wpAny_askSetting (wpAny_pure (wpAny_pure ?_)))
  have hpl : (tabL (!byT w) (nums ps)).plain = true := by unfold tabL; split <;> rfl
  split
  · rename_i hd
    exfalso
    have hd' : (!(model prog w).w.params.followText "set-order" && (!(tabL (!byT w) (nums ps)).plain && decide ((ents ps).size > 1))) = true := hd
    rw [hpl] at hd'
    simp at hd'
  refine wpAny_bind (wpAny_pure ?_)
  refine wpAny_bind ?_
  unfold setEpoch
  refine wpAny_bind (wpAny_setState_of ho rfl (tab_fits hs) (wpAny_pure ?_))
  refine wpAny_bind (wpAny_newObj_type (wpAny_pure ⟨_, rfl, "set_iterator", _, ⟨_, Heap.get?_push_size _ rfl, rfl⟩, slot_setit_next.lookup, ?_⟩))
  rw [ents_size]
  unfold itObj at hQ
  rw [slot0] at hQ
  exact hQ
theorem next_set {it a : Addr} {ps : List NT} {ep k : Nat} {p : NT} {Q : Option Value -> Shared -> Prop} (hi : s.heap.get? it = some (itObj w a ps ep k)) (ho : s.heap.get? a = some (setObj (!byT w) ps ep)) (hs : (nums ps).Sublist seven) (hp : (ordOf w a ep ps)[k]? = some p)
    (hQ : ∀ h', h'.get? it = some (itObj w a ps ep (k + 1)) -> Heap.SameBut it s.heap h' -> Q (some (toV p)) { s with heap := h' }) : wpAny (model prog w) A (pyNext (.ref it)) Q E s := by
  have hT : s.TypeIs (.ref it) "set_iterator" := ⟨_, hi, rfl⟩
  have hk : k <= ps.length := by
    have h1 := (List.getElem?_eq_some_iff.mp hp).1
    rw [(ord_perm w a ep ps).length_eq] at h1
    omega
  unfold pyNext
  refine wpAny_bind (wpAny_attempt (wpAny_callSpecial?_slot (name := Str.ofString "__next__") hT slot_setit_next (wpAny_call_entry slot_setit_next hT entry_setit_next ?_ (args_setit_next _))))
  unfold Builtin.«set_iterator.__next__»
  refine wpAny_bind (wpAny_pure ?_)
  refine wpAny_bind (wpAny_fieldsOf hi rfl ?_)
  show wpAny _ _ (setEntries a >>= _) _ _ s
  refine wpAny_bind (wpAny_setEntries_of ho rfl (tab_fits hs) ?_)
  rw [ents_size, if_neg (by simp)]
  show wpAny _ _ (setNext a (slotAt w ps k : Int).toNat (k : Int).toNat (ep : Int).toNat >>= _) _ _ s
  rw [Int.toNat_natCast, Int.toNat_natCast, Int.toNat_natCast]
  refine wpAny_bind (set_next ho hs hk ?_)
  rw [hp]
  dsimp only [Option.map]
  refine wpAny_bind (wpAny_setField hi rfl (by simp) ?_)
  have h1 := Heap.get?_update_self (Obj.mapFields (·.setIfInBounds 0 (rawInt (slotAt w ps (k + 1))))) hi rfl
  refine wpAny_bind (wpAny_setField h1 rfl (by simp) ?_)
  have h2 := Heap.get?_update_self (Obj.mapFields (·.setIfInBounds 1 (rawInt ((k : Int) + 1)))) h1 rfl
  refine wpAny_pure ⟨_, rfl, wpAny_pure (hQ _ (h2.trans ?_) ((Heap.SameBut.update _ it _).trans (Heap.SameBut.update _ it _)))⟩
  rfl
theorem end_set {it a : Addr} {ps : List NT} {ep k : Nat} {Q : Option Value -> Shared -> Prop} (hh : A.handled = Option.none) (hi : s.heap.get? it = some (itObj w a ps ep k)) (ho : s.heap.get? a = some (setObj (!byT w) ps ep)) (hs : (nums ps).Sublist seven) (hk : k = ps.length)
    (hQ : ∀ h', Heap.ExtBut it s.heap h' -> Q Option.none { s with heap := h' }) : wpAny (model prog w) A (pyNext (.ref it)) Q E s := by
  have hT : s.TypeIs (.ref it) "set_iterator" := ⟨_, hi, rfl⟩
  have hp : (ordOf w a ep ps)[k]? = Option.none := by
    rw [List.getElem?_eq_none_iff, (ord_perm w a ep ps).length_eq]; omega
  unfold pyNext
  refine wpAny_bind (wpAny_attempt (wpAny_callSpecial?_slot (name := Str.ofString "__next__") hT slot_setit_next (wpAny_call_entry slot_setit_next hT entry_setit_next ?_ (args_setit_next _))))
  unfold Builtin.«set_iterator.__next__»
  refine wpAny_bind (wpAny_pure ?_)
  refine wpAny_bind (wpAny_fieldsOf hi rfl ?_)
  show wpAny _ _ (setEntries a >>= _) _ _ s
  refine wpAny_bind (wpAny_setEntries_of ho rfl (tab_fits hs) ?_)
  rw [ents_size, if_neg (by simp)]
  show wpAny _ _ (setNext a (slotAt w ps k : Int).toNat (k : Int).toNat (ep : Int).toNat >>= _) _ _ s
  rw [Int.toNat_natCast, Int.toNat_natCast, Int.toNat_natCast]
  refine wpAny_bind (set_next ho hs (by omega) ?_)
  rw [hp]
  dsimp only [Option.map]
  refine wpAny_bind (wpAny_setField hi rfl (by simp) ?_)
  show wpAny _ _ (newExc (.type "StopIteration") [] >>= _) _ _ _
  refine wpAny_bind ?_
  simp only [newExc, newTuple]
  refine wpAny_bind (wpAny_newObj_type ?_ (by size_fits))
  refine wpAny_bind (m := firstArgMember _ _) (wpAny_of_eq (a := Value.none) (by first | rfl | (simp only [firstArgMember]; rfl)) ?_)
  refine wpAny_newObj_type ?_ (by size_fits)
  simp only [raiseNew]
  refine wpAny_bind (wpAny_handled ?_)
  rw [show A.in1.handled = Option.none from hh]
  refine wpAny_bind (wpAny_pure (wpAny_throw ?_))
  refine wpAny_bind (wpAny_isInstance (T := "StopIteration") (b := true) ⟨_, Heap.get?_push_size _ rfl, rfl⟩ isSubtype_stop ?_)
  exact wpAny_pure (hQ _ (((Heap.SameBut.update ..).extBut.push _).push _))
end
theorem entry_extend_loop : entryFor table "list.extend.loop" = some Builtin.«list.extend.loop» := entryFor_of_fast (by kernel_rfl)
theorem sub_set_set : isSubtype (.type "set") (.type "set") = pure true := sub_set_self
theorem split_len : splitId "set.__len__" = some ("set", "__len__") := by decide +kernel
section
variable {prog : Program} {w : World} {A : Around} {E : Value -> Shared -> Prop} {a it L : Addr} {ps : List NT} {ep : Nat}
theorem extend_loop (hh : A.handled = Option.none) (hs : (nums ps).Sublist seven) (n1 : L ≠ a) (n2 : L ≠ it) (n3 : it ≠ a) : ∀ (rest : List NT) (k : Nat) (xs : List Value) (n : Nat) (s : Shared) (R : Result -> Shared -> Prop), (ordOf w a ep ps).drop k = rest -> k + rest.length = ps.length -> xs.length + rest.length <= 100 -> s.heap.get? L = some (seqObj "list" xs.toArray n) -> s.heap.get? it = some (itObj w a ps ep k) -> s.heap.get? a = some (setObj (!byT w) ps ep) ->
    (∀ h' n', h'.get? L = some (seqObj "list" (xs ++ rest.map toV).toArray n') -> (∀ b o, b ≠ L -> b ≠ it -> s.heap.get? b = some o -> h'.get? b = some o) -> R (.ok (.ret (.ref L))) { s with heap := h' }) ->
    codeAny (model prog w) A (.builtin "list.extend.loop" ⟨[.ref L, .ref it, .ref L], []⟩) R s
  | [], k, xs, n, s, R, hd, hk, hx, hL, hi, ho, hR => by
    refine codeAny_builtin entry_extend_loop ?_
    show wpAny _ _ (pyNext (.ref it) >>= _) _ _ s
    refine wpAny_bind (end_set (by exact hh) hi ho hs (by simpa using hk) fun h' e => ?_)
    refine wpAny_pure ?_
    exact hR h' n (by rw [e L _ n2 hL]; simp) fun b o hb hi g => e b o hi g
  | p :: rest, k, xs, n, s, R, hd, hk, hx, hL, hi, ho, hR => by
    have hp : (ordOf w a ep ps)[k]? = some p := by
      have := congrArg (fun l => l[0]?) hd
      simpa using this
    have hd2 : (ordOf w a ep ps).drop (k + 1) = rest := by rw [<- List.tail_drop, hd]; rfl
    rw [List.length_cons] at hk hx
    refine codeAny_builtin entry_extend_loop ?_
    show wpAny _ _ (pyNext (.ref it) >>= _) _ _ s
    refine wpAny_bind (next_set hi ho hs hp fun h1 hi1 sb1 => ?_)
    have hL1 : h1.get? L = some (seqObj "list" xs.toArray n) := (sb1.2 L n2).trans hL
    have ho1 : h1.get? a = some (setObj (!byT w) ps ep) := (sb1.2 a n3.symm).trans ho
    dsimp only
    refine wpAny_bind (listUpdate_at (s := { s with heap := h1 }) (f := (·.push (toV p))) hL1 rfl ?_ (by simp; unfold sizeLine; omega) (by simp; unfold sizeLine; omega))
    refine wpAny_pure ⟨Code.quiet_builtin _ (by decide +kernel), ?_⟩
    have hL2 : (h1.update L (Obj.mapSeq (·.push (toV p)))).get? L = some (seqObj "list" (xs ++ [toV p]).toArray (n + 1)) := by rw [get?_update_seq hL1]; simp
    have sb2 := Heap.SameBut.update h1 L (Obj.mapSeq (·.push (toV p)))
    refine extend_loop hh hs n1 n2 n3 rest (k + 1) (xs ++ [toV p]) (n + 1) _ R hd2 (by omega) (by rw [List.length_append, List.length_singleton]; omega) hL2 ((sb2.2 it n2.symm).trans hi1) ((sb2.2 a n1.symm).trans ho1) fun h' n' g keep => ?_
    exact hR h' n' (by rw [g]; simp) fun b o hb hbi q => keep b o hb hbi ((sb2.2 b hb).trans ((sb1.2 b hbi).trans q))
end
section
variable {prog : Program} {w : World} {A : Around} {E : Value -> Shared -> Prop} {s : Shared} {a : Addr} {ps : List NT} {ep : Nat}
theorem hint_set {Q : Bool -> Shared -> Prop} (hT : s.TypeIs (.ref a) "set") (hQ : Q false s) : wpAny (model prog w) A (Builtin.List.listLengthHint (.ref a)) Q E s := by
  unfold Builtin.List.listLengthHint
  refine wpAny_bind (wpAny_specialOf hT F.slot_set_len.lookup ?_)
  dsimp only
  rw [split_len]
  dsimp only
  refine wpAny_bind (wpAny_isInstance hT sub_set_set ?_)
  rw [if_neg (show ¬((!true) = true) from Bool.false_ne_true)]
  rw [if_pos]
  · refine wpAny_bind (wpAny_typeOf hT ?_)
    exact wpAny_pure hQ
  · decide +kernel
theorem collect_set {Q : List Value -> Shared -> Prop} (hh : A.handled = Option.none) (ho : s.heap.get? a = some (setObj (!byT w) ps ep)) (hs : (nums ps).Sublist seven)
    (hQ : ∀ h', (∀ b o, s.heap.get? b = some o -> h'.get? b = some o) -> Q ((ordOf w a ep ps).map toV) { s with heap := h' }) : wpAny (model prog w) A (collect (.ref a)) Q E s := by
  have hl : (nums ps).length = ps.length := by simp [nums]
  have h7 : ps.length <= 7 := by
    have := hs.length_le
    rw [hl] at this
    simpa using this
  have hla := Heap.lt_size ho
  unfold collect
  refine wpAny_bind (wpAny_runValue (codeAny_builtin entry_proto_collect' ?_))
  show wpAny _ _ (do again (.builtin "list.__iadd__" ⟨[<- newList [], .ref a], []⟩)) _ _ s
  refine wpAny_bind (wpAny_newList (wpAny_pure ⟨Code.quiet_builtin _ (by decide +kernel), codeAny_builtin entry_list_iadd' ?_⟩))
  show wpAny _ _ (Builtin.List.listExtendWith (.ref s.heap.objs.size) (.ref a) (.ref s.heap.objs.size)) _ _ { s with heap := s.heap.push (seqObj "list" #[] 0) }
  unfold Builtin.List.listExtendWith
  have ho1 : (s.heap.push (seqObj "list" #[] 0)).get? a = some (setObj (!byT w) ps ep) := Heap.get?_push_of_some _ ho
  have hT1 : Shared.TypeIs { s with heap := s.heap.push (seqObj "list" #[] 0) } (.ref a) "set" := ⟨_, ho1, rfl⟩
  refine wpAny_bind (wpAny_typeOf hT1 ?_)
  have hne : Builtin.List.listSameRef (.ref s.heap.objs.size) (.ref a) = false := by
    show (s.heap.objs.size == a) = false
    exact beq_eq_false_iff_ne.mpr (Nat.ne_of_gt hla)
  rw [hne, if_neg (by decide)]
  refine wpAny_bind (iter_set (s := { s with heap := s.heap.push (seqObj "list" #[] 0) }) ho1 hs ?_)
  have hz : (s.heap.push (seqObj "list" #[] 0)).objs.size = s.heap.objs.size + 1 := size_push' _ _
  have ho2 : ((s.heap.push (seqObj "list" #[] 0)).push (itObj w a ps ep 0)).get? a = some (setObj (!byT w) ps ep) := Heap.get?_push_of_some _ ho1
  have hL2 : ((s.heap.push (seqObj "list" #[] 0)).push (itObj w a ps ep 0)).get? s.heap.objs.size = some (seqObj "list" #[] 0) := Heap.get?_push_of_some _ (Heap.get?_push_size _ rfl)
  have hi2 : ((s.heap.push (seqObj "list" #[] 0)).push (itObj w a ps ep 0)).get? (s.heap.objs.size + 1) = some (itObj w a ps ep 0) := by rw [<- hz]; exact Heap.get?_push_size _ rfl
  have hT2 : Shared.TypeIs { s with heap := (s.heap.push (seqObj "list" #[] 0)).push (itObj w a ps ep 0) } (.ref a) "set" := ⟨_, ho2, rfl⟩
  refine wpAny_bind (wpAny_holding (hint_set hT2 ?_))
  rw [if_pos (by decide)]
  refine wpAny_bind (wpAny_rule ?_)
  refine wpAny_bind ?_
  unfold Builtin.List.listTouch
  refine wpAny_bind (listUpdate_at (s := { s with heap := (s.heap.push (seqObj "list" #[] 0)).push (itObj w a ps ep 0) }) (f := (·.push .none)) hL2 rfl ?_ (by simp) (by simp))
  generalize hH2 : (s.heap.push (seqObj "list" #[] 0)).push (itObj w a ps ep 0) = H2 at ho2 hL2 hi2 ⊢
  have k2 : ∀ b o, s.heap.get? b = some o -> H2.get? b = some o := fun b o g => by rw [<- hH2]; exact Heap.get?_push_of_some _ (Heap.get?_push_of_some _ g)
  have hL3 : (H2.update s.heap.objs.size (Obj.mapSeq (·.push .none))).get? s.heap.objs.size = some (seqObj "list" #[.none] 1) := by rw [get?_update_seq hL2]; rfl
  have sb3 := Heap.SameBut.update H2 s.heap.objs.size (Obj.mapSeq (·.push .none))
  refine listUpdate_at (s := { s with heap := _ }) (f := (·.pop)) hL3 rfl ?_ (by simp [sizeLine]) (by simp)
  generalize H2.update s.heap.objs.size (Obj.mapSeq (·.push .none)) = H3 at hL3 sb3 ⊢
  have hL4 : (H3.update s.heap.objs.size (Obj.mapSeq (·.pop))).get? s.heap.objs.size = some (seqObj "list" ([] : List Value).toArray 2) := by rw [get?_update_seq hL3]; rfl
  have sb4 := Heap.SameBut.update H3 s.heap.objs.size (Obj.mapSeq (·.pop))
  generalize H3.update s.heap.objs.size (Obj.mapSeq (·.pop)) = H4 at hL4 sb4 ⊢
  have off : ∀ b o, b ≠ s.heap.objs.size -> H2.get? b = some o -> H4.get? b = some o := fun b o hb g => (sb4.2 b hb).trans ((sb3.2 b hb).trans g)
  refine wpAny_pure ⟨Code.quiet_builtin _ (by decide +kernel), ?_⟩
  have hlen : (ordOf w a ep ps).length = ps.length := (ord_perm w a ep ps).length_eq
  rw [hz]
  refine extend_loop (by exact hh) hs (Nat.ne_of_gt hla) (Nat.ne_of_lt (Nat.lt_succ_self _)) (Nat.ne_of_gt (Nat.lt_succ_of_lt hla)) (ordOf w a ep ps) 0 [] 2 { s with heap := H4 } _ rfl (by omega) (by simp only [List.length_nil]; omega) hL4 (off _ _ (Nat.ne_of_gt (Nat.lt_succ_self _)) hi2) (off _ _ (Nat.ne_of_lt hla) ho2) fun h' n' g keep => ?_
  show wpAny (model prog w) A (do
      let o <- load s.heap.objs.size
      match o.data with
      | .seq xs _ => pure xs.toList
      | _ => unsupported "internal:collect") Q E { s with heap := h' }
  refine wpAny_bind (wpAny_load g ?_)
  show wpAny _ _ (pure (([] : List Value) ++ (ordOf w a ep ps).map toV).toArray.toList) Q E _
  rw [show (([] : List Value) ++ (ordOf w a ep ps).map toV).toArray.toList = (ordOf w a ep ps).map toV by simp]
  exact wpAny_pure (hQ h' fun b o e => keep b o (Nat.ne_of_lt (Heap.lt_size e)) (Nat.ne_of_lt (Nat.lt_succ_of_lt (Heap.lt_size e))) (off b o (Nat.ne_of_lt (Heap.lt_size e)) (k2 b o e)))
end
theorem ints_toV : ∀ ps : List NT, IntsAre (ps.map toV) (ps.map fun p => (p.1 : Int))
  | [] => .nil
  | p :: ps => .cons _ _ (ints_toV ps)
theorem perm_eq {l m : List Int} (h : l.Perm m) (hl : l.Pairwise (· <= ·)) (hm : m.Pairwise (· <= ·)) : l = m :=
  List.Perm.eq_of_pairwise (fun a b _ _ h1 h2 => Int.le_antisymm h1 h2) hl hm h
theorem rising_ints {l : List Nat} (h : l.Sublist seven) : (l.map fun (n : Nat) => (n : Int)).Pairwise (· <= ·) := by
  have q : seven.Pairwise (· <= ·) := by decide
  have := q.sublist h
  rw [List.pairwise_map]
  exact this.imp fun h => by omega
section
variable {prog : Program} {w : World} {A : Around} {E : Value -> Shared -> Prop} {s : Shared} {a : Addr} {ps : List NT} {ep : Nat}
theorem sorted_set {Q : Value -> Shared -> Prop} (hh : A.handled = Option.none) (ho : s.heap.get? a = some (setObj (!byT w) ps ep)) (hs : (nums ps).Sublist seven)
    (hQ : ∀ h' r out n, s.heap.get? r = Option.none -> h'.get? r = some (seqObj "list" out n) -> IntsAre out.toList (ps.map fun p => (p.1 : Int)) -> (∀ b o, s.heap.get? b = some o -> h'.get? b = some o) -> Q (.ref r) { s with heap := h' }) :
    wpAny (model prog w) A (PySem.call (.builtin "sorted") [.ref a]) Q E s := by
  have hl : (nums ps).length = ps.length := by simp [nums]
  have h7 : ps.length <= 7 := by
    have := hs.length_le
    rw [hl] at this
    simpa using this
  have hlen : (ordOf w a ep ps).length = ps.length := (ord_perm w a ep ps).length_eq
  refine Calls.call_function_entry kind_sorted plain_sorted entry_sorted (args_sorted1 _) ?_
  unfold Builtin.«sorted»
  refine wpAny_bind (m := checkCount "sorted" 1 1 _) (wpAny_pure ?_)
  refine wpAny_bind (collect_set (by exact hh) ho hs fun h1 k1 => ?_)
  refine wpAny_bind (wpAny_newList ?_ (by simp [hlen]; unfold sizeLine; omega))
  have hoL : (h1.push (seqObj "list" ((ordOf w a ep ps).map toV).toArray 0)).get? h1.objs.size = some (seqObj "list" ((ordOf w a ep ps).map toV).toArray 0) := Heap.get?_push_size _ rfl
  have fresh : s.heap.get? h1.objs.size = Option.none := by
    cases g : s.heap.get? h1.objs.size with
    | none => rfl
    | some o => exact absurd (Heap.lt_size (k1 _ _ g)) (Nat.lt_irrefl _)
  refine wpAny_bind (wpAny_holding (wpAny_call_entry slot_list_sort ⟨_, hoL, rfl⟩ entry_list_sort (list_sort_tree hoL (ints_toV _) (by rw [List.length_map]; omega) fun out ns' a1 a2 a3 => ⟨_, rfl, ?_⟩) (args_list_sort _)))
  refine wpAny_pure ⟨_, rfl, ?_⟩
  obtain ⟨n, hn⟩ : ∃ n, (sortedHeap (h1.push (seqObj "list" ((ordOf w a ep ps).map toV).toArray 0)) h1.objs.size ((ordOf w a ep ps).map toV) out).get? h1.objs.size = some (seqObj "list" out n) := sortedHeap_at hoL
  have hp : ns' = ps.map fun p => (p.1 : Int) := by
    refine perm_eq (a2.trans ((ord_perm w a ep ps).map _)) a3 ?_
    have := rising_ints hs
    unfold nums at this
    rw [List.map_map] at this
    exact this
  refine hQ _ h1.objs.size out n fresh hn (hp ▸ a1) fun b o g => ?_
  have hb := k1 b o g
  have hlt := Heap.lt_size hb
  rw [sortedHeap_old (Nat.ne_of_lt hlt) (by rw [size_push']; exact Nat.lt_succ_of_lt hlt)]
  exact Heap.get?_push_of_some _ hb
end
end Mine
namespace Mine
open PySem PyProof.Rows PySem.W
theorem lt_63 {k : Int} {n : Nat} (hn : n <= line) (h : k < n) : k < 2 ^ 63 := Int.lt_of_lt_of_le h (Int.le_trans (Int.ofNat_le.mpr hn) (by decide))
theorem gt_63 {k : Int} {n : Nat} (hn : n <= line) (h : -(n : Int) <= k) : -2 ^ 63 <= k := Int.le_trans (Int.le_trans (by decide) (Int.neg_le_neg (Int.ofNat_le.mpr hn))) h
theorem place_lt {k : Int} {n j : Nat} (h : place k n = some j) : (0 <= k /\ k < n /\ j = k.toNat) \/ (k < 0 /\ -(n : Int) <= k /\ j = (k + n).toNat) := by
  unfold place at h
  by_cases h0 : 0 <= k
  · rw [if_pos h0] at h
    by_cases h1 : k < n
    · rw [if_pos h1] at h; cases h; exact .inl ⟨h0, h1, rfl⟩
    · rw [if_neg h1] at h; cases h
  · rw [if_neg h0] at h
    by_cases h1 : -(n : Int) <= k
    · rw [if_pos h1] at h; cases h; exact .inr ⟨Int.not_le.mp h0, h1, rfl⟩
    · rw [if_neg h1] at h; cases h
theorem seq_of {k : Int} {n j : Nat} (hn : n <= line) (h : place k n = some j) : -2 ^ 63 <= k /\ k < 2 ^ 63 /\ seqIndex? k n = some j := by
  unfold seqIndex?
  rcases place_lt h with ⟨h0, h1, rfl⟩ | ⟨h0, h1, rfl⟩
  · refine ⟨Int.le_trans (by decide) h0, lt_63 hn h1, ?_⟩
    rw [if_neg (Int.not_lt.mpr h0)]
    exact if_pos (by rw [decide_eq_true h0, decide_eq_true h1]; rfl)
  · refine ⟨gt_63 hn h1, Int.lt_trans h0 (by decide), ?_⟩
    rw [if_pos h0]
    have k0 : 0 <= k + n := by clear h; omega
    have k1 : k + n < n := by clear h; omega
    exact if_pos (by rw [decide_eq_true k0, decide_eq_true k1]; rfl)
theorem IntsAre.get' {vs : List Value} {ns : List Int} (r : IntsAre vs ns) {j : Nat} {n : Int} (e : ns[j]? = some n) : ∃ t, vs[j]? = some (.int n t) := by
  induction r generalizing j with
  | nil => cases e
  | cons a t r ih =>
    cases j with
    | zero => cases e; exact ⟨_, rfl⟩
    | succ j => exact ih e
section
variable {κ : Ct} {ρ : Rho} {vs : List (V × Value)} {H : Hp}
theorem wpAny_item_list {X : Cx} {A : Around} {s : Shared} {a : Addr} {items : Array Value} {k : Int} {u : Tok} {j : Nat} {m : Value} {value slice : Expr} {Q : Value -> Shared -> Prop} {E : Value -> Shared -> Prop}
    (hl : s.heap.IsList a items) (hn : items.size <= line) (hj : place k items.size = some j) (hm : items[j]? = some m) (hs : subscripted slice false (.ref a) (.int k u) = operate [.ref a, .int k u] (getItem (.ref a) (.int k u))) (hq : Q m s) :
    wpAny X.M A (subscriptTail value slice (.ref a) (.int k u)) Q E s := by
  refine tail_any hl.typeIs slot_list_getitem.lookup ?_ hs
  rcases place_lt hj with ⟨h0, h1, rfl⟩ | ⟨h0, h1, rfl⟩
  · exact wpAny_getItem_list hl h0 (lt_63 hn h1) hm hq
  · exact wpAny_getItem_list_neg hl h0 h1 (gt_63 hn h1) hm hq
theorem itemAt_ok {xs : List V} {k : Int} {m : Sem Value} (h : ∀ (j : Nat) (v : V), place k xs.length = some j -> xs[j]? = some v -> Tri κ ρ vs m H (.ok v H) rV) : Tri κ ρ vs m H (itemAt xs k H) rV := by
  unfold itemAt
  cases e : (place k xs.length).bind (xs[·]?) with
  | none => exact Tri.stuck
  | some v =>
    obtain ⟨j, e1, e2⟩ := Option.bind_eq_some_iff.mp e
    exact h j v e1 e2
theorem get_tab {X : Cx} {η : List Addr} {h : Heap} {k : Key} {v : V} : ∀ {xs : List (Key × V)} {ys : List (Key × Addr × Value)}, ys.map (·.1) = xs.map (·.1) -> VRs X η h (xs.map (·.2)) (ys.map (·.2.2)) -> tabGet xs k = some v -> ∃ p, atKey ys k = some p /\ VR X η h v p.2
  | [], _, _, _, e => by cases e
  | _ :: _, [], e, _, _ => by cases e
  | x :: xs, y :: ys, e, r, g => by
    simp only [List.map_cons, List.cons.injEq] at e
    cases r with
    | cons a r =>
      unfold tabGet at g
      unfold atKey
      rw [List.find?_cons] at g ⊢
      rw [e.1]
      by_cases hk : x.1 = k
      · rw [decide_eq_true hk] at g ⊢
        cases g
        exact ⟨y.2, rfl, a⟩
      · rw [decide_eq_false hk] at g ⊢
        exact get_tab e.2 r g
theorem index_ok {o i : V} {mo mi : Value} {value slice : Expr} (ho : (o, mo) ∈ vs) (hi : (i, mi) ∈ vs) (hs : ∀ a b, subscripted slice false a b = operate [a, b] (getItem a b)) :
    Tri κ ρ vs (subscriptTail value slice mo mi) H (index o i H) rV := by
  unfold index
  cases hk : intAt i with
  | none =>
    dsimp only
    cases ht : tabAt o H with
    | none => exact Tri.stuck
    | some p =>
      dsimp only
      cases hi' : keyAt i with
      | none => exact Tri.stuck
      | some k =>
        dsimp only
        cases hg : tabGet p.1 k with
        | none => exact Tri.stuck
        | some v =>
          refine Tri.plain fun η s Q E at' hv hq => ?_
          have va := hv _ hi
          rw [keyAt_inv hi'] at va
          obtain ⟨c, rfl, hkey⟩ := key_of va
          obtain ⟨n, rfl, hn⟩ := tabAt_inv ht
          have vb := hv _ ho
          cases vb with
          | ref e =>
            obtain ⟨ys, D, e2, _, r, _, hsm⟩ := tab_of_H at'.inv e hn
            obtain ⟨q, e3, rq⟩ := get_tab e2 r hg
            have hroom := at'.pair
            exact tail_any (T := "dict") D.of.typeIs slot_dict_getitem.lookup (wpAny_getItem_heap (knd := pairKind κ.X.prog κ.X.w) hroom hkey D.of e3 (hq _ _ rq)) (hs _ _)
  | some k =>
    have key : Tri κ ρ vs (subscriptTail value slice mo mi) H (match listAt o H with | some xs => itemAt xs k H | Option.none => .stuck) rV := by
      cases hx : listAt o H with
      | none => exact Tri.stuck
      | some xs =>
        refine itemAt_ok fun j v e1 e2 => Tri.plain fun η s Q E at' hv hq => ?_
        obtain ⟨u, rfl⟩ := vr_int (hv _ hi) hk
        obtain ⟨a, items, c, rfl, g, r, l⟩ := vr_list at'.inv (hv _ ho) hx
        obtain ⟨m, e3, rm⟩ := r.get e2
        exact wpAny_item_list ⟨_, g, rfl, c, rfl⟩ (by rw [r.size]; exact l) (by rw [r.size]; exact e1) (by simpa using e3) (hs _ _) (hq _ s.toks rm)
    cases o with
    | tup xs =>
      refine itemAt_ok fun j v e1 e2 => Tri.plain fun η s Q E at' hv hq => ?_
      obtain ⟨u, rfl⟩ := vr_int (hv _ hi) hk
      have vo := hv _ ho
      cases vo with
      | tup g nn r l =>
        obtain ⟨m, e3, rm⟩ := r.get e2
        obtain ⟨h0, h1, h2⟩ := seq_of l e1
        exact tail_any (T := "tuple") ⟨_, g, rfl⟩ F.slot_tuple_getitem.lookup (P.getItem_tuple g h0 h1 (by rw [r.size]; exact h2) (by simpa using e3) (hq _ s.toks rm)) (hs _ _)
    | scr ns =>
      refine itemAt_ok fun j v e1 e2 => Tri.plain fun η s Q E at' hv hq => ?_
      obtain ⟨u, rfl⟩ := vr_int (hv _ hi) hk
      rw [List.length_map] at e1
      rw [List.getElem?_map] at e2
      obtain ⟨z, e4, rfl⟩ := Option.map_eq_some_iff.mp e2
      have vo := hv _ ho
      cases vo with
      | scr hb hi' hln =>
        rename_i a items
        have es := (Array.length_toList (xs := items)).symm.trans hi'.length
        obtain ⟨t, e3⟩ := IntsAre.get' hi' e4
        have hl' : s.heap.IsList a items := let ⟨o, ho, q⟩ := hb; ⟨o, at'.inv.keep _ _ ho, q⟩
        exact wpAny_item_list hl' (by rw [es]; exact hln) (by rw [es]; exact e1) (by simpa using e3) (hs _ _) (hq _ s.toks (.int _ _))
    | lst xs =>
      refine itemAt_ok fun j v e1 e2 => Tri.plain fun η s Q E at' hv hq => ?_
      obtain ⟨u, rfl⟩ := vr_int (hv _ hi) hk
      have vo := hv _ ho
      cases vo with
      | lst g nn r l =>
        obtain ⟨m, e3, rm⟩ := r.get e2
        exact wpAny_item_list ⟨_, g, rfl, _, rfl⟩ (by rw [r.size]; exact l) (by rw [r.size]; exact e1) (by simpa using e3) (hs _ _) (hq _ s.toks rm)
    | _ => exact key
theorem nts_of {η : List Addr} {h : Heap} {X : Cx} : ∀ {ns : List Int} {ms : List Value}, (ns.all fun n => decide (0 <= n)) = true -> VRs X η h (ns.map .int) ms -> ∃ ps : List NT, ms = intsOf ps /\ nums ps = ns.map Int.toNat /\ ps.map (fun p => (p.1 : Int)) = ns
  | [], _, _, r => by cases r; exact ⟨[], rfl, rfl, rfl⟩
  | n :: ns, _, hp, r => by
    rw [List.all_cons, Bool.and_eq_true, decide_eq_true_eq] at hp
    cases r with
    | cons a r =>
      cases a
      rename_i t
      obtain ⟨ps, e1, e2, e3⟩ := nts_of hp.2 r
      have hn : ((n.toNat : Nat) : Int) = n := Int.toNat_of_nonneg hp.1
      refine ⟨(n.toNat, t) :: ps, ?_, ?_, ?_⟩
      · rw [e1]
        show _ = Value.int ((n.toNat : Nat) : Int) t :: intsOf ps
        rw [hn]
      · show n.toNat :: nums ps = _
        rw [e2]; rfl
      · show ((n.toNat : Nat) : Int) :: ps.map (fun p => (p.1 : Int)) = _
        rw [hn, e3]
theorem set_made {v : V} {mv : Value} {ns : List Int} {η : List Addr} {s : Shared} {Q : Value -> Shared -> Prop} {E : Value -> Shared -> Prop} (hh : κ.A.handled = Option.none) (r : VR κ.X η s.heap v mv) (e : (tupAt v).bind intsV = some ns) (hp : (ns.all fun n => decide (0 <= n)) = true) (hs : (ns.map Int.toNat).isSublist (List.range 7) = true)
    (hq : ∀ a h' k ps ep, (∀ b o, s.heap.get? b = some o -> h'.get? b = some o) -> h'.get? a = some (setObj (!byT κ.X.w) ps ep) -> (nums ps).Sublist seven -> ps.map (fun p => (p.1 : Int)) = ns -> Q (.ref a) { s with heap := h', toks := k }) : wpAny κ.X.M κ.A (PySem.call (.type "set") [mv]) Q E s := by
  obtain ⟨xs, e1, e2⟩ := Option.bind_eq_some_iff.mp e
  rw [tupAt_inv e1, intsV_inv e2] at r
  cases r with
  | tup g n r l =>
    obtain ⟨ps, e3, e4, e5⟩ := nts_of hp r
    have hsub : (nums ps).Sublist seven := by rw [e4]; exact List.isSublist_iff_sublist.mp hs
    exact call_set_1 hh ⟨_, g, rfl, _, rfl⟩ e3 hsub fun h' ep k g' keep => hq _ h' k ps ep keep g' hsub e5
theorem Tri.newTuple {ws : List V} {ms : List Value} (hl : ws.length = ms.length) (hw : ∀ p ∈ ws.zip ms, p ∈ vs) (hln : ws.length <= line) : Tri κ ρ vs (PySem.newTuple ms) H (.ok (.tup ws) H) rV :=
  Tri.reads fun η s Q E at' hv hq => wpAny_newTuple (hq _ _ s.toks (push_keeps _ _) trivial fun p hp => rV1 hp (.tup (Heap.get?_push_size _ rfl) at'.inv.size_off ((VRs.of_zip hl fun p hp => hv p (hw p hp)).grow (Step.ext [] [] η (push_keeps _ _))) hln)) (by rw [<- hl]; exact Nat.le_trans hln line_lt)
theorem Tri.newList {ws : List V} {ms : List Value} (hl : ws.length = ms.length) (hw : ∀ p ∈ ws.zip ms, p ∈ vs) (hln : ws.length <= line) : Tri κ ρ vs (PySem.newList ms) H (new (.list ws) H) rV :=
  Tri.madeL hln fun η s Q E at' hv hq => wpAny_newList (hq _ _ _ _ s.toks (size_none _) (push_keeps _ _) (Heap.get?_push_size _ rfl) (VRs.of_zip hl fun p hp => hv p (hw p hp))) (by rw [<- hl]; exact Nat.le_trans hln line_lt)
theorem Tri.hidden {ws : List V} {ms : List Value} (hl : ws.length = ms.length) (hw : ∀ p ∈ ws.zip ms, p ∈ vs) (hln : ws.length <= line) : Tri κ ρ vs (PySem.newList ms) H (.ok (.lst ws) H) rV :=
  Tri.reads fun η s Q E at' hv hq => wpAny_newList (hq _ _ s.toks (push_keeps _ _) trivial fun p hp => rV1 hp (.lst (Heap.get?_push_size _ rfl) at'.inv.size_off ((VRs.of_zip hl fun p hp => hv p (hw p hp)).grow (Step.ext [] [] η (push_keeps _ _))) hln)) (by rw [<- hl]; exact Nat.le_trans hln line_lt)
end
noncomputable def Mach (h : Heap) (b : Addr) : Prop := ∃ o, h.get? b = some o /\ ((∃ T fs, o.cls = .type T /\ o.data = .fields fs /\ T ≠ "range") \/ ∃ es n, o.data = .dict es n)
structure Turn (its η : List Addr) (H : Hp) (h h' : Heap) : Prop where
  keep : ∀ b o, b ∉ its -> h.get? b = some o -> h'.get? b = some o
  was : ∀ b ∈ its, H = H /\ b ∉ η /\ Mach h b
section
variable {X : Cx} {η : List Addr} {h h' : Heap} {H : Hp} {it : Addr} {its : List Addr}
theorem Turn.one (hη : it ∉ η) (hm : Mach h it) (k : ∀ b o, b ≠ it -> h.get? b = some o -> h'.get? b = some o) : Turn [it] η H h h' :=
  ⟨fun b o hb => k b o fun q => hb (List.mem_singleton.mpr q), fun b hb => by rw [List.mem_singleton] at hb; subst hb; exact ⟨rfl, hη, hm⟩⟩
theorem Turn.holds (x : Turn its η H h h') : Holds η h η h' := by
  have go : ∀ a o, h.get? a = some o -> a ∉ η -> ¬ ((∃ T fs, o.cls = .type T /\ o.data = .fields fs /\ T ≠ "range") \/ ∃ es n, o.data = .dict es n) -> h'.get? a = some o := fun a o e hn hd => by
    refine x.keep a o (fun q => ?_) e
    obtain ⟨_, _, o', e', m⟩ := x.was a q
    rw [e] at e'; cases e'; exact hd m
  refine ⟨fun a o e hn hs => ⟨go a o e hn ?_, hn⟩⟩
  rintro (⟨T, fs, c, d, hT⟩ | ⟨es, n, d⟩) <;> rcases hs with ⟨xs, k, d'⟩ | ⟨c', fs', d'⟩
  · rw [d] at d'; cases d'
  · rw [c] at c'; cases c'; exact hT rfl
  · rw [d] at d'; cases d'
  · rw [d] at d'; cases d'
theorem Turn.vr (x : Turn its η H h h') {v : V} {m : Value} (r : VR X η h v m) : VR X η h' v m := r.map ⟨[], (List.append_nil _).symm⟩ x.holds
theorem Turn.vrs (x : Turn its η H h h') {v : List V} {m : List Value} (r : VRs X η h v m) : VRs X η h' v m := r.map ⟨[], (List.append_nil _).symm⟩ x.holds
theorem Turn.inv (x : Turn its η H h h') (i : Inv X η H h) (hb : ∀ b ∈ its, X.base.get? b = Option.none) : Inv X η H h' := by
  refine ⟨fun b o e => x.keep b o (fun q => by rw [hb b q] at e; cases e) (i.keep b o e), i.len, i.fresh, i.nodup, fun n a o ha ho => ?_⟩
  by_cases hi : a ∈ its
  · exact absurd (List.mem_of_getElem? ha) (x.was a hi).2.1
  · obtain ⟨ob, e, r⟩ := i.objs n a o ha ho
    exact ⟨ob, x.keep a ob hi e, r.map ⟨[], (List.append_nil _).symm⟩ x.holds⟩
theorem Turn.step {fr own η0 : List Addr} {h0 : Heap} (x : Turn its η H h h') (s : Step fr own η0 h0 η h) (h0n : ∀ b ∈ its, h0.get? b = Option.none) : Step fr own η0 h0 η h' := by
  have ne : ∀ b o, h0.get? b = some o -> b ∉ its := fun b o e q => by rw [h0n b q] at e; cases e
  refine ⟨s.pre, fun b o e => let ⟨o1, e1⟩ := s.alive b o e; ⟨o1, x.keep b o1 (ne b o e) e1⟩, fun b o e hb ho => let ⟨sl, e1, q⟩ := s.data b o e hb ho; ⟨sl, x.keep b _ (ne b o e) e1, q⟩, fun b o e hb es' k d => ?_, fun b o e hb v d => ?_⟩
  · obtain ⟨o1, es1, k1, e1, d1⟩ := s.dicts b o e hb es' k d
    exact ⟨o1, es1, k1, x.keep b _ (ne b o e) e1, d1⟩
  · obtain ⟨o1, v1, e1, d1⟩ := s.cells b o e hb v d
    exact ⟨o1, v1, x.keep b _ (ne b o e) e1, d1⟩
theorem Turn.ends {env : Env} {ρ : Rho} (x : Turn its η H h h') (e : Ends X env ρ η h) (hn : ∀ b ∈ ownOf env, b ∉ its) : Ends X env ρ η h' := by
  obtain ⟨fo, ro⟩ := e
  have ns : ∀ {m : Str -> Option Value}, h.Ns env.locals m -> h'.Ns env.locals m := fun {m} ⟨o, es, ep, e, d, r⟩ =>
    ⟨o, es, ep, x.keep _ _ (hn _ (List.Mem.head _)) e, d, r⟩
  have cl : ∀ {y : Str} {c : Addr} {o : Obj}, (y, c) ∈ env.cells -> h.get? c = some o -> h'.get? c = some o := fun {y c o} m e => x.keep _ _ (hn c (List.mem_cons.mpr (.inr (List.mem_map.mpr ⟨(y, c), m, rfl⟩)))) e
  refine ⟨⟨fo.kind, fo.glob, fo.blt, let ⟨m, hn⟩ := fo.ns; ⟨m, ns hn⟩, fun p hp => let ⟨o, v, e, d⟩ := fo.cell p hp; ⟨o, v, cl (y := p.1) hp e, d⟩, fo.cells, fo.inj, fo.off⟩, fun y v ey hy => ?_⟩
  obtain ⟨mv, hh, r⟩ := ro y v ey hy
  refine ⟨mv, ?_, x.vr r⟩
  rcases hh with ⟨hk, m, hn, hm⟩ | ⟨hk, c, o, hc, g, d⟩
  · exact .inl ⟨hk, m, ns hn, hm⟩
  · exact .inr ⟨hk, c, o, hc, cl (lookup_mem hc) g, d⟩
noncomputable def Recs (its η : List Addr) (h : Heap) : Prop := ∀ b ∈ its, b ∈ η \/ ∃ o fs, h.get? b = some o /\ o.data = .fields fs
theorem Recs.off {l : List Addr} (x : Recs its η h) (f : Frm h l) (hl : ∀ b ∈ l, b ∉ η) : ∀ b ∈ l, b ∉ its := fun b hb q => by
  rcases x b q with z | ⟨o, fs, e, d⟩
  · exact hl b hb z
  · exact f.not e ⟨fun es n z => (by rw [d] at z; cases z), fun v z => (by rw [d] at z; cases z)⟩ hb
theorem Turn.at {κ : Ct} {ρ : Rho} {s : Shared} {tk : Nat} (x : Turn its η H s.heap h') (a : At κ η ρ H s) (hb : ∀ b ∈ its, κ.X.base.get? b = Option.none) (hr : Recs its η s.heap) : At κ η ρ H { s with heap := h', toks := tk } := by
  have en := x.ends ⟨a.fok, a.rho⟩ (hr.off a.fok.frm fun b q => (a.fok.off b q).1)
  have of := hr.off a.stk.frm a.stk.off
  refine ⟨x.inv a.inv hb, en.1, en.2, ⟨a.stk.frames, ?_, a.stk.off, fun b hb => let ⟨o, e, q⟩ := a.stk.frm b hb; ⟨o, x.keep b o (of b hb) e, q⟩⟩, a.room, a.hand⟩
  have key : ∀ l : List Env, (∀ b ∈ frs l, b ∉ its) -> s.heap.FunFrames κ.X.base l -> h'.FunFrames κ.X.base l := by
    intro l
    induction l with
    | nil => intro _ _; trivial
    | cons e l ih =>
      intro ho ⟨hk, ⟨L, o, hfr, hn, hg, hd⟩, hr⟩
      have hL : L ∈ frs (e :: l) := by unfold frs; rw [List.filterMap_cons, hfr]; exact List.Mem.head _
      have sub : ∀ a ∈ frs l, a ∈ frs (e :: l) := by intro a ha; unfold frs at *; rw [List.filterMap_cons, hfr]; exact List.Mem.tail _ ha
      exact ⟨hk, ⟨L, o, hfr, hn, x.keep L o (ho L hL) hg, hd⟩, ih (fun a ha => ho a (sub a ha)) hr⟩
  exact key _ of a.stk.ok
end
inductive ItR (X : Cx) (η : List Addr) (h : Heap) (it : Addr) (H : Hp) : V -> List V -> Nat -> Prop
  | list {n i : Nat} {l : Addr} {xs : List V} : η[n]? = some l -> H[n]? = some (.list xs) -> h.IsListIter it l i -> ItR X η h it H (.ref n) xs i
  | tab {n i ep : Nat} {d : Addr} {ps : List (Key × V)} : η[n]? = some d -> H[n]? = some (.tab ps ep) -> h.IsKeyIter it d i ps.length ep -> ItR X η h it H (.ref n) (ps.map fun x => keyV x.1) i
  | tup {t : Addr} {i k : Nat} {items : Array Value} {xs : List V} : h.get? t = some { cls := .type "tuple", data := .seq items k } -> t ∉ η -> VRs X η h xs items.toList -> h.IsTupleIter it t i -> ItR X η h it H (.tup xs) xs i
  | rng {a b c : Int} {i : Nat} : IsRangeIter h it (a + c * i) ((rangeL a b c).length - i) c -> ItR X η h it H (.rng a b c) ((rangeL a b c).map .int) i
section
variable {X : Cx} {η η' : List Addr} {h h' : Heap} {it : Addr} {H0 : Hp} {src : V} {xs : List V} {i : Nat}
theorem ItR.obj (r : ItR X η h it H0 src xs i) : ∃ o T fs, h.get? it = some o /\ o.cls = .type T /\ o.data = .fields fs /\ T ≠ "range" := by
  cases r with
  | list _ _ q => obtain ⟨o, a, b, c⟩ := q; exact ⟨o, _, _, a, b, c, by decide⟩
  | tab _ _ q => obtain ⟨o, a, b, c⟩ := q; exact ⟨o, _, _, a, b, c, by decide⟩
  | tup _ _ _ q => obtain ⟨o, a, b, c⟩ := q; exact ⟨o, _, _, a, b, c, by decide⟩
  | rng q => exact ⟨_, _, _, q, rfl, rfl, by decide⟩
theorem ItR.mach (r : ItR X η h it H0 src xs i) : Mach h it := let ⟨o, T, fs, e, c, d, q⟩ := r.obj; ⟨o, e, .inl ⟨T, fs, c, d, q⟩⟩
theorem ItR.recs (r : ItR X η h it H0 src xs i) : Recs [it] η h := fun b hb => let ⟨o, _, fs, e, _, d, _⟩ := r.obj; .inr ⟨o, fs, by rw [List.mem_singleton.mp hb]; exact e, d⟩
theorem ItR.move (r : ItR X η h it H0 src xs i) (hp : ∃ l, η' = η ++ l) (x : Holds η h η' h') (same : ∀ o, h.get? it = some o -> h'.get? it = some o) : ItR X η' h' it H0 src xs i := by
  cases r with
  | list e1 e2 q1 =>
    obtain ⟨o, a, b, c⟩ := q1
    obtain ⟨l', rfl⟩ := hp
    exact .list (getElem?_pre e1) e2 ⟨o, same o a, b, c⟩
  | tab e1 e2 q1 =>
    obtain ⟨o, a, b, c⟩ := q1
    obtain ⟨l', rfl⟩ := hp
    exact .tab (getElem?_pre e1) e2 ⟨o, same o a, b, c⟩
  | tup e1 e2 e3 q1 =>
    obtain ⟨o, a, b, c⟩ := q1
    exact .tup (x.seq _ _ e1 e2 (.inl ⟨_, _, rfl⟩)).1 (x.seq _ _ e1 e2 (.inl ⟨_, _, rfl⟩)).2 (e3.map hp x) ⟨o, same o a, b, c⟩
  | rng q1 => exact .rng (same _ q1)
theorem ItR.keep {fr own : List Addr} (r : ItR X η h it H0 src xs i) (x : Step fr own η h η' h') (f : Frm h (own ++ fr)) (hη : it ∉ η) : ItR X η' h' it H0 src xs i := by
  obtain ⟨o0, T, fs, e0, c0, d0, _⟩ := r.obj
  exact r.move x.pre' (x.holds f) fun o e => have q := f.not e0 ⟨fun es n q => (by rw [d0] at q; cases q), fun v q => (by rw [d0] at q; cases q)⟩; x.same it o e hη (fun z => q (List.mem_append.mpr (.inl z))) fun z => q (List.mem_append.mpr (.inr z))
theorem next_ok {A : Around} {H : Hp} {s : Shared} {Q : Option Value -> Shared -> Prop} {E : Value -> Shared -> Prop} (r : ItR X η s.heap it H0 src xs i) (iv : Inv X η H s.heap) (hη : it ∉ η) (hh : A.handled = Option.none) (hsrc : ∀ n, src = .ref n -> H[n]? = H0[n]?)
    (h1 : ∀ v mv h' tk, xs[i]? = some v -> Turn [it] η H s.heap h' -> VR X η h' v mv -> ItR X η h' it H0 src xs (i + 1) -> Q (some mv) { s with heap := h', toks := tk })
    (h2 : ∀ h', xs[i]? = Option.none -> Turn [it] η H s.heap h' -> Q Option.none { s with heap := h' }) : wpAny X.M A (pyNext (.ref it)) Q E s := by
  have sb : ∀ {h'}, Heap.SameBut it s.heap h' -> Turn [it] η H s.heap h' := fun {h'} q => Turn.one hη r.mach fun b o hb e => (q.2 b hb).trans e
  have eb : ∀ {h'}, Heap.ExtBut it s.heap h' -> Turn [it] η H s.heap h' := fun {h'} q => Turn.one hη r.mach fun b o hb e => q b o hb e
  cases r with
  | list e1 e0 q1 =>
    rename_i n l
    obtain ⟨items, k, g, vr, le⟩ := list_of_H iv e1 ((hsrc n rfl).trans e0)
    have hl : s.heap.IsList l items := ⟨_, g, rfl, k, rfl⟩
    cases e : xs[i]? with
    | none =>
      refine wpAny_pyNext_list_end hh q1 hl ?_ fun h' k => h2 h' e (eb k)
      rw [List.getElem?_eq_none_iff] at e
      rw [Array.getElem?_eq_none_iff, <- Array.length_toList, <- vr.length]; exact e
    | some v =>
      obtain ⟨mv, em, rv⟩ := vr.get e
      rw [Array.getElem?_toList] at em
      exact wpAny_pyNext_list_item q1 hl em fun h' k1 k2 => h1 v mv h' s.toks e (sb k2) ((sb k2).vr rv) (.list e1 e0 k1)
  | tab e1 e0 q1 =>
    rename_i n ep d ps
    obtain ⟨ys, ⟨o, es, g, hc, hd, hes, _, _⟩, e2, e3, _, _, _⟩ := tab_of_H (p := (ps, ep)) iv e1 ((hsrc n rfl).trans e0)
    have hl : es.size = ps.length := by rw [<- Array.length_toList, hes, List.length_map]; simpa using congrArg List.length e2
    rw [<- hl] at q1
    cases e : ys[i]? with
    | none =>
      have hi : ps.length <= i := by have := congrArg List.length e2; rw [List.length_map, List.length_map] at this; rw [<- this]; exact List.getElem?_eq_none_iff.mp e
      refine pyNext_raw_end hh q1 g hd ?_ fun h' k => h2 h' ?_ (eb k)
      · rw [Array.getElem?_eq_none_iff, hl]; exact hi
      · rw [List.getElem?_eq_none_iff, List.length_map]; exact hi
    | some y =>
      have hx : es[i]? = some (entryOfKey (pairKind X.prog X.w) y) := by rw [<- Array.getElem?_toList, hes, List.getElem?_map, e]; rfl
      have hv : (ps.map fun x => keyV x.1)[i]? = some (keyV y.1) := by
        have := congrArg (fun l => l[i]?) e2
        simp only [List.getElem?_map, e, Option.map_some] at this
        rw [List.getElem?_map]
        cases hp : ps[i]? with
        | none => rw [hp] at this; cases this
        | some z => rw [hp] at this; injection this with this; rw [Option.map_some]; exact congrArg (fun k => some (keyV k)) this.symm
      exact pyNext_raw_item q1 g hd hx fun h' k1 k2 => h1 _ _ h' s.toks hv (sb k2) ((sb k2).vr (e3 y (List.mem_of_getElem? e))) (.tab e1 e0 (hl ▸ k1))
  | tup e1 e2 e3 q1 =>
    rename_i t k items
    have ht : s.heap.IsTuple t items := ⟨_, e1, rfl, k, rfl⟩
    cases e : xs[i]? with
    | none =>
      refine wpAny_pyNext_tuple_end hh q1 ht ?_ fun h' k => h2 h' e (eb k)
      rw [List.getElem?_eq_none_iff] at e
      rw [Array.getElem?_eq_none_iff, <- Array.length_toList, <- e3.length]; exact e
    | some v =>
      obtain ⟨mv, em, rv⟩ := e3.get e
      rw [Array.getElem?_toList] at em
      exact wpAny_pyNext_tuple_item q1 ht em fun h' k1 k2 => h1 v mv h' s.toks e (sb k2) ((sb k2).vr rv) (.tup ((sb k2).holds.seq _ _ e1 e2 (.inl ⟨_, _, rfl⟩)).1 e2 ((sb k2).vrs e3) k1)
  | rng q1 =>
    rename_i a b c
    by_cases hi : i < (rangeL a b c).length
    · refine wpAny_pyNext_range_item q1 (Int.sub_pos_of_lt (Int.ofNat_lt.mpr hi)) fun h' k1 k2 => h1 (.int (a + c * i)) _ h' _ ?_ (sb k2) (.int _ _) (.rng ?_)
      · rw [List.getElem?_map, List.getElem?_eq_getElem hi, Option.map_some, rangeL_get]
      · have e1 : a + c * ((i + 1 : Nat) : Int) = a + c * i + c := by
          rw [Int.natCast_succ, Int.mul_add, Int.mul_one, Int.add_assoc]
        have e2 : ((rangeL a b c).length : Int) - ((i + 1 : Nat) : Int) = (rangeL a b c).length - i - 1 := by rw [Int.natCast_succ, Int.sub_sub]
        rw [e2, e1]; exact k1
    · refine wpAny_pyNext_range_end hh q1 (Int.sub_nonpos_of_le (Int.ofNat_le.mpr (Nat.not_lt.mp hi))) fun h' k => h2 h' ?_ (eb k)
      rw [List.getElem?_eq_none_iff, List.length_map]; exact Nat.not_lt.mp hi
end
section
variable {X : Cx} {A : Around} {η : List Addr} {H : Hp} {s : Shared}
theorem items_ref {H : Hp} {n : Nat} {xs : List V} (h : items H (.ref n) = some xs) : H[n]? = some (.list xs) \/ ∃ ps ep, H[n]? = some (.tab ps ep) /\ xs = ps.map fun x => keyV x.1 := by
  have h' : (match listAt (.ref n) H with | some xs => some xs | Option.none => (tabAt (.ref n) H).map fun p => p.1.map fun x => keyV x.1) = some xs := h
  cases e : listAt (.ref n) H with
  | some ys =>
    rw [e] at h'; cases h'
    obtain ⟨k, e, q⟩ := listAt_inv e
    cases e; exact .inl q
  | none =>
    rw [e] at h'
    obtain ⟨p, e1, rfl⟩ := Option.map_eq_some_iff.mp h'
    obtain ⟨k, e, q⟩ := tabAt_inv e1
    cases e; exact .inr ⟨_, _, q, rfl⟩
theorem eqO_eq {a b : O} (h : eqO a b = true) : b = a := by
  cases a with
  | list xs =>
    cases b with
    | list ys => rw [of_decide_eq_true h]
    | _ => cases h
  | tab xs e =>
    cases b with
    | tab ys f =>
      have h : (decide (xs = ys) && e == f) = true := h
      rw [Bool.and_eq_true] at h
      rw [of_decide_eq_true h.1, eq_of_beq h.2]
    | _ => cases h
  | _ => cases h
theorem sameO_ref {n : Nat} {H H' : Hp} (h : sameO (.ref n) H H' = true) : H'[n]? = H[n]? := by
  have h : (match H[n]? with | some a => (match H'[n]? with | some b => eqO a b | Option.none => false) | Option.none => false) = true := h
  cases e1 : H[n]? with
  | none => rw [e1] at h; cases h
  | some a =>
    rw [e1] at h
    cases e2 : H'[n]? with
    | none => rw [e2] at h; cases h
    | some b => rw [e2] at h; rw [eqO_eq h]
theorem iter_ok {v : V} {mv : Value} {xs : List V} {Q : Value -> Shared -> Prop} {E : Value -> Shared -> Prop} (i : Inv X η H s.heap) (r : VR X η s.heap v mv) (e : items H v = some xs)
    (hq : ∀ ob, ItR X η (s.heap.push ob) s.heap.objs.size H v xs 0 -> Q (.ref s.heap.objs.size) { s with heap := s.heap.push ob }) : wpAny X.M A (pyIter mv) Q E s := by
  cases r with
  | tup g hn r l =>
    cases e
    exact wpAny_pyIter_tuple ⟨_, g, rfl, _, rfl⟩ (hq _ (.tup (push_keeps _ _ _ _ g) hn (r.grow (Step.ext _ _ _ (push_keeps _ _))) ⟨_, Heap.get?_push_size _ rfl, rfl, rfl⟩))
  | ref e1 =>
    rcases items_ref e with q | ⟨ps, ep, q, rfl⟩
    · obtain ⟨it, c, g, vr, le⟩ := list_of_H i e1 q
      exact wpAny_pyIter_list ⟨_, g, rfl, _, rfl⟩ (hq _ (.list e1 q ⟨_, Heap.get?_push_size _ rfl, rfl, rfl⟩))
    · obtain ⟨ys, ⟨o, es, g, hc, hd, hes, _, _⟩, e2, _, _, _, hs⟩ := tab_of_H (p := (ps, ep)) i e1 q
      have hl : es.size = ps.length := by rw [<- Array.length_toList, hes, List.length_map]; simpa using congrArg List.length e2
      refine pyIter_raw hs g hc hd (hq _ (.tab e1 q ⟨_, Heap.get?_push_size _ rfl, rfl, ?_⟩))
      rw [hl]; rfl
  | rng hr hn =>
    rename_i a b c t u w r
    have e' : (if rngOk a b c = true then some ((rangeL a b c).map V.int) else Option.none) = some xs := e
    split at e'
    · rename_i ok
      cases e'
      obtain ⟨f1, f2, f3⟩ := rng_facts ok
      refine wpAny_pyIter_range hr f2 (hq _ (.rng ?_))
      rw [f1]
      have z1 : a + c * ((0 : Nat) : Int) = a := by simp
      have z2 : ((rangeL a b c).length : Int) - ((0 : Nat) : Int) = (rangeL a b c).length := by simp
      rw [z1, z2]
      exact Heap.get?_push_size _ rfl
    · cases e'
  | _ => cases e
end
section
variable {X : Cx} {η : List Addr} {h : Heap}
theorem VRs.drop {xs : List V} {ms : List Value} (r : VRs X η h xs ms) (k : Nat) : VRs X η h (xs.drop k) (ms.drop k) :=
  VRs.ind (P := fun xs ms => ∀ k, VRs X η h (xs.drop k) (ms.drop k)) (fun k => by rw [List.drop_nil, List.drop_nil]; exact .nil) (fun a r ih k => by
    cases k with
    | zero => exact .cons a r
    | succ k => exact ih k) r k
theorem VRs.take {xs : List V} {ms : List Value} (r : VRs X η h xs ms) (k : Nat) : VRs X η h (xs.take k) (ms.take k) :=
  VRs.ind (P := fun xs ms => ∀ k, VRs X η h (xs.take k) (ms.take k)) (fun k => by rw [List.take_nil, List.take_nil]; exact .nil) (fun a r ih k => by
    cases k with
    | zero => exact .nil
    | succ k => exact .cons a (ih k)) r k
theorem part_of {l : V} {ml : Value} {a : Option Int} (r : VR X η h l ml) (e : intO l = some a) : ∃ q : Option (Int × Tok), ml = partValue q /\ q.map (·.1) = a := by
  cases r with
  | none => cases e; exact ⟨Option.none, rfl, rfl⟩
  | int i t => cases e; exact ⟨some (i, t), rfl, rfl⟩
  | _ => cases e
theorem RaiseAt.bind {st : List Env} {α β : Type} {s : Shared} {r : R α} {f : α -> Hp -> R β} {ev : Value} {s' : Shared} (x : RaiseAt X st η s r ev s') : RaiseAt X st η s (r.bind f) ev s' := by
  obtain ⟨c, H', rfl, p⟩ := x
  exact ⟨c, H', rfl, p⟩
end
section
variable {κ : Ct} {ρ : Rho} {vs : List (V × Value)} {H : Hp}
noncomputable abbrev sliceObj (vl vu : Value) : Obj := { cls := .type "slice", data := .fields #[vl, vu, .none] }
theorem wpAny_slice {prog : Program} {w : World} {A : Around} {env : Env} {value : Expr} {lower upper : Option Expr} {p pos : Pos} {Q : Value -> Shared -> Prop} {E : Value -> Shared -> Prop} {s : Shared}
    (h : wpAny (model prog w) A (eval value env) (fun o s1 => wpAny (model prog w) A (evalPart lower env) (fun vl s2 => wpAny (model prog w) A (evalPart upper env) (fun vu s3 =>
      ∃ T id, typeLookup (.type T) "__getitem__" = pure (some (.builtin id)) /\ s3.TypeIs o T /\ wpAny (model prog w) A (getItem o (.ref s3.heap.objs.size)) Q E { s3 with heap := s3.heap.push (sliceObj vl vu) }) E s2) E s1) E s) :
    wpAny (model prog w) A (eval (.Subscript value (.Slice lower upper Option.none p) pos) env) Q E s := by
  show wpAny _ _ (eval value env >>= fun a => PySem.holding [a] (eval (.Slice lower upper Option.none p) env) >>= fun b => standAt pos >>= fun _ => subscriptTail value (.Slice lower upper Option.none p) a b) _ _ _
  refine wpAny_bind (wpAny_mono h (fun o s1 h1 => wpAny_bind (wpAny_holding (wpAny_Slice (wpAny_mono h1 (fun vl s2 h2 => wpAny_mono h2 (fun vu s3 h3 => ?_) fun _ _ e => e) fun _ _ e => e)))) fun _ _ e => e)
  obtain ⟨T, id, hl, hT, hg⟩ := h3
  rw [evalPart_none]
  refine wpAny_pure (wpAny_bind (wpAny_standAt (tail_any (T := T) ?_ hl hg rfl)))
  cases o with
  | ref a => obtain ⟨ob, e, c⟩ := hT; exact ⟨ob, push_keeps _ _ _ _ e, c⟩
  | _ => exact hT
theorem pick_part (items : Array Value) (lo hi : Option Int) :
    (slicePick items lo hi Option.none).toList = (items.toList.drop (lo.elim 0 (clipV items.size))).take (hi.elim items.size (clipV items.size) - lo.elim 0 (clipV items.size)) := by
  rw [slicePick_plain]; rfl
theorem isPart_of (q : Option (Int × Tok)) : IsPart (partValue q) (q.map (·.1)) := by
  cases q with
  | none => exact .none
  | some p => exact .int _ _
theorem sliceV_ok {o l u : V} {mo ml mu : Value} {η : List Addr} {s : Shared} {Q : Value -> Shared -> Prop} {E : Value -> Shared -> Prop} (at' : At κ η ρ H s) (vo : VR κ.X η s.heap o mo) (vl : VR κ.X η s.heap l ml) (vu : VR κ.X η s.heap u mu) (hs : sliceV o l u H ≠ .stuck)
    (hq : ∀ d s', OkAt κ.X κ.st rV η s (sliceV o l u H) d s' -> Q d s') :
    ∃ T id, typeLookup (.type T) "__getitem__" = pure (some (.builtin id)) /\ s.TypeIs mo T /\ wpAny κ.X.M κ.A (getItem mo (.ref s.heap.objs.size)) Q E { s with heap := s.heap.push (sliceObj ml mu) } := by
  unfold sliceV at hs hq
  cases hx : listAt o H with
  | none => rw [hx] at hs; exact absurd rfl hs
  | some xs =>
    cases hl : intO l with
    | none => rw [hx, hl] at hs; exact absurd rfl hs
    | some a =>
      cases hu : intO u with
      | none => rw [hx, hl, hu] at hs; exact absurd rfl hs
      | some b =>
        rw [hx, hl, hu] at hs hq
        dsimp only at hs hq
        obtain ⟨t, rfl, rfl⟩ := part_of vl hl
        obtain ⟨w, rfl, rfl⟩ := part_of vu hu
        obtain ⟨x, items, c, rfl, g, r, le⟩ := vr_list at'.inv vo hx
        refine ⟨"list", _, list_getitem_lookup, ⟨_, g, rfl⟩, wpAny_getItem_list_slice (st := Option.none) ((show s.heap.IsList x items from ⟨_, g, rfl, c, rfl⟩).push _) (Heap.IsSliceOf.new ..) (isPart_of t) (isPart_of w) .none (by simp) (hq _ _ ?_) (by rw [r.size]; exact Nat.le_trans le line_lt)⟩
        have ez : (s.heap.push (sliceObj (partValue t) (partValue w))).objs.size = s.heap.objs.size + 1 := Heap.size_push ..
        generalize hh : (s.heap.push (sliceObj (partValue t) (partValue w))) = h1 at ez ⊢
        have kp : ∀ z o, s.heap.get? z = some o -> (h1.push { cls := .type "list", data := .seq (slicePick items (t.map (·.1)) (w.map (·.1)) Option.none) }).get? z = some o := fun z o e => push_keeps _ _ _ _ (by rw [<- hh]; exact push_keeps _ _ _ _ e)
        have nw : s.heap.get? h1.objs.size = Option.none := by
          cases e : s.heap.get? h1.objs.size with
          | none => rfl
          | some o => exact absurd (Heap.lt_size e) (by rw [ez]; exact Nat.not_lt.mpr (Nat.le_succ _))
        have ep := pick_part items (t.map (·.1)) (w.map (·.1))
        rw [r.size] at ep
        refine ⟨_, _, rfl, trivial, η ++ [h1.objs.size], _, s.toks, rfl, at'.inv.make kp nw (Heap.get?_push_size _ rfl) (.list ?_ ?_), Step.make _ _ _ kp nw, fun p hp => rV1 hp (.ref ?_)⟩
        · rw [ep]
          exact ((r.drop _).take _).grow (Step.make [] [] η kp nw)
        · unfold cutL; rw [List.length_take, List.length_drop]; exact Nat.le_trans (Nat.min_le_right _ _) (Nat.le_trans (Nat.sub_le _ _) le)
        · rw [<- at'.inv.len]; simp
theorem slice_ok {value : Expr} {lower upper : Option Expr} {p pos : Pos} {r1 : R V} {lo hi : Hp -> R V} (h1 : Tri κ ρ vs (eval value κ.env) H r1 rV)
    (h2 : ∀ H1, Tri κ ρ [] (evalPart lower κ.env) H1 (lo H1) rV) (h3 : ∀ H1, Tri κ ρ [] (evalPart upper κ.env) H1 (hi H1) rV) :
    Tri κ ρ vs (eval (.Subscript value (.Slice lower upper Option.none p) pos) κ.env) H (r1.bind fun v H1 => (lo H1).bind fun l H2 => (hi H2).bind fun u H3 => sliceV v l u H3) rV := by
  refine Tri.via (fun Q E s q => wpAny_slice q) h1 fun v H1 mo _ _ hs η s Q E a hv hq he => ?_
  have hr2 : lo H1 ≠ .stuck := fun q => by rw [q] at hs; exact hs rfl
  refine wpAny_mono (h2 H1 hr2 η s a fun _ q => nomatch q) (fun ml s2 hx2 => ?_) fun ev s' q => he ev s' q.bind
  obtain ⟨l, H2, e2, _, η2, h2', tk2, rfl, i2, st2, p2⟩ := hx2
  have a2 := a.step st2 i2 tk2
  rw [e2, R.bind_ok] at hs hq he
  have hr3 : hi H2 ≠ .stuck := fun q => by rw [q] at hs; exact hs rfl
  refine wpAny_mono (h3 H2 hr3 η2 _ a2 fun _ q => nomatch q) (fun mu s3 hx3 => ?_) fun ev s' q => he ev s' (q.bind.after st2)
  obtain ⟨u, H3, e3, _, η3, h3', tk3, rfl, i3, st3, p3⟩ := hx3
  have a3 := a2.step st3 i3 tk3
  rw [e3, R.bind_ok] at hs hq
  exact sliceV_ok a3 (((hv _ m0).up st2 a.stk.frm).up st3 a2.stk.frm) ((p2 _ (List.Mem.head _)).up st3 a2.stk.frm) (p3 _ (List.Mem.head _)) hs fun d s' ok => hq d s' ((ok.after st3).after st2)
end
section
variable {X : Cx} {fr own η : List Addr} {h h' : Heap} {H : Hp}
theorem Step.put (fr own : List Addr) {a : Addr} {ob : Obj} (ha : a ∈ η) (sb : Heap.SameBut a h h') (g : h'.get? a = some ob) : Step fr own η h η h' := by
  have ne : ∀ b, b ∉ η -> b ≠ a := fun b hb q => hb (q ▸ ha)
  refine ⟨⟨[], by simp, fun _ q => nomatch q⟩, fun b o e => ?_, fun b o e hb _ => ⟨o.slots, (sb.2 b (ne b hb)).trans e, fun _ => rfl⟩, fun b o e hb es k d => ⟨o, es, k, (sb.2 b (ne b hb)).trans e, d⟩, fun b o e hb v d => ⟨o, v, (sb.2 b (ne b hb)).trans e, d⟩⟩
  by_cases hb : b = a
  · exact ⟨ob, hb ▸ g⟩
  · exact ⟨o, (sb.2 b hb).trans e⟩
theorem Inv.put (i : Inv X η H h) {n : Nat} {a : Addr} {o : O} {ob : Obj} (e : η[n]? = some a) (sb : Heap.SameBut a h h') (g : h'.get? a = some ob) (r : OR X η h' o ob) : Inv X η (H.set n o) h' := by
  have ha : a ∈ η := List.mem_of_getElem? e
  have x : Step [] [] η h η h' := Step.put [] [] ha sb g
  refine ⟨fun b o e => (sb.2 b (fun q => by rw [q, i.fresh a ha] at e; cases e)).trans (i.keep b o e), by rw [List.length_set]; exact i.len, i.fresh, i.nodup, fun m b o' hb ho => ?_⟩
  by_cases hm : m = n
  · subst hm
    rw [e] at hb; cases hb
    have hlt : m < H.length := i.len ▸ (List.getElem?_eq_some_iff.mp e).1
    rw [List.getElem?_set_self hlt] at ho
    cases ho
    exact ⟨ob, g, r⟩
  · rw [List.getElem?_set_ne (Ne.symm hm)] at ho
    obtain ⟨ob', e', r'⟩ := i.objs m b o' hb ho
    have hba : b ≠ a := fun q => by
      subst q
      obtain ⟨h1, q1⟩ := List.getElem?_eq_some_iff.mp e
      obtain ⟨h2, q2⟩ := List.getElem?_eq_some_iff.mp hb
      exact hm (by
        have := (List.getElem_inj i.nodup (h₀ := h2) (h₁ := h1)).mp (q2.trans q1.symm)
        exact this)
    exact ⟨ob', (sb.2 b hba).trans e', r'.map x.pre' (x.holds (Frm.nil h))⟩
end
section
variable {κ : Ct} {ρ : Rho} {vs : List (V × Value)} {H : Hp}
theorem append_ok {k : Nat} {xs : List V} {v : V} {ov mv : Value} (hm : (V.ref k, ov) ∈ vs) (hx : (v, mv) ∈ vs) (hk : H[k]? = some (.list xs)) (hlt : xs.length < line) :
    Tri κ ρ vs (PySem.call (.builtin "list.append") [ov, mv]) H (.ok .none (H.set k (.list (xs ++ [v])))) rV := by
  intro _ η s at' hv
  have r := hv _ hm
  cases r with
  | ref e =>
    rename_i l
    obtain ⟨items, c, g, vr, le⟩ := list_of_H at'.inv e hk
    refine call_meets F.slot_list_append ⟨_, g, rfl⟩ F.entry_list_append (F.args_list_append_2 _ _) (PySem.AutoListH.list_append_list_val_0 l items c mv (by rw [vr.size]; unfold sizeLine; unfold line at le; omega)) ⟨g, ?_⟩
    have sb : Heap.SameBut l s.heap (s.heap.update l (Obj.mapSeq fun x => x.push mv)) := Heap.SameBut.update ..
    have g' : (s.heap.update l (Obj.mapSeq fun x => x.push mv)).get? l = some _ := Heap.get?_update_self _ g rfl
    have st := Step.put (frs κ.st) [] (List.mem_of_getElem? e) sb g'
    refine ⟨_, _, rfl, trivial, η, _, s.toks, rfl, at'.inv.put e sb g' (.list ?_ (by rw [List.length_append]; exact hlt)), st, fun p hp => rV1 hp .none⟩
    rw [Array.toList_push]
    exact (vr.step st at'.stk.frm).append (.cons ((hv _ hx).up st at'.stk.frm) .nil)
end
inductive ZR (X : Cx) (η : List Addr) (h : Heap) : List (Key × V) -> List (Key × Addr × Value) -> Prop
  | nil : ZR X η h [] []
  | cons {k : Key} {v : V} {a : Addr} {m : Value} {xs : List (Key × V)} {ys : List (Key × Addr × Value)} : VR X η h (keyV k) (.ref a) -> VR X η h v m -> ZR X η h xs ys -> ZR X η h ((k, v) :: xs) ((k, a, m) :: ys)
section
variable {X : Cx} {η η' : List Addr} {h h' : Heap}
theorem ZR.of : ∀ {xs : List (Key × V)} {ys : List (Key × Addr × Value)}, ys.map (·.1) = xs.map (·.1) -> (∀ y ∈ ys, VR X η h (keyV y.1) (.ref y.2.1)) -> VRs X η h (xs.map (·.2)) (ys.map (·.2.2)) -> ZR X η h xs ys
  | [], [], _, _, _ => .nil
  | [], y :: ys, e, _, _ => by cases e
  | x :: xs, [], e, _, _ => by cases e
  | (k, v) :: xs, (k', a, m) :: ys, e, hk, hv => by
    rw [List.map_cons, List.map_cons] at e
    injection e with e1 e2
    dsimp only at e1
    subst e1
    cases hv with
    | cons r rs => exact .cons (hk _ (List.Mem.head _)) r (ZR.of e2 (fun y hy => hk y (List.Mem.tail _ hy)) rs)
theorem ZR.keys {xs : List (Key × V)} {ys : List (Key × Addr × Value)} (r : ZR X η h xs ys) : ys.map (·.1) = xs.map (·.1) := by
  induction r with
  | nil => rfl
  | cons _ _ _ ih => rw [List.map_cons, List.map_cons, ih]
theorem ZR.len {xs : List (Key × V)} {ys : List (Key × Addr × Value)} (r : ZR X η h xs ys) : ys.length = xs.length := by
  have := congrArg List.length r.keys
  simpa using this
theorem ZR.map (hp : ∃ l, η' = η ++ l) (x : Holds η h η' h') {xs : List (Key × V)} {ys : List (Key × Addr × Value)} (r : ZR X η h xs ys) : ZR X η' h' xs ys := by
  induction r with
  | nil => exact .nil
  | cons a b _ ih => exact .cons (a.map hp x) (b.map hp x) ih
theorem ZR.append {xs xs' : List (Key × V)} {ys ys' : List (Key × Addr × Value)} (r : ZR X η h xs ys) (r' : ZR X η h xs' ys') : ZR X η h (xs ++ xs') (ys ++ ys') := by
  induction r with
  | nil => exact r'
  | cons a b _ ih => exact .cons a b ih
theorem ZR.trs {xs : List (Key × V)} {ys : List (Key × Addr × Value)} (r : ZR X η h xs ys) : TRs X η h xs (ys.map (entryOfKey (pairKind X.prog X.w))) := by
  induction r with
  | nil => exact .nil
  | cons a b _ ih => exact .cons rfl a b ih
theorem ZR.some {xs : List (Key × V)} {ys : List (Key × Addr × Value)} (r : ZR X η h xs ys) (k : Key) : (tabGet xs k).isSome = (atKey ys k).isSome := by
  induction r with
  | nil => rfl
  | @cons k' v a m xs ys _ _ _ ih =>
    unfold tabGet atKey at ih ⊢
    rw [List.find?_cons, List.find?_cons]
    by_cases hk : k' = k
    · simp [hk]
    · simp only [hk, decide_false]
      exact ih
theorem ZR.put {xs : List (Key × V)} {ys : List (Key × Addr × Value)} (r : ZR X η h xs ys) {k : Key} {v : V} {a : Addr} {m : Value} (hk : VR X η h (keyV k) (.ref a)) (hv : VR X η h v m) : ZR X η h (tabPut xs k v) (storedH ys k a m) := by
  unfold tabPut storedH
  rw [r.some k]
  split
  · have : ∀ {xs : List (Key × V)} {ys : List (Key × Addr × Value)}, ZR X η h xs ys -> ZR X η h (xs.map fun x => if x.1 = k then (x.1, v) else x) (ys.map (putAt k m)) := fun {xs ys} r => by
      induction r with
      | nil => exact .nil
      | @cons k' v' a' m' xs ys p q _ ih =>
        rw [List.map_cons, List.map_cons]
        unfold putAt
        dsimp only
        by_cases e : k' = k
        · rw [if_pos e, if_pos e]; exact .cons p hv ih
        · rw [if_neg e, if_neg e]; exact .cons p q ih
    exact this r
  · exact r.append (.cons hk hv .nil)
theorem ZR.ep {xs : List (Key × V)} {ys : List (Key × Addr × Value)} (r : ZR X η h xs ys) (k : Key) (ep : Nat) : epAt ys k ep = tabEp xs k ep := by
  unfold epAt tabEp
  rw [r.some k]
theorem tabPut_len (xs : List (Key × V)) (k : Key) (v : V) : (tabPut xs k v).length <= xs.length + 1 /\ xs.length <= (tabPut xs k v).length := by
  unfold tabPut
  split
  · rw [List.length_map]; exact ⟨Nat.le_succ _, Nat.le_refl _⟩
  · rw [List.length_append]; exact ⟨Nat.le_refl _, Nat.le_add_right _ _⟩
theorem or_tab {d : Addr} {xs : List (Key × V)} {ys : List (Key × Addr × Value)} {ep : Nat} (D : DictE (pairKind X.prog X.w) h d ys ep) (r : ZR X η h xs ys) (hl : xs.length <= 100000) : ∃ ob, h.get? d = some ob /\ OR X η h (.tab xs ep) ob := by
  obtain ⟨o, es, g, ⟨c1, c2, c3⟩, hd, he, _, hn⟩ := D
  refine ⟨o, g, ?_⟩
  obtain ⟨c, di, da, sl⟩ := o
  dsimp only at c1 c2 c3 hd
  subst c1; subst c2; subst c3; subst hd
  exact .tab (by rw [he]; exact r.trs) (by rw [<- r.keys]; exact hn) hl
theorem zr_of_H {H : Hp} {k : Nat} {a : Addr} {p : List (Key × V) × Nat} (i : Inv X η H h) (ha : η[k]? = Option.some a) (hk : H[k]? = Option.some (.tab p.1 p.2)) :
    ∃ ys, DictE (pairKind X.prog X.w) h a ys p.2 /\ ZR X η h p.1 ys /\ p.1.length <= 100000 /\ (a == sysModules) = false := by
  obtain ⟨ys, D, e1, e2, e3, l, hs⟩ := tab_of_H i ha hk
  exact ⟨ys, D, .of e1 e2 e3, l, hs⟩
theorem ZR.merge {zs : List (Key × V)} {ws : List (Key × Addr × Value)} (r' : ZR X η h zs ws) : ∀ {xs : List (Key × V)} {ys : List (Key × Addr × Value)}, ZR X η h xs ys -> ZR X η h (tabMerge xs zs) (mergedH ys ws) := by
  induction r' with
  | nil => exact fun r => r
  | cons a b _ ih => exact fun r => ih (r.put a b)
theorem tabMerge_len : ∀ (ys xs : List (Key × V)), (tabMerge xs ys).length <= xs.length + ys.length
  | [], xs => Nat.le_refl _
  | y :: ys, xs => by
    have h1 := tabMerge_len ys (tabPut xs y.1 y.2)
    have h2 := (tabPut_len xs y.1 y.2).1
    show (tabMerge (tabPut xs y.1 y.2) ys).length <= _
    exact Nat.le_trans h1 (Nat.le_trans (Nat.add_le_add_right h2 _) (Nat.le_of_eq (by rw [List.length_cons, Nat.add_assoc, Nat.add_comm 1])))
theorem ZR.epM {xs zs : List (Key × V)} {ys ws : List (Key × Addr × Value)} (r : ZR X η h xs ys) (r' : ZR X η h zs ws) (ep : Nat) : Mine.epM ys ws ep = tabMEp xs zs ep := by
  unfold Mine.epM tabMEp
  have l1 := (r'.merge r).len
  rw [l1, r.len]
  cases r with
  | nil =>
    cases r' with
    | nil => rfl
    | cons _ _ _ => rfl
  | cons _ _ _ => rfl
end
theorem isStr_iff {v : Value} {x : Str} : v.isStr x = true ↔ ∃ t, v = .str x t := by
  cases v with
  | str s t =>
    constructor
    · intro h
      have : s = x := by simpa [Value.isStr] using h
      exact ⟨t, by rw [this]⟩
    · rintro ⟨t', e⟩
      cases e
      simp [Value.isStr]
  | _ => simp [Value.isStr]
section
variable {X : Cx} {η : List Addr} {h : Heap}
theorem NRs.find {a : String} {v : V} {fs : List (String × V)} {ds : List DictEntry} (q : NRs X η h fs ds) (el : fs.lookup a = some v) : ∃ e, ds.find? (·.key.isStr (Str.ofString a)) = some e /\ VR X η h v e.val := by
  induction q with
  | nil => cases el
  | @cons k w t0 fs e ds ek r rs ih =>
    rw [List.lookup_cons] at el
    by_cases hk : a = k
    · subst hk
      simp only [beq_self_eq_true] at el
      cases el
      refine ⟨e, ?_, r⟩
      rw [List.find?_cons, isStr_iff.mpr ⟨_, ek⟩]
    · have hb : (a == k) = false := by simpa using hk
      rw [hb] at el
      obtain ⟨e', h1, h2⟩ := ih el
      refine ⟨e', ?_, h2⟩
      have : e.key.isStr (Str.ofString a) = false := Bool.eq_false_iff.mpr fun q => by
        obtain ⟨t, q⟩ := isStr_iff.mp q
        rw [ek] at q
        exact hk (ofString_inj (Value.str.inj q).1).symm
      rw [List.find?_cons, this]; exact h1
theorem NRs.noRef {fs : List (String × V)} {ds : List DictEntry} (r : NRs X η h fs ds) : ds.any (·.refKey) = false := by
  induction r with
  | nil => rfl
  | cons ek r rs ih =>
    rw [List.any_cons, ih]
    unfold DictEntry.refKey
    rw [ek]; rfl
theorem NRs.len {fs : List (String × V)} {ds : List DictEntry} (r : NRs X η h fs ds) : fs.length = ds.length := by
  induction r with
  | nil => rfl
  | cons _ _ _ ih => exact congrArg Nat.succ ih
theorem inst_of_H {H : Hp} {n d : Nat} {x : Addr} {c : String} {fs : List (String × V)} (i : Inv X η H h) (e : η[n]? = some x) (h1 : H[n]? = some (.inst c d)) (h2 : H[d]? = some (.ns fs)) :
    ∃ C dx fI ds k, X.mg (Str.ofString c) = some (.ref C) /\ ClsOk X.K C fI /\ η[d]? = some dx /\ h.get? x = some { cls := .ref C, dict := some dx, data := .plain } /\ h.get? dx = some { cls := .type "dict", data := .dict ds k } /\ NRs X η h fs ds.toList /\ fs.length <= 21 /\ X.cl c = true := by
  obtain ⟨ob, g, r⟩ := i.objs n x _ e h1
  cases r with
  | inst hc hm hd =>
    rename_i C dx
    obtain ⟨od, g2, r2⟩ := i.objs d dx _ hd h2
    cases r2 with
    | ns nr le =>
      obtain ⟨C', fI, e1, ok⟩ := X.cls c hc
      rw [hm] at e1; cases e1
      exact ⟨_, _, fI, _, _, hm, ok, hd, g, g2, nr, le, hc⟩
end
section
variable {κ : Ct} {X : Cx} {ρ : Rho} {vs : List (V × Value)} {H : Hp}
theorem handed_vr {η : List Addr} {h : Heap} {v : V} {m : Value} (r : VR X η h v m) : handedIn m = true := by cases r <;> rfl
theorem attr_ok {o : V} {a : String} {m : Value} (hm : (o, m) ∈ vs) (ha : attrName a = true) : Tri κ ρ vs (getAttr m (Str.ofString a) true) H (attrV o a H) rV := by
  unfold attrV
  split
  · rename_i k
    split
    · rename_i c d hk
      split
      · rename_i fs hd2
        cases hl : fs.lookup a with
        | none => exact Tri.stuck
        | some v =>
          refine Tri.plain fun η s Q E at' hv hq => ?_
          have r := hv _ hm
          cases r with
          | ref e =>
            rename_i x
            obtain ⟨C, dx, fI, ds, k2, hmg, ok, ed, g1, g2, nr, le, _⟩ := inst_of_H at'.inv e hk hd2
            obtain ⟨en, ef, rv⟩ := nr.find hl
            refine get_value (K := κ.X.K) (C := C) (od := some _) (κ.X.kin.keeps at'.inv.keep) ⟨g1, rfl, rfl, g2⟩ ok.get ?_ (handed_vr rv) (hq _ _ rv)
            obtain ⟨cd, hcd, hdd⟩ := any_some ok.dict
            have hlk : lookIn (Str.ofString a) { cls := .type "dict", data := .dict ds k2 } = some (some en.val) := by unfold lookIn; simp only [ef]
            unfold findObj
            rw [hcd, Option.bind_some, ok.names a ha]
            simp only [Option.bind_some, PySem.W.ownOf, hdd, if_true, hlk]
      · exact Tri.stuck
    · exact Tri.stuck
  · exact Tri.stuck
noncomputable def rU (_ : Unit) (_ : Unit) : Prop × List (V × Value) := (True, [])
theorem keys_map_store (kvs : List (Int × Value)) (z : Int) (mv : Value) : (kvs.map fun kv => if kv.1 = z then (kv.1, mv) else kv).map (·.1) = kvs.map (·.1) := by
  rw [List.map_map]
  refine List.map_congr_left fun p _ => ?_
  show (if p.1 = z then (p.1, mv) else p).1 = p.1
  split <;> rfl
theorem setK_ok {o i v : V} {mo mi mv : Value} (ho : (o, mo) ∈ vs) (hi : (i, mi) ∈ vs) (hv : (v, mv) ∈ vs) : Tri κ ρ vs (setItem mo mi mv) H (setK o i v H) rU := by
  unfold setK
  split
  · rename_i k
    cases hx : keysAt (.ref k) H with
    | none =>
      dsimp only
      cases hy : tabAt (.ref k) H with
      | none => exact Tri.stuck
      | some p =>
        dsimp only
        cases hk : keyAt i with
        | none => exact Tri.stuck
        | some z =>
          dsimp only
          split
          · rename_i hlen
            intro _ η s at' hvs
            obtain ⟨n, e0, hn⟩ := tabAt_inv hy
            cases e0
            have va := hvs _ hi
            dsimp only at va
            rw [keyAt_inv hk] at va
            obtain ⟨c, rfl, hkey⟩ := key_of va
            have r := hvs _ ho
            cases r with
            | ref e =>
              rename_i x
              obtain ⟨ys, D, zr, _, hs⟩ := zr_of_H at'.inv e hn
              have hroom := at'.pair
              refine setItemE (knd := pairKind κ.X.prog κ.X.w) hroom hkey D (fun h' D' sb => ?_) (by rw [zr.len, sizeLine_eq]; omega)
              rw [zr.ep] at D'
              obtain ⟨_, _, g0, _⟩ := id D'
              have st := Step.put (frs κ.st) [] (List.mem_of_getElem? e) sb g0
              obtain ⟨ob, g, r⟩ := or_tab D' ((zr.put va (hvs _ hv)).map st.pre' (st.holds at'.stk.frm)) (Nat.le_trans (tabPut_len _ _ _).1 hlen)
              exact ⟨(), _, rfl, trivial, η, h', _, rfl, at'.inv.put e sb g r, st, fun _ q => nomatch q⟩
          · exact Tri.stuck
    | some ks =>
      dsimp only
      cases hk : intAt i with
      | none => exact Tri.stuck
      | some z =>
        dsimp only
        split
        · rename_i hlen
          intro _ η s at' hvs
          obtain ⟨t, rfl⟩ := vr_int (hvs _ hi) hk
          obtain ⟨n, e0, hn⟩ := keysAt_inv hx
          cases e0
          have r := hvs _ ho
          cases r with
          | ref e =>
            rename_i x
            obtain ⟨kvs, hdk, rfl, _, hs⟩ := keys_of_H at'.inv e hn
            refine wpAny_setItem_pairs (knd := intKind κ.X.prog κ.X.w) (intKind_is κ.X.prog κ.X.w z t) hdk (fun h' hd' sb => ?_) ?_
            · obtain ⟨ob, g, dk⟩ := Heap.dictOf_iff.mp hd'
              refine ⟨(), _, rfl, trivial, η, h', _, rfl, at'.inv.put e sb g (.keys dk ?_ ?_), Step.put _ _ (List.mem_of_getElem? e) sb g, fun _ q => nomatch q⟩
              · unfold stored
                have ea : kvs.any (fun kv => decide (kv.1 = z)) = (kvs.map (·.1)).contains z := by
                  rw [List.contains_eq_any_beq, List.any_map]
                  exact congrArg kvs.any (funext fun p => decide_eq_decide.mpr ⟨Eq.symm, Eq.symm⟩)
                rw [ea]
                split
                · exact keys_map_store kvs z mv
                · rw [List.map_append]; rfl
              · split
                · exact Nat.le_of_lt hlen
                · rw [List.length_append]; exact hlen
            · rw [List.length_map] at hlen
              unfold line at hlen
              rw [sizeLine_eq]; omega
        · exact Tri.stuck
  · exact Tri.stuck
theorem NRs.put {η : List Addr} {h : Heap} {a : String} {v : V} {mv : Value} {hsh : Int} {t : Tok} (rv : VR X η h v mv) {fs : List (String × V)} {ds : List DictEntry} (q : NRs X η h fs ds) : NRs X η h (setL a v fs) (putL (Str.ofString a) hsh (.str (Str.ofString a) t) mv ds) := by
  induction q with
  | nil => exact .cons rfl rv .nil
  | @cons k w t0 fs e ds ek r rs ih =>
    unfold setL putL
    by_cases hk : k = a
    · subst hk
      rw [if_pos rfl, if_pos (isStr_iff.mpr ⟨_, ek⟩)]
      exact .cons ek rv rs
    · have : ¬ e.key.isStr (Str.ofString a) = true := fun q => by
        obtain ⟨t, q⟩ := isStr_iff.mp q
        rw [ek] at q
        exact hk (ofString_inj (Value.str.inj q).1)
      rw [if_neg hk, if_neg this]
      exact .cons ek r ih
theorem setL_len (x : String) (v : V) : ∀ ρ : List (String × V), (setL x v ρ).length <= ρ.length + 1
  | [] => Nat.le_refl _
  | (y, w) :: r => by
    show (if y = x then (y, v) :: r else (y, w) :: setL x v r).length <= _
    by_cases h : y = x
    · rw [if_pos h]; exact Nat.le_succ _
    · rw [if_neg h]; exact Nat.succ_le_succ (setL_len x v r)
theorem set_ok {o v : V} {a : String} {mo mv : Value} (ho : (o, mo) ∈ vs) (hv : (v, mv) ∈ vs) (ha : attrName a = true) : Tri κ ρ vs (setAttr mo (Str.ofString a) mv) H (setA o a v H) rU := by
  unfold setA
  split
  · rename_i k
    split
    · rename_i c d hk
      split
      · rename_i fs hd2
        split
        · rename_i hlen
          intro _ η s at' hvs
          have r := hvs _ ho
          have rv : VR κ.X η s.heap v mv := hvs _ hv
          cases r with
          | ref e =>
            rename_i x
            obtain ⟨C, dx, fI, ds, k2, hmg, ok, ed, g1, g2, nr, le, _⟩ := inst_of_H at'.inv e hk hd2
            have hK := κ.X.kin.keeps at'.inv.keep
            have I : InstAt s.heap x { cls := .ref C, dict := some dx, data := .plain } C (some { cls := .type "dict", data := .dict ds k2 }) := ⟨g1, rfl, rfl, g2⟩
            refine set_plain (K := κ.X.K) hK I ok.set ?_
            have ht : takerIn κ.X.K C (Str.ofString a) = some Option.none := by unfold takerIn; rw [ok.names a ha]; rfl
            refine osa_open (s := { s with toks := s.toks + 1 }) hK I ok.over ht fun b => ?_
            obtain ⟨cd, hcd, hdd⟩ := any_some ok.dict
            have sz : ds.size <= 21 := by rw [<- Array.length_toList, <- nr.len]; exact le
            have ep : ∀ hsh key, Obj.putName (Str.ofString a) hsh key mv { cls := .type "dict", data := .dict ds k2 } = { cls := .type "dict", data := .dict (putL (Str.ofString a) hsh key mv ds.toList).toArray (putN (Str.ofString a) ds.toList k2) } := fun hsh key => by
              have := putName_dict (Str.ofString a) hsh key mv ds.toList k2
              unfold dictOf at this
              rw [Array.toArray_toList] at this
              exact this
            have fin : ∀ hsh t tk, ∃ od', (s.heap.update dx (Obj.putName (Str.ofString a) hsh (.str (Str.ofString a) t) mv)).get? dx = some od' /\ od'.data.pastItsLine = Option.none /\
                OkAt κ.X κ.st rU η s (R.ok () (H.set d (O.ns (setL a v fs)))) () { s with heap := s.heap.update dx (Obj.putName (Str.ofString a) hsh (.str (Str.ofString a) t) mv), toks := tk } := fun hsh t tk => by
              have g3 : (s.heap.update dx (Obj.putName (Str.ofString a) hsh (.str (Str.ofString a) t) mv)).get? dx = some { cls := .type "dict", data := .dict (putL (Str.ofString a) hsh (.str (Str.ofString a) t) mv ds.toList).toArray (putN (Str.ofString a) ds.toList k2) } := by
                rw [Heap.get?_update_self _ g2 (by rw [ep]; rfl), ep]
              have sb : Heap.SameBut dx s.heap (s.heap.update dx (Obj.putName (Str.ofString a) hsh (.str (Str.ofString a) t) mv)) := Heap.SameBut.update ..
              have xs := Step.put (frs κ.st) [] (List.mem_of_getElem? ed) sb g3
              have nr' := (nr.map xs.pre' (xs.holds at'.stk.frm)).put (a := a) (hsh := hsh) (t := t) (rv.up xs at'.stk.frm)
              have ln := setL_len a v fs
              refine ⟨_, g3, pastItsLine_dict ?_, (), _, rfl, trivial, η, _, tk, rfl, at'.inv.put ed sb g3 (.ns (by simpa using nr') (by omega)), xs, fun _ q => nomatch q⟩
              rw [List.size_toArray, <- nr'.len, sizeLine_eq]; omega
            refine wpAny_bind (wpAny_pure (wpAny_bind (wpAny_bind (wpAny_loadPart g1 (wpAny_bind (looks_clsIn hK hcd _ _ _ _ (fun _ _ e => e) ?_))))))
            rw [hdd]
            refine wpAny_pure (a := some dx) (wpAny_bind (wpAny_pure (wpAny_bind ?_)))
            unfold nsSet
            refine wpAny_bind (wpAny_bind (wpAny_askSetting (wpAny_pure (wpAny_bind (wpAny_mkText (wpAny_bind (wpAny_loadPart g2 ?_)))))))
            dsimp only
            rw [aRefKeyMayBeTheName_at, show ds.any (·.refKey) = false by rw [<- Array.any_toList]; exact nr.noRef, Bool.and_false]
            simp only [Bool.false_eq_true, if_false]
            obtain ⟨od', g3, hp, out⟩ := fin _ _ _
            exact wpAny_updatePart g2 (wpAny_bind (wpAny_lookBehind g3 hp (wpAny_pure out)))
        · exact Tri.stuck
      · exact Tri.stuck
    · exact Tri.stuck
  · exact Tri.stuck
end
end Mine
set_option maxRecDepth 100000
namespace Mine
open PySem PyProof.Rows PySem.W
noncomputable def firstKey (n : Nat) : Key := ([(n : Int)], (n : Int))
theorem seven_apart {prog : Program} {w : World} : ∀ i < 7, ∀ j < 7, pairHash (prog := prog) (w := w) (firstKey i) = pairHash (prog := prog) (w := w) (firstKey j) -> i = j := by
  have e : ∀ i, pairHash (prog := prog) (w := w) (firstKey i) = reduceHash (Builtin.Tuple.tupleHashOf [reduceHash (Builtin.Tuple.tupleHashOf [hashInt i]), hashInt i]) := fun i => rfl
  simp only [e]
  decide +kernel
theorem hashOk_of {prog : Program} {w : World} {ys : List (Key × Addr × Value)} (hn : (ys.map (·.1)).Nodup) (hf : ∀ y ∈ ys, ∃ n < 7, y.1 = firstKey n) : HashOk (pairKind prog w) ys := by
  intro y hy
  have hs : ∀ z ∈ ys.filter (fun z => (pairKind prog w).hash z.1 == (pairKind prog w).hash y.1), z.1 = y.1 := fun z hz => by
    obtain ⟨hz1, hz2⟩ := List.mem_filter.mp hz
    obtain ⟨i, hi, e1⟩ := hf z hz1
    obtain ⟨j, hj, e2⟩ := hf y hy
    have q : pairHash (prog := prog) (w := w) z.1 = pairHash (prog := prog) (w := w) y.1 := eq_of_beq hz2
    rw [e1, e2] at q
    rw [e1, e2, seven_apart i hi j hj q]
  have hd : ((ys.filter (fun z => (pairKind prog w).hash z.1 == (pairKind prog w).hash y.1)).map (·.1)).Nodup := List.Nodup.sublist (List.Sublist.map _ List.filter_sublist) hn
  generalize ys.filter (fun z => (pairKind prog w).hash z.1 == (pairKind prog w).hash y.1) = l at hs hd
  match l, hs, hd with
  | [], _, _ => exact Nat.zero_le _
  | [a], _, _ => exact Nat.le_refl _
  | a :: b :: l, hs, hd =>
    rw [List.map_cons, List.map_cons, List.nodup_cons] at hd
    exact absurd ((hs a (List.Mem.head _)).trans (hs b (List.Mem.tail _ (List.Mem.head _))).symm) fun q => hd.1 (q ▸ List.Mem.head _)
theorem firstOk_key {ys : List (Key × V)} (h : firstOk ys = true) : ∀ k ∈ ys.map (·.1), ∃ n < 7, k = firstKey n := fun k hk => by
  obtain ⟨y, hy, rfl⟩ := List.mem_map.mp hk
  have := List.all_eq_true.mp h y hy
  rw [Bool.and_eq_true, Bool.and_eq_true, decide_eq_true_eq, decide_eq_true_eq, decide_eq_true_eq] at this
  obtain ⟨e, h1, h2⟩ := this
  refine ⟨y.1.2.toNat, (Int.toNat_lt h1).mpr h2, ?_⟩
  unfold firstKey
  rw [Int.toNat_of_nonneg h1]
  exact Prod.ext e rfl
section
variable {κ : Ct} {ρ : Rho} {vs : List (V × Value)} {H : Hp}
theorem ZR.types {X : Cx} {η : List Addr} {s : Shared} {xs : List (Key × V)} {ys : List (Key × Addr × Value)} (r : ZR X η s.heap xs ys) : ∀ y ∈ ys, s.TypeIs (.ref y.2.1) "tuple" := by
  induction r with
  | nil => exact fun _ q => nomatch q
  | cons a _ _ ih =>
    intro y hy
    rcases List.mem_cons.mp hy with rfl | hy
    · unfold keyV at a
      cases a with
      | tup g _ _ _ => exact ⟨_, g, rfl⟩
    · exact ih y hy
theorem update_ok {n m : Nat} {p q : List (Key × V) × Nat} {ov mv : Value} (ho : (V.ref n, ov) ∈ vs) (hm : (V.ref m, mv) ∈ vs) (hp : H[n]? = some (.tab p.1 p.2)) (hq : H[m]? = some (.tab q.1 q.2)) (hnm : n ≠ m) (hf : p.1.isEmpty = false \/ firstOk q.1 = true) (hlen : p.1.length + q.1.length <= 100000) :
    Tri κ ρ vs (PySem.call (.builtin "dict.update") [ov, mv]) H (.ok .none (H.set n (.tab (tabMerge p.1 q.1) (tabMEp p.1 q.1 p.2)))) rV := by
  intro _ η s at' hv
  have r1 := hv _ ho
  have r2 := hv _ hm
  cases r1 with
  | ref e1 =>
    cases r2 with
    | ref e2 =>
      rename_i d o
      obtain ⟨xs, D, zr, _, hs⟩ := zr_of_H at'.inv e1 hp
      obtain ⟨ys, D2, zr2, _, hs2⟩ := zr_of_H at'.inv e2 hq
      have hdo : d ≠ o := fun q => by
        subst q
        obtain ⟨h1, q1⟩ := List.getElem?_eq_some_iff.mp e1
        obtain ⟨h2, q2⟩ := List.getElem?_eq_some_iff.mp e2
        exact hnm ((List.getElem_inj at'.inv.nodup (h₀ := h1) (h₁ := h2)).mp (q1.trans q2.symm))
      have hroom := at'.pair
      refine call_updateE (knd := pairKind κ.X.prog κ.X.w) hroom hdo hs2 D D2 zr2.types (fun hx => ?_) (by rw [zr.len, zr2.len, sizeLine_eq]; omega) fun h' D' sb => ?_
      · rcases hf with hf | hf
        · have := zr.len
          rw [hx] at this
          have : p.1 = [] := List.eq_nil_of_length_eq_zero this.symm
          rw [this] at hf; cases hf
        · obtain ⟨_, _, _, _, _, _, _, hn⟩ := D2
          refine hashOk_of hn fun y hy => firstOk_key hf y.1 ?_
          rw [<- zr2.keys]
          exact List.mem_map.mpr ⟨y, hy, rfl⟩
      · rw [zr.epM zr2] at D'
        obtain ⟨_, _, g0, _⟩ := id D'
        have st := Step.put (frs κ.st) [] (List.mem_of_getElem? e1) sb g0
        obtain ⟨ob, g, r⟩ := or_tab D' ((zr2.merge zr).map st.pre' (st.holds at'.stk.frm)) (Nat.le_trans (tabMerge_len _ _) hlen)
        exact ⟨_, _, rfl, trivial, η, h', s.toks, rfl, at'.inv.put e1 sb g r, st, fun p hp => rV1 hp .none⟩
end
end Mine
set_option maxRecDepth 100000
namespace Mine
open PySem
noncomputable def hashK (k : Key) : Int := reduceHash (Builtin.Tuple.tupleHashOf [reduceHash (Builtin.Tuple.tupleHashOf (k.1.map hashInt)), hashInt k.2])
noncomputable def apartB : List Int -> Bool
  | [] => true
  | a :: l => l.all (fun b => !(a == b)) && apartB l
theorem keys7_apart : apartB (keys7.map hashK) = true := by decide +kernel
theorem apart_inj {α : Type} {f : α -> Int} {l : List α} (h : apartB (l.map f) = true) : ∀ a ∈ l, ∀ b ∈ l, f a = f b -> a = b := by
  induction l with
  | nil => exact fun _ ha => nomatch ha
  | cons x l ih =>
    have h : ((l.map f).all (fun b => !(f x == b)) && apartB (l.map f)) = true := h
    rw [Bool.and_eq_true, List.all_eq_true] at h
    have no : ∀ y ∈ l, f x ≠ f y := fun y hy q => by
      have := h.1 _ (List.mem_map.mpr ⟨y, hy, rfl⟩)
      rw [q, beq_self_eq_true] at this; cases this
    intro a ha b hb e
    rcases List.mem_cons.mp ha with qa | qa
    · rcases List.mem_cons.mp hb with qb | qb
      · rw [qa, qb]
      · rw [qa] at e; exact absurd e (no b qb)
    · rcases List.mem_cons.mp hb with qb | qb
      · rw [qb] at e; exact absurd e.symm (no a qa)
      · exact ih h.2 a qa b qb e
theorem hashOk7 {prog : Program} {w : World} {ys : List (Key × Addr × Value)} (hn : (ys.map (·.1)).Nodup) (hf : ∀ y ∈ ys, y.1 ∈ keys7) : HashOk (pairKind prog w) ys := by
  intro y hy
  have hs : ∀ z ∈ ys.filter (fun z => (pairKind prog w).hash z.1 == (pairKind prog w).hash y.1), z.1 = y.1 := fun z hz => by
    obtain ⟨hz1, hz2⟩ := List.mem_filter.mp hz
    exact apart_inj keys7_apart _ (hf z hz1) _ (hf y hy) (show hashK z.1 = hashK y.1 from eq_of_beq hz2)
  have hd : ((ys.filter (fun z => (pairKind prog w).hash z.1 == (pairKind prog w).hash y.1)).map (·.1)).Nodup := List.Nodup.sublist (List.Sublist.map _ List.filter_sublist) hn
  generalize ys.filter (fun z => (pairKind prog w).hash z.1 == (pairKind prog w).hash y.1) = l at hs hd
  match l, hs, hd with
  | [], _, _ => exact Nat.zero_le _
  | [a], _, _ => exact Nat.le_refl _
  | a :: b :: l, hs, hd =>
    rw [List.map_cons, List.map_cons, List.nodup_cons] at hd
    exact absurd ((hs a (List.Mem.head _)).trans (hs b (List.Mem.tail _ (List.Mem.head _))).symm) fun q => hd.1 (q ▸ List.Mem.head _)
end Mine
namespace Mine
open PySem PyProof.Rows PySem.W
section
variable {κ : Ct} {ρ : Rho} {vs : List (V × Value)} {H : Hp}
theorem IsPairKey.grow {prog : Program} {w : World} {h h' : Heap} {k : PK} {a : Addr} (x : IsPairKey prog w h k a) (kp : ∀ b o, h.get? b = some o -> h'.get? b = some o) : IsPairKey prog w h' k a := by
  obtain ⟨o, items, n, b, t, g, c, d, e, o2, items2, n2, g2, r2⟩ := x
  exact ⟨o, items, n, b, t, kp _ _ g, c, d, e, o2, items2, n2, kp _ _ g2, r2⟩
theorem clear_ok {n : Nat} {p : List (Key × V) × Nat} {ov : Value} (ho : (V.ref n, ov) ∈ vs) (hp : H[n]? = some (.tab p.1 p.2)) :
    Tri κ ρ vs (PySem.call (.builtin "dict.clear") [ov]) H (.ok .none (H.set n (.tab [] (p.2 + 1)))) rV := by
  intro _ η s at' hv
  cases hv _ ho with
  | ref e1 =>
    obtain ⟨xs, D, zr, l, hs⟩ := zr_of_H at'.inv e1 hp
    refine call_clearE (knd := pairKind κ.X.prog κ.X.w) D (by rw [zr.len, sizeLine_eq]; exact Nat.le_trans l (by decide)) fun h' D' sb => ?_
    obtain ⟨_, _, g0, _⟩ := id D'
    have st := Step.put (frs κ.st) [] (List.mem_of_getElem? e1) sb g0
    obtain ⟨ob, g, r⟩ := or_tab (xs := []) D' .nil (Nat.zero_le _)
    exact ⟨_, _, rfl, trivial, η, h', s.toks, rfl, at'.inv.put e1 sb g r, st, fun p hp => rV1 hp .none⟩
theorem dict_ok {v : V} {mv : Value} (hm : (v, mv) ∈ vs) : Tri κ ρ vs (PySem.call (.type "dict") [mv]) H (biDict v H) rV := by
  unfold biDict
  cases hx : tabAt v H with
  | none => exact Tri.stuck
  | some p =>
    dsimp only
    by_cases hk : keysOk p.1 = true
    · rw [if_pos hk]
      refine Tri.made fun η s Q E at' hv hq => ?_
      obtain ⟨n, rfl, hn⟩ := tabAt_inv hx
      cases hv _ hm with
      | ref e1 =>
        obtain ⟨ys, D, zr, l, hs⟩ := zr_of_H at'.inv e1 hn
        obtain ⟨_, _, _, _, _, _, _, nd⟩ := id D
        refine call_dictE (knd := pairKind κ.X.prog κ.X.w) (fun x kp => IsPairKey.grow x kp) (Nat.lt_of_le_of_lt (Nat.add_le_add_left (by decide : 2 + 3 <= 64) κ.A.units) at'.units) hs D zr.types (hashOk7 nd fun y hy => ?_) (by rw [zr.len, sizeLine_eq]; exact Nat.le_trans l (by decide)) fun h' D' sb => ?_
        · have : y.1 ∈ p.1.map (·.1) := by rw [<- zr.keys]; exact List.mem_map.mpr ⟨y, hy, rfl⟩
          obtain ⟨x, hx, e⟩ := List.mem_map.mp this
          rw [<- e]
          exact List.contains_iff_mem.mp (List.all_eq_true.mp hk x hx)
        · have kp : ∀ b o, s.heap.get? b = some o -> h'.get? b = some o := fun b o e => (sb.2 b (fun q => by rw [q] at e; exact absurd (Heap.lt_size e) (Nat.lt_irrefl _))).trans (push_keeps _ _ _ _ e)
          have nw := size_none s.heap
          have st := Step.make (frs κ.st) [] η kp nw
          have e0 : epM [] ys 0 = tabMEp [] p.1 0 := ZR.epM (X := κ.X) (η := η) (h := s.heap) .nil zr 0
          rw [e0] at D'
          obtain ⟨ob, g, r⟩ := or_tab D' (zr.map st.pre' (st.holds at'.stk.frm)) l
          exact hq _ _ _ s.toks nw kp g r
    · rw [if_neg hk]; exact Tri.stuck
end
end Mine
set_option maxRecDepth 100000
namespace Mine
open PySem PyProof.Rows PySem.W PySem.Calls PySem.Builtin PySem.Builtin.Str
section
variable {prog : Program} {w : World} {A : Around} {E : Value -> Shared -> Prop} {s : Shared} {K : Frag} {x C : Addr} {ox : Obj}
end
section
variable {κ : Ct} {X : Cx} {ρ : Rho} {vs : List (V × Value)} {H : Hp}
noncomputable def methId (m : String) : String := if m = "append" then "list.append" else if m = "update" then "dict.update" else "dict.clear"
theorem meth_ok {m : String} {o : V} {ov : Value} {ws : List V} {ms : List Value} (hm : mName m = true) (ho : (o, ov) ∈ vs) (hl : ws.length = ms.length) (hw : ∀ p ∈ ws.zip ms, p ∈ vs) :
    Tri κ ρ vs (PySem.call (.builtin (methId m)) (ov :: ms)) H (meth o m ws H) rV := by
  unfold meth methId
  by_cases hT : True
  · skip
    by_cases h1 : m = "append"
    · rw [if_pos h1, if_pos h1]
      unfold mAppend
      cases o with
      | ref n =>
        dsimp only
        cases hx : listAt (.ref n) H with
        | none => exact Tri.stuck
        | some xs =>
          dsimp only
          split
          · rename_i v
            obtain ⟨m, rfl⟩ := one_of hl
            split
            · rename_i hlt
              obtain ⟨k, e, hk⟩ := listAt_inv hx
              cases e
              exact append_ok ho (hw _ (List.Mem.head _)) hk hlt
            · exact Tri.stuck
          · exact Tri.stuck
      | _ => exact Tri.stuck
    rw [if_neg h1, if_neg h1]
    by_cases h2 : m = "update"
    · rw [if_pos h2, if_pos h2]
      unfold mUpdate
      cases o with
      | ref n =>
        dsimp only
        cases hx : tabAt (.ref n) H with
        | none => exact Tri.stuck
        | some p =>
          dsimp only
          split
          · rename_i v
            obtain ⟨m, rfl⟩ := one_of hl
            cases v with
            | ref k =>
              dsimp only
              cases hy : tabAt (.ref k) H with
              | none => exact Tri.stuck
              | some q =>
                dsimp only
                split
                · rename_i hc
                  obtain ⟨n', e1, h1⟩ := tabAt_inv hx
                  obtain ⟨k', e2, h2⟩ := tabAt_inv hy
                  cases e1; cases e2
                  exact update_ok ho (hw _ (List.Mem.head _)) h1 h2 hc.1 hc.2.1 hc.2.2
                · exact Tri.stuck
            | _ => exact Tri.stuck
          · exact Tri.stuck
      | _ => exact Tri.stuck
    rw [if_neg h2, if_neg h2]
    by_cases h3 : m = "clear"
    · rw [if_pos h3]
      unfold mClear
      cases o with
      | ref n =>
        dsimp only
        cases hx : tabAt (.ref n) H with
        | none => exact Tri.stuck
        | some p =>
          dsimp only
          by_cases he : ws.isEmpty = true
          · rw [if_pos he]
            have e1 := List.isEmpty_iff.mp he
            subst e1
            cases List.length_eq_zero_iff.mp hl.symm
            obtain ⟨n', e1, h1⟩ := tabAt_inv hx
            cases e1
            exact clear_ok ho h1
          · rw [if_neg he]; exact Tri.stuck
      | _ => exact Tri.stuck
    rw [if_neg h3]
    exact Tri.stuck
  · exact absurd trivial hT
theorem isinst_cases {P : Prop} {v : V} {T : String} {b : Bool} (he : isinst v T H = some b) (k1 : ∀ i, T = "int" -> intAt v = some i -> b = true -> P) (k2 : ∀ i, T = "bool" -> intAt v = some i -> b = false -> P) (k3 : ∀ i, T = "tuple" -> tupAt v = some i -> b = true -> P) (k4 : ∀ i, T = "list" -> listAt v H = some i -> b = true -> P) (k5 : ∀ i, T = "dict" -> tabAt v H = some i -> b = true -> P) : P := by
  unfold isinst at he
  by_cases h1 : T = "int"
  · rw [if_pos h1] at he
    obtain ⟨i, e, q⟩ := Option.map_eq_some_iff.mp he
    exact k1 i h1 e q.symm
  rw [if_neg h1] at he
  by_cases h1 : T = "bool"
  · rw [if_pos h1] at he
    obtain ⟨i, e, q⟩ := Option.map_eq_some_iff.mp he
    exact k2 i h1 e q.symm
  rw [if_neg h1] at he
  by_cases h1 : T = "tuple"
  · rw [if_pos h1] at he
    obtain ⟨i, e, q⟩ := Option.map_eq_some_iff.mp he
    exact k3 i h1 e q.symm
  rw [if_neg h1] at he
  by_cases h1 : T = "list"
  · rw [if_pos h1] at he
    obtain ⟨i, e, q⟩ := Option.map_eq_some_iff.mp he
    exact k4 i h1 e q.symm
  rw [if_neg h1] at he
  by_cases h1 : T = "dict"
  · rw [if_pos h1] at he
    obtain ⟨i, e, q⟩ := Option.map_eq_some_iff.mp he
    exact k5 i h1 e q.symm
  rw [if_neg h1] at he
  cases he
theorem isinst_T {v : V} {T : String} {b : Bool} (he : isinst v T H = some b) : biVal T = some (.type T) :=
  isinst_cases he (fun _ h _ _ => h ▸ rfl) (fun _ h _ _ => h ▸ rfl) (fun _ h _ _ => h ▸ rfl) (fun _ h _ _ => h ▸ rfl) fun _ h _ _ => h ▸ rfl
theorem isinst_ok {v : V} {m : Value} {T : String} {b : Bool} (hm : (v, m) ∈ vs) (he : isinst v T H = some b) :
    Tri κ ρ vs (PySem.call (.builtin "isinstance") [m, .type T]) H (.ok (.bool b) H) rV := by
  refine Tri.plain fun η s Q E at' hv hq => ?_
  have r := hv _ hm
  refine isinst_cases he (fun i h e q => ?_) (fun i h e q => ?_) (fun i h e q => ?_) (fun i h e q => ?_) fun i h e q => ?_ <;> (subst h; subst q)
  · obtain ⟨t, rfl⟩ := vr_int r e
    exact IsiPair.int_int (hq _ s.toks (.bool _))
  · obtain ⟨t, rfl⟩ := vr_int r e
    exact IsiPair.int_bool (hq _ _ (.bool _))
  · rw [tupAt_inv e] at r
    cases r with
    | tup g nn r l => exact IsiPair.tuple_tuple g rfl (hq _ s.toks (.bool _))
  · obtain ⟨a, items, c, rfl, g, r, l⟩ := vr_list at'.inv r e
    exact IsiPair.list_list g rfl (hq _ s.toks (.bool _))
  · obtain ⟨n, rfl, hn⟩ := tabAt_inv e
    cases r with
    | ref e =>
      obtain ⟨ys, ⟨o, _, g, hc, _⟩, _⟩ := zr_of_H at'.inv e hn
      exact IsiPair.dict_dict g hc.1 (hq _ s.toks (.bool _))
end
end Mine
namespace Mine
open PySem PyProof.Rows PySem.W
noncomputable def relabelS (scope sc : Scope) : Scope :=
  { scope with names := scope.names.map fun (n, k) => if (k == .free && sc.kind == .function && sc.names.lookup n == some .cell) then (n, .cell) else (n, k) }
noncomputable def compName (sc scope : Scope) (x : Str) (p : Str × NameKind) : Bool := match p.2 with
  | .cell => false
  | .local => (p.1 == x || p.1 == (".0" : Str)) && scope.names.lookup p.1 == some .local
  | .free => sc.names.lookup p.1 == some .cell
  | _ => true
noncomputable def compOk (sc scope : Scope) (x : Str) : Bool := scope.kind == .function && sc.kind == .function && scope.names.lookup x == some .local && scope.names.all (compName sc scope x)
theorem forIn_cells {env : Env} : ∀ (names : List (Str × NameKind)) (cs : List (Str × Addr)), (∀ p ∈ names, p.2 = .free -> ∃ c, env.cells.lookup p.1 = some c) -> (∀ p ∈ cs, env.cells.lookup p.1 = some p.2) ->
    ∃ cl, (forIn names cs (fun x __s => if (x.2 == NameKind.free) = true then do let __do_lift <- cellOf env x.1; pure (ForInStep.yield ((x.1, __do_lift) :: __s)) else pure (ForInStep.yield __s)) : Sem _) = pure cl /\
      (∀ p ∈ cl, env.cells.lookup p.1 = some p.2) /\ (∀ y, (∃ c, cs.lookup y = some c) \/ (y, NameKind.free) ∈ names -> ∃ c, cl.lookup y = some c)
  | [], cs, _, hc => ⟨cs, by simp, hc, fun y h => h.elim (fun h => h) (fun h => nomatch h)⟩
  | (n, k) :: names, cs, h, hc => by
    by_cases hk : k = .free
    · subst hk
      obtain ⟨c, e⟩ := h (n, .free) (List.Mem.head _) rfl
      obtain ⟨cl, e1, h1, h2⟩ := forIn_cells names ((n, c) :: cs) (fun p hp => h p (List.Mem.tail _ hp)) (fun p hp => by
        rcases List.mem_cons.mp hp with rfl | hp
        · exact e
        · exact hc p hp)
      refine ⟨cl, ?_, h1, fun y hy => h2 y ?_⟩
      · rw [List.forIn_cons]
        have : cellOf env n = pure c := by unfold cellOf; rw [e]
        simp only [beq_self_eq_true, if_true, this, pure_bind]
        exact e1
      · rcases hy with ⟨c', hy⟩ | hy
        · by_cases hyn : y = n
          · exact .inl ⟨c, by rw [hyn]; simp⟩
          · have hb : (y == n) = false := by simpa using hyn
            exact .inl ⟨c', by rw [List.lookup_cons, hb]; exact hy⟩
        · rcases List.mem_cons.mp hy with hy | hy
          · cases hy; exact .inl ⟨c, by simp⟩
          · exact .inr hy
    · obtain ⟨cl, e1, h1, h2⟩ := forIn_cells names cs (fun p hp => h p (List.Mem.tail _ hp)) hc
      refine ⟨cl, ?_, h1, fun y hy => h2 y ?_⟩
      · rw [List.forIn_cons]
        have : (k == NameKind.free) = false := by simpa using hk
        simp only [this, Bool.false_eq_true, if_false, pure_bind]
        exact e1
      · rcases hy with hy | hy
        · exact .inl hy
        · rcases List.mem_cons.mp hy with hy | hy
          · cases hy; exact absurd rfl hk
          · exact .inr hy
theorem relabel_lookup {sc : Scope} {y : Str} : ∀ {names : List (Str × NameKind)}, (∀ p ∈ names, p.2 = .free -> sc.names.lookup p.1 = some .cell) -> sc.kind = .function ->
    (names.map fun (n, k) => if (k == NameKind.free && sc.kind == .function && sc.names.lookup n == some .cell) then (n, NameKind.cell) else (n, k)).lookup y = (names.lookup y).map fun k => if k = .free then .cell else k
  | [], _, _ => rfl
  | (n, k) :: names, h, hs => by
    have ih := relabel_lookup (sc := sc) (y := y) (names := names) (fun p hp => h p (List.Mem.tail _ hp)) hs
    show List.lookup y ((if (k == NameKind.free && sc.kind == .function && sc.names.lookup n == some .cell) = true then (n, NameKind.cell) else (n, k)) :: _) = _
    by_cases hk : k = .free
    · subst hk
      have := h (n, .free) (List.Mem.head _) rfl
      rw [if_pos (by rw [hs, this]; rfl), List.lookup_cons, List.lookup_cons]
      cases y == n
      · exact ih
      · rfl
    · have hb : (k == NameKind.free) = false := by simpa using hk
      rw [if_neg (by rw [hb]; simp), List.lookup_cons, List.lookup_cons]
      cases y == n
      · exact ih
      · simp [hk]
section
variable {κ : Ct} {X : Cx} {A : Around} {ρ : Rho} {H : Hp} {η : List Addr} {s : Shared}
theorem comp_at {scope : Scope} {x : String} {cl : List (Str × Addr)} {C : Addr} {m : Str -> Option Value} {v : V} {mv : Value} (hc : compOk κ.env.scope scope (Str.ofString x) = true) (a : At κ η ρ H s) (hcl : ∀ p ∈ cl, κ.env.cells.lookup p.1 = some p.2)
    (hfr : ∀ y, scope.names.lookup y = some .free -> ∃ c, cl.lookup y = some c) (hC : s.heap.Ns C m) (hm : m (Str.ofString x) = some mv) (hv : VR κ.X η s.heap v mv) (hCη : C ∉ η) (hCb : κ.X.base.get? C = Option.none) :
    At (κ.inn (compEnvC scope cl C κ.env)) η ((x, v) :: ρ) H s := by
  unfold compOk at hc
  simp only [Bool.and_eq_true, beq_iff_eq] at hc
  obtain ⟨⟨⟨hk, hsk⟩, hx⟩, hall⟩ := hc
  have hfree : ∀ p ∈ scope.names, p.2 = .free -> κ.env.scope.names.lookup p.1 = some .cell := fun p hp e => by
    have := List.all_eq_true.mp hall p hp
    unfold compName at this
    rw [e] at this
    exact beq_iff_eq.mp this
  have kd : ∀ y, (compEnvC scope cl C κ.env).kindOf y = (scope.names.lookup y).map fun k => if k = .free then .cell else k := fun y => relabel_lookup (sc := κ.env.scope) hfree hsk
  have cell : ∀ y, (compEnvC scope cl C κ.env).kindOf y = some .cell -> scope.names.lookup y = some .free := fun y hy => by
    rw [kd] at hy
    obtain ⟨k, e, q⟩ := Option.map_eq_some_iff.mp hy
    by_cases hkf : k = .free
    · rw [e, hkf]
    · rw [if_neg hkf] at q
      have := List.all_eq_true.mp hall (y, k) (lookup_mem e)
      unfold compName at this
      rw [q] at this; cases this
  refine ⟨a.inv, ⟨?_, a.fok.glob, a.fok.blt, ⟨m, hC⟩, fun p hp => a.fok.cell p (lookup_mem (hcl p hp)), fun y hy => hfr y (cell y hy), fun y z c h1 h2 => ?_, fun b hb => ?_⟩, fun y w ey hy => ?_, a.stk, a.room, a.hand⟩
  · show (relabel scope κ.env).kind = _
    exact hk
  · exact a.fok.inj y z c (hcl _ (lookup_mem h1)) (hcl _ (lookup_mem h2))
  · rcases List.mem_cons.mp hb with rfl | hb
    · exact ⟨hCη, hCb⟩
    · obtain ⟨p, hp, rfl⟩ := List.mem_map.mp hb
      exact a.fok.off _ (List.mem_cons.mpr (.inr (List.mem_map.mpr ⟨p, lookup_mem (hcl p hp), rfl⟩)))
  · by_cases hyx : y = x
    · subst hyx
      rw [List.lookup_cons, beq_self_eq_true] at ey
      cases ey
      exact ⟨mv, .inl ⟨by rw [kd, hx]; rfl, m, hC, hm⟩, hv⟩
    · have hb : (y == x) = false := by simpa using hyx
      rw [List.lookup_cons, hb] at ey
      unfold isVar at hy
      rw [Bool.and_eq_true, Bool.not_eq_true'] at hy
      obtain ⟨hy0, hy⟩ := hy
      have hkd : (compEnvC scope cl C κ.env).scope.names.lookup (Str.ofString y) = _ := kd (Str.ofString y)
      rw [hkd] at hy
      have : scope.names.lookup (Str.ofString y) = some .free := by
        cases e : scope.names.lookup (Str.ofString y) with
        | none => rw [e] at hy; cases hy
        | some k =>
          rw [e] at hy
          have q := List.all_eq_true.mp hall (Str.ofString y, k) (lookup_mem e)
          unfold compName at q
          cases k with
          | free => rfl
          | «local» =>
            simp only [Bool.and_eq_true, Bool.or_eq_true, beq_iff_eq] at q
            rcases q.1 with q | q
            · exact absurd (ofString_inj q) hyx
            · rw [q] at hy0; cases hy0
          | cell => cases q
          | _ => cases hy
      have hoc := hfree _ (lookup_mem this) rfl
      obtain ⟨mw, hh, rw'⟩ := a.rho y w ey (by unfold isVar; rw [hy0, hoc]; rfl)
      obtain ⟨c, hcc⟩ := hfr _ this
      refine ⟨mw, .inr ⟨.inl (by rw [kd, this]; rfl), c, ?_⟩, rw'⟩
      rcases hh with ⟨hk', _⟩ | ⟨_, c', o, hc', g, d⟩
      · unfold Env.kindOf at hk'; rw [hoc] at hk'; cases hk'
      · have e1 := hcl _ (lookup_mem hcc)
        rw [hc'] at e1; cases e1
        exact ⟨o, hcc, g, d⟩
theorem iter_self {it : Addr} {H0 : Hp} {src : V} {xs : List V} {i : Nat} {Q : Value -> Shared -> Prop} {E : Value -> Shared -> Prop} (r : ItR X η s.heap it H0 src xs i) (h : Q (.ref it) s) : wpAny X.M A (pyIter (.ref it)) Q E s := by
  cases r with
  | list _ _ q => exact wpAny_pyIter_listiter q h
  | tab _ _ q => exact wpAny_pyIter_keyiter q h
  | tup _ _ _ q => exact wpAny_pyIter_tupleiter q h
  | rng q => exact wpAny_pyIter_rangeiter q h
inductive CompEnd (X : Cx) (fr η0 : List Addr) (s0 : Shared) (k : Nat) (D C : Addr) (H' : Hp) (s' : Shared) : Prop
  | mk (η' : List Addr) (h' : Heap) (tk : Nat) (e : s' = { s0 with heap := h', toks := tk }) (i : Inv X η' H' h') (x : Step fr [] η0 s0.heap η' h') (d : η'[k]? = some D) (c : C ∉ η') (n : s0.heap.get? C = Option.none) (m : Str -> Option Value) (ns : h'.Ns C m) : CompEnd X fr η0 s0 k D C H' s'
inductive CompI (X : Cx) (fr η0 : List Addr) (s0 : Shared) (it D C : Addr) (H0 : Hp) (src : V) (xs : List V) (k : Nat) (F : Nat -> Hp -> Prop) (mm : Nat) (s : Shared) : Prop
  | mk (i : Nat) (H : Hp) (η : List Addr) (m : Str -> Option Value) (e : mm = xs.length - i) (iv : Inv X η H s.heap) (es : s = { s0 with heap := s.heap, toks := s.toks }) (x : Step fr [] η0 s0.heap η s.heap) (r : ItR X η s.heap it H0 src xs i) (ni : it ∉ η) (dk : η[k]? = some D) (cn : C ∉ η) (ns : s.heap.Ns C m) (hf : F i H) : CompI X fr η0 s0 it D C H0 src xs k F mm s
theorem turns_chk {f : V -> Hp -> R (Option V)} {chk : Hp -> Bool} {k : Nat} {xs : List V} {H : Hp} (h : turns f chk k xs H ≠ .stuck) : chk H = true := by
  cases xs <;> exact Classical.byContradiction fun q => h (if_neg q)
theorem turns_cons {f : V -> Hp -> R (Option V)} {chk : Hp -> Bool} {k : Nat} {v : V} {xs : List V} {H : Hp} (h : turns f chk k (v :: xs) H ≠ .stuck) :
    (∃ w H1 ys, f v H = .ok (some w) H1 /\ H1[k]? = some (.list ys) /\ ys.length < line /\ turns f chk k (v :: xs) H = turns f chk k xs (H1.set k (.list (ys ++ [w])))) \/ ∃ H1, f v H = .ok Option.none H1 /\ turns f chk k (v :: xs) H = turns f chk k xs H1 := by
  have ck := turns_chk h
  rw [turns, if_pos ck] at h ⊢
  cases e : f v H with
  | stuck => rw [e] at h; exact absurd rfl h
  | raise c H1 => rw [e] at h; exact absurd rfl h
  | ok w H1 =>
    rw [e] at h
    cases w with
    | none => exact .inr ⟨H1, rfl, rfl⟩
    | some w =>
      dsimp only at h
      cases hk : H1[k]? with
      | none => rw [hk] at h; exact absurd rfl h
      | some o =>
        cases o with
        | list ys =>
          rw [hk] at h
          dsimp only at h
          by_cases hl : ys.length < line
          · refine .inl ⟨w, H1, ys, rfl, hk, hl, ?_⟩
            dsimp only; rw [hk]; exact if_pos hl
          · rw [if_neg hl] at h; exact absurd rfl h
        | _ => rw [hk] at h; exact absurd rfl h
noncomputable def turnF (g : V -> Hp -> R Bool) (f : V -> Hp -> R V) (v : V) (H : Hp) : R (Option V) := (g v H).bind fun t H3 => if t then (f v H3).bind fun w H4 => .ok (some w) H4 else .ok Option.none H3
theorem turnF_some {g : V -> Hp -> R Bool} {f : V -> Hp -> R V} {v w : V} {H H1 : Hp} (h : turnF g f v H = .ok (some w) H1) : ∃ H3, g v H = .ok true H3 /\ f v H3 = .ok w H1 := by
  unfold turnF at h
  cases e : g v H with
  | stuck => rw [e] at h; cases h
  | raise c H3 => rw [e] at h; cases h
  | ok t H3 =>
    rw [e, R.bind_ok] at h
    cases t with
    | false => cases h
    | true =>
      rw [if_pos rfl] at h
      cases e2 : f v H3 with
      | stuck => rw [e2] at h; cases h
      | raise c H3 => rw [e2] at h; cases h
      | ok w2 H4 => rw [e2, R.bind_ok] at h; cases h; exact ⟨H3, rfl, e2⟩
theorem turnF_none {g : V -> Hp -> R Bool} {f : V -> Hp -> R V} {v : V} {H H1 : Hp} (h : turnF g f v H = .ok Option.none H1) : g v H = .ok false H1 := by
  unfold turnF at h
  cases e : g v H with
  | stuck => rw [e] at h; cases h
  | raise c H3 => rw [e] at h; cases h
  | ok t H3 =>
    rw [e, R.bind_ok] at h
    cases t with
    | false => cases h; rfl
    | true =>
      rw [if_pos rfl] at h
      cases e2 : f v H3 with
      | stuck => rw [e2] at h; cases h
      | raise c H3 => rw [e2] at h; cases h
      | ok w2 H4 => rw [e2, R.bind_ok] at h; cases h
noncomputable abbrev testsOf (ifs : List Expr) (env : Env) : Sem Bool := forIn ifs true fun c r => if r = true then do let ok <- isTrue c env (eval c env); pure (ForInStep.yield ok) else pure (ForInStep.yield r)
theorem turn_lt {α : Type} {xs : List α} {i : Nat} {v : α} (h : xs[i]? = some v) : xs.length - (i + 1) < xs.length - i := Nat.sub_lt_sub_left (List.getElem?_eq_some_iff.mp h).1 (Nat.lt_succ_self i)
theorem drop_at {α : Type} {xs : List α} {i : Nat} {v : α} (hv : xs[i]? = some v) : xs.drop i = v :: xs.drop (i + 1) := by
  obtain ⟨hlt, e⟩ := List.getElem?_eq_some_iff.mp hv
  rw [List.drop_eq_getElem_cons hlt, e]
theorem drop_end {α : Type} {xs : List α} {i : Nat} (hv : xs[i]? = Option.none) : xs.drop i = [] := List.drop_eq_nil_of_le (List.getElem?_eq_none_iff.mp hv)
theorem RaiseAt.no {X : Cx} {st : List Env} {α : Type} {η : List Addr} {s : Shared} {r : R α} {b : α} {H : Hp} {ev : Value} {s' : Shared} {P : Prop} (x : RaiseAt X st η s r ev s') (e : r = .ok b H) : P := by
  obtain ⟨c, H', e', _⟩ := x
  rw [e] at e'; cases e'
theorem At.new_fr (a : At κ η ρ H s) {b : Addr} (q : s.heap.get? b = Option.none) : b ∉ frs κ.st := fun hb => by obtain ⟨o, e, _⟩ := a.stk.frm b hb; rw [q] at e; cases e
theorem At.new (a : At κ η ρ H s) {b : Addr} (q : s.heap.get? b = Option.none) : κ.X.base.get? b = Option.none := by
  cases g : κ.X.base.get? b with
  | none => rfl
  | some o => have := a.inv.keep b o g; rw [q] at this; cases this
theorem Ns.mach {h : Heap} {C : Addr} {m : Str -> Option Value} (ns : h.Ns C m) : Mach h C := let ⟨o, es', ep, g, d, _⟩ := ns; ⟨o, g, .inr ⟨es', ep, d⟩⟩
theorem one_none {h : Heap} {b : Addr} (e : h.get? b = Option.none) : ∀ c ∈ [b], h.get? c = Option.none := fun _ hc => List.mem_singleton.mp hc ▸ e
theorem comp_loop (hh : κ.Γ.hd = false) {elt iter : Expr} {x : String} {px pos : Pos} {scope : Scope} {cl : List (Str × Addr)} {ifs : List Expr} {g : V -> Hp -> R Bool} {f : V -> Hp -> R V} {H0 : Hp} {src : V} {xs : List V} {chk : Hp -> Bool} {k : Nat} {it D C : Addr} {RR : Result -> Shared -> Prop} {η0 : List Addr} {s0 : Shared}
    (hc : compOk κ.env.scope scope (Str.ofString x) = true) (hcl : ∀ p ∈ cl, κ.env.cells.lookup p.1 = some p.2) (hfr : ∀ y, scope.names.lookup y = some .free -> ∃ c, cl.lookup y = some c)
    (helt : ∀ v C' H', Tri (κ.inn (compEnvC scope cl C' κ.env)) ((x, v) :: ρ) [] (eval elt (compEnvC scope cl C' κ.env)) H' (f v H') rV)
    (htest : ∀ v C' H', Tri (κ.inn (compEnvC scope cl C' κ.env)) ((x, v) :: ρ) [] (testsOf ifs (compEnvC scope cl C' κ.env)) H' (g v H') rB)
    (hchk : ∀ H, chk H = true -> ∀ n, src = .ref n -> H[n]? = H0[n]?) (h0C : s0.heap.get? C = Option.none) (h0I : s0.heap.get? it = Option.none)
    {H1 : Hp} {η1 : List Addr} {s1 : Shared} {m1 : Str -> Option Value} (a0 : At κ η0 ρ H s0) (i1 : Inv κ.X η1 H1 s1.heap) (e1 : s1 = { s0 with heap := s1.heap, toks := s1.toks }) (x1 : Step (frs κ.st) [] η0 s0.heap η1 s1.heap) (r1 : ItR κ.X η1 s1.heap it H0 src xs 0) (n1 : it ∉ η1) (d1 : η1[k]? = some D) (c1 : C ∉ η1) (ns1 : s1.heap.Ns C m1)
    (hne : turns (turnF g f) chk k xs H1 ≠ .stuck) (hR : ∀ H' s', turns (turnF g f) chk k xs H1 = .ok () H' -> CompEnd κ.X (frs κ.st) η0 s0 k D C H' s' -> RR (.ok .next) s') :
    codeAny κ.X.M κ.A (.compLoop (.ListComp elt [⟨.Name (Str.ofString x) px, iter, ifs, 0⟩] scope pos) 0 (.ref it) (.ref D) (compEnvC scope cl C κ.env)) RR s1 := by
  generalize hres : turns (turnF g f) chk k xs H1 = res at hne hR
  have hc' := hc
  unfold compOk at hc'
  simp only [Bool.and_eq_true, beq_iff_eq] at hc'
  have hx : (compEnvC scope cl C κ.env).kindOf (Str.ofString x) = some .local := lookup_relabel_local hc'.1.2
  have hkind : (relabel scope κ.env).kind = .function := hc'.1.1.1
  refine codeAny_compLoop_tests (env := compEnvC scope cl C κ.env) (CompI κ.X (frs κ.st) η0 s0 it D C H0 src xs k (fun i H => turns (turnF g f) chk k (xs.drop i) H = res))
    (fun mm s hI => ?_) xs.length ⟨0, H1, η1, m1, rfl, i1, e1, x1, r1, n1, d1, c1, ns1, hres⟩
  obtain ⟨i, H', η, m, rfl, iv, es, xx, r, ni, dk, cn, ns, hf⟩ := hI
  have ck : chk H' = true := turns_chk (by rw [hf]; exact hne)
  have nCit : C ≠ it := fun q => by
    obtain ⟨o, es', ep, g, d, _⟩ := ns
    obtain ⟨o', _, fs, g', _, d', _⟩ := r.obj
    rw [q, g'] at g; cases g; rw [d'] at d; cases d
  have nC : ∀ {b : Addr}, b = C -> b ∉ [it] := fun q z => nCit (q.symm.trans (List.mem_singleton.mp z))
  refine next_ok r iv ni (a0.hand hh) (hchk H' ck) (fun v mv h' tk hv t rv r' => ?_) (fun h' hv t => ?_)
  · rw [drop_at hv] at hf
    have hcons := turns_cons (by rw [hf]; exact hne)
    have iv2 : Inv κ.X η H' h' := t.inv iv (one_none (a0.new h0I))
    have xx2 : Step (frs κ.st) [] η0 s0.heap η h' := t.step xx (one_none h0I)
    have ns2 : h'.Ns C m := by
      obtain ⟨o, es', ep, g, d, q⟩ := ns
      exact ⟨o, es', ep, t.keep C o (nC rfl) g, d, q⟩
    show wpAny _ κ.A (assign (.Name (Str.ofString x) px) (compEnvC scope cl C κ.env) mv) _ _ _
    refine wpAny_assign_Name (wpAny_storeName_local hx ns2 (fun h2 hn2 hs2 => ?_) ?_)
    rotate_left
    · show ((relabel scope κ.env).kind == .class || ((relabel scope κ.env).kind == .module && _)) = false
      rw [hkind]; rfl
    have t2 : Turn [C] η H' h' h2 := Turn.one cn (Ns.mach ns2) fun b o hb e => (hs2.2 b hb).trans e
    have iv3 : Inv κ.X η H' h2 := t2.inv iv2 (one_none (a0.new h0C))
    have xx3 : Step (frs κ.st) [] η0 s0.heap η h2 := t2.step xx2 (one_none h0C)
    have out : At κ η ρ H' { s0 with heap := h2, toks := tk + 1 } := a0.step xx3 iv3 (tk + 1)
    have inn := comp_at (s := { s0 with heap := h2, toks := tk + 1 }) hc out hcl hfr hn2 (by simp) (t2.vr rv) cn (a0.new h0C)
    have es' : ({ s with heap := h2, toks := tk + 1 } : Shared) = { s0 with heap := h2, toks := tk + 1 } := by rw [es]
    show wpAny _ κ.A (testsOf ifs (compEnvC scope cl C κ.env)) _ _ (⟨h2, s.gens, s.drawn, tk + 1, s.os⟩ : Shared)
    rw [es']
    have r2 : ItR κ.X η h2 it H0 src xs (i + 1) := r'.move ⟨[], (List.append_nil _).symm⟩ t2.holds fun o g => t2.keep it o (fun z => nCit (List.mem_singleton.mp z).symm) g
    have done : ∀ {η5 : List Addr} {h5 : Heap} {H5 : Hp} {tk5 : Nat}, Inv κ.X η5 H5 h5 -> Step (frs κ.st) [] η h2 η5 h5 -> turns (turnF g f) chk k (xs.drop (i + 1)) H5 = res -> ∃ m, m < xs.length - i /\ CompI κ.X (frs κ.st) η0 s0 it D C H0 src xs k (fun i H => turns (turnF g f) chk k (xs.drop i) H = res) m { s0 with heap := h5, toks := tk5 } := fun {η5 h5 H5 tk5} iv5 xx7 hf => by
      have nCx : ∀ o, h2.get? C = some o -> h5.get? C = some o := fun o g => xx7.same C o g cn (fun q => nomatch q) (a0.new_fr h0C)
      have r5 : ItR κ.X η5 h5 it H0 src xs (i + 1) := r2.keep xx7 out.stk.frm ni
      obtain ⟨oC, esC, epC, gC, dC, qC⟩ := id hn2
      obtain ⟨oI, _, fI, gI, _⟩ := r2.obj
      exact ⟨xs.length - (i + 1), turn_lt hv, i + 1, _, η5, _, rfl, iv5, rfl, xx3.trans xx7, r5, xx7.mem gI ni, by obtain ⟨l, rfl, _⟩ := xx7.pre; exact getElem?_pre dk, xx7.mem gC cn, ⟨oC, esC, epC, nCx _ gC, dC, qC⟩, hf⟩
    rcases hcons with ⟨w0, H40, ys0, g1, g2, g3, g4⟩ | ⟨H40, g1, g4⟩
    · rw [g4] at hf
      obtain ⟨H3, q1, q2⟩ := turnF_some g1
      refine wpAny_mono (htest v C H' (by rw [q1]; exact fun q => nomatch q) η _ inn fun _ q => nomatch q) (fun mb s3 hx3 => ?_) fun _ _ q => q.no q1
      obtain ⟨b, H3', e3, eb, η3, h3, tk3, rfl, iv3', xx3', _⟩ := hx3
      cases q1.symm.trans e3
      have eb : mb = true := eb
      subst eb
      rw [if_pos rfl]
      have inn3 := inn.step xx3' iv3' tk3
      refine wpAny_mono (helt v C H3 (by rw [q2]; exact fun q => nomatch q) η3 _ inn3 fun _ q => nomatch q) (fun mw s4 hx4 => ?_) fun _ _ q => q.no q2
      obtain ⟨w, H4, e4, _, η4, h4, tk4, rfl, iv4, xx4, pv⟩ := hx4
      cases q2.symm.trans e4
      have xx34 := xx3'.trans xx4
      have out4 : At κ η4 ρ H40 { s0 with heap := h4, toks := tk4 } := out.step xx34 iv4 tk4
      have d4 : η4[k]? = some D := by obtain ⟨l, rfl, _⟩ := xx34.pre; exact getElem?_pre dk
      have ap := append_ok (κ := κ) (ρ := ρ) (vs := [(.ref k, .ref D), (w0, mw)]) (v := w0) (ov := .ref D) (mv := mw) (List.Mem.head _) (List.Mem.tail _ (List.Mem.head _)) g2 g3
      refine wpAny_mono (ap (fun q => nomatch q) η4 _ out4 (fun p hp => ?_)) (fun y s5 hy => ?_) fun _ _ q => q.no rfl
      · rcases List.mem_cons.mp hp with rfl | hp
        · exact .ref d4
        · rw [List.mem_singleton] at hp; subst hp; exact pv (w0, mw) (List.Mem.head _)
      · obtain ⟨_, H5, e5, _, η5, h5, tk5, rfl, iv5, xx6, _⟩ := hy
        cases e5
        exact done iv5 (xx34.trans xx6) hf
    · rw [g4] at hf
      have q1 := turnF_none g1
      refine wpAny_mono (htest v C H' (by rw [q1]; exact fun q => nomatch q) η _ inn fun _ q => nomatch q) (fun mb s3 hx3 => ?_) fun _ _ q => q.no q1
      obtain ⟨b, H3', e3, eb, η3, h3, tk3, rfl, iv3', xx3', _⟩ := hx3
      cases q1.symm.trans e3
      have eb : mb = false := eb
      subst eb
      rw [if_neg Bool.false_ne_true]
      exact done iv3' xx3' hf
  · rw [drop_end hv, turns, if_pos ck] at hf
    refine hR H' _ hf.symm ⟨η, h', s.toks, by rw [es], t.inv iv (one_none (a0.new h0I)), t.step xx (one_none h0I), dk, cn, h0C, m, ?_⟩
    obtain ⟨o, es', ep, g, d, q⟩ := ns
    exact ⟨o, es', ep, t.keep C o (nC rfl) g, d, q⟩
end
noncomputable def noSet : Expr -> Bool
  | .Set .. => false
  | _ => true
theorem folded_no {e : Expr} {env : Env} (h : noSet e = true) (x : Value) : foldedSetIterable e env x = pure x := by
  cases e <;> first | rfl | cases h
section
variable {κ : Ct} {ρ : Rho} {H : Hp}
theorem comp_run (hh : κ.Γ.hd = false) {η : List Addr} {s : Shared} {elt iter : Expr} {x : String} {px pos cpos : Pos} {scope : Scope} {ifs : List Expr} {g : V -> Hp -> R Bool} {f : V -> Hp -> R V} {r1 : R V} {use : Option (Value -> Sem Unit)} {Q : Value -> Shared -> Prop} {E : Value -> Shared -> Prop} (hc : compOk κ.env.scope scope (Str.ofString x) = true) (hn : noSet iter = true)
    (h1 : Tri κ ρ [] (eval iter κ.env) H r1 rV) (helt : ∀ cl v C' H', Tri (κ.inn (compEnvC scope cl C' κ.env)) ((x, v) :: ρ) [] (eval elt (compEnvC scope cl C' κ.env)) H' (f v H') rV) (htest : ∀ cl v C' H', Tri (κ.inn (compEnvC scope cl C' κ.env)) ((x, v) :: ρ) [] (testsOf ifs (compEnvC scope cl C' κ.env)) H' (g v H') rB) (a : At κ η ρ H s)
    (hne : (r1.bind fun v H1 => compV (turnF g f) v H1) ≠ .stuck) (hE : ∀ ev s', RaiseAt κ.X κ.st η s r1 ev s' -> E ev s')
    (hK : ∀ v H1 xs H' s' D C, r1 = .ok v H1 -> items H1 v = some xs -> turns (turnF g f) (sameO v H1) H1.length xs (H1 ++ [.list []]) = .ok () H' -> CompEnd κ.X (frs κ.st) η s H1.length D C H' s' -> compPost κ.X.M κ.A E use Q (.ref D) C (.ok .next) s') :
    wpAny κ.X.M κ.A (comprehension (.ListComp elt [⟨.Name (Str.ofString x) px, iter, ifs, 0⟩] scope pos) scope κ.env cpos (newList []) false (eval iter κ.env) use) Q E s := by
  have hc' := hc
  unfold compOk at hc'
  simp only [Bool.and_eq_true, beq_iff_eq] at hc'
  obtain ⟨⟨⟨hk, hsk⟩, hx⟩, hall⟩ := hc'
  have hnm : ∀ p ∈ scope.names, compName κ.env.scope scope (Str.ofString x) p = true := fun p hp => List.all_eq_true.mp hall p hp
  obtain ⟨cl, ecl, hcl, hfr0⟩ := forIn_cells (env := κ.env) scope.names [] (fun p hp e => by
    have := hnm p hp
    unfold compName at this
    rw [e] at this
    exact a.fok.cells _ (beq_iff_eq.mp this)) (fun _ q => nomatch q)
  have hclos : closureFor scope κ.env = pure cl := by
    unfold closureFor
    dsimp only
    rw [ecl]; rfl
  have hfr : ∀ y, scope.names.lookup y = some .free -> ∃ c, cl.lookup y = some c := fun y hy => hfr0 y (.inr (lookup_mem hy))
  have hcell : ∀ p ∈ scope.names, p.2 ≠ .cell := fun p hp q => by
    have := hnm p hp
    unfold compName at this
    rw [q] at this; cases this
  have hnames : ∀ p ∈ scope.names, p.2 = .local -> scope.names.lookup p.1 = some .local := fun p hp q => by
    have := hnm p hp
    unfold compName at this
    rw [q] at this
    simp only [Bool.and_eq_true, beq_iff_eq] at this
    exact this.2
  refine wpAny_comprehension_free (use := use) rfl (fun x => folded_no hn x) hclos hk hnames ?_
  have hr : r1 ≠ .stuck := by rintro rfl; exact hne rfl
  refine wpAny_mono (h1 hr η s a fun _ q => nomatch q) (fun mv s1 hx1 => ?_) hE
  obtain ⟨v, H1, rfl, _, η1, h1', tk1, rfl, iv1, st1, p1⟩ := hx1
  rw [R.bind_ok] at hne
  unfold compV at hne
  cases hi : items H1 v with
  | none => rw [hi] at hne; exact absurd rfl hne
  | some xs =>
    rw [hi] at hne
    dsimp only at hne
    refine iter_ok (s := { s with heap := h1', toks := tk1 }) iv1 (p1 (v, mv) (List.Mem.head _)) hi fun ob rI => ?_
    obtain ⟨h2, eh2⟩ : ∃ h2, h2 = h1'.push ob := ⟨_, rfl⟩
    obtain ⟨it, eit⟩ : ∃ it, it = h1'.objs.size := ⟨_, rfl⟩
    have k2 : ∀ b o, h1'.get? b = some o -> h2.get? b = some o := fun b o e => by rw [eh2]; exact push_keeps _ _ _ _ e
    show wpAny _ κ.A (newList []) _ _ { s with heap := h1'.push ob, toks := tk1 }
    have rI' : ItR κ.X η1 h2 it H1 v xs 0 := by rw [eh2, eit]; exact rI
    rw [<- eh2]
    show wpAny _ κ.A (newList []) (fun acc s3 => wpAny _ κ.A (newFunctionEnv scope κ.env.globals cl [] κ.env.qual Option.none .none (some κ.env)) (fun cenv s4 => codeAny _ κ.A (.compStart _ 0 (.ref h1'.objs.size) acc _) _ s4) _ s3) _ _
    rw [<- eit]
    refine wpAny_newObj_type (wpAny_newFunctionEnv hcell (by intro y hy; simp at hy) (fun h4 hn4 hs4 => ?_) hk)
    dsimp only at hn4 hs4 ⊢
    obtain ⟨h3, eh3⟩ : ∃ h3, h3 = h2.push { cls := .type "list", data := .seq ([] : List Value).toArray } := ⟨_, rfl⟩
    have hn4' : h4.Ns h3.objs.size (fun x => ([] : List (Str × Value)).reverse.lookup x) := by rw [eh3]; exact hn4
    have hs4' : Heap.SameBut h3.objs.size (h3.push { cls := .type (if (some κ.env).isSome then "dict" else "frame"), data := .dict #[] }) h4 := by rw [eh3]; exact hs4
    have sz3 : h3.objs.size = h2.objs.size + 1 := by rw [eh3, Heap.size_push]
    have k3 : ∀ b o, h2.get? b = some o -> h3.get? b = some o := fun b o e => by rw [eh3]; exact push_keeps _ _ _ _ e
    have k4 : ∀ b o, h3.get? b = some o -> h4.get? b = some o := fun b o e => (hs4'.2 b (Nat.ne_of_lt (Heap.lt_size e))).trans (push_keeps _ _ _ _ e)
    have kk : ∀ b o, h1'.get? b = some o -> h4.get? b = some o := fun b o e => k4 b o (k3 b o (k2 b o e))
    have nD : h2.get? h2.objs.size = Option.none := size_none h2
    have gD : h4.get? h2.objs.size = some { cls := .type "list", data := .seq ([] : List Value).toArray } := k4 _ _ (by rw [eh3]; exact Heap.get?_push_size _ rfl)
    have back : ∀ b, h2.objs.size <= b -> h1'.get? b = Option.none := fun b hb => by
      cases e : h1'.get? b with
      | none => rfl
      | some o => exact absurd (Heap.lt_size (k2 b o e)) (Nat.not_lt.mpr hb)
    have nI : h1'.get? it = Option.none := by rw [eit]; exact size_none h1'
    have offη : ∀ b, h1'.get? b = Option.none -> b ∉ η1 := fun b hb q => by obtain ⟨ob, e⟩ := iv1.alive q; rw [hb] at e; cases e
    have iv2 : Inv κ.X (η1 ++ [h2.objs.size]) (H1 ++ [.list []]) h4 := iv1.make kk (back _ (Nat.le_refl _)) gD (.list .nil (by simp [line]))
    have neID : it ≠ h2.objs.size := by obtain ⟨o, _, _, e, _⟩ := rI'.obj; exact Nat.ne_of_lt (Heap.lt_size e)
    have st2 : Step (frs κ.st) [] η1 h1' (η1 ++ [h2.objs.size]) h4 := Step.make _ _ _ kk (back _ (Nat.le_refl _))
    have rI4 : ItR κ.X (η1 ++ [h2.objs.size]) h4 it H1 v xs 0 := rI'.keep (fr := []) (own := []) (Step.make _ _ _ (fun b o e => k4 b o (k3 b o e)) nD) (Frm.nil _) (offη it nI)
    have neDC : h2.objs.size ≠ h3.objs.size := by rw [sz3]; exact Nat.ne_of_lt (Nat.lt_succ_self _)
    have nC : h1'.get? h3.objs.size = Option.none := back _ (by rw [sz3]; exact Nat.le_succ _)
    have off2 : ∀ b, h1'.get? b = Option.none -> b ≠ h2.objs.size -> b ∉ η1 ++ [h2.objs.size] := fun b hb hd q => by
      rcases List.mem_append.mp q with q | q
      · exact offη b hb q
      · exact hd (List.mem_singleton.mp q)
    have key := comp_loop hh (η0 := η) (s0 := s) (k := H1.length) (chk := sameO v H1) (g := g) (f := f) (H0 := H1) (src := v) (xs := xs) (H1 := H1 ++ [.list []]) (η1 := η1 ++ [h2.objs.size]) (elt := elt) (iter := iter) (px := px) (pos := pos) (s1 := { s with heap := h4, toks := tk1 + ([] : List (Str × Value)).length }) (D := h2.objs.size) (C := h3.objs.size)
      hc hcl hfr (helt cl) (htest cl) (fun H' hck n hv => by subst hv; exact sameO_ref hck) (st1.old nC) (st1.old nI) a iv2 rfl (st1.trans st2) rI4 (off2 it nI neID) (by rw [<- iv1.len]; simp) (off2 _ nC neDC.symm) hn4' (fun q => hne (by rw [q]; rfl))
      (RR := compPost κ.X.M κ.A E use Q (.ref h2.objs.size) h3.objs.size) fun H' s' et ce => ?_
    · have fin := codeAny_compStart_list key (iter_self (s := { s with heap := h4, toks := tk1 + ([] : List (Str × Value)).length }) rI4 key)
      rw [eh3] at fin
      exact fin
    · exact hK v H1 xs H' s' _ _ rfl hi et ce
theorem comp_ok (hh : κ.Γ.hd = false) {elt iter : Expr} {x : String} {px pos : Pos} {scope : Scope} {ifs : List Expr} {g : V -> Hp -> R Bool} {f : V -> Hp -> R V} {r1 : R V} (hc : compOk κ.env.scope scope (Str.ofString x) = true) (hn : noSet iter = true)
    (h1 : Tri κ ρ [] (eval iter κ.env) H r1 rV) (helt : ∀ cl v C' H', Tri (κ.inn (compEnvC scope cl C' κ.env)) ((x, v) :: ρ) [] (eval elt (compEnvC scope cl C' κ.env)) H' (f v H') rV) (htest : ∀ cl v C' H', Tri (κ.inn (compEnvC scope cl C' κ.env)) ((x, v) :: ρ) [] (testsOf ifs (compEnvC scope cl C' κ.env)) H' (g v H') rB) :
    Tri κ ρ [] (eval (.ListComp elt [⟨.Name (Str.ofString x) px, iter, ifs, 0⟩] scope pos) κ.env) H (r1.bind fun v H1 => compV (turnF g f) v H1) rV := by
  intro hne η s a _
  rw [eval_ListComp]
  refine comp_run hh (use := Option.none) hc hn h1 helt htest a hne (fun ev s' q => q.bind) fun v H1 xs H' s' D C e hi et ce => ?_
  obtain ⟨η', h', tk, rfl, iv, stp, dk, cn, c0, m, ns⟩ := ce
  refine ⟨m, ns, fun h'' sb => ⟨.ref H1.length, H', by rw [e, R.bind_ok, compV, hi]; dsimp only; rw [et]; rfl, trivial, ?_⟩⟩
  have t : Turn [C] η' H' h' h'' := Turn.one cn (Ns.mach ns) fun b o hb e => (sb.2 b hb).trans e
  exact ⟨η', h'', tk, rfl, t.inv iv (one_none (a.new c0)), t.step stp (one_none c0), fun p hp => rV1 hp (.ref dk)⟩
end
noncomputable def vName (sc : Scope) (x : String) (id : Str) : Bool := id == Str.ofString x && isVar sc id && !(id == ("__debug__" : Str)) && !(id == ("__classdict__" : Str))
noncomputable def plainE : Expr -> Bool
  | .Starred .. => false
  | .Set .. => false
  | .Slice .. => false
  | _ => true
theorem ff {P : Prop} (h : false = true) : P := nomatch h
noncomputable def onE (e : Expr) (f0 : Str -> Pos -> Bool) (f1 : Const -> Nat -> Pos -> Bool) (f2 : Expr -> Operator -> Expr -> Pos -> Bool) (f3 : UnaryOp -> Expr -> Pos -> Bool) (f4 : BoolOp -> List Expr -> Pos -> Bool) (f5 : Expr -> List CmpOp -> List Expr -> Pos -> Bool) (f6 : Expr -> List Expr -> List Keyword -> Pos -> Bool) (f7 : Expr -> Str -> Pos -> Bool) (f8 : Expr -> Expr -> Pos -> Bool) (f9 : List Expr -> Pos -> Bool) (f10 : List Expr -> Nat -> Pos -> Bool) (f11 : Expr -> List Comprehension -> Scope -> Pos -> Bool) (f12 : Option Expr -> Option Expr -> Option Expr -> Pos -> Bool) (f13 : List (Option Expr) -> List Expr -> Pos -> Bool) : Bool := match e with
  | .Name id p => f0 id p
  | .Constant c k p => f1 c k p
  | .BinOp l op r p => f2 l op r p
  | .UnaryOp op a p => f3 op a p
  | .BoolOp op es p => f4 op es p
  | .Compare l ops rs p => f5 l ops rs p
  | .Call fn args kws p => f6 fn args kws p
  | .Attribute o nm p => f7 o nm p
  | .Subscript o i p => f8 o i p
  | .List es p => f9 es p
  | .Tuple es k p => f10 es k p
  | .ListComp elt gs scope p => f11 elt gs scope p
  | .Slice l u st p => f12 l u st p
  | .Dict ks vs p => f13 ks vs p
  | _ => false
theorem onE_inv {P : Prop} {e : Expr} {f0 : Str -> Pos -> Bool} {f1 : Const -> Nat -> Pos -> Bool} {f2 : Expr -> Operator -> Expr -> Pos -> Bool} {f3 : UnaryOp -> Expr -> Pos -> Bool} {f4 : BoolOp -> List Expr -> Pos -> Bool} {f5 : Expr -> List CmpOp -> List Expr -> Pos -> Bool} {f6 : Expr -> List Expr -> List Keyword -> Pos -> Bool} {f7 : Expr -> Str -> Pos -> Bool} {f8 : Expr -> Expr -> Pos -> Bool} {f9 : List Expr -> Pos -> Bool} {f10 : List Expr -> Nat -> Pos -> Bool} {f11 : Expr -> List Comprehension -> Scope -> Pos -> Bool} {f12 : Option Expr -> Option Expr -> Option Expr -> Pos -> Bool} {f13 : List (Option Expr) -> List Expr -> Pos -> Bool} (h : onE e f0 f1 f2 f3 f4 f5 f6 f7 f8 f9 f10 f11 f12 f13 = true) (k0 : ∀ id p, e = .Name id p -> f0 id p = true -> P) (k1 : ∀ c k p, e = .Constant c k p -> f1 c k p = true -> P) (k2 : ∀ l op r p, e = .BinOp l op r p -> f2 l op r p = true -> P) (k3 : ∀ op a p, e = .UnaryOp op a p -> f3 op a p = true -> P) (k4 : ∀ op es p, e = .BoolOp op es p -> f4 op es p = true -> P) (k5 : ∀ l ops rs p, e = .Compare l ops rs p -> f5 l ops rs p = true -> P) (k6 : ∀ fn args kws p, e = .Call fn args kws p -> f6 fn args kws p = true -> P) (k7 : ∀ o nm p, e = .Attribute o nm p -> f7 o nm p = true -> P) (k8 : ∀ o i p, e = .Subscript o i p -> f8 o i p = true -> P) (k9 : ∀ es p, e = .List es p -> f9 es p = true -> P) (k10 : ∀ es k p, e = .Tuple es k p -> f10 es k p = true -> P) (k11 : ∀ elt gs scope p, e = .ListComp elt gs scope p -> f11 elt gs scope p = true -> P) (k12 : ∀ l u st p, e = .Slice l u st p -> f12 l u st p = true -> P) (k13 : ∀ ks vs p, e = .Dict ks vs p -> f13 ks vs p = true -> P) : P := by
  cases he : e with
  | Name id p => exact k0 id p he (by rw [he] at h; exact h)
  | Constant c k p => exact k1 c k p he (by rw [he] at h; exact h)
  | BinOp l op r p => exact k2 l op r p he (by rw [he] at h; exact h)
  | UnaryOp op a p => exact k3 op a p he (by rw [he] at h; exact h)
  | BoolOp op es p => exact k4 op es p he (by rw [he] at h; exact h)
  | Compare l ops rs p => exact k5 l ops rs p he (by rw [he] at h; exact h)
  | Call fn args kws p => exact k6 fn args kws p he (by rw [he] at h; exact h)
  | Attribute o nm p => exact k7 o nm p he (by rw [he] at h; exact h)
  | Subscript o i p => exact k8 o i p he (by rw [he] at h; exact h)
  | List es p => exact k9 es p he (by rw [he] at h; exact h)
  | Tuple es k p => exact k10 es k p he (by rw [he] at h; exact h)
  | ListComp elt gs scope p => exact k11 elt gs scope p he (by rw [he] at h; exact h)
  | Slice l u st p => exact k12 l u st p he (by rw [he] at h; exact h)
  | Dict ks vs p => exact k13 ks vs p he (by rw [he] at h; exact h)
  | _ => rw [he] at h; exact ff h
noncomputable def onName (e : Expr) (f : Str -> Pos -> Bool) : Bool := onE e f (fun _ _ _ => false) (fun _ _ _ _ => false) (fun _ _ _ => false) (fun _ _ _ => false) (fun _ _ _ _ => false) (fun _ _ _ _ => false) (fun _ _ _ => false) (fun _ _ _ => false) (fun _ _ => false) (fun _ _ _ => false) (fun _ _ _ _ => false) (fun _ _ _ _ => false) (fun _ _ _ => false)
theorem onName_inv {e : Expr} {f : Str -> Pos -> Bool} (h : onName e f = true) : ∃ id p, e = .Name id p /\ f id p = true := onE_inv h (fun id p e h => ⟨id, p, e, h⟩) (fun _ _ _ _ h => ff h) (fun _ _ _ _ _ h => ff h) (fun _ _ _ _ h => ff h) (fun _ _ _ _ h => ff h) (fun _ _ _ _ _ h => ff h) (fun _ _ _ _ _ h => ff h) (fun _ _ _ _ h => ff h) (fun _ _ _ _ h => ff h) (fun _ _ _ h => ff h) (fun _ _ _ _ h => ff h) (fun _ _ _ _ _ h => ff h) (fun _ _ _ _ _ h => ff h) (fun _ _ _ _ h => ff h)
noncomputable def onConstant (e : Expr) (f : Const -> Nat -> Pos -> Bool) : Bool := onE e (fun _ _ => false) f (fun _ _ _ _ => false) (fun _ _ _ => false) (fun _ _ _ => false) (fun _ _ _ _ => false) (fun _ _ _ _ => false) (fun _ _ _ => false) (fun _ _ _ => false) (fun _ _ => false) (fun _ _ _ => false) (fun _ _ _ _ => false) (fun _ _ _ _ => false) (fun _ _ _ => false)
theorem onConstant_inv {e : Expr} {f : Const -> Nat -> Pos -> Bool} (h : onConstant e f = true) : ∃ c k p, e = .Constant c k p /\ f c k p = true := onE_inv h (fun _ _ _ h => ff h) (fun c k p e h => ⟨c, k, p, e, h⟩) (fun _ _ _ _ _ h => ff h) (fun _ _ _ _ h => ff h) (fun _ _ _ _ h => ff h) (fun _ _ _ _ _ h => ff h) (fun _ _ _ _ _ h => ff h) (fun _ _ _ _ h => ff h) (fun _ _ _ _ h => ff h) (fun _ _ _ h => ff h) (fun _ _ _ _ h => ff h) (fun _ _ _ _ _ h => ff h) (fun _ _ _ _ _ h => ff h) (fun _ _ _ _ h => ff h)
noncomputable def onBinOp (e : Expr) (f : Expr -> Operator -> Expr -> Pos -> Bool) : Bool := onE e (fun _ _ => false) (fun _ _ _ => false) f (fun _ _ _ => false) (fun _ _ _ => false) (fun _ _ _ _ => false) (fun _ _ _ _ => false) (fun _ _ _ => false) (fun _ _ _ => false) (fun _ _ => false) (fun _ _ _ => false) (fun _ _ _ _ => false) (fun _ _ _ _ => false) (fun _ _ _ => false)
theorem onBinOp_inv {e : Expr} {f : Expr -> Operator -> Expr -> Pos -> Bool} (h : onBinOp e f = true) : ∃ l op r p, e = .BinOp l op r p /\ f l op r p = true := onE_inv h (fun _ _ _ h => ff h) (fun _ _ _ _ h => ff h) (fun l op r p e h => ⟨l, op, r, p, e, h⟩) (fun _ _ _ _ h => ff h) (fun _ _ _ _ h => ff h) (fun _ _ _ _ _ h => ff h) (fun _ _ _ _ _ h => ff h) (fun _ _ _ _ h => ff h) (fun _ _ _ _ h => ff h) (fun _ _ _ h => ff h) (fun _ _ _ _ h => ff h) (fun _ _ _ _ _ h => ff h) (fun _ _ _ _ _ h => ff h) (fun _ _ _ _ h => ff h)
noncomputable def onUnaryOp (e : Expr) (f : UnaryOp -> Expr -> Pos -> Bool) : Bool := onE e (fun _ _ => false) (fun _ _ _ => false) (fun _ _ _ _ => false) f (fun _ _ _ => false) (fun _ _ _ _ => false) (fun _ _ _ _ => false) (fun _ _ _ => false) (fun _ _ _ => false) (fun _ _ => false) (fun _ _ _ => false) (fun _ _ _ _ => false) (fun _ _ _ _ => false) (fun _ _ _ => false)
theorem onUnaryOp_inv {e : Expr} {f : UnaryOp -> Expr -> Pos -> Bool} (h : onUnaryOp e f = true) : ∃ op a p, e = .UnaryOp op a p /\ f op a p = true := onE_inv h (fun _ _ _ h => ff h) (fun _ _ _ _ h => ff h) (fun _ _ _ _ _ h => ff h) (fun op a p e h => ⟨op, a, p, e, h⟩) (fun _ _ _ _ h => ff h) (fun _ _ _ _ _ h => ff h) (fun _ _ _ _ _ h => ff h) (fun _ _ _ _ h => ff h) (fun _ _ _ _ h => ff h) (fun _ _ _ h => ff h) (fun _ _ _ _ h => ff h) (fun _ _ _ _ _ h => ff h) (fun _ _ _ _ _ h => ff h) (fun _ _ _ _ h => ff h)
noncomputable def onBoolOp (e : Expr) (f : BoolOp -> List Expr -> Pos -> Bool) : Bool := onE e (fun _ _ => false) (fun _ _ _ => false) (fun _ _ _ _ => false) (fun _ _ _ => false) f (fun _ _ _ _ => false) (fun _ _ _ _ => false) (fun _ _ _ => false) (fun _ _ _ => false) (fun _ _ => false) (fun _ _ _ => false) (fun _ _ _ _ => false) (fun _ _ _ _ => false) (fun _ _ _ => false)
theorem onBoolOp_inv {e : Expr} {f : BoolOp -> List Expr -> Pos -> Bool} (h : onBoolOp e f = true) : ∃ op es p, e = .BoolOp op es p /\ f op es p = true := onE_inv h (fun _ _ _ h => ff h) (fun _ _ _ _ h => ff h) (fun _ _ _ _ _ h => ff h) (fun _ _ _ _ h => ff h) (fun op es p e h => ⟨op, es, p, e, h⟩) (fun _ _ _ _ _ h => ff h) (fun _ _ _ _ _ h => ff h) (fun _ _ _ _ h => ff h) (fun _ _ _ _ h => ff h) (fun _ _ _ h => ff h) (fun _ _ _ _ h => ff h) (fun _ _ _ _ _ h => ff h) (fun _ _ _ _ _ h => ff h) (fun _ _ _ _ h => ff h)
noncomputable def onCompare (e : Expr) (f : Expr -> List CmpOp -> List Expr -> Pos -> Bool) : Bool := onE e (fun _ _ => false) (fun _ _ _ => false) (fun _ _ _ _ => false) (fun _ _ _ => false) (fun _ _ _ => false) f (fun _ _ _ _ => false) (fun _ _ _ => false) (fun _ _ _ => false) (fun _ _ => false) (fun _ _ _ => false) (fun _ _ _ _ => false) (fun _ _ _ _ => false) (fun _ _ _ => false)
theorem onCompare_inv {e : Expr} {f : Expr -> List CmpOp -> List Expr -> Pos -> Bool} (h : onCompare e f = true) : ∃ l ops rs p, e = .Compare l ops rs p /\ f l ops rs p = true := onE_inv h (fun _ _ _ h => ff h) (fun _ _ _ _ h => ff h) (fun _ _ _ _ _ h => ff h) (fun _ _ _ _ h => ff h) (fun _ _ _ _ h => ff h) (fun l ops rs p e h => ⟨l, ops, rs, p, e, h⟩) (fun _ _ _ _ _ h => ff h) (fun _ _ _ _ h => ff h) (fun _ _ _ _ h => ff h) (fun _ _ _ h => ff h) (fun _ _ _ _ h => ff h) (fun _ _ _ _ _ h => ff h) (fun _ _ _ _ _ h => ff h) (fun _ _ _ _ h => ff h)
noncomputable def onCall (e : Expr) (f : Expr -> List Expr -> List Keyword -> Pos -> Bool) : Bool := onE e (fun _ _ => false) (fun _ _ _ => false) (fun _ _ _ _ => false) (fun _ _ _ => false) (fun _ _ _ => false) (fun _ _ _ _ => false) f (fun _ _ _ => false) (fun _ _ _ => false) (fun _ _ => false) (fun _ _ _ => false) (fun _ _ _ _ => false) (fun _ _ _ _ => false) (fun _ _ _ => false)
theorem onCall_inv {e : Expr} {f : Expr -> List Expr -> List Keyword -> Pos -> Bool} (h : onCall e f = true) : ∃ fn args kws p, e = .Call fn args kws p /\ f fn args kws p = true := onE_inv h (fun _ _ _ h => ff h) (fun _ _ _ _ h => ff h) (fun _ _ _ _ _ h => ff h) (fun _ _ _ _ h => ff h) (fun _ _ _ _ h => ff h) (fun _ _ _ _ _ h => ff h) (fun fn args kws p e h => ⟨fn, args, kws, p, e, h⟩) (fun _ _ _ _ h => ff h) (fun _ _ _ _ h => ff h) (fun _ _ _ h => ff h) (fun _ _ _ _ h => ff h) (fun _ _ _ _ _ h => ff h) (fun _ _ _ _ _ h => ff h) (fun _ _ _ _ h => ff h)
noncomputable def onAttribute (e : Expr) (f : Expr -> Str -> Pos -> Bool) : Bool := onE e (fun _ _ => false) (fun _ _ _ => false) (fun _ _ _ _ => false) (fun _ _ _ => false) (fun _ _ _ => false) (fun _ _ _ _ => false) (fun _ _ _ _ => false) f (fun _ _ _ => false) (fun _ _ => false) (fun _ _ _ => false) (fun _ _ _ _ => false) (fun _ _ _ _ => false) (fun _ _ _ => false)
theorem onAttribute_inv {e : Expr} {f : Expr -> Str -> Pos -> Bool} (h : onAttribute e f = true) : ∃ o nm p, e = .Attribute o nm p /\ f o nm p = true := onE_inv h (fun _ _ _ h => ff h) (fun _ _ _ _ h => ff h) (fun _ _ _ _ _ h => ff h) (fun _ _ _ _ h => ff h) (fun _ _ _ _ h => ff h) (fun _ _ _ _ _ h => ff h) (fun _ _ _ _ _ h => ff h) (fun o nm p e h => ⟨o, nm, p, e, h⟩) (fun _ _ _ _ h => ff h) (fun _ _ _ h => ff h) (fun _ _ _ _ h => ff h) (fun _ _ _ _ _ h => ff h) (fun _ _ _ _ _ h => ff h) (fun _ _ _ _ h => ff h)
noncomputable def onSubscript (e : Expr) (f : Expr -> Expr -> Pos -> Bool) : Bool := onE e (fun _ _ => false) (fun _ _ _ => false) (fun _ _ _ _ => false) (fun _ _ _ => false) (fun _ _ _ => false) (fun _ _ _ _ => false) (fun _ _ _ _ => false) (fun _ _ _ => false) f (fun _ _ => false) (fun _ _ _ => false) (fun _ _ _ _ => false) (fun _ _ _ _ => false) (fun _ _ _ => false)
theorem onSubscript_inv {e : Expr} {f : Expr -> Expr -> Pos -> Bool} (h : onSubscript e f = true) : ∃ o i p, e = .Subscript o i p /\ f o i p = true := onE_inv h (fun _ _ _ h => ff h) (fun _ _ _ _ h => ff h) (fun _ _ _ _ _ h => ff h) (fun _ _ _ _ h => ff h) (fun _ _ _ _ h => ff h) (fun _ _ _ _ _ h => ff h) (fun _ _ _ _ _ h => ff h) (fun _ _ _ _ h => ff h) (fun o i p e h => ⟨o, i, p, e, h⟩) (fun _ _ _ h => ff h) (fun _ _ _ _ h => ff h) (fun _ _ _ _ _ h => ff h) (fun _ _ _ _ _ h => ff h) (fun _ _ _ _ h => ff h)
noncomputable def onList (e : Expr) (f : List Expr -> Pos -> Bool) : Bool := onE e (fun _ _ => false) (fun _ _ _ => false) (fun _ _ _ _ => false) (fun _ _ _ => false) (fun _ _ _ => false) (fun _ _ _ _ => false) (fun _ _ _ _ => false) (fun _ _ _ => false) (fun _ _ _ => false) f (fun _ _ _ => false) (fun _ _ _ _ => false) (fun _ _ _ _ => false) (fun _ _ _ => false)
theorem onList_inv {e : Expr} {f : List Expr -> Pos -> Bool} (h : onList e f = true) : ∃ es p, e = .List es p /\ f es p = true := onE_inv h (fun _ _ _ h => ff h) (fun _ _ _ _ h => ff h) (fun _ _ _ _ _ h => ff h) (fun _ _ _ _ h => ff h) (fun _ _ _ _ h => ff h) (fun _ _ _ _ _ h => ff h) (fun _ _ _ _ _ h => ff h) (fun _ _ _ _ h => ff h) (fun _ _ _ _ h => ff h) (fun es p e h => ⟨es, p, e, h⟩) (fun _ _ _ _ h => ff h) (fun _ _ _ _ _ h => ff h) (fun _ _ _ _ _ h => ff h) (fun _ _ _ _ h => ff h)
noncomputable def onTuple (e : Expr) (f : List Expr -> Nat -> Pos -> Bool) : Bool := onE e (fun _ _ => false) (fun _ _ _ => false) (fun _ _ _ _ => false) (fun _ _ _ => false) (fun _ _ _ => false) (fun _ _ _ _ => false) (fun _ _ _ _ => false) (fun _ _ _ => false) (fun _ _ _ => false) (fun _ _ => false) f (fun _ _ _ _ => false) (fun _ _ _ _ => false) (fun _ _ _ => false)
theorem onTuple_inv {e : Expr} {f : List Expr -> Nat -> Pos -> Bool} (h : onTuple e f = true) : ∃ es k p, e = .Tuple es k p /\ f es k p = true := onE_inv h (fun _ _ _ h => ff h) (fun _ _ _ _ h => ff h) (fun _ _ _ _ _ h => ff h) (fun _ _ _ _ h => ff h) (fun _ _ _ _ h => ff h) (fun _ _ _ _ _ h => ff h) (fun _ _ _ _ _ h => ff h) (fun _ _ _ _ h => ff h) (fun _ _ _ _ h => ff h) (fun _ _ _ h => ff h) (fun es k p e h => ⟨es, k, p, e, h⟩) (fun _ _ _ _ _ h => ff h) (fun _ _ _ _ _ h => ff h) (fun _ _ _ _ h => ff h)
noncomputable def onListComp (e : Expr) (f : Expr -> List Comprehension -> Scope -> Pos -> Bool) : Bool := onE e (fun _ _ => false) (fun _ _ _ => false) (fun _ _ _ _ => false) (fun _ _ _ => false) (fun _ _ _ => false) (fun _ _ _ _ => false) (fun _ _ _ _ => false) (fun _ _ _ => false) (fun _ _ _ => false) (fun _ _ => false) (fun _ _ _ => false) f (fun _ _ _ _ => false) (fun _ _ _ => false)
theorem onListComp_inv {e : Expr} {f : Expr -> List Comprehension -> Scope -> Pos -> Bool} (h : onListComp e f = true) : ∃ elt gs scope p, e = .ListComp elt gs scope p /\ f elt gs scope p = true := onE_inv h (fun _ _ _ h => ff h) (fun _ _ _ _ h => ff h) (fun _ _ _ _ _ h => ff h) (fun _ _ _ _ h => ff h) (fun _ _ _ _ h => ff h) (fun _ _ _ _ _ h => ff h) (fun _ _ _ _ _ h => ff h) (fun _ _ _ _ h => ff h) (fun _ _ _ _ h => ff h) (fun _ _ _ h => ff h) (fun _ _ _ _ h => ff h) (fun elt gs scope p e h => ⟨elt, gs, scope, p, e, h⟩) (fun _ _ _ _ _ h => ff h) (fun _ _ _ _ h => ff h)
noncomputable def onSlice (e : Expr) (f : Option Expr -> Option Expr -> Option Expr -> Pos -> Bool) : Bool := onE e (fun _ _ => false) (fun _ _ _ => false) (fun _ _ _ _ => false) (fun _ _ _ => false) (fun _ _ _ => false) (fun _ _ _ _ => false) (fun _ _ _ _ => false) (fun _ _ _ => false) (fun _ _ _ => false) (fun _ _ => false) (fun _ _ _ => false) (fun _ _ _ _ => false) f (fun _ _ _ => false)
theorem onSlice_inv {e : Expr} {f : Option Expr -> Option Expr -> Option Expr -> Pos -> Bool} (h : onSlice e f = true) : ∃ l u st p, e = .Slice l u st p /\ f l u st p = true := onE_inv h (fun _ _ _ h => ff h) (fun _ _ _ _ h => ff h) (fun _ _ _ _ _ h => ff h) (fun _ _ _ _ h => ff h) (fun _ _ _ _ h => ff h) (fun _ _ _ _ _ h => ff h) (fun _ _ _ _ _ h => ff h) (fun _ _ _ _ h => ff h) (fun _ _ _ _ h => ff h) (fun _ _ _ h => ff h) (fun _ _ _ _ h => ff h) (fun _ _ _ _ _ h => ff h) (fun l u st p e h => ⟨l, u, st, p, e, h⟩) (fun _ _ _ _ h => ff h)
noncomputable def onDict (e : Expr) (f : List (Option Expr) -> List Expr -> Pos -> Bool) : Bool := onE e (fun _ _ => false) (fun _ _ _ => false) (fun _ _ _ _ => false) (fun _ _ _ => false) (fun _ _ _ => false) (fun _ _ _ _ => false) (fun _ _ _ _ => false) (fun _ _ _ => false) (fun _ _ _ => false) (fun _ _ => false) (fun _ _ _ => false) (fun _ _ _ _ => false) (fun _ _ _ _ => false) f
theorem onDict_inv {e : Expr} {f : List (Option Expr) -> List Expr -> Pos -> Bool} (h : onDict e f = true) : ∃ ks vs p, e = .Dict ks vs p /\ f ks vs p = true := onE_inv h (fun _ _ _ h => ff h) (fun _ _ _ _ h => ff h) (fun _ _ _ _ _ h => ff h) (fun _ _ _ _ h => ff h) (fun _ _ _ _ h => ff h) (fun _ _ _ _ _ h => ff h) (fun _ _ _ _ _ h => ff h) (fun _ _ _ _ h => ff h) (fun _ _ _ _ h => ff h) (fun _ _ _ h => ff h) (fun _ _ _ _ h => ff h) (fun _ _ _ _ _ h => ff h) (fun _ _ _ _ _ h => ff h) (fun ks vs p e h => ⟨ks, vs, p, e, h⟩)
noncomputable def gName (kn : String -> Bool) (sc : Scope) (f : String) (e : Expr) : Bool := onName e fun id _ => id == Str.ofString f && isGlob sc id && !(id == ("__debug__" : Str)) && kn f
noncomputable def isName (e : Expr) : Bool := onName e fun _ _ => true
theorem isName_inv {e : Expr} (h : isName e = true) : ∃ id p, e = .Name id p := let ⟨id, p, e, _⟩ := onName_inv h; ⟨id, p, e⟩
noncomputable def one {α : Type} (l : List α) (f : α -> Bool) : Bool := match l with
  | [] => false
  | a :: r => r.isEmpty && f a
noncomputable def two {α : Type} (l : List α) (f g : α -> Bool) : Bool := match l with
  | [] => false
  | a :: r => f a && one r g
theorem one_inv {α : Type} {l : List α} {f : α -> Bool} (h : one l f = true) : ∃ a, l = [a] /\ f a = true := by
  cases l with
  | nil => cases h
  | cons a r =>
    have h : (r.isEmpty && f a) = true := h
    rw [Bool.and_eq_true, List.isEmpty_iff] at h
    exact ⟨a, by rw [h.1], h.2⟩
theorem two_inv {α : Type} {l : List α} {f g : α -> Bool} (h : two l f g = true) : ∃ a b, l = [a, b] /\ f a = true /\ g b = true := by
  cases l with
  | nil => cases h
  | cons a r =>
    have h : (f a && one r g) = true := h
    rw [Bool.and_eq_true] at h
    obtain ⟨b, rfl, h2⟩ := one_inv h.2
    exact ⟨a, b, rfl, h.1, h2⟩
theorem and_inv {a b : Bool} (h : (a && b) = true) : a = true /\ b = true := by rwa [Bool.and_eq_true] at h
noncomputable def genName (x : Str) (g : Comprehension) : Bool := onName g.target (fun id _ => id == x) && (noSet g.iter && g.is_async == 0)
theorem genName_inv {x : Str} {t iter : Expr} {ifs : List Expr} {as : Int} (h : genName x ⟨t, iter, ifs, as⟩ = true) : ∃ p, t = .Name x p /\ noSet iter = true /\ as = 0 := by
  obtain ⟨h1, h2⟩ := and_inv h
  obtain ⟨h2, h3⟩ := and_inv h2
  obtain ⟨id, p, e, h5⟩ := onName_inv h1
  have e1 := beq_iff_eq.mp h5
  subst e1
  exact ⟨p, e, h2, beq_iff_eq.mp h3⟩
noncomputable def isNone : E -> Bool
  | .none => true
  | _ => false
theorem isNone_inv {c : E} (h : isNone c = true) : c = .none := by
  cases c <;> first | rfl | cases h
noncomputable def part (l : Option Expr) (c : E) (f : Expr -> Bool) : Bool := match l with
  | some e => f e
  | Option.none => isNone c
noncomputable def baseOk (e : Expr) : Bool := !onCall e fun _ _ _ _ => true
theorem base_of {o : Expr} {nm : Str} {env : Env} {w : Sem Value} (h : baseOk o = true) : attributeBase o nm env w = w := by
  cases o <;> first | rfl | cases h
noncomputable def isCmp : E -> Bool
  | .cmp .. => true
  | _ => false
mutual
noncomputable def isE (kn : String -> Bool) (sc : Scope) : E -> Expr -> Bool
  | .var x, e => onName e fun id _ => vName sc x id
  | .glob x, e => gName kn sc x e
  | .none, e => onConstant e fun c _ _ => c == .none
  | .bool b, e => onConstant e fun c _ _ => c == .bool b
  | .int i, e => onConstant e fun c _ _ => c == .int i
  | .str s, e => onConstant e fun c _ _ => c == .str (Str.ofString s) && PyData.strOk (Str.ofString s)
  | .bin op l r, e => onBinOp e fun l' op' r' _ => op' == opOf op && (isE kn sc l l' && isE kn sc r r')
  | .neg a, e => onUnaryOp e fun op a' _ => op == .USub && isE kn sc a a'
  | .not a, e => onUnaryOp e fun op a' _ => op == .Not && isE kn sc a a'
  | .and es, e => onBoolOp e fun op es' _ => op == .And && isEs kn sc es es'
  | .or es, e => onBoolOp e fun op es' _ => op == .Or && isEs kn sc es es'
  | .cmp l op r, e => onCompare e fun l' ops rs _ => ops == [cmOf op] && (isE kn sc l l' && one rs (isE kn sc r))
  | .cmp2 l o1 m o2 r, e => onCompare e fun l' ops rs _ => ops == [cmOf o1, cmOf o2] && (isE kn sc l l' && two rs (isE kn sc m) (isE kn sc r))
  | .call f args, e => onCall e fun fn args' kws _ => kws.isEmpty && (gName kn sc f fn && isEs kn sc args args')
  | .isinst a T, e => onCall e fun fn args' kws _ => kws.isEmpty && (gName kn sc "isinstance" fn && two args' (isE kn sc a) (gName kn sc T))
  | .meth o m args, e => onCall e fun fn args' kws p => kws.isEmpty && (onAttribute fn (fun o' nm ap => nm == Str.ofString m && (isE kn sc o o' && (baseOk o' && ap.endLine == p.line))) && (isEs kn sc args args' && (decide (args'.length < 30) && mName m)))
  | .attr o a, e => onAttribute e fun o' nm _ => isName o' && (nm == Str.ofString a && (isE kn sc o o' && attrName a))
  | .idx o i, e => onSubscript e fun o' i' _ => isE kn sc o o' && isE kn sc i i'
  | .slice o lo hi, e => onSubscript e fun o' i' _ => isE kn sc o o' && onSlice i' fun l u st _ => st.isNone && (part l lo (isE kn sc lo) && part u hi (isE kn sc hi))
  | .list es, e => onList e fun es' _ => isEs kn sc es es' && decide (es.length < 100)
  | .tup es, e => onTuple e fun es' _ _ => isEs kn sc es es' && decide (es.length < 100)
  | .menu es i, e => onSubscript e fun o' i' _ => onList o' (fun es' _ => isEs kn sc es es' && decide (es.length < 100)) && isE kn sc i i'
  | .dict0, e => onDict e fun ks vs _ => ks.isEmpty && vs.isEmpty
  | .tab0, e => onDict e fun ks vs _ => ks.isEmpty && vs.isEmpty
  | .dictOf a, e => onCall e fun fn args' kws _ => kws.isEmpty && (gName kn sc "dict" fn && one args' (isE kn sc a))
  | .sset a, e => onCall e fun fn args' kws _ => kws.isEmpty && (gName kn sc "sorted" fn && one args' fun e2 => onCall e2 fun fn2 args2 kws2 _ => kws2.isEmpty && (gName kn sc "set" fn2 && one args2 (isE kn sc a)))
  | .comp elt x it cond, e => onListComp e fun elt' gs scope _ => one gs (fun g => genName (Str.ofString x) g && (isE kn sc it g.iter && isC kn (relabelS scope sc) cond g.ifs)) && (compOk sc scope (Str.ofString x) && isE kn (relabelS scope sc) elt elt')
noncomputable def isC (kn : String -> Bool) (sc : Scope) : Option E -> List Expr -> Bool
  | Option.none, es => es.isEmpty
  | some c, es => isCmp c && one es (isE kn sc c)
noncomputable def isEs (kn : String -> Bool) (sc : Scope) : List E -> List Expr -> Bool
  | [], es => match es with | [] => true | _ => false
  | c :: cs, es => match es with | e :: es => isE kn sc c e && isEs kn sc cs es | [] => false
end
section
variable {kn : String -> Bool} {sc : Scope} {e : Expr}
theorem isE_var {x : String} (h : isE kn sc (.var x) e = true) : ∃ id p, e = .Name id p /\ vName sc x id = true := onName_inv h
theorem isE_none (h : isE kn sc .none e = true) : ∃ k p, e = .Constant .none k p :=
  let ⟨_, k, p, e1, e2⟩ := onConstant_inv h; ⟨k, p, beq_iff_eq.mp e2 ▸ e1⟩
theorem isE_bool {b : Bool} (h : isE kn sc (.bool b) e = true) : ∃ k p, e = .Constant (.bool b) k p :=
  let ⟨_, k, p, e1, e2⟩ := onConstant_inv h; ⟨k, p, beq_iff_eq.mp e2 ▸ e1⟩
theorem isE_int {i : Int} (h : isE kn sc (.int i) e = true) : ∃ k p, e = .Constant (.int i) k p :=
  let ⟨_, k, p, e1, e2⟩ := onConstant_inv h; ⟨k, p, beq_iff_eq.mp e2 ▸ e1⟩
theorem isE_str {x : String} (h : isE kn sc (.str x) e = true) : ∃ k p, e = .Constant (.str (Str.ofString x)) k p /\ PyData.strOk (Str.ofString x) = true :=
  let ⟨_, k, p, e1, e2⟩ := onConstant_inv h; ⟨k, p, beq_iff_eq.mp (and_inv e2).1 ▸ e1, (and_inv e2).2⟩
theorem isE_bin {op : Op} {l r : E} (h : isE kn sc (.bin op l r) e = true) : ∃ l' r' p, e = .BinOp l' (opOf op) r' p /\ isE kn sc l l' = true /\ isE kn sc r r' = true :=
  let ⟨l', _, r', p, e1, e2⟩ := onBinOp_inv h; ⟨l', r', p, beq_iff_eq.mp (and_inv e2).1 ▸ e1, and_inv (and_inv e2).2⟩
theorem isE_neg {a : E} (h : isE kn sc (.neg a) e = true) : ∃ a' p, e = .UnaryOp .USub a' p /\ isE kn sc a a' = true :=
  let ⟨_, a', p, e1, e2⟩ := onUnaryOp_inv h; ⟨a', p, beq_iff_eq.mp (and_inv e2).1 ▸ e1, (and_inv e2).2⟩
theorem isE_not {a : E} (h : isE kn sc (.not a) e = true) : ∃ a' p, e = .UnaryOp .Not a' p /\ isE kn sc a a' = true :=
  let ⟨_, a', p, e1, e2⟩ := onUnaryOp_inv h; ⟨a', p, beq_iff_eq.mp (and_inv e2).1 ▸ e1, (and_inv e2).2⟩
theorem isE_and {es : List E} (h : isE kn sc (.and es) e = true) : ∃ es' p, e = .BoolOp .And es' p /\ isEs kn sc es es' = true :=
  let ⟨_, a', p, e1, e2⟩ := onBoolOp_inv h; ⟨a', p, beq_iff_eq.mp (and_inv e2).1 ▸ e1, (and_inv e2).2⟩
theorem isE_or {es : List E} (h : isE kn sc (.or es) e = true) : ∃ es' p, e = .BoolOp .Or es' p /\ isEs kn sc es es' = true :=
  let ⟨_, a', p, e1, e2⟩ := onBoolOp_inv h; ⟨a', p, beq_iff_eq.mp (and_inv e2).1 ▸ e1, (and_inv e2).2⟩
theorem isE_cmp {l r : E} {op : Cm} (h : isE kn sc (.cmp l op r) e = true) : ∃ l' r' p, e = .Compare l' [cmOf op] [r'] p /\ isE kn sc l l' = true /\ isE kn sc r r' = true := by
  obtain ⟨l', ops, rs, p, rfl, e2⟩ := onCompare_inv h
  obtain ⟨r', rfl, h3⟩ := one_inv (and_inv (and_inv e2).2).2
  exact ⟨l', r', p, by rw [beq_iff_eq.mp (and_inv e2).1], (and_inv (and_inv e2).2).1, h3⟩
theorem isE_cmp2 {l m r : E} {o1 o2 : Cm} (h : isE kn sc (.cmp2 l o1 m o2 r) e = true) : ∃ l' m' r' p, e = .Compare l' [cmOf o1, cmOf o2] [m', r'] p /\ isE kn sc l l' = true /\ isE kn sc m m' = true /\ isE kn sc r r' = true := by
  obtain ⟨l', ops, rs, p, rfl, e2⟩ := onCompare_inv h
  obtain ⟨m', r', rfl, h3, h4⟩ := two_inv (and_inv (and_inv e2).2).2
  exact ⟨l', m', r', p, by rw [beq_iff_eq.mp (and_inv e2).1], (and_inv (and_inv e2).2).1, h3, h4⟩
theorem isE_call {f : String} {args : List E} (h : isE kn sc (.call f args) e = true) : ∃ fn args' p, e = .Call fn args' [] p /\ gName kn sc f fn = true /\ isEs kn sc args args' = true := by
  obtain ⟨fn, args', kws, p, rfl, e2⟩ := onCall_inv h
  exact ⟨fn, args', p, by rw [List.isEmpty_iff.mp (and_inv e2).1], and_inv (and_inv e2).2⟩
theorem isE_isinst {a : E} {T : String} (h : isE kn sc (.isinst a T) e = true) : ∃ fn a' t' p, e = .Call fn [a', t'] [] p /\ gName kn sc "isinstance" fn = true /\ isE kn sc a a' = true /\ gName kn sc T t' = true := by
  obtain ⟨fn, args', kws, p, rfl, e2⟩ := onCall_inv h
  obtain ⟨a', t', rfl, h3, h4⟩ := two_inv (and_inv (and_inv e2).2).2
  exact ⟨fn, a', t', p, by rw [List.isEmpty_iff.mp (and_inv e2).1], (and_inv (and_inv e2).2).1, h3, h4⟩
theorem isE_meth {o : E} {m : String} {args : List E} (h : isE kn sc (.meth o m args) e = true) : ∃ o' ap args' p, e = .Call (.Attribute o' (Str.ofString m) ap) args' [] p /\ isE kn sc o o' = true /\ baseOk o' = true /\ (ap.endLine == p.line) = true /\ isEs kn sc args args' = true /\ args'.length < 30 /\ mName m = true := by
  obtain ⟨fn, args', kws, p, rfl, e2⟩ := onCall_inv h
  obtain ⟨h1, e2⟩ := and_inv e2
  obtain ⟨h2, e2⟩ := and_inv e2
  obtain ⟨h3, e2⟩ := and_inv e2
  obtain ⟨h4, h5⟩ := and_inv e2
  obtain ⟨o', nm, ap, rfl, e3⟩ := onAttribute_inv h2
  obtain ⟨h6, e3⟩ := and_inv e3
  obtain ⟨h7, e3⟩ := and_inv e3
  exact ⟨o', ap, args', p, by rw [List.isEmpty_iff.mp h1, beq_iff_eq.mp h6], h7, (and_inv e3).1, (and_inv e3).2, h3, of_decide_eq_true h4, h5⟩
theorem isE_attr {o : E} {a : String} (h : isE kn sc (.attr o a) e = true) : ∃ o' p, e = .Attribute o' (Str.ofString a) p /\ isName o' = true /\ isE kn sc o o' = true /\ attrName a = true := by
  obtain ⟨o', nm, p, rfl, e2⟩ := onAttribute_inv h
  obtain ⟨h1, e2⟩ := and_inv e2
  obtain ⟨h2, e2⟩ := and_inv e2
  exact ⟨o', p, by rw [beq_iff_eq.mp h2], h1, and_inv e2⟩
theorem isE_idx {o i : E} (h : isE kn sc (.idx o i) e = true) : ∃ o' i' p, e = .Subscript o' i' p /\ isE kn sc o o' = true /\ isE kn sc i i' = true :=
  let ⟨o', i', p, e1, e2⟩ := onSubscript_inv h; ⟨o', i', p, e1, and_inv e2⟩
theorem isE_slice {o lo hi : E} (h : isE kn sc (.slice o lo hi) e = true) : ∃ o' l u q p, e = .Subscript o' (.Slice l u Option.none q) p /\ isE kn sc o o' = true /\ part l lo (isE kn sc lo) = true /\ part u hi (isE kn sc hi) = true := by
  obtain ⟨o', i', p, rfl, e2⟩ := onSubscript_inv h
  obtain ⟨h2, e2⟩ := and_inv e2
  obtain ⟨l, u, st, q, rfl, e3⟩ := onSlice_inv e2
  obtain ⟨h3, e3⟩ := and_inv e3
  exact ⟨o', l, u, q, p, by rw [Option.isNone_iff_eq_none.mp h3], h2, and_inv e3⟩
theorem isE_list {es : List E} (h : isE kn sc (.list es) e = true) : ∃ es' p, e = .List es' p /\ isEs kn sc es es' = true /\ es.length < 100 :=
  let ⟨es', p, e1, e2⟩ := onList_inv h; ⟨es', p, e1, (and_inv e2).1, of_decide_eq_true (and_inv e2).2⟩
theorem isE_tup {es : List E} (h : isE kn sc (.tup es) e = true) : ∃ es' k p, e = .Tuple es' k p /\ isEs kn sc es es' = true /\ es.length < 100 :=
  let ⟨es', k, p, e1, e2⟩ := onTuple_inv h; ⟨es', k, p, e1, (and_inv e2).1, of_decide_eq_true (and_inv e2).2⟩
theorem isE_menu {es : List E} {i : E} (h : isE kn sc (.menu es i) e = true) : ∃ es' q i' p, e = .Subscript (.List es' q) i' p /\ isEs kn sc es es' = true /\ es.length < 100 /\ isE kn sc i i' = true := by
  obtain ⟨o', i', p, rfl, e2⟩ := onSubscript_inv h
  obtain ⟨es', q, rfl, e3⟩ := onList_inv (and_inv e2).1
  exact ⟨es', q, i', p, rfl, (and_inv e3).1, of_decide_eq_true (and_inv e3).2, (and_inv e2).2⟩
theorem isE_dict0 (h : isE kn sc .dict0 e = true) : ∃ p, e = .Dict [] [] p := by
  obtain ⟨ks, vs, p, rfl, e2⟩ := onDict_inv h
  exact ⟨p, by rw [List.isEmpty_iff.mp (and_inv e2).1, List.isEmpty_iff.mp (and_inv e2).2]⟩
theorem isE_tab0 (h : isE kn sc .tab0 e = true) : ∃ p, e = .Dict [] [] p := by
  obtain ⟨ks, vs, p, rfl, e2⟩ := onDict_inv h
  exact ⟨p, by rw [List.isEmpty_iff.mp (and_inv e2).1, List.isEmpty_iff.mp (and_inv e2).2]⟩
theorem isE_dictOf {a : E} (h : isE kn sc (.dictOf a) e = true) : ∃ fn a' p, e = .Call fn [a'] [] p /\ gName kn sc "dict" fn = true /\ isE kn sc a a' = true := by
  obtain ⟨fn, args, kws, p, rfl, g1⟩ := onCall_inv h
  obtain ⟨h0, g2⟩ := and_inv g1
  obtain ⟨h1, g3⟩ := and_inv g2
  obtain ⟨a', rfl, h2⟩ := one_inv g3
  rw [List.isEmpty_iff.mp h0]
  exact ⟨fn, a', p, rfl, h1, h2⟩
theorem isE_sset {a : E} (h : isE kn sc (.sset a) e = true) : ∃ fn fn2 a' p2 p, e = .Call fn [.Call fn2 [a'] [] p2] [] p /\ gName kn sc "sorted" fn = true /\ gName kn sc "set" fn2 = true /\ isE kn sc a a' = true := by
  obtain ⟨fn, args', kws, p, rfl, e2⟩ := onCall_inv h
  obtain ⟨h1, e2⟩ := and_inv e2
  obtain ⟨h2, e2⟩ := and_inv e2
  obtain ⟨c, rfl, h3⟩ := one_inv e2
  obtain ⟨fn2, args2, kws2, p2, rfl, e3⟩ := onCall_inv h3
  obtain ⟨h4, e3⟩ := and_inv e3
  obtain ⟨h5, e3⟩ := and_inv e3
  obtain ⟨a', rfl, h6⟩ := one_inv e3
  exact ⟨fn, fn2, a', p2, p, by rw [List.isEmpty_iff.mp h1, List.isEmpty_iff.mp h4], h2, h5, h6⟩
theorem isE_comp {el it : E} {x : String} {cond : Option E} (h : isE kn sc (.comp el x it cond) e = true) : ∃ elt px iter ifs scope p, e = .ListComp elt [⟨.Name (Str.ofString x) px, iter, ifs, 0⟩] scope p /\ isE kn sc it iter = true /\ noSet iter = true /\ compOk sc scope (Str.ofString x) = true /\ isE kn (relabelS scope sc) el elt = true /\ isC kn (relabelS scope sc) cond ifs = true := by
  obtain ⟨elt, gs, scope, p, rfl, e2⟩ := onListComp_inv h
  obtain ⟨h1, e3⟩ := and_inv e2
  obtain ⟨g, rfl, h4⟩ := one_inv h1
  obtain ⟨h4, h5⟩ := and_inv h4
  obtain ⟨t, iter, ifs, as⟩ := g
  obtain ⟨px, rfl, h6, rfl⟩ := genName_inv h4
  exact ⟨elt, px, iter, ifs, scope, p, rfl, (and_inv h5).1, h6, (and_inv e3).1, (and_inv e3).2, (and_inv h5).2⟩
end
theorem isE_plain {kn : String -> Bool} {sc : Scope} {c : E} {e : Expr} (h : isE kn sc c e = true) : plainE e = true := by
  cases e with
  | Starred => cases c <;> exact ff h
  | Set => cases c <;> exact ff h
  | Slice => cases c <;> exact ff h
  | _ => rfl
theorem star_plain {e : Expr} {rest : List Expr} {env : Env} (h : plainE e = true) : starEach (e :: rest) env = (false, eval e env) :: starEach rest env := by
  cases e <;> first | rfl | cases h
theorem marks_plain {op : CmpOp} {e : Expr} (h : plainE e = true) : behindInMarks op e = false := by
  cases e <;> first | rfl | cases h
theorem subscripted_plain {e : Expr} (h : plainE e = true) (a b : Value) : subscripted e false a b = operate [a, b] (getItem a b) := by
  cases e <;> first | rfl | cases h
inductive RetAt (X : Cx) (st : List Env) (η : List Addr) (s : Shared) (r : R V) (mv : Value) (s' : Shared) : Prop
  | mk (v : V) (H' : Hp) (e : r = .ok v H') (p : Post X (frs st) [] η s H' (fun η' h' => VR X η' h' v mv) s') : RetAt X st η s r mv s'
noncomputable def CallOK (X : Cx) (n : Nat) (f : String) (ws : List V) (H : Hp) (r : R V) : Prop :=
  ∃ fv, X.mg (Str.ofString f) = some fv /\ ∀ (A : Around) (st : List Env) (η : List Addr) (s : Shared) (ms : List Value), Room n A -> A.handled = Option.none -> Inv X η H s.heap -> Stk X η A st s.heap ->
    ws.length = ms.length -> (∀ p ∈ ws.zip ms, VR X η s.heap p.1 p.2) ->
    codeAny X.M A (.call fv ⟨ms, []⟩) (fun res s' => match res with
      | .ok (.ret mv) => RetAt X st η s r mv s'
      | .ok _ => False
      | .error ev => RaiseAt X st η s r ev s') s
structure SoundFn (X : Cx) (n : Nat) (Γ : Fn) : Prop where
  const : ∀ x v, Γ.const x = some v -> ∃ mv, Loads X.mg X.mb x mv /\ ∀ η h, VR X η h v mv
  call : ∀ f ws H, Γ.call f ws H ≠ .stuck -> CallOK X n f ws H (Γ.call f ws H)
theorem R.bind_assoc {α β γ : Type} (x : R α) (f : α -> Hp -> R β) (g : β -> Hp -> R γ) : (x.bind f).bind g = x.bind fun a H => (f a H).bind g := by cases x <;> rfl
theorem R.bind_ok_self {α : Type} (x : R α) : (x.bind fun a H => .ok a H) = x := by cases x <;> rfl
theorem truthR_bind {α : Type} (x : R α) (f : α -> Hp -> R V) : truthR (x.bind f) = x.bind fun a H => truthR (f a H) := R.bind_assoc _ _ _
section
variable {κ : Ct} {ρ : Rho} {vs : List (V × Value)} {H : Hp}
theorem Tri.callF (hh : κ.Γ.hd = false) {f : String} {fv : Value} {ws : List V} {ms : List Value} {r : R V} (C : CallOK κ.X κ.n f ws H r) (hf : κ.X.mg (Str.ofString f) = some fv) (hl : ws.length = ms.length) (hw : ∀ p ∈ ws.zip ms, p ∈ vs) :
    Tri κ ρ vs (PySem.call fv ms) H r rV := by
  intro hs η s a hv
  obtain ⟨fv', e, C⟩ := C
  rw [hf] at e; cases e
  refine wpAny_call (codeAny_mono (C κ.A κ.st η s ms a.room (a.hand hh) a.inv a.stk hl fun p hp => hv p (hw p hp)) fun res s' q => ?_)
  cases res with
  | error ev => exact q
  | ok fl =>
    cases fl with
    | ret mv =>
      obtain ⟨v, H', e, η', h', tk, q1, q2, q3, q4⟩ := q
      exact ⟨v, H', e, trivial, η', h', tk, q1, q2, q3, fun p hp => rV1 hp q4⟩
    | _ => exact q
end
theorem isEs_cons {kn : String -> Bool} {sc : Scope} {c : E} {cs : List E} {e : Expr} {es : List Expr} : isEs kn sc (c :: cs) (e :: es) = (isE kn sc c e && isEs kn sc cs es) := rfl
theorem isEs_nil {kn : String -> Bool} {sc : Scope} {c : E} {cs : List E} : isEs kn sc (c :: cs) [] = false := rfl
theorem gName_inv {kn : String -> Bool} {sc : Scope} {f : String} {e : Expr} (h : gName kn sc f e = true) : ∃ pos, e = .Name (Str.ofString f) pos /\ isGlob sc (Str.ofString f) = true /\ (Str.ofString f == ("__debug__" : Str)) = false /\ kn f = true := by
  obtain ⟨id, p, rfl, h0⟩ := onName_inv h
  simp only [Bool.and_eq_true, beq_iff_eq, Bool.not_eq_true'] at h0
  obtain ⟨⟨⟨rfl, h1⟩, h2⟩, h3⟩ := h0
  exact ⟨_, rfl, h1, h2, h3⟩
section
variable {κ : Ct} {Γ : Fn}
theorem any_plain {kn : String -> Bool} {env : Env} {pos : Pos} : ∀ {cs : List E} {es : List Expr}, isEs kn env.scope cs es = true -> (backTo pos (starEach es env)).any (·.1) = false
  | [], [], _ => rfl
  | [], _ :: _, h => by cases h
  | _ :: _, [], h => by rw [isEs_nil] at h; cases h
  | c :: cs, e :: es, h => by
    rw [isEs_cons, Bool.and_eq_true] at h
    rw [star_plain (isE_plain h.1), backTo_cons, List.any_cons, any_plain h.2]; rfl
theorem builtin_name {f : String} {ws : List V} {H : Hp} (h : builtin f ws H ≠ .stuck) : ∃ v, biVal f = some v := by
  unfold builtin at h
  by_cases h0 : f = "len"
  · subst h0; exact ⟨_, rfl⟩
  by_cases h1 : f = "min"
  · subst h1; exact ⟨_, rfl⟩
  by_cases h2 : f = "max"
  · subst h2; exact ⟨_, rfl⟩
  by_cases h3 : f = "abs"
  · subst h3; exact ⟨_, rfl⟩
  by_cases h4 : f = "range"
  · subst h4; exact ⟨_, rfl⟩
  by_cases h5 : f = "list"
  · subst h5; exact ⟨_, rfl⟩
  by_cases h6 : f = "tuple"
  · subst h6; exact ⟨_, rfl⟩
  by_cases h7 : f = "sorted"
  · subst h7; exact ⟨_, rfl⟩
  rw [if_neg h0, if_neg h1, if_neg h2, if_neg h3, if_neg h4, if_neg h5, if_neg h6, if_neg h7] at h
  exact absurd rfl h
theorem evEs_length {ρ : Rho} : ∀ {cs : List E} {H H1 : Hp} {ws : List V}, evEs Γ ρ cs H = .ok ws H1 -> ws.length = cs.length
  | [], H, H1, ws, e => by rw [evEs_nil] at e; cases e; rfl
  | c :: cs, H, H1, ws, e => by
    rw [evEs_cons] at e
    cases h1 : evE Γ ρ c H with
    | ok v H2 =>
      rw [h1, R.bind_ok] at e
      cases h2 : evEs Γ ρ cs H2 with
      | ok vs H3 =>
        rw [h2] at e
        cases e
        rw [List.length_cons, List.length_cons, evEs_length h2]
      | stuck => rw [h2] at e; cases e
      | raise => rw [h2] at e; cases e
    | stuck => rw [h1] at e; cases e
    | raise => rw [h1] at e; cases e
theorem isinst_tail {ρ : Rho} {vs : List (V × Value)} {H : Hp} {T : String} {pt : Pos} {tv : Value} {r : R V} {a' : Expr} (hgt : isGlob κ.env.scope (Str.ofString T) = true)
    (hdt : (Str.ofString T == ("__debug__" : Str)) = false) (hlt : Loads κ.X.mg κ.X.mb T tv) (hkt : κ.X.kn T = true) (pos : Pos) (ih : Tri κ ρ vs (eval a' κ.env) H r rV) :
    Tri κ ρ vs (PySem.callWith pos (.builtin "isinstance") [] (backTo pos ((false, eval a' κ.env) :: starEach [.Name (Str.ofString T) pt] κ.env)) []) H
      (r.bind fun v H1 => ofO H1 ((isinst v T H1).map .bool)) rV := by
  refine Tri.via (fun Q E s q => PySem.Calls.callWith_builtin rfl (PySem.Calls.evalArgs_plain (PySem.Calls.spliced_cons q))) ih fun v H1 m _ _ hs η s Q E a1 hv hq he => ?_
  refine PySem.Calls.spliced_cons (wpAny_glob a1 rfl hgt hdt hlt (PySem.Calls.spliced_nil ?_))
  cases hi : isinst v T H1 with
  | none => rw [hi] at hs; exact absurd rfl hs
  | some b =>
    rw [hi] at hq
    have key : Tri κ ρ (vs ++ (rV v m).2) (PySem.call (.builtin "isinstance") [m, tv]) H1 (.ok (.bool b) H1) rV := by
      have : tv = .type T := hlt.det (.inr (κ.X.bi T _ (isinst_T hi) hkt))
      subst this
      exact isinst_ok m0 hi
    exact wpAny_mono (key (fun q => nomatch q) η s a1 hv) hq fun _ _ q => q.no rfl
theorem Tri.truthy' {ρ : Rho} {vs : List (V × Value)} {H : Hp} {r : R V} {m : Sem Value} (h : Tri κ ρ vs m H r rV) :
    Tri κ ρ vs (m >>= fun c => PySem.holding [c] (PySem.truthy c)) H (truthR r) rB :=
  Tri.bind h fun v H1 mv _ _ => Tri.holding (Tri.truthy m0)
theorem kind_of {v : V} {mv : Value} {H : Hp} {η : List Addr} {s : Shared} {T : String} (hT : T = "list" \/ T = "dict") (i : Inv κ.X η H s.heap) (r : VR κ.X η s.heap v mv) (e : kindV v H = some T) : s.TypeIs mv T /\ ∀ a, mv = .ref a -> ∃ ob, s.heap.get? a = some ob /\ ob.dict = Option.none := by
  have key : (match listAt v H with | some _ => some "list" | Option.none => (match tabAt v H with | some _ => some "dict" | Option.none => Option.none)) = some T -> s.TypeIs mv T /\ ∀ a, mv = .ref a -> ∃ ob, s.heap.get? a = some ob /\ ob.dict = Option.none := fun e => by
    cases hx : listAt v H with
    | none =>
      rw [hx] at e
      dsimp only at e
      cases hy : tabAt v H with
      | none => rw [hy] at e; cases e
      | some p =>
        rw [hy] at e
        cases e
        obtain ⟨n, rfl, hn⟩ := tabAt_inv hy
        cases r with
        | ref e1 =>
          obtain ⟨ys, ⟨o, _, g, hc, _⟩, _⟩ := zr_of_H i e1 hn
          exact ⟨⟨_, g, hc.1⟩, fun a q => by cases q; exact ⟨_, g, hc.2.1⟩⟩
    | some xs =>
      rw [hx] at e
      cases e
      obtain ⟨a, items, c, rfl, g, r, l⟩ := vr_list i r hx
      exact ⟨⟨_, g, rfl⟩, fun a q => by cases q; exact ⟨_, g, rfl⟩⟩
  exact key e
theorem methId_of {m : String} (hm : mName m = true) : Slot (mType m) (Str.ofString m) (methId m) /\ typeOf (.builtin (methId m)) = pure (.type "method_descriptor") /\ PlainAttrs (mType m) /\ (mType m = "list" \/ mType m = "dict") := by
  unfold mName at hm
  simp only [Bool.or_eq_true, beq_iff_eq] at hm
  rcases hm with (rfl | rfl) | rfl
  · exact ⟨F.slot_list_append, F.type_list_append, F.plainAttrs_list, .inl rfl⟩
  · exact ⟨F.slot_dict_update, F.type_dict_update, F.plainAttrs_dict, .inr rfl⟩
  · exact ⟨F.slot_dict_clear, F.type_dict_clear, F.plainAttrs_dict, .inr rfl⟩
theorem meth_tail {ρ : Rho} {H : Hp} {o' : Expr} {m : String} {ap p : Pos} {args' : List Expr} {r1 : R V} {f : Hp -> R (List V)} (hn : baseOk o' = true) (hline : (ap.endLine == p.line) = true) (hp : (backTo p (starEach args' κ.env)).any (·.1) = false) (hlen : args'.length < 30)
    (hm : mName m = true) (h1 : Tri κ ρ [] (eval o' κ.env) H r1 rV) (h2 : ∀ H1, Tri κ ρ [] (spliced (backTo p (starEach args' κ.env))) H1 (f H1) rL) :
    Tri κ ρ [] (eval (.Call (.Attribute o' (Str.ofString m) ap) args' [] p) κ.env) H (r1.bind fun v H1 => if kindV v H1 = some (mType m) then (f H1).bind fun vs H2 => meth v m vs H2 else .stuck) rV := by
  have hall : (backTo p (starEach args' κ.env)).all (fun x => !x.1) = true := by
    rw [List.all_eq_true]
    intro y hy
    have := List.any_eq_false.mp hp y hy
    simpa using this
  obtain ⟨q1, q2, q3, q4⟩ := methId_of hm
  refine Tri.via (fun Q E s q => wpAny_Call_method (base_of hn) (by rw [hall, show backToKw p (keywordEach [] κ.env) = [] from rfl]; simpa using hlen) hline q3 q1 q2 q) h1 fun v H1 mo _ _ hs η s Q E a1 hv hq he => ?_
  by_cases hkv : kindV v H1 = some (mType m)
  · rw [if_pos hkv] at hs hq he
    obtain ⟨k1, k2⟩ := kind_of q4 a1.inv (hv _ m0) hkv
    exact ⟨k1, k2, wpAny_mono ((Tri.callWith (keepable_builtin κ.X _) hp (h2 H1).any fun ws H2 ms _ hl => meth_ok hm (m1 m0) hl fun q hq => List.mem_append.mpr (.inr hq)) hs η s a1 hv) hq he⟩
  · rw [if_neg hkv] at hs; exact absurd rfl hs
mutual
theorem evE_ok : ∀ (c : E) (e : Expr) (κ : Ct) (ρ : Rho) (H : Hp), SoundFn κ.X κ.n κ.Γ -> isE κ.X.kn κ.env.scope c e = true -> Tri κ ρ [] (eval e κ.env) H (evE κ.Γ ρ c H) rV
  | .var x, e, κ, ρ, H, S, h => by
    obtain ⟨id, p, rfl, hv⟩ := isE_var h
    unfold vName at hv
    simp only [Bool.and_eq_true, beq_iff_eq, Bool.not_eq_true'] at hv
    rw [evE_var]
    exact Tri.name hv.1.1.1 hv.1.1.2 hv.1.2 hv.2
  | .glob x, e, κ, ρ, H, S, h => by
    obtain ⟨pos, rfl, hg, hd1, hk⟩ := gName_inv h
    rw [evE_glob]
    cases ec : κ.Γ.const x with
    | none => exact Tri.stuck
    | some v =>
      obtain ⟨mv, hl, hr⟩ := S.const x v ec
      refine Tri.reads fun η s Q E at' hv hq => wpAny_glob at' rfl hg hd1 hl (hq mv s.heap s.toks (fun _ _ e => e) trivial fun p hp => ?_)
      exact rV1 hp (hr _ _)
  | .none, e, κ, ρ, H, S, h => by
    obtain ⟨k, p, rfl⟩ := isE_none h
    exact Tri.const_none
  | .bool b, e, κ, ρ, H, S, h => by
    obtain ⟨k, p, rfl⟩ := isE_bool h
    exact Tri.const_bool
  | .int i, e, κ, ρ, H, S, h => by
    obtain ⟨k, p, rfl⟩ := isE_int h
    exact Tri.const_int
  | .str x, e, κ, ρ, H, S, h => by
    obtain ⟨k, p, rfl, h2⟩ := isE_str h
    exact Tri.const_str h2
  | .bin op l r, e, κ, ρ, H, S, h => by
    obtain ⟨l', r', pos, rfl, h1, h2⟩ := isE_bin h
    rw [evE_bin]
    show Tri _ _ _ (eval l' κ.env >>= fun a => PySem.holding [a] (eval r' κ.env) >>= fun b => standAt pos >>= fun _ => PySem.operate [a, b] (binaryOp (opOf op) a b)) _ _ _
    refine Tri.bind (evE_ok l l' κ ρ H S h1) fun a H1 ma _ _ => ?_
    refine Tri.bind (Tri.holding ((evE_ok r r' κ ρ H1 S h2).any)) fun b H2 mb _ _ => ?_
    exact Tri.stand (Tri.operate (bin_ok (m1 m0) m0))
  | .neg a, e, κ, ρ, H, S, h => by
    obtain ⟨a', pos, rfl, h1⟩ := isE_neg h
    rw [evE_neg]
    show Tri _ _ _ (eval a' κ.env >>= fun v => standAt pos >>= fun _ => PySem.holding [v] (unaryOp .USub v)) _ _ _
    refine Tri.bind (evE_ok a a' κ ρ H S h1) fun v H1 mv _ _ => Tri.stand (Tri.holding ?_)
    unfold negV
    cases hx : intAt v with
    | none => exact Tri.stuck
    | some i =>
      refine Tri.plain fun η s Q E at' hv hq => ?_
      obtain ⟨t, rfl⟩ := vr_int (hv _ m0) hx
      exact PyProof.Rows.neg_int (hq _ _ (.int _ _))
  | .not a, e, κ, ρ, H, S, h => by
    obtain ⟨a', pos, rfl, h1⟩ := isE_not h
    rw [evE_not]; simp only [truthR, R.bind_assoc]
    show Tri _ _ _ (eval a' κ.env >>= fun v => standAt pos >>= fun _ => PySem.holding [v] (unaryOp .Not v)) _ _ _
    refine Tri.bind (evE_ok a a' κ ρ H S h1) fun v H1 mv _ _ => Tri.stand (Tri.holding ?_)
    show Tri _ _ _ (PySem.holding [mv] (PySem.truthy mv >>= fun b => Pure.pure (Value.bool (!b)))) _ _ _
    refine Tri.holding (Tri.bind (Tri.truthy m0) fun b H2 b' _ hb => ?_)
    have hb' : b' = b := hb
    subst hb'
    refine Tri.plain fun η s Q E at' hv hq => wpAny_pure (hq _ s.toks (.bool _))
  | .and es, e, κ, ρ, H, S, h => by
    obtain ⟨es', pos, rfl, h1⟩ := isE_and h
    rw [evE_and]
    exact evAnd_ok es es' κ ρ H pos S h1
  | .or es, e, κ, ρ, H, S, h => by
    obtain ⟨es', pos, rfl, h1⟩ := isE_or h
    rw [evE_or]
    exact evOr_ok es es' κ ρ H pos S h1
  | .cmp l op r, e, κ, ρ, H, S, h => by
    obtain ⟨l', r', pos, rfl, h1, h2⟩ := isE_cmp h
    rw [evE_cmp]
    rw [eval_Compare1, markedBehindIn_of_false (marks_plain (isE_plain h2))]
    refine Tri.bind (evE_ok l l' κ ρ H S h1) fun a H1 ma _ _ => ?_
    refine Tri.bind (Tri.holding ((evE_ok r r' κ ρ H1 S h2).any)) fun b H2 mb _ _ => ?_
    refine Tri.stand (Tri.operate ?_)
    cases ec : cmp op a b H2 with
    | none => exact Tri.stuck
    | some t => exact cmp_ok (m1 m0) m0 ec
  | .cmp2 l o1 m o2 r, e, κ, ρ, H, S, h => by
    obtain ⟨l', m', r', pos, rfl, h1, h2, h3⟩ := isE_cmp2 h
    rw [evE_cmp2]
    show Tri _ _ _ (eval l' κ.env >>= fun a => PySem.holding [a] (eval m' κ.env) >>= fun b => standAt pos >>= fun _ => PySem.holding [a, b] (compareOp (cmOf o1) a b) >>= fun c =>
      release [a, b] [c] >>= fun _ => PySem.holding [c, b] (PySem.truthy c) >>= fun t => if t = true then compareChain pos b [cmOf o2] [markedBehindIn (cmOf o2) r' (eval r' κ.env)] else Pure.pure c) _ _ _
    refine Tri.bind (evE_ok l l' κ ρ H S h1) fun a H1 ma _ _ => ?_
    refine Tri.bind (Tri.holding ((evE_ok m m' κ ρ H1 S h2).any)) fun b H2 mb _ _ => ?_
    refine Tri.stand ?_
    cases ec : cmp o1 a b H2 with
    | none => exact Tri.stuck
    | some t =>
      have step := fun (vs : List (V × Value)) (ha : (a, ma) ∈ vs) (hb : (b, mb) ∈ vs) => Tri.holding (l := [ma, mb]) (cmp_ok (κ := κ) (ρ := ρ) (H := H2) (vs := vs) ha hb ec)
      show Tri _ _ _ _ _ (R.bind (.ok (.bool t) H2) fun v H3 => truthR (.ok v H3) |>.bind fun t H3 => if t = true then (evE κ.Γ ρ r H3).bind fun c H4 => ofO H4 ((cmp o2 b c H4).map V.bool) else .ok (.bool false) H3) _
      refine Tri.bind (step _ (m1 m0) m0) fun v H3 mv ev _ => ?_
      refine Tri.skip (a₀ := ()) (fun Q E s q Γ' p _ => by show Sem.wp _ _ (release _ _) _ _ _ _; unfold release; rw [Sem.wp_release_go]; exact q) ?_
      refine Tri.bind (Tri.holding (Tri.truthy m0)) fun t2 H4 t2' et ht => ?_
      have ht' : t2' = t2 := ht
      subst ht'
      cases t2' with
      | false =>
        cases ev
        have et2 : R.ok t H2 = R.ok false H4 := et
        cases et2
        refine Tri.pure (a := mv) trivial fun p hp => ?_
        rw [rV, List.mem_singleton] at hp; subst hp
        exact m1 m0
      | true =>
        show Tri _ _ _ (PySem.holding [mb] (markedBehindIn (cmOf o2) r' (eval r' κ.env)) >>= fun c => standAt pos >>= fun _ => PySem.operate [mb, c] (compareOp (cmOf o2) mb c)) _ _ _
        rw [markedBehindIn_of_false (marks_plain (isE_plain h3))]
        refine Tri.bind (Tri.holding ((evE_ok r r' κ ρ H4 S h3).any)) fun c H5 mc _ _ => ?_
        refine Tri.stand (Tri.operate ?_)
        cases ec2 : cmp o2 b c H5 with
        | none => exact Tri.stuck
        | some t => exact cmp_ok (m1 (m1 (m1 m0))) m0 ec2
  | .call f args, e, κ, ρ, H, S, h => by
    obtain ⟨fn, args', pos, rfl, h0, h2⟩ := isE_call h
    obtain ⟨pf, rfl, hg, hd1, hk⟩ := gName_inv h0
    obtain ⟨fv, hl⟩ := κ.X.known f hk
    rw [evE_call]
    show Tri _ _ _ (eval (.Name (Str.ofString f) pf) κ.env >>= fun g => PySem.callWith pos g [] (backTo pos (starEach args' κ.env)) []) _ _ _
    refine Tri.rel_of (r := R.bind (.ok fv H) fun _ H1 => R.bind (evEs κ.Γ ρ args H1) fun ws H1 => callF κ.Γ f ws H1) ?_ rfl
    refine Tri.bind (Tri.glob rfl hg hd1 hl) fun g H1 mg eg hg' => ?_
    have hg2 : mg = g := hg'
    cases eg
    subst hg2
    refine Tri.callWith (κ.X.kp f mg hk hl) (any_plain h2) (evEs_ok args args' κ ρ H pos S h2).any fun ws H2 ms _ hlen => ?_
    rw [List.nil_append]
    have hw : ∀ p ∈ ws.zip ms, p ∈ [] ++ (rEq mg mg).2 ++ ws.zip ms := fun p hp => List.mem_append.mpr (.inr hp)
    unfold callF
    cases hh : κ.Γ.hd with
    | true => exact Tri.stuck
    | false =>
    rw [if_neg (by decide)]
    have bi : builtin f ws H2 ≠ .stuck -> Tri κ ρ ([] ++ (rEq mg mg).2 ++ ws.zip ms) (PySem.call mg ms) H2 (builtin f ws H2) rV := fun hb => by
      obtain ⟨bv, hbv⟩ := builtin_name (f := f) (ws := ws) (H := H2) hb
      have : mg = bv := hl.det (.inr (κ.X.bi f bv hbv hk))
      subst this
      exact builtin_ok hh hbv hlen hw
    cases hb : builtin f ws H2 with
    | stuck =>
      dsimp only
      by_cases hs : κ.Γ.call f ws H2 = .stuck
      · rw [hs]; exact Tri.stuck
      · have C := S.call f ws H2 hs
        obtain ⟨fv', e', _⟩ := id C
        have : mg = fv' := hl.det (.inl e')
        subst this
        exact Tri.callF hh C e' hlen hw
    | _ => exact (bi (by rw [hb]; exact fun q => nomatch q)).rel_of hb
  | .isinst a T, e, κ, ρ, H, S, h => by
    obtain ⟨fn, a', t', pos, rfl, h0, h1, h2⟩ := isE_isinst h
    obtain ⟨pf, rfl, hg, hd1, hk⟩ := gName_inv h0
    obtain ⟨pt, rfl, hgt, hdt, hkt⟩ := gName_inv h2
    have hl : Loads κ.X.mg κ.X.mb "isinstance" (.builtin "isinstance") := .inr (κ.X.bi _ _ rfl hk)
    obtain ⟨tv, hlt⟩ := κ.X.known T hkt
    rw [evE_isinst]
    show Tri _ _ _ (eval (.Name (Str.ofString "isinstance") pf) κ.env >>= fun g => PySem.callWith pos g [] (backTo pos (starEach [a', .Name (Str.ofString T) pt] κ.env)) []) _ _ _
    refine Tri.rel_of (r := R.bind (.ok (Value.builtin "isinstance") H) fun _ H1 => (evE κ.Γ ρ a H1).bind fun v H1 => ofO H1 ((isinst v T H1).map .bool)) ?_ rfl
    refine Tri.bind (Tri.glob rfl hg hd1 hl) fun g H1 mg eg hg' => ?_
    have hg2 : mg = g := hg'
    cases eg
    subst hg2
    rw [star_plain (isE_plain h1)]
    exact isinst_tail hgt hdt hlt hkt pos (evE_ok a a' κ ρ H S h1).any
  | .idx o i, e, κ, ρ, H, S, h => by
    obtain ⟨o', i', pos, rfl, h1, h2⟩ := isE_idx h
    rw [evE_idx]
    show Tri _ _ _ (eval o' κ.env >>= fun a => PySem.holding [a] (eval i' κ.env) >>= fun b => standAt pos >>= fun _ => subscriptTail o' i' a b) _ _ _
    refine Tri.bind (evE_ok o o' κ ρ H S h1) fun a H1 ma _ _ => ?_
    refine Tri.bind (Tri.holding ((evE_ok i i' κ ρ H1 S h2).any)) fun b H2 mb _ _ => ?_
    exact Tri.stand (index_ok (m1 m0) m0 (subscripted_plain (isE_plain h2)))
  | .tup es, e, κ, ρ, H, S, h => by
    obtain ⟨es', k, pos, rfl, h1, h2⟩ := isE_tup h
    rw [evE_tup]
    show Tri _ _ _ (standAt pos >>= fun _ => spliced (backTo pos (starEach es' κ.env)) >>= fun ms => PySem.newTuple ms) _ _ _
    refine Tri.stand (Tri.bind (evEs_ok es es' κ ρ H pos S h1) fun ws H1 ms ew hl => ?_)
    exact Tri.newTuple hl (fun p hp => List.mem_append.mpr (.inr hp)) (by rw [evEs_length ew]; unfold line; omega)
  | .list es, e, κ, ρ, H, S, h => by
    obtain ⟨es', pos, rfl, h1, h2⟩ := isE_list h
    rw [evE_list]
    show Tri _ _ _ (standAt pos >>= fun _ => spliced (backTo pos (starEach es' κ.env)) >>= fun ms => PySem.newList ms) _ _ _
    refine Tri.stand (Tri.bind (evEs_ok es es' κ ρ H pos S h1) fun ws H1 ms ew hl => ?_)
    exact Tri.newList hl (fun p hp => List.mem_append.mpr (.inr hp)) (by rw [evEs_length ew]; unfold line; omega)
  | .menu es i, e, κ, ρ, H, S, h => by
    obtain ⟨es', lpos, i', pos, rfl, h1, h2, h3⟩ := isE_menu h
    rw [evE_menu]
    show Tri _ _ _ ((standAt lpos >>= fun _ => spliced (backTo lpos (starEach es' κ.env)) >>= fun ms => PySem.newList ms) >>= fun a => PySem.holding [a] (eval i' κ.env) >>= fun b => standAt pos >>= fun _ => subscriptTail (.List es' lpos) i' a b) _ _ _
    refine Tri.rel_of (r := ((evEs κ.Γ ρ es H).bind fun ws H1 => .ok (V.lst ws) H1).bind fun o H1 => (evE κ.Γ ρ i H1).bind fun k H2 => index o k H2) ?_ (by simp only [R.bind_assoc, R.bind_ok])
    refine Tri.bind (Tri.stand (Tri.bind (evEs_ok es es' κ ρ H lpos S h1) fun ws H1 ms ew hl => Tri.hidden hl (fun p hp => List.mem_append.mpr (.inr hp)) (by rw [evEs_length ew]; unfold line; omega))) fun a H1 ma _ _ => ?_
    refine Tri.bind (Tri.holding ((evE_ok i i' κ ρ H1 S h3).any)) fun b H2 mb _ _ => ?_
    exact Tri.stand (index_ok (m1 m0) m0 (subscripted_plain (isE_plain h3)))
  | .meth o m args, e, κ, ρ, H, S, h => by
    obtain ⟨o', ap, args', p, rfl, h1, h2, h3, h4, h5, h6⟩ := isE_meth h
    rw [evE_meth]
    exact meth_tail h2 h3 (any_plain h4) h5 h6 (evE_ok o o' κ ρ H S h1) fun H1 => evEs_ok args args' κ ρ H1 p S h4
  | .attr o a, e, κ, ρ, H, S, h => by
    obtain ⟨o', pos, rfl, h1, h2, h3⟩ := isE_attr h
    obtain ⟨id, p, rfl⟩ := isName_inv h1
    rw [evE_attr]
    show Tri _ _ _ (eval (.Name id p) κ.env >>= fun v => standAt pos.atName >>= fun _ => PySem.holding [v] (getAttr v (Str.ofString a) true) >>= fun r => Pure.pure () >>= fun _ => Pure.pure r) _ _ _
    refine Tri.bind (evE_ok o _ κ ρ H S h2) fun v H1 mv _ _ => Tri.stand ?_
    refine Tri.rel_of (r := (attrV v a H1).bind fun w H2 => .ok w H2) ?_ (R.bind_ok_self _)
    refine Tri.bind (Tri.holding (attr_ok m0 h3)) fun w H2 mw _ _ => ?_
    refine Tri.skip (a₀ := ()) (fun _ _ _ q => wpAny_pure q) (Tri.pure trivial fun p hp => List.mem_append.mpr (.inr hp))
  | .slice o lo hi, e, κ, ρ, H, S, h => by
    obtain ⟨o', l, u, p, pos, rfl, h2, h3, h4⟩ := isE_slice h
    rw [evE_slice]
    refine slice_ok (evE_ok o _ κ ρ H S h2) (fun H1 => ?_) fun H1 => ?_
    · cases l with
      | none => rw [isNone_inv h3]; exact Tri.plain fun _ s _ _ _ _ hq => wpAny_pure (hq _ s.toks .none)
      | some e => exact evE_ok lo e κ ρ H1 S h3
    · cases u with
      | none => rw [isNone_inv h4]; exact Tri.plain fun _ s _ _ _ _ hq => wpAny_pure (hq _ s.toks .none)
      | some e => exact evE_ok hi e κ ρ H1 S h4
  | .dict0, e, κ, ρ, H, S, h => by
    obtain ⟨p, rfl⟩ := isE_dict0 h
    rw [evE_dict0]
    refine Tri.made fun η s Q E at' hv hq => wpAny_Dict_empty ?_
    obtain ⟨o, es, ep, ho, r⟩ := Heap.DictOf.new (knd := intKind κ.X.prog κ.X.w) s.heap
    rw [Heap.get?_push_size _ rfl] at ho
    cases ho
    exact hq _ _ _ s.toks (size_none _) (push_keeps _ _) (Heap.get?_push_size _ rfl) (.keys ⟨es, ep, r⟩ rfl (by simp))
  | .tab0, e, κ, ρ, H, S, h => by
    obtain ⟨p, rfl⟩ := isE_tab0 h
    rw [evE_tab0]
    exact Tri.made fun η s Q E at' hv hq => wpAny_Dict_empty (hq _ _ _ s.toks (size_none _) (push_keeps _ _) (Heap.get?_push_size _ rfl) (.tab .nil List.nodup_nil (by simp)))
  | .dictOf a, e, κ, ρ, H, S, h => by
    obtain ⟨fn, a', pos, rfl, h0, h1⟩ := isE_dictOf h
    obtain ⟨pf, rfl, hg, hd1, hk⟩ := gName_inv h0
    have hl : Loads κ.X.mg κ.X.mb "dict" (.type "dict") := .inr (κ.X.bi _ _ rfl hk)
    rw [evE_dictOf]
    intro hs η s at' _
    show wpAny κ.X.M κ.A (eval (.Name (Str.ofString "dict") pf) κ.env >>= fun g => PySem.callWith pos g [] (backTo pos (starEach [a'] κ.env)) []) _ _ _
    refine wpAny_bind (wpAny_glob at' rfl hg hd1 hl ?_)
    rw [star_plain (isE_plain h1)]
    refine PySem.callWith_type1 ?_
    have hr : evE κ.Γ ρ a H ≠ .stuck := fun q => by rw [q] at hs; exact hs rfl
    refine wpAny_mono (evE_ok a a' κ ρ H S h1 hr η s at' fun _ q => nomatch q) (fun mv s1 hx => ?_) fun ev s' q => q.bind
    obtain ⟨v, H1, e1, _, η1, h1', tk1, rfl, iv1, st1, p1⟩ := hx
    have a1 := at'.step st1 iv1 tk1
    rw [e1, R.bind_ok] at hs ⊢
    cases hh : κ.Γ.hd with
    | true => rw [hh] at hs; exact absurd rfl hs
    | false =>
      rw [hh, if_neg (by decide)] at hs
      rw [if_neg (by decide)]
      exact wpAny_mono (dict_ok (κ := κ) (ρ := ρ) (vs := [(v, mv)]) (List.Mem.head _) hs η1 _ a1 fun p hp => by rw [List.mem_singleton.mp hp]; exact p1 (v, mv) (List.Mem.head _)) (fun d s' q => q.after st1) fun ev s' q => q.after st1
  | .sset a, e, κ, ρ, H, S, h => by
    obtain ⟨fn, fn2, a', p2, pos, rfl, g1, g2, h1⟩ := isE_sset h
    obtain ⟨pf, rfl, hg, hd1, hk⟩ := gName_inv g1
    obtain ⟨pf2, rfl, hg2, hd2, hk2⟩ := gName_inv g2
    have hl : Loads κ.X.mg κ.X.mb "sorted" (.builtin "sorted") := .inr (κ.X.bi _ _ rfl hk)
    have hl2 : Loads κ.X.mg κ.X.mb "set" (.type "set") := .inr (κ.X.bi _ _ rfl hk2)
    rw [evE_sset]
    intro hs η s at' _
    show wpAny κ.X.M κ.A (eval (.Name (Str.ofString "sorted") pf) κ.env >>= fun g => PySem.callWith pos g [] (backTo pos (starEach [.Call (.Name (Str.ofString "set") pf2) [a'] [] p2] κ.env)) []) _ _ _
    refine wpAny_bind (wpAny_glob at' rfl hg hd1 hl (PySem.callWith_builtin1 ?_))
    show wpAny κ.X.M κ.A (eval (.Name (Str.ofString "set") pf2) κ.env >>= fun g => PySem.callWith p2 g [] (backTo p2 (starEach [a'] κ.env)) []) _ _ _
    refine wpAny_bind (wpAny_glob at' rfl hg2 hd2 hl2 ?_)
    rw [star_plain (isE_plain h1)]
    refine PySem.callWith_type1 ?_
    have hr : evE κ.Γ ρ a H ≠ .stuck := fun q => by rw [q] at hs; exact hs rfl
    refine wpAny_mono (evE_ok a a' κ ρ H S h1 hr η s at' fun _ q => nomatch q) (fun mv s1 hx => ?_) fun ev s' q => q.bind
    obtain ⟨v, H1, e1, _, η1, h1', tk1, rfl, iv1, st1, p1⟩ := hx
    have a1 := at'.step st1 iv1 tk1
    rw [e1, R.bind_ok] at hs ⊢
    cases hh : κ.Γ.hd with
    | true => rw [hh] at hs; exact absurd rfl hs
    | false =>
      rw [hh, if_neg (by decide)] at hs
      rw [if_neg (by decide)]
      unfold ssetV at hs ⊢
      cases he : (tupAt v).bind intsV with
      | none => rw [he] at hs; exact absurd rfl hs
      | some ns =>
        rw [he] at hs
        dsimp only at hs ⊢
        by_cases hc : (ns.all fun n => decide (0 <= n)) = true /\ (ns.map Int.toNat).isSublist (List.range 7) = true
        · rw [if_pos hc]
          refine set_made (a1.hand hh) (p1 (v, mv) (List.Mem.head _)) he hc.1 hc.2 fun b h' k ps ep keep g hsub e5 => ?_
          refine sorted_set (a1.hand hh) g hsub fun h'' r out n hr g2 hints keep2 => ?_
          have kk := fun b o e => keep2 b o (keep b o e)
          have nr : h1'.get? r = Option.none := by
            cases q : h1'.get? r with
            | none => rfl
            | some o => rw [keep _ _ q] at hr; cases hr
          have len7 : ns.length <= 7 := by have := (List.isSublist_iff_sublist.mp hc.2).length_le; simpa using this
          have ok : OkAt κ.X κ.st rV η1 { s with heap := h1', toks := tk1 } (new (.list (ns.map .int)) H1) (.ref r) { s with heap := h'', toks := k } := by
            refine ⟨_, _, rfl, trivial, η1 ++ [r], h'', k, rfl, iv1.make kk nr g2 (.list ?_ ?_), Step.make _ _ _ kk nr, fun p hp => rV1 hp (.ref ?_)⟩
            · rw [e5] at hints; exact of_ints hints
            · rw [List.length_map]; unfold line; omega
            · rw [<- iv1.len]; simp
          exact ok.after st1
        · rw [if_neg hc] at hs; exact absurd rfl hs
  | .comp elt x it cond, e, κ, ρ, H, S, h => by
    obtain ⟨elt', px, iter, ifs, scope, pos, rfl, h1, h2, h3, h4, h5⟩ := isE_comp h
    rw [evE_comp]
    cases hh : κ.Γ.hd with
    | true => exact Tri.stuck
    | false =>
    rw [if_neg (by decide)]
    refine comp_ok hh (g := fun v H' => evC κ.Γ ((x, v) :: ρ) cond H') (f := fun v H' => evE κ.Γ ((x, v) :: ρ) elt H') h3 h2 (evE_ok it iter κ ρ H S h1) (fun cl v C' H' => evE_ok elt elt' (κ.inn (compEnvC scope cl C' κ.env)) ((x, v) :: ρ) H' S h4) fun cl v C' H' => ?_
    exact evC_ok cond ifs (κ.inn (compEnvC scope cl C' κ.env)) ((x, v) :: ρ) H' S h5
theorem evC_ok : ∀ (c : Option E) (es : List Expr) (κ : Ct) (ρ : Rho) (H : Hp), SoundFn κ.X κ.n κ.Γ -> isC κ.X.kn κ.env.scope c es = true -> Tri κ ρ [] (testsOf es κ.env) H (evC κ.Γ ρ c H) rB
  | Option.none, es, κ, ρ, H, S, h => by
    have : es = [] := List.isEmpty_iff.mp h
    subst this
    rw [evC_none]
    exact Tri.pure rfl fun _ q => nomatch q
  | some (.cmp l op r), es, κ, ρ, H, S, h => by
    have h : (isCmp (.cmp l op r) && one es (isE κ.X.kn κ.env.scope (.cmp l op r))) = true := h
    obtain ⟨e, rfl, h⟩ := one_inv (and_inv h).2
    obtain ⟨l', r', pos, rfl, h1, h2⟩ := isE_cmp h
    have ef : testsOf [.Compare l' [cmOf op] [r'] pos] κ.env = (isTrue (.Compare l' [cmOf op] [r'] pos) κ.env (eval (.Compare l' [cmOf op] [r'] pos) κ.env) >>= fun b => Pure.pure b) := by
      unfold testsOf
      simp
    rw [ef, bind_pure, evC_some]
    rw [isTrue_Compare1, markedBehindIn_of_false (marks_plain (isE_plain h2))]
    rw [evE_cmp]; simp only [truthR_bind]
    refine Tri.bind (evE_ok l l' κ ρ H S h1) fun a H1 ma _ _ => ?_
    refine Tri.bind (Tri.holding ((evE_ok r r' κ ρ H1 S h2).any)) fun b H2 mb _ _ => ?_
    refine Tri.stand (Tri.truthy' (Tri.operate ?_))
    cases ec : cmp op a b H2 with
    | none => exact Tri.stuck
    | some t => exact cmp_ok (m1 m0) m0 ec
  | some (.var _), es, κ, ρ, H, S, h => ff h
  | some (.glob _), es, κ, ρ, H, S, h => ff h
  | some (.none), es, κ, ρ, H, S, h => ff h
  | some (.bool _), es, κ, ρ, H, S, h => ff h
  | some (.int _), es, κ, ρ, H, S, h => ff h
  | some (.str _), es, κ, ρ, H, S, h => ff h
  | some (.bin _ _ _), es, κ, ρ, H, S, h => ff h
  | some (.neg _), es, κ, ρ, H, S, h => ff h
  | some (.not _), es, κ, ρ, H, S, h => ff h
  | some (.and _), es, κ, ρ, H, S, h => ff h
  | some (.or _), es, κ, ρ, H, S, h => ff h
  | some (.cmp2 _ _ _ _ _), es, κ, ρ, H, S, h => ff h
  | some (.call _ _), es, κ, ρ, H, S, h => ff h
  | some (.isinst _ _), es, κ, ρ, H, S, h => ff h
  | some (.meth _ _ _), es, κ, ρ, H, S, h => ff h
  | some (.attr _ _), es, κ, ρ, H, S, h => ff h
  | some (.idx _ _), es, κ, ρ, H, S, h => ff h
  | some (.slice _ _ _), es, κ, ρ, H, S, h => ff h
  | some (.list _), es, κ, ρ, H, S, h => ff h
  | some (.tup _), es, κ, ρ, H, S, h => ff h
  | some (.menu _ _), es, κ, ρ, H, S, h => ff h
  | some (.comp _ _ _ _), es, κ, ρ, H, S, h => ff h
  | some (.dict0), es, κ, ρ, H, S, h => ff h
  | some (.tab0), es, κ, ρ, H, S, h => ff h
  | some (.sset _), es, κ, ρ, H, S, h => ff h
  | some (.dictOf _), es, κ, ρ, H, S, h => ff h
theorem evAnd_ok : ∀ (cs : List E) (es : List Expr) (κ : Ct) (ρ : Rho) (H : Hp) (pos : Pos), SoundFn κ.X κ.n κ.Γ -> isEs κ.X.kn κ.env.scope cs es = true -> Tri κ ρ [] (boolOp pos .And (evalEach es κ.env)) H (evAnd κ.Γ ρ cs H) rV
  | [], _, _, _, _, _, _, _ => Tri.stuck
  | [c], es, κ, ρ, H, pos, S, h => by
    cases es with
    | nil => exact ff h
    | cons e es' =>
      rw [isEs_cons, Bool.and_eq_true] at h
      cases es' with
      | nil => exact evE_ok c e κ ρ H S h.1
      | cons => exact ff h.2
  | c :: c2 :: cs, es, κ, ρ, H, pos, S, h => by
    cases es with
    | nil => rw [isEs_nil] at h; cases h
    | cons e es' =>
      rw [isEs_cons, Bool.and_eq_true] at h
      obtain ⟨h1, h2⟩ := h
      cases es' with
      | nil => exact ff h2
      | cons e2 es2 =>
        rw [evAnd_cons]; simp only [truthR, R.bind_assoc]
        show Tri _ _ _ (eval e κ.env >>= fun v => standAt pos >>= fun _ => PySem.holding [v] (PySem.truthy v) >>= fun t => match BoolOp.And, t with
          | .And, false | .Or, true => Pure.pure v
          | _, _ => boolOp pos .And (evalEach (e2 :: es2) κ.env)) _ _ _
        refine Tri.bind (evE_ok c e κ ρ H S h1) fun v H1 mv _ _ => Tri.stand ?_
        cases v with
        | bool b =>
          refine Tri.bind (Tri.holding (Tri.truthy m0)) fun t H2 t' et ht => ?_
          have ht' : t' = t := ht
          subst ht'
          simp only [truth, ofO] at et
          cases et
          cases b with
          | false =>
            simp only [Bool.false_eq_true, if_false]
            refine Tri.pure trivial fun p hp => ?_
            rw [rV, List.mem_singleton] at hp; subst hp
            exact m1 m0
          | true =>
            simp only [if_true]
            exact (evAnd_ok (c2 :: cs) (e2 :: es2) κ ρ _ pos S h2).any
        | _ => exact Tri.stuck
theorem evOr_ok : ∀ (cs : List E) (es : List Expr) (κ : Ct) (ρ : Rho) (H : Hp) (pos : Pos), SoundFn κ.X κ.n κ.Γ -> isEs κ.X.kn κ.env.scope cs es = true -> Tri κ ρ [] (boolOp pos .Or (evalEach es κ.env)) H (evOr κ.Γ ρ cs H) rV
  | [], _, _, _, _, _, _, _ => Tri.stuck
  | [c], es, κ, ρ, H, pos, S, h => by
    cases es with
    | nil => exact ff h
    | cons e es' =>
      rw [isEs_cons, Bool.and_eq_true] at h
      cases es' with
      | nil => exact evE_ok c e κ ρ H S h.1
      | cons => exact ff h.2
  | c :: c2 :: cs, es, κ, ρ, H, pos, S, h => by
    cases es with
    | nil => rw [isEs_nil] at h; cases h
    | cons e es' =>
      rw [isEs_cons, Bool.and_eq_true] at h
      obtain ⟨h1, h2⟩ := h
      cases es' with
      | nil => exact ff h2
      | cons e2 es2 =>
        rw [evOr_cons]; simp only [truthR, R.bind_assoc]
        show Tri _ _ _ (eval e κ.env >>= fun v => standAt pos >>= fun _ => PySem.holding [v] (PySem.truthy v) >>= fun t => match BoolOp.Or, t with
          | .And, false | .Or, true => Pure.pure v
          | _, _ => boolOp pos .Or (evalEach (e2 :: es2) κ.env)) _ _ _
        refine Tri.bind (evE_ok c e κ ρ H S h1) fun v H1 mv _ _ => Tri.stand ?_
        cases v with
        | bool b =>
          refine Tri.bind (Tri.holding (Tri.truthy m0)) fun t H2 t' et ht => ?_
          have ht' : t' = t := ht
          subst ht'
          simp only [truth, ofO] at et
          cases et
          cases b with
          | true =>
            simp only [if_true]
            refine Tri.pure trivial fun p hp => ?_
            rw [rV, List.mem_singleton] at hp; subst hp
            exact m1 m0
          | false =>
            simp only [Bool.false_eq_true, if_false]
            exact (evOr_ok (c2 :: cs) (e2 :: es2) κ ρ _ pos S h2).any
        | _ => exact Tri.stuck
theorem evEs_ok : ∀ (cs : List E) (es : List Expr) (κ : Ct) (ρ : Rho) (H : Hp) (pos : Pos), SoundFn κ.X κ.n κ.Γ -> isEs κ.X.kn κ.env.scope cs es = true -> Tri κ ρ [] (spliced (backTo pos (starEach es κ.env))) H (evEs κ.Γ ρ cs H) rL
  | [], es, κ, ρ, H, pos, S, h => by
    cases es with
    | nil => exact Tri.spliced_nil
    | cons => cases h
  | c :: cs, es, κ, ρ, H, pos, S, h => by
    cases es with
    | nil => rw [isEs_nil] at h; cases h
    | cons e es' =>
      rw [isEs_cons, Bool.and_eq_true] at h
      rw [star_plain (isE_plain h.1)]
      exact Tri.spliced_cons (evE_ok c e κ ρ H S h.1) fun v H1 m _ => (evEs_ok cs es' κ ρ H1 pos S h.2).any
end
end
section
variable {κ : Ct}
noncomputable def plainT : E -> Bool
  | .not _ | .and _ | .or _ | .cmp .. | .cmp2 .. => false
  | _ => true
theorem plain_test {kn : String -> Bool} {sc : Scope} {c : E} {e : Expr} {env : Env} (h : isE kn sc c e = true)
    (hc : plainT c = true) (w : Sem Value) : isTrue e env w = (w >>= fun v => standAt e.pos >>= fun _ => PySem.holding [v] (truthy v)) := by
  cases e with
  | UnaryOp op x pos =>
    cases op with
    | Not => cases c <;> first | exact ff h | exact ff hc
    | _ => rfl
  | BoolOp op xs pos => cases c <;> first | exact ff h | exact ff hc
  | IfExp => cases c <;> first | exact ff h | exact ff hc
  | Compare l ops rs pos => cases c <;> first | exact ff h | exact ff hc
  | _ => rfl
theorem plainTest_ok {ρ : Rho} {H : Hp} {c : E} {e : Expr} (h : isE κ.X.kn κ.env.scope c e = true) (hc : plainT c = true)
    (ih : Tri κ ρ [] (eval e κ.env) H (evE κ.Γ ρ c H) rV) : Tri κ ρ [] (isTrue e κ.env (eval e κ.env)) H (truthR (evE κ.Γ ρ c H)) rB := by
  rw [plain_test h hc]
  exact Tri.bind ih fun v H1 mv _ _ => Tri.stand (Tri.holding (Tri.truthy m0))
mutual
theorem testE_ok : ∀ (c : E) (e : Expr) (κ : Ct) (ρ : Rho) (H : Hp), SoundFn κ.X κ.n κ.Γ -> isE κ.X.kn κ.env.scope c e = true -> Tri κ ρ [] (isTrue e κ.env (eval e κ.env)) H (truthR (evE κ.Γ ρ c H)) rB
  | .not a, e, κ, ρ, H, S, h => by
    obtain ⟨a', pos, rfl, h1⟩ := isE_not h
    show Tri _ _ _ (isTrue a' κ.env (eval a' κ.env) >>= fun b => Pure.pure (!b)) _ _ _
    refine Tri.rel_of (r := (truthR (evE κ.Γ ρ a H)).bind fun b H1 => .ok (!b) H1) ?_ (by rw [evE_not, truthR_bind]; rfl)
    refine Tri.bind (testE_ok a a' κ ρ H S h1) fun b H1 b' _ hb => ?_
    have hb' : b' = b := hb
    subst hb'
    exact Tri.pure rfl fun _ q => nomatch q
  | .and es, e, κ, ρ, H, S, h => by
    obtain ⟨es', pos, rfl, h1⟩ := isE_and h
    rw [evE_and]
    exact testAnd_ok es es' κ ρ H S h1
  | .or es, e, κ, ρ, H, S, h => by
    obtain ⟨es', pos, rfl, h1⟩ := isE_or h
    rw [evE_or]
    exact testOr_ok es es' κ ρ H S h1
  | .cmp l op r, e, κ, ρ, H, S, h => by
    obtain ⟨l', r', pos, rfl, h1, h2⟩ := isE_cmp h
    rw [isTrue_Compare1, markedBehindIn_of_false (marks_plain (isE_plain h2))]
    rw [evE_cmp]; simp only [truthR_bind]
    refine Tri.bind (evE_ok l l' κ ρ H S h1) fun a H1 ma _ _ => ?_
    refine Tri.bind (Tri.holding ((evE_ok r r' κ ρ H1 S h2).any)) fun b H2 mb _ _ => ?_
    refine Tri.stand (Tri.truthy' (Tri.operate ?_))
    cases ec : cmp op a b H2 with
    | none => exact Tri.stuck
    | some t => exact cmp_ok (m1 m0) m0 ec
  | .cmp2 l o1 m o2 r, e, κ, ρ, H, S, h => by
    obtain ⟨l', m', r', pos, rfl, h1, h2, h3⟩ := isE_cmp2 h
    rw [evE_cmp2]; simp only [truthR_bind]
    show Tri _ _ _ (eval l' κ.env >>= fun a => PySem.holding [a] (eval m' κ.env) >>= fun b => standAt pos >>= fun _ => PySem.holding [a, b] (compareOp (cmOf o1) a b) >>= fun c =>
      release [a, b] [c] >>= fun _ => PySem.holding [c, b] (PySem.truthy c) >>= fun t => if t = true then testChain pos b [cmOf o2] [markedBehindIn (cmOf o2) r' (eval r' κ.env)] else Pure.pure false) _ _ _
    refine Tri.bind (evE_ok l l' κ ρ H S h1) fun a H1 ma _ _ => ?_
    refine Tri.bind (Tri.holding ((evE_ok m m' κ ρ H1 S h2).any)) fun b H2 mb _ _ => ?_
    refine Tri.stand ?_
    cases ec : cmp o1 a b H2 with
    | none => exact Tri.stuck
    | some t =>
      have step := fun (vs : List (V × Value)) (ha : (a, ma) ∈ vs) (hb : (b, mb) ∈ vs) => Tri.holding (l := [ma, mb]) (cmp_ok (κ := κ) (ρ := ρ) (H := H2) (vs := vs) ha hb ec)
      show Tri _ _ _ _ _ (R.bind (.ok (.bool t) H2) fun v H3 => truthR (.ok v H3) |>.bind fun t H3 => truthR (if t = true then (evE κ.Γ ρ r H3).bind fun c H4 => ofO H4 ((cmp o2 b c H4).map V.bool) else .ok (.bool false) H3)) _
      refine Tri.bind (step _ (m1 m0) m0) fun v H3 mv ev _ => ?_
      refine Tri.skip (a₀ := ()) (fun Q E s q Γ' p _ => by show Sem.wp _ _ (release _ _) _ _ _ _; unfold release; rw [Sem.wp_release_go]; exact q) ?_
      refine Tri.bind (Tri.holding (Tri.truthy m0)) fun t2 H4 t2' et ht => ?_
      have ht' : t2' = t2 := ht
      subst ht'
      cases t2' with
      | false => exact Tri.pure (a := false) (b := false) rfl fun _ q => nomatch q
      | true =>
        show Tri _ _ _ (PySem.holding [mb] (markedBehindIn (cmOf o2) r' (eval r' κ.env)) >>= fun c => standAt pos >>= fun _ => PySem.operate [mb, c] (compareOp (cmOf o2) mb c) >>= fun c => PySem.holding [c] (PySem.truthy c)) _ (truthR ((evE κ.Γ ρ r H4).bind fun c H4 => ofO H4 ((cmp o2 b c H4).map V.bool))) _
        rw [markedBehindIn_of_false (marks_plain (isE_plain h3)), truthR_bind]
        refine Tri.bind (Tri.holding ((evE_ok r r' κ ρ H4 S h3).any)) fun c H5 mc _ _ => ?_
        refine Tri.stand (Tri.truthy' (Tri.operate ?_))
        cases ec2 : cmp o2 b c H5 with
        | none => exact Tri.stuck
        | some t => exact cmp_ok (m1 (m1 (m1 m0))) m0 ec2
  | .var x, e, κ, ρ, H, S, h => plainTest_ok h rfl (evE_ok _ e κ ρ H S h)
  | .glob x, e, κ, ρ, H, S, h => plainTest_ok h rfl (evE_ok _ e κ ρ H S h)
  | .none, e, κ, ρ, H, S, h => plainTest_ok h rfl (evE_ok _ e κ ρ H S h)
  | .bool x, e, κ, ρ, H, S, h => plainTest_ok h rfl (evE_ok _ e κ ρ H S h)
  | .int x, e, κ, ρ, H, S, h => plainTest_ok h rfl (evE_ok _ e κ ρ H S h)
  | .str x, e, κ, ρ, H, S, h => plainTest_ok h rfl (evE_ok _ e κ ρ H S h)
  | .bin _ _ _, e, κ, ρ, H, S, h => plainTest_ok h rfl (evE_ok _ e κ ρ H S h)
  | .call _ _, e, κ, ρ, H, S, h => plainTest_ok h rfl (evE_ok _ e κ ρ H S h)
  | .isinst _ _, e, κ, ρ, H, S, h => plainTest_ok h rfl (evE_ok _ e κ ρ H S h)
  | .meth _ _ _, e, κ, ρ, H, S, h => plainTest_ok h rfl (evE_ok _ e κ ρ H S h)
  | .attr _ _, e, κ, ρ, H, S, h => plainTest_ok h rfl (evE_ok _ e κ ρ H S h)
  | .idx _ _, e, κ, ρ, H, S, h => plainTest_ok h rfl (evE_ok _ e κ ρ H S h)
  | .slice _ _ _, e, κ, ρ, H, S, h => plainTest_ok h rfl (evE_ok _ e κ ρ H S h)
  | .list _, e, κ, ρ, H, S, h => plainTest_ok h rfl (evE_ok _ e κ ρ H S h)
  | .tup _, e, κ, ρ, H, S, h => plainTest_ok h rfl (evE_ok _ e κ ρ H S h)
  | .menu _ _, e, κ, ρ, H, S, h => plainTest_ok h rfl (evE_ok _ e κ ρ H S h)
  | .comp _ _ _ _, e, κ, ρ, H, S, h => plainTest_ok h rfl (evE_ok _ e κ ρ H S h)
  | .dict0, e, κ, ρ, H, S, h => plainTest_ok h rfl (evE_ok _ e κ ρ H S h)
  | .tab0, e, κ, ρ, H, S, h => plainTest_ok h rfl (evE_ok _ e κ ρ H S h)
  | .sset _, e, κ, ρ, H, S, h => plainTest_ok h rfl (evE_ok _ e κ ρ H S h)
  | .dictOf _, e, κ, ρ, H, S, h => plainTest_ok h rfl (evE_ok _ e κ ρ H S h)
  | .neg _, e, κ, ρ, H, S, h => plainTest_ok h rfl (evE_ok _ e κ ρ H S h)
theorem testAnd_ok : ∀ (cs : List E) (es : List Expr) (κ : Ct) (ρ : Rho) (H : Hp), SoundFn κ.X κ.n κ.Γ -> isEs κ.X.kn κ.env.scope cs es = true -> Tri κ ρ [] (allTrue .And es κ.env) H (truthR (evAnd κ.Γ ρ cs H)) rB
  | [], _, _, _, _, _, _ => Tri.stuck
  | [c], es, κ, ρ, H, S, h => by
    cases es with
    | nil => rw [isEs_nil] at h; cases h
    | cons e es' =>
      rw [isEs_cons, Bool.and_eq_true] at h
      cases es' with
      | cons => cases h.2
      | nil =>
        show Tri _ _ _ (isTrue e κ.env (eval e κ.env) >>= fun t => match BoolOp.And, t with | .And, false => Pure.pure false | .Or, true => Pure.pure true | _, _ => allTrue .And [] κ.env) _ _ _
        refine Tri.rel_of (r := (truthR (evE κ.Γ ρ c H)).bind fun b H1 => .ok b H1) ?_ (by rw [evAnd_one, R.bind_ok_self])
        refine Tri.bind (testE_ok c e κ ρ H S h.1) fun b H1 b' _ hb => ?_
        have hb' : b' = b := hb
        subst hb'
        cases b' <;> exact Tri.pure rfl fun _ q => nomatch q
  | c :: c2 :: cs, es, κ, ρ, H, S, h => by
    cases es with
    | nil => rw [isEs_nil] at h; cases h
    | cons e es' =>
      rw [isEs_cons, Bool.and_eq_true] at h
      show Tri _ _ _ (isTrue e κ.env (eval e κ.env) >>= fun t => match BoolOp.And, t with | .And, false => Pure.pure false | .Or, true => Pure.pure true | _, _ => allTrue .And es' κ.env) _ _ _
      rw [evAnd_cons]; simp only [truthR_bind]
      refine Tri.bind (testE_ok c e κ ρ H S h.1) fun b H1 b' _ hb => ?_
      have hb' : b' = b := hb
      subst hb'
      cases b' with
      | false => exact Tri.pure (b := false) rfl fun _ q => nomatch q
      | true => exact (testAnd_ok (c2 :: cs) es' κ ρ H1 S h.2).any
theorem testOr_ok : ∀ (cs : List E) (es : List Expr) (κ : Ct) (ρ : Rho) (H : Hp), SoundFn κ.X κ.n κ.Γ -> isEs κ.X.kn κ.env.scope cs es = true -> Tri κ ρ [] (allTrue .Or es κ.env) H (truthR (evOr κ.Γ ρ cs H)) rB
  | [], _, _, _, _, _, _ => Tri.stuck
  | [c], es, κ, ρ, H, S, h => by
    cases es with
    | nil => rw [isEs_nil] at h; cases h
    | cons e es' =>
      rw [isEs_cons, Bool.and_eq_true] at h
      cases es' with
      | cons => cases h.2
      | nil =>
        show Tri _ _ _ (isTrue e κ.env (eval e κ.env) >>= fun t => match BoolOp.Or, t with | .And, false => Pure.pure false | .Or, true => Pure.pure true | _, _ => allTrue .Or [] κ.env) _ _ _
        refine Tri.rel_of (r := (truthR (evE κ.Γ ρ c H)).bind fun b H1 => .ok b H1) ?_ (by rw [evOr_one, R.bind_ok_self])
        refine Tri.bind (testE_ok c e κ ρ H S h.1) fun b H1 b' _ hb => ?_
        have hb' : b' = b := hb
        subst hb'
        cases b' <;> exact Tri.pure rfl fun _ q => nomatch q
  | c :: c2 :: cs, es, κ, ρ, H, S, h => by
    cases es with
    | nil => rw [isEs_nil] at h; cases h
    | cons e es' =>
      rw [isEs_cons, Bool.and_eq_true] at h
      show Tri _ _ _ (isTrue e κ.env (eval e κ.env) >>= fun t => match BoolOp.Or, t with | .And, false => Pure.pure false | .Or, true => Pure.pure true | _, _ => allTrue .Or es' κ.env) _ _ _
      rw [evOr_cons]; simp only [truthR_bind]
      refine Tri.bind (testE_ok c e κ ρ H S h.1) fun b H1 b' _ hb => ?_
      have hb' : b' = b := hb
      subst hb'
      cases b' with
      | true => exact Tri.pure (b := true) rfl fun _ q => nomatch q
      | false => exact (testOr_ok (c2 :: cs) es' κ ρ H1 S h.2).any
end
end
theorem lookup_setL (x : String) (v : V) : ∀ (ρ : Rho) (y : String), (setL x v ρ).lookup y = if y = x then some v else ρ.lookup y
  | [], y => by
    simp only [setL, List.lookup_cons, List.lookup_nil]
    by_cases h : y = x
    · subst h; simp
    · have : (y == x) = false := by simpa using h
      simp [this, h]
  | (z, w) :: r, y => by
    simp only [setL]
    split
    · rename_i hz
      subst hz
      simp only [List.lookup_cons]
      by_cases h : y = z
      · subst h; simp
      · have : (y == z) = false := by simpa using h
        simp [this, h]
    · rename_i hz
      simp only [List.lookup_cons, lookup_setL x v r y]
      by_cases h : y = z
      · subst h; simp [hz]
      · have : (y == z) = false := by simpa using h
        simp [this]
inductive NextS (κ : Ct) (η : List Addr) (s : Shared) (r : RS) (k : Rho -> Hp -> RS) (s' : Shared) : Prop
  | mk (ρ' : Rho) (H' : Hp) (e : r = k ρ' H') (p : Post κ.X (frs κ.st) (ownOf κ.env) η s H' (Ends κ.X κ.env ρ') s') : NextS κ η s r k s'
inductive RetS (κ : Ct) (η : List Addr) (s : Shared) (r : RS) (mv : Value) (s' : Shared) : Prop
  | mk (v : V) (H' : Hp) (e : r = .ret v H') (p : Post κ.X (frs κ.st) (ownOf κ.env) η s H' (fun η' h' => FrameOK κ.X η' h' κ.env /\ VR κ.X η' h' v mv) s') : RetS κ η s r mv s'
inductive ExcS (κ : Ct) (η : List Addr) (s : Shared) (r : RS) (ev : Value) (s' : Shared) : Prop
  | mk (c : String) (ρ' : Rho) (H' : Hp) (e : r = .raise c ρ' H') (p : Post κ.X (frs κ.st) (ownOf κ.env) η s H' (fun η' h' => Ends κ.X κ.env ρ' η' h' /\ ExcAt κ.X κ.st s.heap ev c η' h') s') : ExcS κ η s r ev s'
noncomputable def OutS (κ : Ct) (η : List Addr) (s : Shared) (r : RS) (f : Flow) (s' : Shared) : Prop :=
  match f with
  | .next => NextS κ η s r .next s'
  | .cont => NextS κ η s r .cont s'
  | .brk => False
  | .ret mv => RetS κ η s r mv s'
noncomputable def TriS (κ : Ct) (vs : List (V × Value)) (m : Sem Flow) (ρ : Rho) (H : Hp) (r : RS) : Prop :=
  r ≠ .stuck -> ∀ η s, At κ η ρ H s -> (∀ p ∈ vs, VR κ.X η s.heap p.1 p.2) -> wpAny κ.X.M κ.A m (OutS κ η s r) (ExcS κ η s r) s
section
variable {κ : Ct} {η η' : List Addr} {ρ ρ' : Rho} {H H' : Hp} {s : Shared} {h' : Heap} {vs : List (V × Value)}
theorem At.stepS (a : At κ η ρ H s) (x : Step (frs κ.st) (ownOf κ.env) η s.heap η' h') (i : Inv κ.X η' H' h') (e : Ends κ.X κ.env ρ' η' h') (tk : Nat) : At κ η' ρ' H' { s with heap := h', toks := tk } :=
  ⟨i, e.1, e.2, a.stk.step x, a.room, a.hand⟩
theorem At.ends (a : At κ η ρ H s) (x : Step (frs κ.st) [] η s.heap η' h') (i : Inv κ.X η' H' h') : Ends κ.X κ.env ρ η' h' := let b := a.step x i s.toks; ⟨b.fok, b.rho⟩
theorem Step.up {fr own η η' : List Addr} {h h' : Heap} (x : Step fr [] η h η' h') : Step fr own η h η' h' := x.weak fun _ q => nomatch q
theorem OutS.after {η1 : List Addr} {h1 : Heap} {tk : Nat} {r : RS} {s' : Shared} {f : Flow} (x : Step (frs κ.st) (ownOf κ.env) η s.heap η1 h1) (o : OutS κ η1 { s with heap := h1, toks := tk } r f s') : OutS κ η s r f s' := by
  cases f with
  | next => obtain ⟨ρ', H', e, P⟩ := o; exact ⟨ρ', H', e, P.trans x fun _ _ q => q⟩
  | cont => obtain ⟨ρ', H', e, P⟩ := o; exact ⟨ρ', H', e, P.trans x fun _ _ q => q⟩
  | ret mv => obtain ⟨v, H', e, P⟩ := o; exact ⟨v, H', e, P.trans x fun _ _ q => q⟩
  | _ => exact o
theorem ExcS.after {η1 : List Addr} {h1 : Heap} {tk : Nat} {r : RS} {s' : Shared} {ev : Value} (x : Step (frs κ.st) (ownOf κ.env) η s.heap η1 h1) (o : ExcS κ η1 { s with heap := h1, toks := tk } r ev s') : ExcS κ η s r ev s' := by
  obtain ⟨c, ρ', H', e, P⟩ := o
  exact ⟨c, ρ', H', e, P.trans x fun _ _ q => ⟨q.1, q.2.older x.alive⟩⟩
theorem At.frm (a : At κ η ρ H s) : Frm s.heap (ownOf κ.env ++ frs κ.st) := a.fok.frm.of a.stk.frm
theorem RaiseAt.stmt {α : Type} {r : R α} {f : α -> Hp -> RS} {ev : Value} {s' : Shared} (a : At κ η ρ H s) (x : RaiseAt κ.X κ.st η s r ev s') : ExcS κ η s (ofR ρ r f) ev s' := by
  obtain ⟨c, H', rfl, η', h', tk, rfl, i, st, q⟩ := x
  exact ⟨c, ρ, H', rfl, η', h', tk, rfl, i, st.up, a.ends st i, q⟩
theorem TriS.via {α β : Type} {m : Sem α} {m' : Sem Flow} {W : α -> (Flow -> Shared -> Prop) -> (Value -> Shared -> Prop) -> Shared -> Prop} {r : R β} {rel : β -> α -> Prop × List (V × Value)} {f : β -> Hp -> RS}
    (hw : ∀ Q E η s, At κ η ρ H s -> wpAny κ.X.M κ.A m (fun a s1 => W a Q E s1) E s -> wpAny κ.X.M κ.A m' Q E s) (h1 : Tri κ ρ vs m H r rel)
    (h2 : ∀ b H1 a, r = .ok b H1 -> (rel b a).1 -> f b H1 ≠ .stuck -> ∀ η s Q E, At κ η ρ H1 s -> (∀ p ∈ vs ++ (rel b a).2, VR κ.X η s.heap p.1 p.2) -> (∀ d s', OutS κ η s (f b H1) d s' -> Q d s') -> (∀ ev s', ExcS κ η s (f b H1) ev s' -> E ev s') -> W a Q E s) : TriS κ vs m' ρ H (ofR ρ r f) := by
  intro hs η s a hv
  have hr : r ≠ .stuck := by rintro rfl; exact hs rfl
  refine hw _ _ _ _ a (wpAny_mono (h1 hr η s a hv) (fun x s1 hx => ?_) fun ev s1 hx => hx.stmt a)
  obtain ⟨b, H1, rfl, hrel, η1, h', tk, rfl, i, stp, hp⟩ := hx
  refine h2 b H1 x rfl hrel hs η1 _ _ _ (a.step stp i tk) (fun p hm => ?_) (fun d s' o => o.after stp.up) fun ev s' o => o.after stp.up
  rcases List.mem_append.mp hm with hm | hm
  · exact (hv p hm).up stp a.stk.frm
  · exact hp p hm
theorem TriS.expr {α β : Type} {m : Sem α} {k : α -> Sem Flow} {r : R β} {rel : β -> α -> Prop × List (V × Value)} {f : β -> Hp -> RS} (h1 : Tri κ ρ vs m H r rel)
    (h2 : ∀ b H1 a, r = .ok b H1 -> (rel b a).1 -> TriS κ (vs ++ (rel b a).2) (k a) ρ H1 (f b H1)) : TriS κ vs (m >>= k) ρ H (ofR ρ r f) :=
  TriS.via (W := fun a Q E s => wpAny κ.X.M κ.A (k a) Q E s) (fun _ _ _ _ _ q => wpAny_bind q) h1 fun b H1 a e q hs η s Q E at' hv hq he => wpAny_mono (h2 b H1 a e q hs η s at' hv) hq he
theorem TriS.stuck {m : Sem Flow} : TriS κ vs m ρ H .stuck := fun h => absurd rfl h
theorem TriS.skip {α : Type} {m : Sem α} {k : α -> Sem Flow} {r : RS} {a₀ : α} (hm : ∀ (Q : α -> Shared -> Prop) (E : Value -> Shared -> Prop) (s : Shared), Q a₀ s -> wpAny κ.X.M κ.A m Q E s)
    (h : TriS κ vs (k a₀) ρ H r) : TriS κ vs (m >>= k) ρ H r := fun hs η s a hv => wpAny_bind (hm _ _ _ (h hs η s a hv))
theorem TriS.stand {pos : Pos} {k : Unit -> Sem Flow} {r : RS} (h : TriS κ vs (k ()) ρ H r) : TriS κ vs (standAt pos >>= k) ρ H r := TriS.skip (a₀ := ()) (fun _ _ _ q => wpAny_standAt q) h
theorem nextS (a : At κ η ρ H s) : OutS κ η s (.next ρ H) .next s := ⟨ρ, H, rfl, η, s.heap, s.toks, rfl, a.inv, Step.refl _ _ _ _, a.fok, a.rho⟩
theorem TriS.next : TriS κ vs (Pure.pure .next) ρ H (.next ρ H) := fun _ η s a _ => wpAny_pure (nextS a)
theorem TriS.ret {v : V} {m : Value} (hm : (v, m) ∈ vs) : TriS κ vs (Pure.pure (.ret m)) ρ H (.ret v H) := fun _ η s a hv => wpAny_pure ⟨v, H, rfl, η, s.heap, s.toks, rfl, a.inv, Step.refl _ _ _ _, a.fok, hv _ hm⟩
theorem TriS.any {m : Sem Flow} {r : RS} (h : TriS κ [] m ρ H r) : TriS κ vs m ρ H r := fun hs η s a _ => h hs η s a fun _ q => nomatch q
noncomputable def isSt (sc : Scope) (x : Str) : Bool := match sc.names.lookup x with
  | some .local | some .cell => true
  | _ => false
theorem wpAny_store {x : String} {v : V} {mv : Value} {Q : Unit -> Shared -> Prop} {E : Value -> Shared -> Prop} (a : At κ η ρ H s) (hx : isSt κ.env.scope (Str.ofString x) = true) (hv : VR κ.X η s.heap v mv)
    (hq : ∀ h' tk, Step (frs κ.st) (ownOf κ.env) η s.heap η h' -> Inv κ.X η H h' -> Ends κ.X κ.env (setL x v ρ) η h' -> Q () { s with heap := h', toks := tk }) : wpAny κ.X.M κ.A (storeName κ.env (Str.ofString x) mv) Q E s := by
  have kind : κ.env.kindOf (Str.ofString x) = some .local \/ κ.env.kindOf (Str.ofString x) = some .cell := by
    unfold isSt at hx
    unfold Env.kindOf
    split at hx
    · exact .inl ‹_›
    · exact .inr ‹_›
    · cases hx
  have stp : ∀ {c : Addr} {h' : Heap}, c ∈ ownOf κ.env -> Heap.SameBut c s.heap h' -> (∀ o, s.heap.get? c = some o -> ∀ es n, o.data = .dict es n -> ∃ o' es' n', h'.get? c = some o' /\ o'.data = .dict es' n') ->
      (∀ o, s.heap.get? c = some o -> ∀ v, o.data = .cell v -> ∃ o' v', h'.get? c = some o' /\ o'.data = .cell v') -> Step (frs κ.st) (ownOf κ.env) η s.heap η h' := by
    intro c h' hc hsb hd1 hc1
    have alive : ∀ b o, s.heap.get? b = some o -> ∃ o', h'.get? b = some o' := by
      intro b o e
      by_cases hb : b = c
      · subst hb
        obtain ⟨o2, e2, q⟩ := a.fok.frm b hc
        rw [e] at e2; cases e2
        rcases q with ⟨es, k, d⟩ | ⟨w, d⟩
        · obtain ⟨o', _, _, e', _⟩ := hd1 o e es k d; exact ⟨o', e'⟩
        · obtain ⟨o', _, e', _⟩ := hc1 o e w d; exact ⟨o', e'⟩
      · exact ⟨o, (hsb.2 b hb).trans e⟩
    refine ⟨⟨[], by simp, fun _ q => nomatch q⟩, alive, fun b o e _ ho => ⟨o.slots, (hsb.2 b (fun q => ho (q ▸ hc))).trans e, fun _ => rfl⟩, fun b o e _ es k d => ?_, fun b o e _ w d => ?_⟩
    · by_cases hb : b = c
      · subst hb; exact hd1 o e es k d
      · exact ⟨o, es, k, (hsb.2 b hb).trans e, d⟩
    · by_cases hb : b = c
      · subst hb; exact hc1 o e w d
      · exact ⟨o, w, (hsb.2 b hb).trans e, d⟩
  have inv : ∀ {c : Addr} {h' : Heap}, c ∈ ownOf κ.env -> Heap.SameBut c s.heap h' -> Step (frs κ.st) (ownOf κ.env) η s.heap η h' -> Inv κ.X η H h' := fun hc hsb x =>
    a.inv.still x a.frm (fun b hb o e => (hsb.2 b (fun q => (a.fok.off _ hc).1 (q ▸ hb))).trans e) fun b hb => (List.mem_append.mp hb).elim (fun q => (a.fok.off b q).2) (a.stk.fresh b)
  rcases kind with hk | hk
  · obtain ⟨m, hn⟩ := a.fok.ns
    refine wpAny_storeName_local hk hn (fun h' hn' hsb => ?_) (by rw [a.fok.kind]; rfl)
    have hc : κ.env.locals ∈ ownOf κ.env := List.Mem.head _
    have x1 := stp hc hsb (fun o e es k d => by
        obtain ⟨o', es', k', e', d', _⟩ := hn'
        exact ⟨o', es', k', e', d'⟩) (fun o e w d => by
        obtain ⟨o', es', k', e', d', _⟩ := hn
        rw [e] at e'; cases e'; rw [d] at d'; cases d')
    have cel : ∀ p ∈ κ.env.cells, p.2 ≠ κ.env.locals := fun p hp q => by
      obtain ⟨o, w, e, d⟩ := a.fok.cell p hp
      obtain ⟨o', es', k', e', d', _⟩ := hn
      rw [q, e'] at e; cases e; rw [d'] at d; cases d
    refine hq h' _ x1 (inv hc hsb x1) ⟨⟨a.fok.kind, a.fok.glob, a.fok.blt, ⟨_, hn'⟩, fun p hp => ?_, a.fok.cells, a.fok.inj, a.fok.off⟩, fun y u e hy => ?_⟩
    · obtain ⟨o, w, e, d⟩ := a.fok.cell p hp
      exact ⟨o, w, (hsb.2 _ (cel p hp)).trans e, d⟩
    · rw [lookup_setL] at e
      by_cases hyx : y = x
      · subst hyx
        rw [if_pos rfl] at e; cases e
        exact ⟨mv, .inl ⟨hk, _, hn', by simp⟩, hv.step x1 a.frm⟩
      · rw [if_neg hyx] at e
        obtain ⟨mu, hh, ru⟩ := a.rho y u e hy
        refine ⟨mu, ?_, ru.step x1 a.frm⟩
        rcases hh with ⟨hk2, m2, hn2, hm2⟩ | ⟨hk2, c, o, hc2, g, d⟩
        · refine .inl ⟨hk2, _, hn', ?_⟩
          have : Str.ofString y ≠ Str.ofString x := fun q => hyx (ofString_inj q)
          rw [if_neg this]
          obtain ⟨o1, es1, k1, e1, d1, _, f1⟩ := hn
          obtain ⟨o2, es2, k2, e2, d2, _, f2⟩ := hn2
          rw [e1] at e2; cases e2; rw [d1] at d2; cases d2
          rw [<- f1, f2]; exact hm2
        · exact .inr ⟨hk2, c, o, hc2, (hsb.2 _ (cel (_, c) (lookup_mem hc2))).trans g, d⟩
  · obtain ⟨c, hc⟩ := a.fok.cells _ hk
    obtain ⟨o0, w0, e0, d0⟩ := a.fok.cell _ (lookup_mem hc)
    have hco : c ∈ ownOf κ.env := List.mem_cons.mpr (.inr (List.mem_map.mpr ⟨(Str.ofString x, c), lookup_mem hc, rfl⟩))
    refine wpAny_storeName_cell a.fok.kind hk hc ⟨o0, e0, d0⟩ fun h' hcl hsb => ?_
    have x1 := stp hco hsb (fun o e es k d => by rw [e] at e0; cases e0; rw [d] at d0; cases d0) (fun o e w d => by
      obtain ⟨o', e', d'⟩ := hcl
      exact ⟨o', _, e', d'⟩)
    have loc : κ.env.locals ≠ c := fun q => by
      obtain ⟨m, o', es', k', e', d', _⟩ := a.fok.ns
      rw [q, e0] at e'; cases e'; rw [d0] at d'; cases d'
    refine hq h' s.toks x1 (inv hco hsb x1) ⟨⟨a.fok.kind, a.fok.glob, a.fok.blt, ?_, fun p hp => ?_, a.fok.cells, a.fok.inj, a.fok.off⟩, fun y u e hy => ?_⟩
    · obtain ⟨m, hn⟩ := a.fok.ns
      exact ⟨m, hn.sameBut hsb loc⟩
    · by_cases hp2 : p.2 = c
      · obtain ⟨o', e', d'⟩ := hcl
        exact ⟨o', _, hp2 ▸ e', d'⟩
      · obtain ⟨o, w, e, d⟩ := a.fok.cell p hp
        exact ⟨o, w, (hsb.2 _ hp2).trans e, d⟩
    · rw [lookup_setL] at e
      by_cases hyx : y = x
      · subst hyx
        rw [if_pos rfl] at e; cases e
        obtain ⟨o', e', d'⟩ := hcl
        exact ⟨mv, .inr ⟨.inl hk, c, o', hc, e', d'⟩, hv.step x1 a.frm⟩
      · rw [if_neg hyx] at e
        obtain ⟨mu, hh, ru⟩ := a.rho y u e hy
        refine ⟨mu, ?_, ru.step x1 a.frm⟩
        rcases hh with ⟨hk2, m2, hn2, hm2⟩ | ⟨hk2, c2, o, hc2, g, d⟩
        · exact .inl ⟨hk2, m2, hn2.sameBut hsb loc, hm2⟩
        · have : c2 ≠ c := fun q => hyx (ofString_inj (a.fok.inj _ _ c (q ▸ hc2) hc))
          exact .inr ⟨hk2, c2, o, hc2, (hsb.2 _ this).trans g, d⟩
theorem TriS.store {x : String} {v : V} {mv : Value} {k : Unit -> Sem Flow} {r : RS} (hm : (v, mv) ∈ vs) (hx : isSt κ.env.scope (Str.ofString x) = true)
    (h : TriS κ vs (k ()) (setL x v ρ) H r) : TriS κ vs (bindName κ.env (Str.ofString x) mv >>= k) ρ H r := by
  intro hs η s a hv
  refine wpAny_bind (wpAny_bindName (wpAny_store a hx (hv _ hm) fun h' tk x1 i e => ?_))
  exact wpAny_mono (h hs η _ (a.stepS x1 i e tk) fun p hp => (hv p hp).step x1 a.frm) (fun y s2 hy => hy.after x1) fun _ _ hy => hy.after x1
theorem TriS.seq {st1 : Stmt} {rest : List Stmt} {r1 : RS} {k : Rho -> Hp -> RS} (h1 : TriS κ vs (exec st1 κ.env) ρ H r1)
    (h2 : ∀ ρ1 H1, r1 = .next ρ1 H1 -> TriS κ [] (execs rest κ.env) ρ1 H1 (k ρ1 H1)) : TriS κ vs (execs (st1 :: rest) κ.env) ρ H (r1.bind k) := by
  intro hs η s a hv
  have hs1 : r1 ≠ .stuck := by rintro rfl; exact hs rfl
  refine wpAny_execs_cons (wpAny_mono (h1 hs1 η s a hv) (fun f s1 hf => ?_) fun ev s1 hx => by obtain ⟨c, ρ', H', rfl, P⟩ := hx; exact ⟨c, ρ', H', rfl, P⟩)
  cases f with
  | next =>
    obtain ⟨ρ1, H1, rfl, η1, h', tk, rfl, i, x1, en⟩ := hf
    exact wpAny_mono (h2 ρ1 H1 rfl hs η1 _ (a.stepS x1 i en tk) fun _ q => nomatch q) (fun y s2 hy => hy.after x1) fun _ _ hy => hy.after x1
  | ret mv => obtain ⟨v, H1, rfl, P⟩ := hf; exact ⟨v, H1, rfl, P⟩
  | cont => obtain ⟨ρ1, H1, rfl, P⟩ := hf; exact ⟨ρ1, H1, rfl, P⟩
  | _ => exact hf
end
structure Soft (fr es : List Addr) (h h' : Heap) : Prop where
  same : ∀ b o, h.get? b = some o -> b ∉ es -> b ∉ fr -> h'.get? b = some o
  slots : ∀ b o, h.get? b = some o -> b ∉ es -> b ∈ fr -> ∃ sl, h'.get? b = some { o with slots := sl }
  exc : ∀ b ∈ es, ∃ o fs, h.get? b = some o /\ o.data = .fields fs /\ o.cls ≠ .type "range" /\ ∃ fs', h'.get? b = some { o with data := .fields fs' }
theorem Soft.refl (fr : List Addr) (h : Heap) : Soft fr [] h h := ⟨fun _ _ e _ _ => e, fun _ o e _ _ => ⟨o.slots, e⟩, fun _ q => nomatch q⟩
theorem Soft.more {fr es es' : List Addr} {h h' : Heap} (x : Soft fr es h h') (he : ∀ b ∈ es, b ∈ es') (hf : ∀ b ∈ es', b ∉ fr /\ ∃ o fs, h.get? b = some o /\ o.data = .fields fs /\ o.cls ≠ .type "range") : Soft fr es' h h' := by
  refine ⟨fun b o e hb hf' => x.same b o e (fun q => hb (he b q)) hf', fun b o e hb hf' => x.slots b o e (fun q => hb (he b q)) hf', fun b hb => ?_⟩
  by_cases q : b ∈ es
  · exact x.exc b q
  · obtain ⟨hn, o, fs, e, d, c⟩ := hf b hb
    exact ⟨o, fs, e, d, c, fs, by rw [x.same b o e q hn]; cases o; simp only at d; subst d; rfl⟩
theorem Soft.trans {fr es : List Addr} {h h1 h2 : Heap} (x : Soft fr es h h1) (y : Soft fr es h1 h2) : Soft fr es h h2 := by
  refine ⟨fun b o e hb hf => y.same b o (x.same b o e hb hf) hb hf, fun b o e hb hf => ?_, fun b hb => ?_⟩
  · obtain ⟨sl, e1⟩ := x.slots b o e hb hf
    obtain ⟨sl2, e2⟩ := y.slots b _ e1 hb hf
    exact ⟨sl2, e2⟩
  · obtain ⟨o, fs, e, d, c, fs', e1⟩ := x.exc b hb
    obtain ⟨o1, fs1, e2, d2, c2, fs2, e3⟩ := y.exc b hb
    rw [e1] at e2; cases e2
    exact ⟨o, fs, e, d, c, fs2, e3⟩
theorem Soft.of_slots {fr : List Addr} {h h' : Heap} (x : Heap.SlotsOnly fr h h') : Soft fr [] h h' :=
  ⟨fun b o e _ hf => (x.2.1 b hf).trans e, fun b o e _ _ => x.2.2 b o e, fun _ q => nomatch q⟩
theorem Soft.push (fr : List Addr) (h : Heap) (o : Obj) : Soft fr [] h (h.push o) := ⟨fun b o' e _ _ => push_keeps h o b o' e, fun b o' e _ _ => ⟨o'.slots, push_keeps h o b o' e⟩, fun _ q => nomatch q⟩
theorem Soft.field {fr : List Addr} {h : Heap} {a : Addr} {o : Obj} {fs : Array Value} (e : h.get? a = some o) (d : o.data = .fields fs) (c : o.cls ≠ .type "range") (f : Array Value -> Array Value) : Soft fr [a] h (h.update a (Obj.mapFields f)) := by
  have ne : ∀ b, b ∉ [a] -> (h.update a (Obj.mapFields f)).get? b = h.get? b := fun b hb => Heap.get?_update_other _ _ (fun q => hb (by rw [q]; exact List.Mem.head _))
  refine ⟨fun b o' e' hb _ => (ne b hb).trans e', fun b o' e' hb _ => ⟨o'.slots, (ne b hb).trans e'⟩, fun b hb => ?_⟩
  rw [List.mem_singleton] at hb; subst hb
  refine ⟨o, fs, e, d, c, f fs, ?_⟩
  rw [Heap.get?_update_self _ e (Obj.isFreed_of_fields (Obj.data_mapFields d f))]
  obtain ⟨oc, od, dt, sl⟩ := o
  simp only at d; subst d; rfl
section
variable {X : Cx} {fr es η : List Addr} {h h' : Heap} {H : Hp}
theorem Soft.alive (x : Soft fr es h h') : ∀ b o, h.get? b = some o -> ∃ o', h'.get? b = some o' := fun b o e => by
  by_cases h1 : b ∈ es
  · obtain ⟨_, _, _, _, _, _, q⟩ := x.exc b h1; exact ⟨_, q⟩
  · by_cases h2 : b ∈ fr
    · obtain ⟨_, q⟩ := x.slots b o e h1 h2; exact ⟨_, q⟩
    · exact ⟨o, x.same b o e h1 h2⟩
theorem Soft.not_es (x : Soft fr es h h') {b : Addr} {o : Obj} (e : h.get? b = some o) (hd : ∀ fs, o.data ≠ .fields fs) : b ∉ es := fun q => by
  obtain ⟨o', fs, e', d, _⟩ := x.exc b q
  rw [e] at e'; cases e'; exact hd fs d
theorem Soft.holds (x : Soft fr es h h') (f : Frm h fr) : Holds η h η h' := by
  refine ⟨fun a o e hn hs => ⟨x.same a o e (fun q => ?_) (f.not e ?_), hn⟩⟩
  · obtain ⟨o', fs, e', d, c, _⟩ := x.exc a q
    rw [e] at e'; cases e'
    rcases hs with ⟨xs, n, d'⟩ | ⟨c', _⟩
    · rw [d] at d'; cases d'
    · exact c c'
  · rcases hs with ⟨xs, n, d⟩ | ⟨_, fs, d⟩ <;> rw [d] <;> exact ⟨fun _ _ q => (nomatch q), fun _ q => (nomatch q)⟩
theorem Soft.vr (x : Soft fr es h h') (f : Frm h fr) {v : V} {m : Value} (r : VR X η h v m) : VR X η h' v m := r.map ⟨[], (List.append_nil _).symm⟩ (x.holds f)
theorem Soft.inv (x : Soft fr es h h') (f : Frm h fr) (i : Inv X η H h) (hb : ∀ b ∈ es, X.base.get? b = Option.none) (hfb : ∀ b ∈ fr, X.base.get? b = Option.none) (hη : ∀ b ∈ fr, b ∉ η) : Inv X η H h' := by
  refine ⟨fun b o e => x.same b o (i.keep b o e) (fun q => by rw [hb b q] at e; cases e) (fun q => by rw [hfb b q] at e; cases e), i.len, i.fresh, i.nodup, fun n a o ha ho => ?_⟩
  obtain ⟨ob, e, r⟩ := i.objs n a o ha ho
  refine ⟨ob, x.same a ob e (x.not_es e fun fs q => ?_) (fun q => hη a q (List.mem_of_getElem? ha)), r.map ⟨[], (List.append_nil _).symm⟩ (x.holds f)⟩
  cases r with
  | keys d _ _ => obtain ⟨_, _, _, hd, _⟩ := d; rw [q] at hd; cases hd
  | _ => cases q
theorem Soft.step {own η0 : List Addr} {h0 : Heap} (x : Soft fr es h h') (f : Frm h fr) (s : Step fr own η0 h0 η h) (hes : ∀ b ∈ es, h0.get? b = Option.none) : Step fr own η0 h0 η h' := by
  have ne : ∀ b o, h0.get? b = some o -> b ∉ es := fun b o e q => by rw [hes b q] at e; cases e
  have kd : ∀ b o, h.get? b = some o -> b ∉ es -> ∃ sl, h'.get? b = some { o with slots := sl } := fun b o e hb => by
    by_cases h2 : b ∈ fr
    · exact x.slots b o e hb h2
    · exact ⟨o.slots, x.same b o e hb h2⟩
  refine ⟨s.pre, fun b o e => let ⟨o1, e1⟩ := s.alive b o e; x.alive b o1 e1, fun b o e hb ho => ?_, fun b o e hb es' k d => ?_, fun b o e hb v d => ?_⟩
  · obtain ⟨sl, e1, q⟩ := s.data b o e hb ho
    by_cases hf : b ∈ fr
    · obtain ⟨sl2, e2⟩ := x.slots b _ e1 (ne b o e) hf
      exact ⟨sl2, e2, fun z => absurd hf z⟩
    · exact ⟨sl, x.same b _ e1 (ne b o e) hf, q⟩
  · obtain ⟨o1, es1, k1, e1, d1⟩ := s.dicts b o e hb es' k d
    obtain ⟨sl, e2⟩ := kd b o1 e1 (ne b o e)
    exact ⟨_, es1, k1, e2, d1⟩
  · obtain ⟨o1, v1, e1, d1⟩ := s.cells b o e hb v d
    obtain ⟨sl, e2⟩ := kd b o1 e1 (ne b o e)
    exact ⟨_, v1, e2, d1⟩
theorem Soft.frm {l : List Addr} (x : Soft fr es h h') (f : Frm h l) : Frm h' l := by
  intro b hb
  obtain ⟨o, e, q⟩ := f b hb
  have hn : b ∉ es := x.not_es e fun fs z => by rcases q with ⟨_, _, q⟩ | ⟨_, q⟩ <;> (rw [z] at q; cases q)
  by_cases h2 : b ∈ fr
  · obtain ⟨sl, e2⟩ := x.slots b o e hn h2
    exact ⟨_, e2, q⟩
  · exact ⟨o, x.same b o e hn h2, q⟩
theorem Soft.data (x : Soft fr es h h') {b : Addr} {o : Obj} (e : h.get? b = some o) (hn : ∀ fs, o.data ≠ .fields fs) : ∃ sl, h'.get? b = some { o with slots := sl } := by
  have hb := x.not_es e hn
  by_cases h2 : b ∈ fr
  · exact x.slots b o e hb h2
  · exact ⟨o.slots, x.same b o e hb h2⟩
theorem Soft.ends {env : Env} {ρ : Rho} (x : Soft fr es h h') (f : Frm h fr) (e : Ends X env ρ η h) : Ends X env ρ η h' := by
  have ns : ∀ {m : Str -> Option Value}, h.Ns env.locals m -> h'.Ns env.locals m := fun {m} ⟨o, es, ep, e, d, r⟩ => by
    obtain ⟨sl, e'⟩ := x.data e (fun fs q => by rw [d] at q; cases q)
    exact ⟨_, es, ep, e', d, r⟩
  have cl : ∀ {c : Addr} {o : Obj} {v : Option Value}, h.get? c = some o -> o.data = .cell v -> ∃ o', h'.get? c = some o' /\ o'.data = .cell v := fun {c o v} e d => by
    obtain ⟨sl, e'⟩ := x.data e (fun fs q => by rw [d] at q; cases q)
    exact ⟨_, e', d⟩
  obtain ⟨fo, ro⟩ := e
  refine ⟨⟨fo.kind, fo.glob, fo.blt, let ⟨m, hn⟩ := fo.ns; ⟨m, ns hn⟩, fun p hp => let ⟨o, v, e, d⟩ := fo.cell p hp; let ⟨o', e', d'⟩ := cl e d; ⟨o', v, e', d'⟩, fo.cells, fo.inj, fo.off⟩, fun y v ey hy => ?_⟩
  obtain ⟨mv, hh, r⟩ := ro y v ey hy
  refine ⟨mv, ?_, x.vr f r⟩
  rcases hh with ⟨hk, m, hn, hm⟩ | ⟨hk, c, o, hc, g, d⟩
  · exact .inl ⟨hk, m, ns hn, hm⟩
  · obtain ⟨o', e', d'⟩ := cl g d
    exact .inr ⟨hk, c, o', hc, e', d'⟩
theorem Soft.stk {A : Around} {st : List Env} (x : Soft (frs st) es h h') (k : Stk X η A st h) : Stk X η A st h' :=
  ⟨k.frames, k.ok.of_keeps fun b o e hn => let ⟨sl, e'⟩ := x.data e hn; ⟨_, e', rfl⟩, k.off, x.frm k.frm⟩
end
theorem dict_mapFields (f : Array Value -> Array Value) (o : Obj) : (Obj.mapFields f o).dict = o.dict := by
  unfold Obj.mapFields; split <;> rfl
inductive TracedX (X : Cx) (h0 : Heap) (e : Addr) (c : String) (T : Addr) (fl : Value) (η : List Addr) (h : Heap) : Prop
  | mk (oe : Obj) (vs : Array Value) (C : Addr) (oT : Obj) (ts : Array Value) (q1 : h.get? e = some oe) (q2 : ExCls X c C) (q3 : ObjCls oe C) (q4 : oe.data = .fields vs) (q5 : e ∉ η) (q6 : h0.get? e = Option.none) (q7 : 4 < vs.size)
    (q8 : vs[1]? = some (.ref T)) (q9 : T ≠ e) (q10 : h.get? T = some oT) (q11 : oT.cls = .type "traceback") (q12 : oT.data = .fields ts) (q13 : T ∉ η) (q14 : h0.get? T = Option.none) (q15 : ts[3]? = some fl) : TracedX X h0 e c T fl η h
theorem TracedX.exc {X : Cx} {st : List Env} {h0 h : Heap} {e T : Addr} {c : String} {fl : Value} {η : List Addr} (x : TracedX X h0 e c T fl η h) (hf : fl = .none \/ ∃ L, (frs st).head? = some L /\ fl = rawInt L) : ExcAt X st h0 (.ref e) c η h := by
  obtain ⟨oe, vs, C, oT, ts, q1, q2, q3, q4, q5, q6, q7, q8, q9, q10, q11, q12, q13, q14, q15⟩ := x
  exact ⟨e, oe, vs, C, rfl, q1, q2, q3, q4, q5, q6, q7, .inr ⟨T, oT, ts, fl, q8, q9, q10, q11, q12, q13, q14, q15, hf⟩⟩
section
variable {X : Cx} {A : Around} {env : Env} {outer : List Env} {η : List Addr} {s : Shared} {h0 : Heap} {ev : Value} {c : String} {L : Addr}
theorem wpAny_note {E : Value -> Shared -> Prop} {Q : Unit -> Shared -> Prop} (hf : env.frame = some L) (k : Stk X η A (env :: outer) s.heap) (hη : ∀ a ∈ η, ∃ o, s.heap.get? a = some o) (x : ExcAt X (env :: outer) h0 ev c η s.heap)
    (h0k : ∀ b o, h0.get? b = some o -> ∃ o', s.heap.get? b = some o')
    (hq : ∀ h' e T es, ev = .ref e -> Soft (frs (env :: outer)) es s.heap h' -> (∀ b ∈ es, h0.get? b = Option.none) -> TracedX X h0 e c T (rawInt L) η h' -> Q () { s with heap := h' }) : wpAny X.M A (noteFrame ev env) Q E s := by
  obtain ⟨e, oe, vs, C, rfl, ge, hC, ce, de, ne, fe, sz, hx⟩ := x
  have hL : (frs (env :: outer)).head? = some L := by unfold frs; rw [List.filterMap_cons, hf]; rfl
  have efr : e ∉ frs (env :: outer) := k.frm.not ge ⟨fun es n q => (by rw [de] at q; cases q), fun v q => (by rw [de] at q; cases q)⟩
  have cer : oe.cls ≠ .type "range" := by rw [ce.1]; intro q; cases q
  -- a new entry
  have entry : ∀ (s1 : Shared) (head : Value) (hadNext : Bool) (es : List Addr) (oe1 : Obj) (vs1 : Array Value), s1 = { s with heap := s1.heap } -> Soft (frs (env :: outer)) es s.heap s1.heap -> (∀ b ∈ es, h0.get? b = Option.none /\ b ∉ frs (env :: outer)) -> s1.heap.get? e = some oe1 -> oe1.cls = oe.cls /\ oe1.dict = oe.dict -> oe1.data = .fields vs1 -> vs1.size = vs.size ->
      wpAny X.M A (do let a <- frameOf env; let pl <- entryPlaceOf L hadNext; let b <- EntryCells.newEntry head a .none (rawInt L) .none pl; setField (.ref e) 1 b) Q E s1 := by
    intro s1 head hadNext es oe1 vs1 hs1 sf hes ge1 ce1 de1 sz1
    have k1 := sf.stk k
    refine wpAny_bind (wpAny_frameOf_fun k1.frames k1.ok hf fun h₁ hs₁ => ?_)
    refine wpAny_bind (wpAny_entryPlaceOf fun pl hpl => ?_)
    unfold EntryCells.newEntry newFields
    refine wpAny_bind (wpAny_newObj_type ?_ (hpl.sizeOk5 _ _ _ _ _))
    have he₁ : h₁.get? e = some oe1 := (hs₁.2.1 e efr).trans ge1
    generalize hob : ({ cls := .type "traceback", dict := none, data := .fields ([head, .ref L, .none, rawInt L, .none] ++ (if pl.isEmpty then List.replicate 6 Value.none else pl)).toArray } : Obj) = ob
    have he₂ := Heap.get?_push_of_some (h := h₁) ob he₁
    refine wpAny_setField he₂ de1 (by omega) ?_
    have hTe : h₁.objs.size ≠ e := Nat.ne_of_gt (Heap.lt_size he₁)
    have free : ob.isFreed = false := by subst hob; rfl
    have sf2 : Soft (frs (env :: outer)) [e] s1.heap ((h₁.push ob).update e (Obj.mapFields (·.setIfInBounds 1 (.ref h₁.objs.size)))) := by
      have a1 := (Soft.of_slots hs₁).more (es' := [e]) (fun _ q => nomatch q) (fun b hb => by rw [List.mem_singleton] at hb; subst hb; exact ⟨efr, oe1, vs1, ge1, de1, by rw [ce1.1]; exact cer⟩)
      have a2 := (Soft.push (frs (env :: outer)) h₁ ob).more (es' := [e]) (fun _ q => nomatch q) (fun b hb => by rw [List.mem_singleton] at hb; subst hb; exact ⟨efr, oe1, vs1, he₁, de1, by rw [ce1.1]; exact cer⟩)
      exact (a1.trans a2).trans (Soft.field he₂ de1 (by rw [ce1.1]; exact cer) _)
    have alive1 : ∀ b o, s.heap.get? b = some o -> ∃ o', h₁.get? b = some o' := fun b o q => by
      obtain ⟨o1, q1⟩ := sf.alive b o q
      obtain ⟨sl, q2⟩ := hs₁.2.2 b o1 q1
      exact ⟨_, q2⟩
    have Tnew : ∀ b o, s.heap.get? b = some o -> h₁.objs.size ≠ b := fun b o q => by
      obtain ⟨o', q'⟩ := alive1 b o q
      exact Nat.ne_of_gt (Heap.lt_size q')
    have comb : Soft (frs (env :: outer)) (e :: es) s.heap ((h₁.push ob).update e (Obj.mapFields (·.setIfInBounds 1 (.ref h₁.objs.size)))) := by
      have q0 : ∀ b ∈ e :: es, b ∉ frs (env :: outer) /\ ∃ o fs, s.heap.get? b = some o /\ o.data = .fields fs /\ o.cls ≠ .type "range" := fun b hb => by
        rcases List.mem_cons.mp hb with rfl | hb
        · exact ⟨efr, oe, vs, ge, de, cer⟩
        · obtain ⟨o, fs, g, d, cc, _⟩ := sf.exc b hb
          exact ⟨(hes b hb).2, o, fs, g, d, cc⟩
      have q1 : ∀ b ∈ e :: es, b ∉ frs (env :: outer) /\ ∃ o fs, s1.heap.get? b = some o /\ o.data = .fields fs /\ o.cls ≠ .type "range" := fun b hb => by
        rcases List.mem_cons.mp hb with rfl | hb
        · exact ⟨efr, oe1, vs1, ge1, de1, by rw [ce1.1]; exact cer⟩
        · obtain ⟨o, fs, g, d, cc, fs', g'⟩ := sf.exc b hb
          exact ⟨(hes b hb).2, _, fs', g', rfl, cc⟩
      exact (sf.more (fun b hb => List.mem_cons.mpr (.inr hb)) q0).trans (sf2.more (fun b hb => by rw [List.mem_singleton] at hb; subst hb; exact List.Mem.head _) q1)
    rw [hs1]
    refine hq _ e h₁.objs.size (e :: es) rfl comb (fun b hb => ?_) ?_
    · rcases List.mem_cons.mp hb with rfl | hb
      · exact fe
      · exact (hes b hb).1
    · refine ⟨_, _, C, ob, _, Heap.get?_update_self _ he₂ (Obj.isFreed_of_fields (Obj.data_mapFields de1 _)), hC, ⟨(Obj.cls_mapFields _ _).trans (ce1.1.trans ce.1), (dict_mapFields _ _).trans (ce1.2.trans ce.2)⟩, Obj.data_mapFields de1 _, ne, fe, ?_, ?_, hTe, ?_, by subst hob; rfl, by subst hob; rfl, ?_, ?_, rfl⟩
      · rw [Array.size_setIfInBounds, sz1]; exact sz
      · rw [Array.getElem?_setIfInBounds_self_of_lt (by omega)]
      · exact (Heap.get?_update_other _ _ (Ne.symm hTe)).trans (Heap.get?_push_size _ free)
      · intro q
        obtain ⟨o, g⟩ := hη _ q
        exact Tnew _ o g rfl
      · cases g : h0.get? h₁.objs.size with
        | none => rfl
        | some o => obtain ⟨o', g'⟩ := h0k _ o g; exact absurd rfl (Tnew _ o' g')
  unfold noteFrame
  simp only [hf]
  rcases hx with h1 | ⟨T, oT, ts, fl, h1, hTe, gT, cT, dT, nT, fT, h3, hfl⟩
  · refine wpAny_bind (wpAny_field ge de h1 ?_)
    rw [if_neg (by decide)]
    exact entry s .none false [] oe vs rfl ((Soft.refl _ _)) (fun _ q => nomatch q) ge ⟨rfl, rfl⟩ de rfl
  · refine wpAny_bind (wpAny_field ge de h1 ?_)
    rw [if_pos (show (Value.ref T != Value.none) = true from by simp)]
    refine wpAny_bind (wpAny_field gT dT h3 ?_)
    rcases hfl with rfl | ⟨L', hL', rfl⟩
    · rw [if_neg (show ¬ ((Value.none == rawInt L) = true) from by simp [rawInt])]
      have tfr : T ∉ frs (env :: outer) := k.frm.not gT ⟨fun es n q => (by rw [dT] at q; cases q), fun v q => (by rw [dT] at q; cases q)⟩
      have cTr : oT.cls ≠ .type "range" := by rw [cT]; decide
      refine wpAny_bind (wpAny_setField gT dT (Array.getElem?_eq_some_iff.mp h3).1 ?_)
      refine entry { s with heap := s.heap.update T (Obj.mapFields (·.setIfInBounds 3 .none)) } (.ref T) true [T] oe vs rfl (Soft.field gT dT cTr _) (fun b hb => ?_) ((Heap.get?_update_other _ _ hTe).trans ge) ⟨rfl, rfl⟩ de rfl
      rw [List.mem_singleton] at hb; subst hb
      exact ⟨fT, tfr⟩
    · rw [hL] at hL'; cases hL'
      rw [if_pos (show (rawInt L == rawInt L) = true from by first | (simp; done) | exact beq_self_eq_true _)]
      refine wpAny_pure ?_
      have := hq s.heap e T [] rfl (Soft.refl _ _) (fun _ q => nomatch q) ⟨oe, vs, C, oT, ts, ge, hC, ce, de, ne, fe, sz, h1, hTe, gT, cT, dT, nT, fT, h3⟩
      exact this
end
section
variable {X : Cx}
theorem wpAny_land {A : Around} {env : Env} {outer : List Env} {η : List Addr} {s : Shared} {h0 : Heap} {ev : Value} {c : String} {L : Addr} {H : Hp} {E : Value -> Shared -> Prop} {Q : Unit -> Shared -> Prop} (hf : env.frame = some L)
    (k : Stk X η A (env :: outer) s.heap) (i : Inv X η H s.heap) (x : ExcAt X (env :: outer) h0 ev c η s.heap) (h0k : ∀ b o, h0.get? b = some o -> ∃ o', s.heap.get? b = some o') (hb0 : ∀ b o, X.base.get? b = some o -> ∃ o', h0.get? b = some o')
    (hq : ∀ h' es e T, ev = .ref e -> Soft (frs (env :: outer)) es s.heap h' -> (∀ b ∈ es, h0.get? b = Option.none) -> Inv X η H h' -> TracedX X h0 e c T .none η h' -> Q () { s with heap := h' }) : wpAny X.M A (noteFrame ev env) (fun _ s₂ => wpAny X.M A (setFlight ev Option.none) Q E s₂) E s := by
  refine (wpAny_note hf k (fun a ha => i.alive ha) x h0k fun h' e T es hev sf hes tr => ?_)
  subst hev
  obtain ⟨oe, vs, C, oT, ts, q1, q2, q3, q4, q5, q6, q7, q8, q9, q10, q11, q12, q13, q14, q15⟩ := tr
  have hb : ∀ b, h0.get? b = Option.none -> X.base.get? b = Option.none := fun b q => by
    cases g : X.base.get? b with
    | none => rfl
    | some o => obtain ⟨o', g'⟩ := hb0 b o g; rw [q] at g'; cases g'
  have k1 := sf.stk k
  have i1 := sf.inv k.frm i (fun b q => hb b (hes b q)) k.fresh k.off
  have szT := (Array.getElem?_eq_some_iff.mp q15).1
  refine wpAny_setFlight_none (s := { s with heap := h' }) q1 q4 q8 q10 q12 szT ?_
  have sf2 : Soft (frs (env :: outer)) [T] h' (h'.update T (Obj.mapFields (·.setIfInBounds 3 .none))) := Soft.field q10 q12 (by rw [q11]; decide) _
  have i2 := sf2.inv k1.frm i1 (fun b q => by rw [List.mem_singleton] at q; subst q; exact hb _ q14) (Stk.fresh (s := { s with heap := h' }) k1) k1.off
  have tfr : T ∉ frs (env :: outer) := k1.frm.not q10 ⟨fun es n q => (by rw [q12] at q; cases q), fun v q => (by rw [q12] at q; cases q)⟩
  -- T may be new since s: the two together
  refine hq _ (es.filter (fun b => b != T) ++ (if (s.heap.get? T).isSome then [T] else [])) e T rfl ?_ (fun b hb' => ?_) i2 ?_
  · have other : ∀ b, b ≠ T -> (h'.update T (Obj.mapFields (·.setIfInBounds 3 .none))).get? b = h'.get? b := fun b hbT => Heap.get?_update_other _ _ (Ne.symm hbT)
    have memT : ∀ o, s.heap.get? T = some o -> T ∈ (es.filter (fun b => b != T) ++ (if (s.heap.get? T).isSome then [T] else [])) := fun o g => by rw [g]; exact m0
    have mem : ∀ b, b ≠ T -> (b ∈ (es.filter (fun b => b != T) ++ (if (s.heap.get? T).isSome then [T] else [])) ↔ b ∈ es) := fun b hbT => by
      rw [List.mem_append, List.mem_filter]
      constructor
      · rintro (⟨h1, _⟩ | h1)
        · exact h1
        · split at h1
          · rw [List.mem_singleton] at h1; exact absurd h1 hbT
          · cases h1
      · exact fun h1 => .inl ⟨h1, by simpa using hbT⟩
    refine ⟨fun b o g hb1 hb2 => ?_, fun b o g hb1 hb2 => ?_, fun b hb1 => ?_⟩
    · have hbT : b ≠ T := fun q => hb1 (q ▸ memT o (q ▸ g))
      rw [other b hbT]
      exact sf.same b o g (fun q => hb1 ((mem b hbT).mpr q)) hb2
    · have hbT : b ≠ T := fun q => hb1 (q ▸ memT o (q ▸ g))
      rw [other b hbT]
      exact sf.slots b o g (fun q => hb1 ((mem b hbT).mpr q)) hb2
    · by_cases hbT : b = T
      · subst hbT
        have sT : (s.heap.get? b).isSome = true := by
          rw [List.mem_append, List.mem_filter] at hb1
          rcases hb1 with ⟨_, h1⟩ | h1
          · simp at h1
          · split at h1
            · assumption
            · cases h1
        obtain ⟨o, g⟩ := Option.isSome_iff_exists.mp sT
        by_cases hbe : b ∈ es
        · obtain ⟨o1, fs, g1, d1, c1, fs', g2⟩ := sf.exc b hbe
          refine ⟨o1, fs, g1, d1, c1, fs'.setIfInBounds 3 .none, ?_⟩
          rw [Heap.get?_update_self _ g2 rfl]; rfl
        · have g2 := sf.same b o g hbe tfr
          rw [q10] at g2; cases g2
          refine ⟨oT, ts, g, q12, by rw [q11]; decide, ts.setIfInBounds 3 .none, ?_⟩
          rw [Heap.get?_update_self _ q10 (Obj.isFreed_of_fields (Obj.data_mapFields q12 _))]
          obtain ⟨oc, od, dt, sl⟩ := oT
          simp only at q12; subst q12; rfl
      · rw [other b hbT]
        exact sf.exc b ((mem b hbT).mp hb1)
  · rw [List.mem_append, List.mem_filter] at hb'
    rcases hb' with ⟨h1, _⟩ | h1
    · exact hes b h1
    · split at h1
      · rw [List.mem_singleton] at h1; subst h1; exact q14
      · cases h1
  · refine ⟨oe, vs, C, oT.mapFields (·.setIfInBounds 3 .none), ts.setIfInBounds 3 .none, (Heap.get?_update_other _ _ q9).trans q1, q2, q3, q4, q5, q6, q7, q8, q9, Heap.get?_update_self _ q10 (Obj.isFreed_of_fields (Obj.data_mapFields q12 _)),
      (Obj.cls_mapFields _ _).trans q11, Obj.data_mapFields q12 _, q13, q14, ?_⟩
    rw [Array.getElem?_setIfInBounds_self_of_lt szT]
theorem upd_same {h : Heap} {T : Addr} {oT : Obj} {ts : Array Value} {v : Value} (q10 : h.get? T = some oT) (q12 : oT.data = .fields ts) (q15 : ts[3]? = some v) (b : Addr) : (h.update T (Obj.mapFields (·.setIfInBounds 3 v))).get? b = h.get? b := by
  by_cases hb : b = T
  · rw [hb, Heap.get?_update_self _ q10 (Obj.isFreed_of_fields (Obj.data_mapFields q12 _)), q10]
    obtain ⟨oc, od, dt, sl⟩ := oT
    simp only at q12; subst q12
    have : ts.setIfInBounds 3 v = ts := by
      apply Array.ext
      · simp
      · intro i h1 h2
        rw [Array.getElem_setIfInBounds]
        split
        · rename_i h; subst h; exact (Array.getElem?_eq_some_iff.mp q15).2.symm
        · rfl
    exact congrArg some (show ({ cls := oc, dict := od, data := .fields (ts.setIfInBounds 3 v), slots := sl } : Obj) = _ by rw [this])
  · exact Heap.get?_update_other _ _ (Ne.symm hb)
theorem wpAny_land2 {A : Around} {η : List Addr} {s : Shared} {h0 : Heap} {e T : Addr} {c : String} {E : Value -> Shared -> Prop} {Q : Unit -> Shared -> Prop} (tr : TracedX X h0 e c T .none η s.heap)
    (hq : ∀ h', (∀ b, h'.get? b = s.heap.get? b) -> Q () { s with heap := h' }) : wpAny X.M A (setFlight (.ref e) Option.none) Q E s := by
  obtain ⟨oe, vs, C, oT, ts, q1, q2, q3, q4, q5, q6, q7, q8, q9, q10, q11, q12, q13, q14, q15⟩ := tr
  have szT := (Array.getElem?_eq_some_iff.mp q15).1
  exact wpAny_setFlight_none q1 q4 q8 q10 q12 szT (hq _ (upd_same q10 q12 q15))
theorem wpAny_passOn {α : Type} {A : Around} {env : Env} {outer : List Env} {η : List Addr} {s : Shared} {h0 : Heap} {e T L : Addr} {c : String} {H : Hp} {what : String} {E : Value -> Shared -> Prop} {Q : α -> Shared -> Prop} (hf : env.frame = some L) (tr : TracedX X h0 e c T .none η s.heap)
    (hq : ∀ h', Soft (frs (env :: outer)) [T] s.heap h' -> h0.get? T = Option.none -> ExcAt X (env :: outer) h0 (.ref e) c η h' -> E (.ref e) { s with heap := h' }) : wpAny X.M A (PySem.passOn what (.ref e) env) Q E s := by
  obtain ⟨oe, vs, C, oT, ts, q1, q2, q3, q4, q5, q6, q7, q8, q9, q10, q11, q12, q13, q14, q15⟩ := tr
  have szT := (Array.getElem?_eq_some_iff.mp q15).1
  have hL : (frs (env :: outer)).head? = some L := by unfold frs; rw [List.filterMap_cons, hf]; rfl
  unfold PySem.passOn
  refine wpAny_bind (wpAny_field q1 q4 q8 ?_)
  rw [if_neg (show ¬ ((Value.ref T == Value.none) = true) from by simp)]
  unfold setFlight
  refine wpAny_bind (wpAny_bind (wpAny_field q1 q4 q8 ?_))
  rw [if_pos (show (Value.ref T != Value.none) = true from by simp), hf]
  refine wpAny_setField q10 q12 szT (wpAny_throw ?_)
  refine hq _ (Soft.field q10 q12 (by rw [q11]; decide) _) q14 ?_
  refine TracedX.exc (T := T) (fl := rawInt L) ⟨oe, vs, C, oT.mapFields (·.setIfInBounds 3 (rawInt L)), ts.setIfInBounds 3 (rawInt L), (Heap.get?_update_other _ _ q9).trans q1, q2, q3, q4, q5, q6, q7, q8, q9, Heap.get?_update_self _ q10 (Obj.isFreed_of_fields (Obj.data_mapFields q12 _)),
      (Obj.cls_mapFields _ _).trans q11, Obj.data_mapFields q12 _, q13, q14, ?_⟩ (.inr ⟨L, hL, rfl⟩)
  rw [Array.getElem?_setIfInBounds_self_of_lt szT]
end
theorem Soft.alike {fr es : List Addr} {h h1 h2 : Heap} (x : Soft fr es h h1) (e : ∀ b, h2.get? b = h1.get? b) : Soft fr es h h2 :=
  ⟨fun b o g hb hf => (e b).trans (x.same b o g hb hf), fun b o g hb hf => let ⟨sl, q⟩ := x.slots b o g hb hf; ⟨sl, (e b).trans q⟩,
    fun b hb => let ⟨o, fs, g, d, c, fs', q⟩ := x.exc b hb; ⟨o, fs, g, d, c, fs', (e b).trans q⟩⟩
section
variable {X : Cx} {A : Around} {env : Env} {outer : List Env} {L : Addr}
theorem noted_back {η : List Addr} {s : Shared} {h0 : Heap} {ev : Value} {c : String} {H : Hp} {E : Value -> Shared -> Prop} (hf : env.frame = some L) (k : Stk X η A (env :: outer) s.heap) (i : Inv X η H s.heap) (x : ExcAt X (env :: outer) h0 ev c η s.heap)
    (h0k : ∀ b o, h0.get? b = some o -> ∃ o', s.heap.get? b = some o') (hb0 : ∀ b o, X.base.get? b = some o -> ∃ o', h0.get? b = some o')
    (hq : ∀ h' es, Soft (frs (env :: outer)) es s.heap h' -> (∀ b ∈ es, h0.get? b = Option.none) -> Inv X η H h' -> ExcAt X (env :: outer) h0 ev c η h' -> E ev { s with heap := h' }) : notedBy X.M A env (cameBackBy X.M A env E) ev s := by
  unfold notedBy
  refine wpAny_note hf k (fun a ha => i.alive ha) x h0k fun h' e T es hev sf hes tr => ?_
  subst hev
  have tr0 := tr
  obtain ⟨oe, vs, C, oT, ts, q1, q2, q3, q4, q5, q6, q7, q8, q9, q10, q11, q12, q13, q14, q15⟩ := tr
  have szT := (Array.getElem?_eq_some_iff.mp q15).1
  have hL : (frs (env :: outer)).head? = some L := by unfold frs; rw [List.filterMap_cons, hf]; rfl
  have hb : ∀ b, h0.get? b = Option.none -> X.base.get? b = Option.none := fun b q => by
    cases g : X.base.get? b with
    | none => rfl
    | some o => obtain ⟨o', g'⟩ := hb0 b o g; rw [q] at g'; cases g'
  unfold cameBackBy
  refine wpAny_bind (wpAny_field q1 q4 q8 ?_)
  rw [if_neg (show ¬ ((Value.ref T == Value.none) = true) from by simp)]
  unfold setFlight
  refine wpAny_bind (wpAny_field q1 q4 q8 ?_)
  rw [if_pos (show (Value.ref T != Value.none) = true from by simp), hf]
  have same := upd_same q10 q12 q15
  refine wpAny_setField q10 q12 szT (hq _ es (sf.alike same) hes ?_ ?_)
  · exact (sf.alike same).inv k.frm i (fun b q => hb b (hes b q)) k.fresh k.off
  · refine TracedX.exc (T := T) (fl := rawInt L) ⟨oe, vs, C, oT, ts, (same e).trans q1, q2, q3, q4, q5, q6, q7, q8, q9, (same T).trans q10, q11, q12, q13, q14, q15⟩ (.inr ⟨L, hL, rfl⟩)
end
noncomputable def noComp : Expr -> Bool
  | .ListComp .. => false
  | .SetComp .. => false
  | .DictComp .. => false
  | _ => true
theorem swaps_no {e : Expr} {t : Option Expr} {l : Nat} {env : Env} (h : noComp e = true) : swapsWith e t l env = pure false := by
  cases e <;> first | rfl | cases h
noncomputable def sName (sc : Scope) (x : String) (e : Expr) : Bool := onName e fun id _ => id == Str.ofString x && isSt sc id
noncomputable def sNames (sc : Scope) : List String -> List Expr -> Bool
  | [], es => es.isEmpty
  | x :: xs, es => match es with
    | e :: es => sName sc x e && sNames sc xs es
    | [] => false
theorem sName_inv {sc : Scope} {x : String} {e : Expr} (h : sName sc x e = true) : ∃ pos, e = .Name (Str.ofString x) pos /\ isSt sc (Str.ofString x) = true := by
  obtain ⟨id, pos, rfl, q⟩ := onName_inv h
  rw [Bool.and_eq_true, beq_iff_eq] at q
  obtain ⟨rfl, q⟩ := q
  exact ⟨pos, rfl, q⟩
section
variable {κ : Ct} {env : Env} {η : List Addr} {ρ ρ' : Rho} {H : Hp} {s : Shared}
theorem stores_ok {Q : Unit -> Shared -> Prop} {E : Value -> Shared -> Prop} : ∀ (xs : List String) (es : List Expr) (ws : List V) (ms : List Value) (ρ : Rho) (s : Shared), sNames κ.env.scope xs es = true -> setAll xs ws ρ = some ρ' -> VRs κ.X η s.heap ws ms -> At κ η ρ H s ->
    (∀ h' tk, Step (frs κ.st) (ownOf κ.env) η s.heap η h' -> Inv κ.X η H h' -> Ends κ.X κ.env ρ' η h' -> Q () { s with heap := h', toks := tk }) -> wpAny κ.X.M κ.A (assignInOrder ((assignEach es κ.env).map (·.2)) ms) Q E s
  | [], es, ws, ms, ρ, s, h1, h2, h3, a, hq => by
    cases es with
    | cons => cases h1
    | nil =>
      cases ws with
      | cons => cases h2
      | nil => cases h2; exact wpAny_pure (hq s.heap s.toks (Step.refl _ _ _ _) a.inv ⟨a.fok, a.rho⟩)
  | x :: xs, es, ws, ms, ρ, s, h1, h2, h3, a, hq => by
    cases es with
    | nil => cases h1
    | cons e es =>
      have h1 := and_inv (show (sName κ.env.scope x e && sNames κ.env.scope xs es) = true from h1)
      obtain ⟨pos, rfl, hx⟩ := sName_inv h1.1
      cases h3 with
      | nil => cases h2
      | cons r rs =>
        rename_i v vs m ms
        show wpAny κ.X.M κ.A (PySem.holding ms (assign (.Name (Str.ofString x) pos) κ.env m) >>= fun _ => assignInOrder ((assignEach es κ.env).map (·.2)) ms) Q E s
        refine wpAny_bind (wpAny_holding (wpAny_assign_Name (wpAny_store a hx r fun h' tk x1 i en => ?_)))
        refine stores_ok xs es vs ms (setL x v ρ) _ h1.2 h2 (rs.step x1 a.frm) (a.stepS x1 i en tk) fun h2 tk2 x2 i2 en2 => hq h2 tk2 (x1.trans x2) i2 en2
theorem each_length : ∀ {xs : List String} {es : List Expr}, sNames env.scope xs es = true -> (assignEach es env).length = xs.length /\ (assignEach es env).findIdx? (·.1) = Option.none
  | [], es, h => by cases es with | nil => exact ⟨rfl, rfl⟩ | cons => cases h
  | x :: xs, es, h => by
    cases es with
    | nil => cases h
    | cons e es =>
      simp only [sNames, Bool.and_eq_true] at h
      obtain ⟨pos, rfl, hx⟩ := sName_inv h.1
      obtain ⟨h1, h2⟩ := each_length h.2
      refine ⟨congrArg Nat.succ h1, ?_⟩
      show ((false, assign (.Name (Str.ofString x) pos) env) :: assignEach es env).findIdx? (·.1) = _
      rw [List.findIdx?_cons, h2]; rfl
theorem setAll_length : ∀ {xs : List String} {ws : List V} {ρ ρ' : Rho}, setAll xs ws ρ = some ρ' -> xs.length = ws.length
  | [], [], _, _, _ => rfl
  | [], _ :: _, _, _, h => by cases h
  | _ :: _, [], _, _, h => by cases h
  | _ :: xs, _ :: ws, _, _, h => congrArg Nat.succ (setAll_length (xs := xs) (ws := ws) h)
theorem unpack_ok (hh : κ.A.handled = Option.none) {xs : List String} {es : List Expr} {v : V} {ws : List V} {mv : Value} {k : Nat} {pos : Pos} {Q : Unit -> Shared -> Prop} {E : Value -> Shared -> Prop} (hx : sNames κ.env.scope xs es = true) (hp : partsV v H = some ws) (hset : setAll xs ws ρ = some ρ') (rv : VR κ.X η s.heap v mv) (a : At κ η ρ H s)
    (hq : ∀ h' tk, Step (frs κ.st) (ownOf κ.env) η s.heap η h' -> Inv κ.X η H h' -> Ends κ.X κ.env ρ' η h' -> Q () { s with heap := h', toks := tk }) : wpAny κ.X.M κ.A (assign (.Tuple es k pos) κ.env mv) Q E s := by
  obtain ⟨l1, l2⟩ := each_length (env := κ.env) hx
  have hlen : xs.length = ws.length := setAll_length hset
  have go : ∀ {items : Array Value} {h' : Heap}, VRs κ.X η s.heap ws items.toList -> Heap.ExtBut s.heap.objs.size s.heap h' -> wpAny κ.X.M κ.A (assignInOrder ((assignEach es κ.env).map (·.2)) items.toList) Q E { s with heap := h' } := fun {items h'} r eb => by
    have k0 : ∀ b o, s.heap.get? b = some o -> h'.get? b = some o := fun b o e => eb b o (Nat.ne_of_lt (Heap.lt_size e)) e
    have a1 := a.step (Step.ext _ _ _ k0) (a.inv.ext k0) s.toks
    exact stores_ok xs es ws items.toList ρ _ hx hset (r.grow (Step.ext _ _ _ k0)) a1 fun h2 tk2 x2 i2 en2 => hq h2 tk2 ((Step.ext _ _ _ k0).trans x2) i2 en2
  have key : listAt v H = some ws -> wpAny κ.X.M κ.A (assign (.Tuple es k pos) κ.env mv) Q E s := fun e => by
    obtain ⟨x, items, c, rfl, g, r, _⟩ := vr_list a.inv rv e
    rw [arm_assign_Tuple]
    refine wpAny_bind (wpAny_standAt ?_)
    unfold unpack
    have hn : (assignEach es κ.env).length = items.size := by rw [l1, hlen, r.size]
    rw [hn, l2]
    exact wpAny_bind (wpAny_holding (kun_itemsOf hh ⟨_, g, rfl, c, rfl⟩ fun h' eb => go r eb))
  cases v with
  | tup vs =>
    cases hp
    cases rv with
    | tup g hn r l => exact wpAny_assign_Tuple hh ⟨_, g, rfl, _, rfl⟩ (by rw [l1, hlen, r.size]) l2 fun h' eb => go r eb
  | _ => exact key hp
structure Iter (κ : Ct) (target : Expr) (it : Addr) (its : List Addr) (xs : List V) (chk : Hp -> Bool) (J : Nat -> List Addr -> Heap -> Prop) : Prop where
  recs : ∀ {i η h}, J i η h -> Recs its η h
  keep : ∀ {i η h η' h'}, J i η h -> Step (frs κ.st) (ownOf κ.env) η h η' h' -> Frm h (ownOf κ.env ++ frs κ.st) -> J i η' h'
  next : ∀ {i : Nat} {η : List Addr} {H : Hp} {s : Shared} {Q : Option Value -> Shared -> Prop}, J i η s.heap -> Inv κ.X η H s.heap -> κ.A.handled = Option.none -> chk H = true ->
    (∀ v mv h' tk, xs[i]? = some v -> Turn its η H s.heap h' -> VR κ.X η h' v mv -> J (i + 1) η h' -> Q (some mv) { s with heap := h', toks := tk }) -> (∀ h', xs[i]? = Option.none -> Turn its η H s.heap h' -> Q Option.none { s with heap := h' }) ->
    wpAny κ.X.M κ.A (pyNext (.ref it)) (fun o s1 => match o with | Option.none => Q Option.none s1 | some v => wpAny κ.X.M κ.A (letOwnedTupleGo target (.ref it) v) (fun _ s2 => Q (some v) s2) noE s1) noE s
theorem Iter.plain {it : Addr} {H0 : Hp} {src : V} {xs : List V} {target : Expr} {chk : Hp -> Bool} (hchk : ∀ H, chk H = true -> ∀ n, src = .ref n -> H[n]? = H0[n]?)
    (hlet : ∀ {i η s mv} {Q : Unit -> Shared -> Prop}, ItR κ.X η s.heap it H0 src xs i -> Q () s -> wpAny κ.X.M κ.A (letOwnedTupleGo target (.ref it) mv) Q noE s) : Iter κ target it [it] xs chk (fun i η h => ItR κ.X η h it H0 src xs i /\ it ∉ η) where
  recs := fun r => r.1.recs
  keep := fun r x f => ⟨r.1.keep x f r.2, let ⟨_, _, _, g, _⟩ := r.1.obj; x.mem g r.2⟩
  next := fun {i η H s Q} r iv hh hc h1 h2 => next_ok r.1 iv r.2 hh (hchk H hc) (fun v mv h' tk hv t rv r' => hlet (s := { s with heap := h', toks := tk }) r' (h1 v mv h' tk hv t rv ⟨r', r.2⟩)) h2
theorem forL_chk {b : V -> Rho -> Hp -> RS} {chk : Hp -> Bool} {xs : List V} {ρ : Rho} {H : Hp} (h : forL b chk xs ρ H ≠ .stuck) : chk H = true := by
  cases xs <;> exact Classical.byContradiction fun q => h (if_neg q)
inductive ForI (κ : Ct) (η0 : List Addr) (s0 : Shared) (xs : List V) (J : Nat -> List Addr -> Heap -> Prop) (F : Nat -> Rho -> Hp -> Prop) (m : Nat) (s : Shared) : Prop
  | mk (i : Nat) (ρ : Rho) (H : Hp) (η : List Addr) (e : m = xs.length - i) (a : At κ η ρ H s) (es : s = { s0 with heap := s.heap, toks := s.toks }) (x : Step (frs κ.st) (ownOf κ.env) η0 s0.heap η s.heap) (r : J i η s.heap) (hf : F i ρ H) : ForI κ η0 s0 xs J F m s
theorem ExcS.back {outer : List Env} {L : Addr} {r : RS} {ev : Value} {s' : Shared} {E : Value -> Shared -> Prop} (hst : κ.st = κ.env :: outer) (hfr : κ.env.frame = some L) (a : At κ η ρ H s) (x : ExcS κ η s r ev s') (he : ∀ ev s', ExcS κ η s r ev s' -> E ev s') : notedBy κ.X.M κ.A κ.env (cameBackBy κ.X.M κ.A κ.env E) ev s' := by
  obtain ⟨c, ρ1, H1, e, η3, h3, tk3, rfl, i3, x3, en3, ex3⟩ := x
  have stk3 : Stk κ.X η3 κ.A κ.st h3 := a.stk.step x3
  rw [hst] at stk3 ex3
  refine noted_back (s := { s with heap := h3, toks := tk3 }) (h0 := s.heap) hfr stk3 i3 ex3 x3.alive (fun b o e => ⟨o, a.inv.keep b o e⟩) fun h4 es4 sf hes i4 ex4 => ?_
  rw [<- hst] at sf ex4 stk3
  exact he _ _ ⟨c, ρ1, H1, e, η3, h4, tk3, rfl, i4, sf.step stk3.frm x3 hes, sf.ends stk3.frm en3, ex4⟩
theorem for_core (hh : κ.A.handled = Option.none) {it : Addr} {its : List Addr} {xs : List V} {target : Expr} {body' : List Stmt} {bodyF : V -> Rho -> Hp -> RS} {chk : Hp -> Bool} {J : Nat -> List Addr -> Heap -> Prop} {η0 : List Addr} {s0 : Shared} {ρ00 : Rho} {H00 : Hp} {R : Result -> Shared -> Prop}
    (turnOK : ∀ v mv ρ H, bodyF v ρ H ≠ .stuck -> ∀ η s, At κ η ρ H s -> VR κ.X η s.heap v mv -> wpAny κ.X.M κ.A (assign target κ.env mv) (fun _ s2 => wpAny κ.X.M κ.A (execs body' κ.env) (OutS κ η s (bodyF v ρ H)) (ExcS κ η s (bodyF v ρ H)) s2) noE s)
    (I : Iter κ target it its xs chk J) (a0 : At κ η0 ρ00 H00 s0) (h0n : ∀ b ∈ its, s0.heap.get? b = Option.none)
    {ρ0 : Rho} {H0 : Hp} {η1 : List Addr} {s1 : Shared} (a1 : At κ η1 ρ0 H0 s1) (e1 : s1 = { s0 with heap := s1.heap, toks := s1.toks }) (x1 : Step (frs κ.st) (ownOf κ.env) η0 s0.heap η1 s1.heap) (r1 : J 0 η1 s1.heap)
    (hne : forL bodyF chk xs ρ0 H0 ≠ .stuck) (hR : ∀ f s', OutS κ η0 s0 (forL bodyF chk xs ρ0 H0) f s' -> R (.ok f) s') (hX : ∀ ev s', ExcS κ η0 s0 (forL bodyF chk xs ρ0 H0) ev s' -> notedBy κ.X.M κ.A κ.env (fun e s' => R (.error e) s') ev s') :
    codeAny κ.X.M κ.A (.forLoop target (.ref it) body' [] κ.env) R s1 := by
  generalize hres : forL bodyF chk xs ρ0 H0 = res at hne hR hX
  have hb : ∀ b ∈ its, κ.X.base.get? b = Option.none := fun b q => a0.new (h0n b q)
  refine codeAny_forLoop_any (I := ForI κ η0 s0 xs J (fun i ρ H => forL bodyF chk (xs.drop i) ρ H = res)) (fun m s hI => ?_) xs.length ⟨0, ρ0, H0, η1, rfl, a1, e1, x1, r1, hres⟩
  obtain ⟨i, ρ, H, η, rfl, a, es, x, r, hf⟩ := hI
  have ck : chk H = true := forL_chk (by rw [hf]; exact hne)
  refine monoN (I.next (Q := fun o s2 => match o with
    | Option.none => OutS κ η0 s0 res .next s2
    | some mv => wpAny κ.X.M κ.A (assign target κ.env mv) (fun _ s3 => wpAny κ.X.M κ.A (execs body' κ.env) (fun f s4 => match f with
      | .next | .cont => ∃ m, m < xs.length - i /\ ForI κ η0 s0 xs J (fun i ρ H => forL bodyF chk (xs.drop i) ρ H = res) m s4
      | f => OutS κ η0 s0 res f s4) (ExcS κ η0 s0 res) s3) noE s2) r a.inv hh ck (fun v mv h' tk hv t rv r' => ?_) fun h' hv t => ?_) fun o s2 h2 => ?_
  · rw [drop_at hv, forL_cons, if_pos ck] at hf
    have a2 : At κ η ρ H { s with heap := h', toks := tk } := t.at a hb (I.recs r)
    have x2 : Step (frs κ.st) (ownOf κ.env) η0 s0.heap η h' := t.step x h0n
    have hbs : bodyF v ρ H ≠ .stuck := fun q => by rw [q] at hf; exact hne hf.symm
    refine monoN (turnOK v mv ρ H hbs η _ a2 rv) fun _ s2 hs2 => wpAny_mono hs2 (fun f s3 h3 => ?_) fun ev s3 h3 => by
      rw [es] at h3
      obtain ⟨c, ρ1, H1, e, P⟩ := h3
      rw [e] at hf
      exact ⟨c, ρ1, H1, hf.symm, P.trans (s := s0) x2 fun _ _ q => ⟨q.1, q.2.older x2.alive⟩⟩
    rw [es] at h3 a2
    cases f with
    | next =>
      obtain ⟨ρ1, H1, e, η3, h3', tk3, rfl, i3, x3, en3⟩ := h3
      rw [e] at hf
      exact ⟨xs.length - (i + 1), turn_lt hv, i + 1, ρ1, H1, η3, rfl, a2.stepS x3 i3 en3 tk3, rfl, x2.trans x3, I.keep r' x3 a2.frm, hf⟩
    | cont =>
      obtain ⟨ρ1, H1, e, η3, h3', tk3, rfl, i3, x3, en3⟩ := h3
      rw [e] at hf
      exact ⟨xs.length - (i + 1), turn_lt hv, i + 1, ρ1, H1, η3, rfl, a2.stepS x3 i3 en3 tk3, rfl, x2.trans x3, I.keep r' x3 a2.frm, hf⟩
    | ret mv =>
      obtain ⟨v', H1, e, P⟩ := h3
      rw [e] at hf
      exact ⟨v', H1, hf.symm, P.trans (s := s0) x2 fun _ _ q => q⟩
    | _ => exact h3
  · rw [drop_end hv, forL_nil, if_pos ck] at hf
    have a2 : At κ η ρ H { s with heap := h', toks := s.toks } := t.at a hb (I.recs r)
    show OutS κ η0 s0 res .next { s with heap := h' }
    rw [es]
    exact ⟨ρ, H, hf.symm, η, h', s.toks, rfl, a2.inv, t.step x h0n, a2.fok, a2.rho⟩
  · cases o with
    | none => exact wpAny_pure (hR .next _ h2)
    | some v =>
      refine monoN h2 fun _ s3 h3 => monoN h3 fun _ s4 h4 => wpAny_mono h4 (fun f s5 h5 => ?_) hX
      cases f with
      | next => exact h5
      | cont => exact h5
      | ret mv => exact hR _ _ h5
      | _ => exact h5.elim
end
noncomputable def swapOk (sc : Scope) (t v : Expr) : Bool := onListComp v fun _ _ scope vp => onName t fun id tp => sc.kind == .function && sc.names.lookup id == some .local && tp.line == vp.line && !(scope.names.any fun (n, k) => n == id && (k == .local || k == .cell))
noncomputable def isComp : E -> Bool
  | .comp .. => true
  | _ => false
theorem isComp_inv {c : E} (h : isComp c = true) : ∃ el x it cond, c = .comp el x it cond := by
  cases c <;> first | exact ⟨_, _, _, _, rfl⟩ | cases h
section
variable {κ : Ct} {ρ : Rho} {H : Hp}
theorem asg_comp {c : E} {x : String} {v : Expr} {pt pos : Pos} (S : SoundFn κ.X κ.n κ.Γ) (h2 : isE κ.X.kn κ.env.scope c v = true) (hx : isSt κ.env.scope (Str.ofString x) = true) (hc : isComp c = true) (hw : swapOk κ.env.scope (.Name (Str.ofString x) pt) v = true) :
    TriS κ [] (exec (.Assign [.Name (Str.ofString x) pt] v pos) κ.env) ρ H (ofR ρ (evE κ.Γ ρ c H) fun v H1 => .next (setL x v ρ) H1) := by
  obtain ⟨el, y, it, cond, rfl⟩ := isComp_inv hc
  obtain ⟨elt, px, iter, ifs, scope, vp, rfl, q1, q2, q3, q4, q5⟩ := isE_comp h2
  · have hw : (κ.env.scope.kind == .function && κ.env.scope.names.lookup (Str.ofString x) == some .local && pt.line == vp.line && !(scope.names.any fun (n, k) => n == Str.ofString x && (k == .local || k == .cell))) = true := hw
    simp only [Bool.and_eq_true, beq_iff_eq, Bool.not_eq_true'] at hw
    obtain ⟨⟨⟨w1, w2⟩, w3⟩, w4⟩ := hw
    have hsw : swapsWith (.ListComp elt [⟨.Name (Str.ofString y) px, iter, ifs, 0⟩] scope vp) (some (.Name (Str.ofString x) pt)) pos.line κ.env = pure true := by
      show (pure (κ.env.blockKind == .function && κ.env.kindOf (Str.ofString x) == some .local && pt.line == vp.line && !(scope.names.any fun (n, k) => n == Str.ofString x && (k == .local || k == .cell))) : Sem Bool) = _
      have b1 : κ.env.blockKind = .function := by unfold Env.blockKind; rw [w1]; rfl
      have b2 : κ.env.kindOf (Str.ofString x) = some .local := w2
      rw [b1, b2, w3, w4]
      simp
    have ee : evE κ.Γ ρ (.comp el y it cond) H = (if κ.Γ.hd then .stuck else (evE κ.Γ ρ it H).bind fun v H1 => compV (turnF (fun v H' => evC κ.Γ ((y, v) :: ρ) cond H') (fun v H' => evE κ.Γ ((y, v) :: ρ) el H')) v H1) := rfl
    rw [ee, exec_Assign_Name_used _ _ _ _ hsw]
    refine TriS.stand ?_
    cases hh : κ.Γ.hd with
    | true => exact TriS.stuck
    | false =>
      rw [if_neg (by decide)]
      intro hs η s a _
      refine wpAny_bind ?_
      show wpAny _ κ.A (do let _ <- comprehension (.ListComp elt [⟨.Name (Str.ofString y) px, iter, ifs, 0⟩] scope vp) scope κ.env _ (newList []) false (eval iter κ.env) (some (assign (.Name (Str.ofString x) pt) κ.env))) _ _ s
      generalize hres : ((evE κ.Γ ρ it H).bind fun v H1 => compV (turnF (fun v H' => evC κ.Γ ((y, v) :: ρ) cond H') (fun v H' => evE κ.Γ ((y, v) :: ρ) el H')) v H1) = res at hs ⊢
      refine wpAny_bind (wpAny_mono (comp_run hh (g := fun v H' => evC κ.Γ ((y, v) :: ρ) cond H') (f := fun v H' => evE κ.Γ ((y, v) :: ρ) el H') (use := some (assign (.Name (Str.ofString x) pt) κ.env)) (Q := fun _ s' => OutS κ η s (ofR ρ res fun v H1 => .next (setL x v ρ) H1) .next s') (E := ExcS κ η s (ofR ρ res fun v H1 => .next (setL x v ρ) H1))
        q3 q2 (evE_ok it iter κ ρ H S q1) (fun cl v C' H' => evE_ok el elt (κ.inn (compEnvC scope cl C' κ.env)) ((y, v) :: ρ) H' S q4) (fun cl v C' H' => evC_ok cond ifs (κ.inn (compEnvC scope cl C' κ.env)) ((y, v) :: ρ) H' S q5) a (fun q => hs (by rw [<- hres, q]; rfl)) (fun ev s' q => ?_) fun v H1 xs H' s' D C e hi et ce => ?_) (fun _ s' q => wpAny_pure (wpAny_pure q)) fun _ _ q => q)
      · rw [<- hres]
        exact q.bind.stmt a
      · obtain ⟨η', h', tk, rfl, iv, stp, dk, cn, c0, m, ns⟩ := ce
        have a1 : At κ η' ρ H' { s with heap := h', toks := tk } := a.step stp iv tk
        have own : C ∉ ownOf κ.env := fun q => by obtain ⟨o, g, _⟩ := a.fok.frm C q; rw [c0] at g; cases g
        have er : res = .ok (.ref H1.length) H' := by rw [<- hres, e, R.bind_ok, compV, hi]; dsimp only; rw [et]; rfl
        show wpAny _ κ.A (assign (.Name (Str.ofString x) pt) κ.env (.ref D)) _ _ _
        refine wpAny_bind (wpAny_standAt (wpAny_bindName (wpAny_store a1 hx (.ref dk) fun h2 tk2 x2 i2 en2 => ?_)))
        obtain ⟨m2, ns2⟩ : ∃ m, h2.Ns C m := by
          obtain ⟨o, es', ep, g, d, q⟩ := ns
          obtain ⟨sl, g2, _⟩ := x2.data C o g cn own
          exact ⟨m, _, es', ep, g2, d, q⟩
        refine ⟨m2, ns2, fun h3 sb => ?_⟩
        have t : Turn [C] η' H' h2 h3 := Turn.one cn (Ns.mach ns2) fun b o hb e => (sb.2 b hb).trans e
        rw [er]
        exact ⟨setL x (.ref H1.length) ρ, H', rfl, η', h3, tk2, rfl, t.inv i2 (one_none (a.new c0)), t.step (stp.up.trans x2) (one_none c0), t.ends en2 fun b hb q => own (List.mem_singleton.mp q ▸ hb)⟩
end
noncomputable def noTup (e : Expr) : Bool := !onTuple e fun _ _ _ => true
theorem swapped_no {es : List Expr} {k : Nat} {p : Pos} {e : Expr} {env : Env} (h : noTup e = true) : swappedStores [.Tuple es k p] e env = pure Option.none := by
  cases e <;> first | rfl | cases h
noncomputable def onS (e : Stmt) (f0 : List Expr -> Expr -> Pos -> Bool) (f1 : Option Expr -> Pos -> Bool) (f2 : Expr -> List Stmt -> List Stmt -> Pos -> Bool) (f3 : Expr -> Expr -> List Stmt -> List Stmt -> Pos -> Bool) (f4 : Expr -> Pos -> Bool) (f5 : Option Expr -> Option Expr -> Pos -> Bool) (f6 : List Stmt -> List ExceptHandler -> List Stmt -> List Stmt -> Pos -> Bool) (f7 : Expr -> List Stmt -> List Stmt -> Pos -> Bool) (f8 : Pos -> Bool) : Bool := match e with
  | .Assign ts v p => f0 ts v p
  | .Return x p => f1 x p
  | .If t a b p => f2 t a b p
  | .For t i b els p => f3 t i b els p
  | .Expr v p => f4 v p
  | .Raise x cause p => f5 x cause p
  | .Try b hs els fin p => f6 b hs els fin p
  | .While t b els p => f7 t b els p
  | .Continue p => f8 p
  | _ => false
theorem onS_inv {P : Prop} {e : Stmt} {f0 : List Expr -> Expr -> Pos -> Bool} {f1 : Option Expr -> Pos -> Bool} {f2 : Expr -> List Stmt -> List Stmt -> Pos -> Bool} {f3 : Expr -> Expr -> List Stmt -> List Stmt -> Pos -> Bool} {f4 : Expr -> Pos -> Bool} {f5 : Option Expr -> Option Expr -> Pos -> Bool} {f6 : List Stmt -> List ExceptHandler -> List Stmt -> List Stmt -> Pos -> Bool} {f7 : Expr -> List Stmt -> List Stmt -> Pos -> Bool} {f8 : Pos -> Bool} (h : onS e f0 f1 f2 f3 f4 f5 f6 f7 f8 = true) (k0 : ∀ ts v p, e = .Assign ts v p -> f0 ts v p = true -> P) (k1 : ∀ x p, e = .Return x p -> f1 x p = true -> P) (k2 : ∀ t a b p, e = .If t a b p -> f2 t a b p = true -> P) (k3 : ∀ t i b els p, e = .For t i b els p -> f3 t i b els p = true -> P) (k4 : ∀ v p, e = .Expr v p -> f4 v p = true -> P) (k5 : ∀ x cause p, e = .Raise x cause p -> f5 x cause p = true -> P) (k6 : ∀ b hs els fin p, e = .Try b hs els fin p -> f6 b hs els fin p = true -> P) (k7 : ∀ t b els p, e = .While t b els p -> f7 t b els p = true -> P) (k8 : ∀ p, e = .Continue p -> f8 p = true -> P) : P := by
  cases he : e with
  | Assign ts v p => exact k0 ts v p he (by rw [he] at h; exact h)
  | Return x p => exact k1 x p he (by rw [he] at h; exact h)
  | If t a b p => exact k2 t a b p he (by rw [he] at h; exact h)
  | For t i b els p => exact k3 t i b els p he (by rw [he] at h; exact h)
  | Expr v p => exact k4 v p he (by rw [he] at h; exact h)
  | Raise x cause p => exact k5 x cause p he (by rw [he] at h; exact h)
  | Try b hs els fin p => exact k6 b hs els fin p he (by rw [he] at h; exact h)
  | While t b els p => exact k7 t b els p he (by rw [he] at h; exact h)
  | Continue p => exact k8 p he (by rw [he] at h; exact h)
  | _ => rw [he] at h; exact ff h
noncomputable def onSAssign (e : Stmt) (f : List Expr -> Expr -> Pos -> Bool) : Bool := onS e f (fun _ _ => false) (fun _ _ _ _ => false) (fun _ _ _ _ _ => false) (fun _ _ => false) (fun _ _ _ => false) (fun _ _ _ _ _ => false) (fun _ _ _ _ => false) (fun _ => false)
theorem onSAssign_inv {e : Stmt} {f : List Expr -> Expr -> Pos -> Bool} (h : onSAssign e f = true) : ∃ ts v p, e = .Assign ts v p /\ f ts v p = true := onS_inv h (fun ts v p e h => ⟨ts, v, p, e, h⟩) (fun _ _ _ h => ff h) (fun _ _ _ _ _ h => ff h) (fun _ _ _ _ _ _ h => ff h) (fun _ _ _ h => ff h) (fun _ _ _ _ h => ff h) (fun _ _ _ _ _ _ h => ff h) (fun _ _ _ _ _ h => ff h) (fun _ _ h => ff h)
noncomputable def onSReturn (e : Stmt) (f : Option Expr -> Pos -> Bool) : Bool := onS e (fun _ _ _ => false) f (fun _ _ _ _ => false) (fun _ _ _ _ _ => false) (fun _ _ => false) (fun _ _ _ => false) (fun _ _ _ _ _ => false) (fun _ _ _ _ => false) (fun _ => false)
theorem onSReturn_inv {e : Stmt} {f : Option Expr -> Pos -> Bool} (h : onSReturn e f = true) : ∃ x p, e = .Return x p /\ f x p = true := onS_inv h (fun _ _ _ _ h => ff h) (fun x p e h => ⟨x, p, e, h⟩) (fun _ _ _ _ _ h => ff h) (fun _ _ _ _ _ _ h => ff h) (fun _ _ _ h => ff h) (fun _ _ _ _ h => ff h) (fun _ _ _ _ _ _ h => ff h) (fun _ _ _ _ _ h => ff h) (fun _ _ h => ff h)
noncomputable def onSIf (e : Stmt) (f : Expr -> List Stmt -> List Stmt -> Pos -> Bool) : Bool := onS e (fun _ _ _ => false) (fun _ _ => false) f (fun _ _ _ _ _ => false) (fun _ _ => false) (fun _ _ _ => false) (fun _ _ _ _ _ => false) (fun _ _ _ _ => false) (fun _ => false)
theorem onSIf_inv {e : Stmt} {f : Expr -> List Stmt -> List Stmt -> Pos -> Bool} (h : onSIf e f = true) : ∃ t a b p, e = .If t a b p /\ f t a b p = true := onS_inv h (fun _ _ _ _ h => ff h) (fun _ _ _ h => ff h) (fun t a b p e h => ⟨t, a, b, p, e, h⟩) (fun _ _ _ _ _ _ h => ff h) (fun _ _ _ h => ff h) (fun _ _ _ _ h => ff h) (fun _ _ _ _ _ _ h => ff h) (fun _ _ _ _ _ h => ff h) (fun _ _ h => ff h)
noncomputable def onSFor (e : Stmt) (f : Expr -> Expr -> List Stmt -> List Stmt -> Pos -> Bool) : Bool := onS e (fun _ _ _ => false) (fun _ _ => false) (fun _ _ _ _ => false) f (fun _ _ => false) (fun _ _ _ => false) (fun _ _ _ _ _ => false) (fun _ _ _ _ => false) (fun _ => false)
theorem onSFor_inv {e : Stmt} {f : Expr -> Expr -> List Stmt -> List Stmt -> Pos -> Bool} (h : onSFor e f = true) : ∃ t i b els p, e = .For t i b els p /\ f t i b els p = true := onS_inv h (fun _ _ _ _ h => ff h) (fun _ _ _ h => ff h) (fun _ _ _ _ _ h => ff h) (fun t i b els p e h => ⟨t, i, b, els, p, e, h⟩) (fun _ _ _ h => ff h) (fun _ _ _ _ h => ff h) (fun _ _ _ _ _ _ h => ff h) (fun _ _ _ _ _ h => ff h) (fun _ _ h => ff h)
noncomputable def onSExpr (e : Stmt) (f : Expr -> Pos -> Bool) : Bool := onS e (fun _ _ _ => false) (fun _ _ => false) (fun _ _ _ _ => false) (fun _ _ _ _ _ => false) f (fun _ _ _ => false) (fun _ _ _ _ _ => false) (fun _ _ _ _ => false) (fun _ => false)
theorem onSExpr_inv {e : Stmt} {f : Expr -> Pos -> Bool} (h : onSExpr e f = true) : ∃ v p, e = .Expr v p /\ f v p = true := onS_inv h (fun _ _ _ _ h => ff h) (fun _ _ _ h => ff h) (fun _ _ _ _ _ h => ff h) (fun _ _ _ _ _ _ h => ff h) (fun v p e h => ⟨v, p, e, h⟩) (fun _ _ _ _ h => ff h) (fun _ _ _ _ _ _ h => ff h) (fun _ _ _ _ _ h => ff h) (fun _ _ h => ff h)
noncomputable def onSRaise (e : Stmt) (f : Option Expr -> Option Expr -> Pos -> Bool) : Bool := onS e (fun _ _ _ => false) (fun _ _ => false) (fun _ _ _ _ => false) (fun _ _ _ _ _ => false) (fun _ _ => false) f (fun _ _ _ _ _ => false) (fun _ _ _ _ => false) (fun _ => false)
theorem onSRaise_inv {e : Stmt} {f : Option Expr -> Option Expr -> Pos -> Bool} (h : onSRaise e f = true) : ∃ x cause p, e = .Raise x cause p /\ f x cause p = true := onS_inv h (fun _ _ _ _ h => ff h) (fun _ _ _ h => ff h) (fun _ _ _ _ _ h => ff h) (fun _ _ _ _ _ _ h => ff h) (fun _ _ _ h => ff h) (fun x cause p e h => ⟨x, cause, p, e, h⟩) (fun _ _ _ _ _ _ h => ff h) (fun _ _ _ _ _ h => ff h) (fun _ _ h => ff h)
noncomputable def onSTry (e : Stmt) (f : List Stmt -> List ExceptHandler -> List Stmt -> List Stmt -> Pos -> Bool) : Bool := onS e (fun _ _ _ => false) (fun _ _ => false) (fun _ _ _ _ => false) (fun _ _ _ _ _ => false) (fun _ _ => false) (fun _ _ _ => false) f (fun _ _ _ _ => false) (fun _ => false)
theorem onSTry_inv {e : Stmt} {f : List Stmt -> List ExceptHandler -> List Stmt -> List Stmt -> Pos -> Bool} (h : onSTry e f = true) : ∃ b hs els fin p, e = .Try b hs els fin p /\ f b hs els fin p = true := onS_inv h (fun _ _ _ _ h => ff h) (fun _ _ _ h => ff h) (fun _ _ _ _ _ h => ff h) (fun _ _ _ _ _ _ h => ff h) (fun _ _ _ h => ff h) (fun _ _ _ _ h => ff h) (fun b hs els fin p e h => ⟨b, hs, els, fin, p, e, h⟩) (fun _ _ _ _ _ h => ff h) (fun _ _ h => ff h)
noncomputable def onSWhile (e : Stmt) (f : Expr -> List Stmt -> List Stmt -> Pos -> Bool) : Bool := onS e (fun _ _ _ => false) (fun _ _ => false) (fun _ _ _ _ => false) (fun _ _ _ _ _ => false) (fun _ _ => false) (fun _ _ _ => false) (fun _ _ _ _ _ => false) f (fun _ => false)
theorem onSWhile_inv {e : Stmt} {f : Expr -> List Stmt -> List Stmt -> Pos -> Bool} (h : onSWhile e f = true) : ∃ t b els p, e = .While t b els p /\ f t b els p = true := onS_inv h (fun _ _ _ _ h => ff h) (fun _ _ _ h => ff h) (fun _ _ _ _ _ h => ff h) (fun _ _ _ _ _ _ h => ff h) (fun _ _ _ h => ff h) (fun _ _ _ _ h => ff h) (fun _ _ _ _ _ _ h => ff h) (fun t b els p e h => ⟨t, b, els, p, e, h⟩) (fun _ _ h => ff h)
noncomputable def onSContinue (e : Stmt) (f : Pos -> Bool) : Bool := onS e (fun _ _ _ => false) (fun _ _ => false) (fun _ _ _ _ => false) (fun _ _ _ _ _ => false) (fun _ _ => false) (fun _ _ _ => false) (fun _ _ _ _ _ => false) (fun _ _ _ _ => false) f
theorem onSContinue_inv {e : Stmt} {f : Pos -> Bool} (h : onSContinue e f = true) : ∃ p, e = .Continue p /\ f p = true := onS_inv h (fun _ _ _ _ h => ff h) (fun _ _ _ h => ff h) (fun _ _ _ _ _ h => ff h) (fun _ _ _ _ _ _ h => ff h) (fun _ _ _ h => ff h) (fun _ _ _ _ h => ff h) (fun _ _ _ _ _ _ h => ff h) (fun _ _ _ _ _ h => ff h) (fun p e h => ⟨p, e, h⟩)
noncomputable def strC (e : Expr) : Bool := onConstant e fun c _ _ => match c with | .str m => PyData.strOk m | _ => false
theorem strC_inv {e : Expr} (h : strC e = true) : ∃ m k p, e = .Constant (.str m) k p /\ PyData.strOk m = true := by
  obtain ⟨c, k, p, rfl, h1⟩ := onConstant_inv h
  cases c with
  | str m => exact ⟨m, k, p, rfl, h1⟩
  | _ => exact ff h1
noncomputable def someE (e : Option Expr) (f : Expr -> Bool) : Bool := match e with
  | some e => f e
  | Option.none => false
theorem someE_inv {e : Option Expr} {f : Expr -> Bool} (h : someE e f = true) : ∃ a, e = some a /\ f a = true := by
  cases e with
  | none => exact ff h
  | some a => exact ⟨a, rfl, h⟩
mutual
noncomputable def isS (kn ex : String -> Bool) (sc : Scope) : S -> Stmt -> Bool
  | .asg x c, s => onSAssign s fun ts v _ => one ts (fun t => sName sc x t && (isE kn sc c v && (noComp v || (isComp c && swapOk sc t v))))
  | .unpack xs c, s => onSAssign s fun ts v _ => one ts (fun t => onTuple t fun es _ _ => sNames sc xs es) && (isE kn sc c v && (noComp v && noTup v))
  | .setattr o a c, s => onSAssign s fun ts v _ => one ts (fun t => onAttribute t fun o' nm _ => nm == Str.ofString a && isE kn sc o o') && (isE kn sc c v && (noComp v && attrName a))
  | .ret c, s => onSReturn s fun e _ => someE e (isE kn sc c)
  | .iff t a b, s => onSIf s fun t' a' b' _ => isE kn sc t t' && (isSs kn ex sc a a' && isSs kn ex sc b b')
  | .for1 x c b, s => onSFor s fun t e b' els _ => els.isEmpty && (sName sc x t && (isE kn sc c e && (noSet e && isSs kn ex sc b b')))
  | .whil t b, s => onSWhile s fun t' b' els _ => els.isEmpty && (isE kn sc t t' && isSs kn ex sc b b')
  | .setidx o i c, s => onSAssign s fun ts v _ => one ts (fun t => onSubscript t fun o' i' _ => isE kn sc o o' && isE kn sc i i') && (isE kn sc c v && noComp v)
  | .ret0, s => onSReturn s fun e _ => e.isNone
  | .cont, s => onSContinue s fun _ => true
  | .expr c, s => onSExpr s fun e _ => isE kn sc c e && noComp e
  | .raise c _, s => onSRaise s fun e cause _ => cause.isNone && (ex c && someE e fun e => onCall e fun fn args kws _ => kws.isEmpty && (gName kn sc c fn && one args strC))
  | .tryE b hs, s => onSTry s fun b' hs' els fin _ => els.isEmpty && (fin.isEmpty && (!hs'.isEmpty && (isSs kn ex sc b b' && isHs kn ex sc hs hs')))
noncomputable def isSs (kn ex : String -> Bool) (sc : Scope) : List S -> List Stmt -> Bool
  | [], l => match l with | [] => true | _ => false
  | c :: cs, l => match l with | s :: ss => isS kn ex sc c s && isSs kn ex sc cs ss | [] => false
noncomputable def isHs (kn ex : String -> Bool) (sc : Scope) : List (String × List S) -> List ExceptHandler -> Bool
  | [], l => match l with | [] => true | _ => false
  | (T, b) :: r, l => match l with
    | h :: r' => (match h with | .ExceptHandler t nm b' _ => someE t (gName kn sc T) && (ex T && (nm.isNone && (!b'.isEmpty && isSs kn ex sc b b')))) && isHs kn ex sc r r'
    | [] => false
end
section
variable {kn ex : String -> Bool} {sc : Scope} {s : Stmt}
theorem isHs_inv {T : String} {b : List S} {r : List (String × List S)} {l : List ExceptHandler} (h : isHs kn ex sc ((T, b) :: r) l = true) :
    ∃ t b0 b' p r', l = .ExceptHandler (some t) Option.none (b0 :: b') p :: r' /\ gName kn sc T t = true /\ ex T = true /\ isSs kn ex sc b (b0 :: b') = true /\ isHs kn ex sc r r' = true := by
  cases l with
  | nil => exact ff h
  | cons hd r' =>
    cases hd with
    | ExceptHandler t nm b' p =>
      obtain ⟨g1, h6⟩ := and_inv h
      obtain ⟨h1, g2⟩ := and_inv g1
      obtain ⟨h2, g3⟩ := and_inv g2
      obtain ⟨h3, g4⟩ := and_inv g3
      obtain ⟨h4, h5⟩ := and_inv g4
      obtain ⟨a, rfl, h1⟩ := someE_inv h1
      cases b' with
      | nil => exact ff h4
      | cons b0 b' => rw [Option.isNone_iff_eq_none.mp h3]; exact ⟨a, b0, b', p, r', rfl, h1, h2, h5, h6⟩
end
theorem isSs_cons {kn ex : String -> Bool} {sc : Scope} {c : S} {cs : List S} {e : Stmt} {es : List Stmt} : isSs kn ex sc (c :: cs) (e :: es) = (isS kn ex sc c e && isSs kn ex sc cs es) := rfl
theorem isSs_nil {kn ex : String -> Bool} {sc : Scope} {c : S} {cs : List S} : isSs kn ex sc (c :: cs) [] = false := rfl
section
variable {M : Model} {A : Around} {E : Value -> Shared -> Prop}
theorem wpAny_excMatches_own {h : Heap} {g : Array GenState} {d : Drawn} {t : Nat} {os : OsState} {e : Addr} {oe : Obj} {Q : Bool -> Shared -> Prop} {b : Bool}
    {nm q : Str} {C N : Addr} {bs bm : List Value} {hdct : Bool} {sn : List Str} {sub : List Value} {ab : Bool} {col : Option Bool} {dd : Option Addr} {k0 k1 k2 k3 k5 : Option Value} {newId : String}
    {nm' q' : Str} {D N' : Addr} {bs' bm' : List Value} {hdct' : Bool} {sn' : List Str} {sub' : List Value} {ab' : Bool} {col' : Option Bool} {dd' : Option Addr} {k0' k1' k2' k3' k5' : Option Value} {newId' : String}
    (hC : h.get? C = some (excClassObj nm q C N bs bm hdct sn sub ab col dd k0 k1 k2 k3 k5 newId)) (hD : h.get? D = some (excClassObj nm' q' D N' bs' bm' hdct' sn' sub' ab' col' dd' k0' k1' k2' k3' k5' newId'))
    (he : h.get? e = some oe) (hcls : oe.cls = .ref C) (hbase : bm'.contains (.type "BaseException") = true) (hb : (Value.ref C :: bm).contains (.ref D) = b)
    (hq : Q b ⟨h, g, d, t, os⟩) : wpAny M A (excMatches (.ref e) (.ref D)) Q E ⟨h, g, d, t, os⟩ := by
  have hcB : (Value.ref D :: bm').contains (.type "BaseException") = true := by rw [List.contains_cons, hbase, Bool.or_true]
  have f := tc_notTuple
  unfold excMatches
  repeat (first | (with_reducible refine wpAny_loadPart_at he ?_; rw [hcls]) | with_reducible refine wpAny_loadPart_at hD ?_ | (with_reducible refine wpAny_isSubtype_exc hD ?_; rw [hcB]) | (with_reducible refine wpAny_isSubtype_exc hC ?_; rw [hb]) | wp_step)
  cases b <;> (wp_walk; exact hq)
end
structure FTop (κ : Ct) (outer : List Env) (L : Addr) : Prop where
  st : κ.st = κ.env :: outer
  fr : κ.env.frame = some L
  S : SoundFn κ.X κ.n κ.Γ
section
variable {κ : Ct} {η : List Addr} {ρ : Rho} {H : Hp} {s : Shared}
theorem forV_ok (hh : κ.A.handled = Option.none) {target : Expr} {body' : List Stmt} {bodyF : V -> Rho -> Hp -> RS} {v : V} {mv : Value} {R : Result -> Shared -> Prop} (a : At κ η ρ H s) (rv : VR κ.X η s.heap v mv) (hne : forV bodyF v ρ H ≠ .stuck)
    (turnOK : ∀ v mv ρ H, bodyF v ρ H ≠ .stuck -> ∀ η s, At κ η ρ H s -> VR κ.X η s.heap v mv -> wpAny κ.X.M κ.A (assign target κ.env mv) (fun _ s2 => wpAny κ.X.M κ.A (execs body' κ.env) (OutS κ η s (bodyF v ρ H)) (ExcS κ η s (bodyF v ρ H)) s2) noE s)
    (hlet : ∀ {it xs i η s mv} {Q : Unit -> Shared -> Prop}, ItR κ.X η s.heap it H v xs i -> Q () s -> wpAny κ.X.M κ.A (letOwnedTupleGo target (.ref it) mv) Q noE s)
    (hR : ∀ f s', OutS κ η s (forV bodyF v ρ H) f s' -> R (.ok f) s') (hX : ∀ ev s', ExcS κ η s (forV bodyF v ρ H) ev s' -> notedBy κ.X.M κ.A κ.env (fun e s' => R (.error e) s') ev s') : wpAny κ.X.M κ.A (pyIter mv) (fun it s2 => codeAny κ.X.M κ.A (.forLoop target it body' [] κ.env) R s2) noE s := by
  unfold forV at hne hR hX
  cases hi : items H v with
  | none => rw [hi] at hne; exact absurd rfl hne
  | some xs =>
    rw [hi] at hne hR hX
    dsimp only at hne hR hX
    refine iter_ok a.inv rv hi fun ob r => ?_
    have kp := push_keeps s.heap ob
    have st := Step.ext (frs κ.st) (ownOf κ.env) η kp
    exact for_core hh (s0 := s) (η0 := η) turnOK (Iter.plain (H0 := H) (fun H' hck n hn => by subst hn; exact sameO_ref hck) hlet) a (one_none (size_none _)) (a.step (Step.ext _ _ _ kp) (a.inv.ext kp) s.toks) rfl st ⟨r, a.inv.size_off⟩ hne hR hX
inductive WhI (κ : Ct) (η0 : List Addr) (s0 : Shared) (F : Nat -> Rho -> Hp -> Prop) (m : Nat) (s : Shared) : Prop
  | mk (ρ : Rho) (H : Hp) (η : List Addr) (a : At κ η ρ H s) (es : s = { s0 with heap := s.heap, toks := s.toks }) (x : Step (frs κ.st) (ownOf κ.env) η0 s0.heap η s.heap) (hf : F m ρ H) : WhI κ η0 s0 F m s
theorem while_ok {test : Expr} {body' : List Stmt} {pos : Pos} {tF : Rho -> Hp -> R Bool} {bF : Rho -> Hp -> RS} {n : Nat} (h1 : ∀ ρ H, Tri κ ρ [] (isTrue test κ.env (eval test κ.env)) H (tF ρ H) rB) (h2 : ∀ ρ H, TriS κ [] (execs body' κ.env) ρ H (bF ρ H)) :
    TriS κ [] (exec (.While test body' [] pos) κ.env) ρ H (whileL tF bF n ρ H) := by
  intro hne η0 s0 a0 _
  generalize hres : whileL tF bF n ρ H = res at hne ⊢
  refine wpAny_While (codeAny_whileLoop (I := WhI κ η0 s0 (fun m ρ H => whileL tF bF m ρ H = res)) (fun m s hI => ?_) n ⟨ρ, H, η0, a0, rfl, Step.refl _ _ _ _, hres⟩)
  obtain ⟨ρ, H, η, a, es, x, hf⟩ := hI
  cases m with
  | zero => exact absurd hf.symm hne
  | succ m =>
    rw [whileL] at hf
    have hr : tF ρ H ≠ .stuck := fun q => by rw [q] at hf; exact hne hf.symm
    refine wpAny_mono (h1 ρ H hr η s a fun _ q => nomatch q) (fun b s2 hb => ?_) fun ev s2 hx => ?_
    rotate_left
    · obtain ⟨c, H1, e, _⟩ := hx
      rw [e] at hf; exact absurd hf.symm hne
    obtain ⟨c, H1, e1, hrel, η1, h1', tk1, rfl, i1, st1, _⟩ := hb
    have hc : b = c := hrel
    subst hc
    rw [e1] at hf
    have a1 := a.step st1 i1 tk1
    have x1 := x.trans st1.up
    cases b with
    | false =>
      have hf : RS.next ρ H1 = res := hf
      show wpAny _ _ (execs [] κ.env) _ _ _
      refine wpAny_pure ?_
      show OutS κ η0 s0 res .next _
      rw [es]
      exact ⟨ρ, H1, hf.symm, η1, h1', tk1, rfl, i1, x1, a1.fok, a1.rho⟩
    | true =>
      have hf : (noR (bF ρ H1)).bind (fun ρ1 H2 => whileL tF bF m ρ1 H2) = res := hf
      have hb : bF ρ H1 ≠ .stuck := fun q => by rw [q] at hf; exact hne hf.symm
      rw [if_pos rfl]
      refine wpAny_mono (h2 ρ H1 hb η1 _ a1 fun _ q => nomatch q) (fun f s3 h3 => ?_) fun ev s3 h3 => ?_
      · rw [es] at h3 a1
        cases f with
        | next =>
          obtain ⟨ρ1, H2, e, η3, h3', tk3, rfl, i3, x3, en3⟩ := h3
          rw [e] at hf
          exact ⟨m, Nat.lt_succ_self _, ρ1, H2, η3, a1.stepS x3 i3 en3 tk3, rfl, x1.trans x3, hf⟩
        | cont =>
          obtain ⟨ρ1, H2, e, _⟩ := h3
          rw [e] at hf; exact absurd hf.symm hne
        | ret mv =>
          obtain ⟨v, H2, e, P⟩ := h3
          rw [e] at hf
          exact ⟨v, H2, hf.symm, P.trans (s := s0) x1 fun _ _ q => q⟩
        | _ => exact False.elim h3
      · obtain ⟨c, ρ1, H2, e, _⟩ := h3
        rw [e] at hf; exact absurd hf.symm hne
end
section
variable {outer : List Env} {L : Addr}
mutual
theorem exS_ok : ∀ (c : S) (sm : Stmt) (κ : Ct) (ρ : Rho) (H : Hp), FTop κ outer L -> isS κ.X.kn κ.X.ex κ.env.scope c sm = true -> TriS κ [] (exec sm κ.env) ρ H (exS κ.Γ c ρ H)
  | .asg x c, sm, κ, ρ, H, G, h => by
    obtain ⟨ts, v, pos, rfl, g1⟩ := onSAssign_inv h
    obtain ⟨t, rfl, g2⟩ := one_inv g1
    obtain ⟨pt, rfl, hx⟩ := sName_inv (and_inv g2).1
    obtain ⟨h2, h3⟩ := and_inv (and_inv g2).2
    rw [exS_asg]
    rw [Bool.or_eq_true] at h3
    rcases h3 with h3 | h3
    rotate_left
    · exact asg_comp G.S h2 hx (and_inv h3).1 (and_inv h3).2
    rw [exec_Assign_Name κ.env _ _ _ _ (swaps_no h3)]
    exact TriS.stand (TriS.expr (evE_ok c v κ ρ H G.S h2) fun w H1 mw _ _ => TriS.stand (TriS.store m0 hx TriS.next))
  | .unpack xs c, sm, κ, ρ, H, G, h => by
    obtain ⟨ts, v, pos, rfl, g1⟩ := onSAssign_inv h
    obtain ⟨g0, g2⟩ := and_inv g1
    obtain ⟨t, rfl, h1⟩ := one_inv g0
    obtain ⟨es, k, q, rfl, hx⟩ := onTuple_inv h1
    obtain ⟨h2, g3⟩ := and_inv g2
    obtain ⟨h3, h4⟩ := and_inv g3
    rw [exS_unpack]
    cases hd : κ.Γ.hd with
    | true => exact TriS.stuck
    | false =>
    rw [if_neg (by decide)]
    refine TriS.via (fun Q E _ s _ q => Assign_Tuple q (by unfold swapsWithSole; exact swaps_no h3) (swapped_no h4)) (evE_ok c v κ ρ H G.S h2) fun w H1 mw _ _ hs η s Q E a hv hq he => ?_
    unfold unpackV at hs hq
    cases hp : partsV w H1 with
    | none => rw [hp] at hs; exact absurd rfl hs
    | some ws =>
      rw [hp] at hs hq
      dsimp only at hs hq
      cases hset : setAll xs ws ρ with
      | none => rw [hset] at hs; exact absurd rfl hs
      | some ρ' =>
        rw [hset] at hq
        exact unpack_ok (a.hand hd) hx hp hset (hv _ m0) a fun h2 tk2 x2 i2 en2 => hq .next _ ⟨ρ', H1, rfl, η, h2, tk2, rfl, i2, x2, en2⟩
  | .setattr o a c, sm, κ, ρ, H, G, h => by
    obtain ⟨ts, v, pos, rfl, g1⟩ := onSAssign_inv h
    obtain ⟨g0, g2⟩ := and_inv g1
    obtain ⟨t, rfl, h1⟩ := one_inv g0
    obtain ⟨o', nm, q, rfl, g3⟩ := onAttribute_inv h1
    obtain ⟨h2, g4⟩ := and_inv g2
    obtain ⟨h3, h4⟩ := and_inv g4
    rw [exS_setattr, plainObj_exec_Assign_Attribute _ _ _ _ _ (swaps_no h3)]
    refine TriS.stand (TriS.expr (evE_ok c v κ ρ H G.S h2) fun w H1 mw _ _ => ?_)
    rw [beq_iff_eq.mp (and_inv g3).1, assign_Attribute]
    simp only [bind_assoc]
    refine TriS.expr (Tri.holding ((evE_ok o o' κ ρ H1 G.S (and_inv g3).2).any)) fun u H2 mu _ _ => TriS.stand ?_
    refine TriS.expr (Tri.holding (set_ok m0 (m1 m0) h4)) fun _ H3 _ _ _ => ?_
    exact TriS.skip (a₀ := ()) (fun Q E s q Γ' p _ => by show Sem.wp _ _ (release _ _) _ _ _ _; unfold release; rw [Sem.wp_release_go]; exact q) TriS.next
  | .ret c, sm, κ, ρ, H, G, h => by
    obtain ⟨e, pos, rfl, g1⟩ := onSReturn_inv h
    obtain ⟨e, rfl, h1⟩ := someE_inv g1
    rw [exec_Return_some, exS_ret]
    exact TriS.stand (TriS.expr (evE_ok c e κ ρ H G.S h1) fun w H1 mw _ _ => TriS.ret m0)
  | .iff t a b, sm, κ, ρ, H, G, h => by
    obtain ⟨t', a', b', pos, rfl, g1⟩ := onSIf_inv h
    obtain ⟨h1, g2⟩ := and_inv g1
    obtain ⟨h2, h3⟩ := and_inv g2
    rw [exS_iff, exec_If]
    refine TriS.stand (TriS.expr (testE_ok t t' κ ρ H G.S h1) fun c H1 c' _ hc => ?_)
    have hc' : c' = c := hc
    subst hc'
    cases c' with
    | true => exact (exSs_ok a a' κ ρ H1 G h2).any
    | false => exact (exSs_ok b b' κ ρ H1 G h3).any
  | .for1 x c b, sm, κ, ρ, H, G, h => by
    obtain ⟨t, e, b', els, pos, rfl, g1⟩ := onSFor_inv h
    obtain ⟨h0, g2⟩ := and_inv g1
    obtain ⟨h1, g3⟩ := and_inv g2
    obtain ⟨h2, g4⟩ := and_inv g3
    obtain ⟨h3, h4⟩ := and_inv g4
    obtain ⟨pt, rfl, hx⟩ := sName_inv h1
    rw [List.isEmpty_iff.mp h0, exS_for1]
    cases hd : κ.Γ.hd with
    | true => exact TriS.stuck
    | false =>
    rw [if_neg (by decide)]
    refine TriS.via (fun Q E _ s _ q => wpAny_For q (folded_no h3)) (evE_ok c e κ ρ H G.S h2) fun v H1 mv _ _ hs η s Q E a hv hq he => ?_
    exact monoN (forV_ok (a.hand hd) (R := fun r s' => match r with | .ok f => Q f s' | .error e => cameBackBy κ.X.M κ.A κ.env E e s') a (hv _ m0) hs (fun v mv ρ H hb η s a rv => wpAny_assign_Name (wpAny_store a hx rv fun h2 tk2 x2 i2 en2 => wpAny_mono (exSs_ok b b' κ (setL x v ρ) H G h4 hb η _ (a.stepS x2 i2 en2 tk2) fun _ q => nomatch q) (fun f s3 h3 => h3.after x2) fun ev s3 h3 => h3.after x2))
      (fun _ q => wpAny_pure q) hq fun ev s' o => o.back G.st G.fr a he) fun _ _ q => q
  | .whil t b, sm, κ, ρ, H, G, h => by
    obtain ⟨t', b', els, pos, rfl, g1⟩ := onSWhile_inv h
    obtain ⟨h0, g2⟩ := and_inv g1
    obtain ⟨h1, h2⟩ := and_inv g2
    rw [List.isEmpty_iff.mp h0, exS_whil]
    cases hd : κ.Γ.hd with
    | true => exact TriS.stuck
    | false =>
    rw [if_neg (by decide)]
    exact while_ok (fun ρ H => testE_ok t t' κ ρ H G.S h1) fun ρ H => exSs_ok b b' κ ρ H G h2
  | .setidx o i c, sm, κ, ρ, H, G, h => by
    obtain ⟨ts, v, pos, rfl, g1⟩ := onSAssign_inv h
    obtain ⟨g0, g2⟩ := and_inv g1
    obtain ⟨t, rfl, h1⟩ := one_inv g0
    obtain ⟨o', i', pa, rfl, g3⟩ := onSubscript_inv h1
    obtain ⟨h2, h3⟩ := and_inv g2
    obtain ⟨h4, h5⟩ := and_inv g3
    rw [exS_setidx, exec_Assign_Subscript _ _ _ _ _ (swaps_no h3)]
    refine TriS.stand (TriS.expr (evE_ok c v κ ρ H G.S h2) fun w H1 mw _ _ => ?_)
    rw [assign_Subscript, bind_assoc]
    refine TriS.expr (Tri.holding ((evE_ok o o' κ ρ H1 G.S h4).any)) fun u H2 mu _ _ => ?_
    rw [bind_assoc]
    refine TriS.expr (Tri.holding ((evE_ok i i' κ ρ H2 G.S h5).any)) fun z H3 mz _ _ => ?_
    rw [bind_assoc]
    refine TriS.stand ?_
    rw [bind_assoc]
    refine TriS.expr (Tri.holding (setK_ok (m1 m0) m0 (m1 (m1 m0)))) fun _ H4 _ _ _ => ?_
    exact TriS.skip (a₀ := ()) (fun Q E s q Γ' p _ => by show Sem.wp _ _ (release _ _) _ _ _ _; unfold release; rw [Sem.wp_release_go]; exact q) TriS.next
  | .ret0, sm, κ, ρ, H, G, h => by
    obtain ⟨e, pos, rfl, g1⟩ := onSReturn_inv h
    rw [Option.isNone_iff_eq_none.mp g1, exec_Return_none, exS_ret0]
    exact TriS.stand fun _ η s a _ => wpAny_pure ⟨.none, H, rfl, η, s.heap, s.toks, rfl, a.inv, Step.refl _ _ _ _, a.fok, .none⟩
  | .cont, sm, κ, ρ, H, G, h => by
    obtain ⟨pos, rfl, _⟩ := onSContinue_inv h
    rw [exS_cont]
    show TriS _ _ (standAt pos >>= fun _ => Pure.pure Flow.cont) _ _ _
    exact TriS.stand fun _ η s a _ => wpAny_pure ⟨ρ, H, rfl, η, s.heap, s.toks, rfl, a.inv, Step.refl _ _ _ _, a.fok, a.rho⟩
  | .expr c, sm, κ, ρ, H, G, h => by
    obtain ⟨e, pos, rfl, g1⟩ := onSExpr_inv h
    obtain ⟨h1, h2⟩ := and_inv g1
    rw [exS_expr]
    exact TriS.via (fun Q E _ s a0 q => wpAny_Expr_any q (by unfold interactive; rw [a0.fok.kind]; rfl) (swaps_no h2)) (evE_ok c e κ ρ H G.S h1) fun w H1 mw _ _ hs η s Q E a hv hq he => hq .next s (nextS a)
  | .raise c msg, sm, κ, ρ, H, G, h => by
    obtain ⟨e, cause, pos, rfl, g1⟩ := onSRaise_inv h
    obtain ⟨h1, g2⟩ := and_inv g1
    obtain ⟨h2, g3⟩ := and_inv g2
    obtain ⟨a, rfl, g4⟩ := someE_inv g3
    obtain ⟨fn, args, kws, cpos, rfl, g5⟩ := onCall_inv g4
    obtain ⟨h3, g6⟩ := and_inv g5
    obtain ⟨h4, g7⟩ := and_inv g6
    obtain ⟨a, rfl, g8⟩ := one_inv g7
    obtain ⟨m, kk, pp, rfl, h5⟩ := strC_inv g8
    obtain ⟨np, rfl, hg, hd1, hk⟩ := gName_inv h4
    rw [Option.isNone_iff_eq_none.mp h1, List.isEmpty_iff.mp h3, exS_raise]
    cases hh : κ.Γ.hd with
    | true => exact TriS.stuck
    | false =>
    rw [if_neg (by decide)]
    intro _ η s a _
    obtain ⟨C, ow, _⟩ := κ.X.own c h2
    have e1 := ow.bound
    obtain ⟨bm, N, nm, q, bs, hdct, sn, sub, ab, col, dd, k0, k1, k2, k3, k5, mN, hC, hN, hni, TL⟩ := ow.obj
    refine wpAny_Raise_call_subT (C := C) (nm := nm) (q := q) (N := N) (bs := bs) (bm := bm) (hdct := hdct) (sn := sn) (sub := sub) (ab := ab) (col := col) (dd := dd) (k0 := k0) (k1 := k1) (k2 := k2) (k3 := k3) (k5 := k5)
      F.excBase_ValueError (mN := mN) (TL.hasType F.excBase_ValueError.hasBase) (a.hand hh) rfl hni (wpAny_glob a rfl hg hd1 (.inl e1) ⟨rfl, ?_⟩)
    refine PySem.Calls.evalArgs_plain (PySem.Calls.spliced_cons (PySem.Calls.Constant_str (k := kk) (pos := pp) (PySem.Calls.spliced_nil ?_)))
    have kp := a.inv.keep
    refine ⟨rfl, (show (1 : Nat) <= sizeLine by decide), kp _ _ hC, hN.keeps kp, TL.keeps kp, fun h' e mk => ?_⟩
    obtain ⟨t, g1, g2, g3⟩ := mk.there
    have ne : e ∉ η := fun q => by obtain ⟨o, z⟩ := a.inv.alive q; have := mk.new; rw [z] at this; cases this
    refine ⟨c, ρ, H, rfl, η, h', _, rfl, a.inv.ext mk.keeps, Step.ext _ _ _ mk.keeps, a.ends (Step.ext _ _ _ mk.keeps) (a.inv.ext mk.keeps), e, _, _, C, rfl, g1, ⟨e1, h2⟩, ⟨rfl, rfl⟩, rfl, ne, mk.new, (show 4 < 6 by decide), .inl rfl⟩
  | .tryE b hs, sm, κ, ρ, H, G, h => by
    obtain ⟨b', hs', els, fin, pos, rfl, g1⟩ := onSTry_inv h
    obtain ⟨h1, g2⟩ := and_inv g1
    obtain ⟨h2, g3⟩ := and_inv g2
    obtain ⟨h3, g4⟩ := and_inv g3
    obtain ⟨h4, hHs⟩ := and_inv g4
    rw [List.isEmpty_iff.mp h1, List.isEmpty_iff.mp h2, exS_tryE]
    cases hs' with
    | nil => exact ff h3
    | cons h0' hs' =>
    cases hh : κ.Γ.hd with
    | true => exact TriS.stuck
    | false =>
    rw [if_neg (by decide)]
    intro hne η s a hv
    refine wpAny_Try_except (wpAny_mono (exSs_ok b b' κ ρ H G h4 (fun q => hne (by rw [q]; rfl)) η s a hv) (fun f s1 hf => ?_) fun ev s1 hx => ?_)
    · cases f with
      | next => obtain ⟨ρ', H', e, P⟩ := hf; exact wpAny_pure ⟨ρ', H', by rw [e]; rfl, P⟩
      | ret mv => obtain ⟨v, H', e, P⟩ := hf; exact ⟨v, H', by rw [e]; rfl, P⟩
      | cont => obtain ⟨ρ', H', e, _⟩ := hf; exact absurd (by rw [e]; rfl) hne
      | _ => exact hf.elim
    · obtain ⟨c, ρ1, H1, e, η1, h', tk, rfl, i, x1, en, ex⟩ := hx
      rw [e] at hne ⊢
      replace hne : exH { κ.Γ with hd := true } c hs ρ1 H1 ≠ .stuck := hne
      show wpAny _ _ _ _ _ _
      have stk1 : Stk κ.X η1 κ.A κ.st h' := a.stk.step x1
      rw [G.st] at ex
      refine wpAny_land (s := { s with heap := h', toks := tk }) G.fr (G.st ▸ stk1) i ex x1.alive (fun b o g => ⟨o, a.inv.keep b o g⟩) fun h2 es e T hev sf hes i2 tr => ?_
      rw [<- G.st] at sf
      have en2 := sf.ends stk1.frm en
      subst hev
      exact exH_ok hs (h0' :: hs') κ ρ1 H1 c G hHs hne η s η1 { s with heap := h2, toks := tk } e T (sf.step stk1.frm x1 hes) rfl ⟨i2, en2.1, en2.2, sf.stk stk1, a.room, a.hand⟩ tr (fun b o g => ⟨o, a.inv.keep b o g⟩)
theorem exSs_ok : ∀ (cs : List S) (sms : List Stmt) (κ : Ct) (ρ : Rho) (H : Hp), FTop κ outer L -> isSs κ.X.kn κ.X.ex κ.env.scope cs sms = true -> TriS κ [] (execs sms κ.env) ρ H (exSs κ.Γ cs ρ H)
  | [], sms, κ, ρ, H, G, h => by
    cases sms with
    | nil => exact TriS.next
    | cons => cases h
  | c :: cs, sms, κ, ρ, H, G, h => by
    cases sms with
    | nil => cases h
    | cons sm sms =>
      obtain ⟨h1, h2⟩ := and_inv h
      rw [exSs_cons]
      exact TriS.seq (exS_ok c sm κ ρ H G h1) fun ρ1 H1 e => exSs_ok cs sms κ ρ1 H1 G h2
theorem exH_ok : ∀ (hs : List (String × List S)) (hms : List ExceptHandler) (κ : Ct) (ρ : Rho) (H : Hp) (c : String), FTop κ outer L -> isHs κ.X.kn κ.X.ex κ.env.scope hs hms = true -> exH { κ.Γ with hd := true } c hs ρ H ≠ .stuck ->
    ∀ (η0 : List Addr) (s0 : Shared) (η : List Addr) (s : Shared) (e T : Addr), Step (frs κ.st) (ownOf κ.env) η0 s0.heap η s.heap -> s = { s0 with heap := s.heap, toks := s.toks } -> At κ η ρ H s -> TracedX κ.X s0.heap e c T .none η s.heap -> (∀ b o, κ.X.base.get? b = some o -> ∃ o', s0.heap.get? b = some o') ->
      wpAny κ.X.M κ.A (handleBy (.ref e) κ.env hms) (OutS κ η0 s0 (exH { κ.Γ with hd := true } c hs ρ H)) (ExcS κ η0 s0 (exH { κ.Γ with hd := true } c hs ρ H)) s
  | [], hms, κ, ρ, H, c, G, h, hne, η0, s0, η, s, e, T, x, hs0, a, tr, hb0 => by
    cases hms with
    | cons => exact ff h
    | nil =>
      refine wpAny_handleBy_nil (wpAny_passOn (H := H) (outer := outer) G.fr tr fun h' sf fT ex => ?_)
      rw [<- G.st] at sf ex
      have fT' := one_none fT
      have fB : ∀ b ∈ [T], κ.X.base.get? b = Option.none := fun b hb => by
        rw [List.mem_singleton] at hb; subst hb
        obtain ⟨oe, vs, C, oT, ts, q1, q2, q3, q4, q5, q6, q7, q8, q9, q10, q11, q12, q13, q14, q15⟩ := tr
        cases g : κ.X.base.get? b with
        | none => rfl
        | some o =>
          obtain ⟨o', g'⟩ := hb0 b o g
          rw [q14] at g'; cases g'
      rw [hs0]
      exact ⟨c, ρ, H, by rw [exH_nil], η, h', s.toks, rfl, sf.inv a.stk.frm a.inv fB a.stk.fresh a.stk.off, sf.step a.stk.frm x fT', sf.ends a.stk.frm ⟨a.fok, a.rho⟩, ex⟩
  | (K, b) :: r, hms, κ, ρ, H, c, G, h, hne, η0, s0, η, s, e, T, x, hs0, a, tr, hb0 => by
    obtain ⟨t, b0, b', pos, r', rfl, h1, h2, h4, h5⟩ := isHs_inv h
    obtain ⟨np, rfl, hg, hd1, hk⟩ := gName_inv h1
    obtain ⟨oe, vs, C, oT, ts, q1, q2, q3, q4, q5, q6, q7, q8, q9, q10, q11, q12, q13, q14, q15⟩ := id tr
    obtain ⟨C', ow, hsub⟩ := κ.X.own c q2.2
    have eC : C' = C := by have e1 := ow.bound; rw [q2.1] at e1; cases e1; rfl
    subst eC
    obtain ⟨D, ow', _⟩ := κ.X.own K h2
    have e1' := ow'.bound
    have aM : At (κ.mark e) η ρ H s := ⟨a.inv, a.fok, a.rho, ⟨a.stk.frames, a.stk.ok, a.stk.off, a.stk.frm⟩, ⟨a.room.depth, a.room.units⟩, fun q => nomatch q⟩
    refine wpAny_handleBy_cons (codeAny_handlers_test (wpAny_glob aM rfl hg hd1 (.inl e1') ?_)) (by intro q; cases q)
    have keyed : ∀ {Q : Bool -> Shared -> Prop} {E : Value -> Shared -> Prop}, Q (excIs c K) s -> wpAny κ.X.M (κ.A.mark (some (.ref e))) (excMatches (.ref e) (.ref D)) Q E s := fun hq => by
      obtain ⟨hp, g, d, tk, os⟩ := s
      obtain ⟨bm, N, nn, q, bs, hdct, sn, sub, ab, col, dd, k0, k1, k2, k3, k5, mN, hC, _⟩ := ow.obj
      obtain ⟨bm', N', nn', q', bs', hdct', sn', sub', ab', col', dd', k0', k1', k2', k3', k5', mN', hD, hN', hni', TL'⟩ := ow'.obj
      exact wpAny_excMatches_own (a.inv.keep _ _ hC) (a.inv.keep _ _ hD) q1 q3.1 (TL'.hasType F.excBase_ValueError.hasBase) (hsub K D _ _ h2 e1' hC rfl) hq
    refine keyed ?_
    by_cases hx : excIs c K = true
    · rw [hx]
      show codeAny _ _ (.handlers _ _ _) _ _
      rw [exH_cons, if_pos hx] at hne ⊢
      refine codeAny_handlers_suite (wpAny_land2 tr fun h' same => ?_)
      have k : ∀ b o, s.heap.get? b = some o -> h'.get? b = some o := fun b o g => (same b).trans g
      have a3 := aM.step (Step.ext _ _ _ k) (a.inv.ext k) s.toks
      have x3 : Step (frs κ.st) (ownOf κ.env) η0 s0.heap η h' := x.trans (Step.ext _ _ _ k)
      refine wpAny_mono (exSs_ok b (b0 :: b') (κ.mark e) ρ H ⟨G.st, G.fr, G.S.const, G.S.call⟩ h4 (fun q => hne (by rw [q]; rfl)) η _ a3 (fun _ q => nomatch q)) (fun f s1 hf => ?_) fun ev s1 hx => ?_
      · rw [hs0] at hf
        cases f with
        | next => obtain ⟨ρ', H', e, P⟩ := hf; exact ⟨ρ', H', by rw [e]; rfl, P.trans (s := s0) x3 fun _ _ q => q⟩
        | cont => obtain ⟨ρ', H', e, _⟩ := hf; exact absurd (by rw [e]; rfl) hne
        | brk => exact hf.elim
        | ret mv => obtain ⟨v, H', e, P⟩ := hf; exact ⟨v, H', by rw [e]; rfl, P.trans (s := s0) x3 fun _ _ q => q⟩
      · obtain ⟨c', ρ', H', e', _⟩ := hx
        exact absurd (by rw [e']; rfl) hne
    · have hx' : excIs c K = false := by simpa using hx
      rw [hx']
      show wpAny _ _ (handleBy _ _ _) _ _ _
      have er : exH { κ.Γ with hd := true } c ((K, b) :: r) ρ H = exH { κ.Γ with hd := true } c r ρ H := by
        rw [exH_cons, hx', if_neg Bool.false_ne_true]
      rw [er] at hne ⊢
      exact exH_ok r r' κ ρ H c G h5 hne η0 s0 η s e T x hs0 a tr hb0
end
end
theorem bindL_at (kd : Str -> Option NameKind) : ∀ (bs : List (Str × Value)) (m : Str -> Option Value) (x : Str), (bs.map (·.1)).Nodup -> kd x = some .local ->
    bindL kd bs m x = match bs.lookup x with | some v => some v | none => m x
  | [], m, x, _, _ => rfl
  | (n, v) :: r, m, x, hn, hk => by
    rw [List.map_cons, List.nodup_cons] at hn
    rw [bindL, bindL_at kd r _ x hn.2 hk, List.lookup_cons]
    by_cases hx : x = n
    · subst hx
      have : r.lookup x = none := by
        cases e : r.lookup x with
        | none => rfl
        | some w => exact absurd (List.mem_map.mpr ⟨(x, w), lookup_mem e, rfl⟩) hn.1
      rw [this, if_pos hk]; simp
    · have hb : (x == n) = false := by simpa using hx
      rw [hb]
      have e : (if kd n = some NameKind.local then fun y => if y = n then some v else m y else m) x = m x := by split <;> simp [hx]
      rw [e]
theorem bindC_at (kd : Str -> Option NameKind) : ∀ (bs : List (Str × Value)) (m : Str -> Option Value) (x : Str), (bs.map (·.1)).Nodup -> kd x = some .cell ->
    bindC kd bs m x = match bs.lookup x with | some v => some v | none => m x
  | [], m, x, _, _ => rfl
  | (n, v) :: r, m, x, hn, hk => by
    rw [List.map_cons, List.nodup_cons] at hn
    rw [bindC, bindC_at kd r _ x hn.2 hk, List.lookup_cons]
    by_cases hx : x = n
    · subst hx
      have : r.lookup x = none := by
        cases e : r.lookup x with
        | none => rfl
        | some w => exact absurd (List.mem_map.mpr ⟨(x, w), lookup_mem e, rfl⟩) hn.1
      rw [this, if_neg (by rw [hk]; intro q; cases q)]; simp
    · have hb : (x == n) = false := by simpa using hx
      rw [hb]
      have e : (if kd n = some NameKind.local then m else fun y => if y = n then some v else m y) x = m x := by split <;> simp [hx]
      rw [e]
theorem setAll_lookup : ∀ (xs : List String) (ws : List V) (ρ ρ' : Rho), setAll xs ws ρ = some ρ' -> xs.Nodup -> xs.length = ws.length /\ ∀ y v, ρ'.lookup y = some v -> (∃ j : Nat, xs[j]? = some y /\ ws[j]? = some v) \/ ρ.lookup y = some v
  | [], [], ρ, ρ', e, _ => by cases e; exact ⟨rfl, fun y v h => .inr h⟩
  | [], _ :: _, _, _, e, _ => by cases e
  | _ :: _, [], _, _, e, _ => by cases e
  | x :: xs, w :: ws, ρ, ρ', e, hn => by
    rw [List.nodup_cons] at hn
    obtain ⟨hl, h⟩ := setAll_lookup xs ws (setL x w ρ) ρ' e hn.2
    refine ⟨by rw [List.length_cons, List.length_cons, hl], fun y v hy => ?_⟩
    rcases h y v hy with ⟨j, h1, h2⟩ | h1
    · exact .inl ⟨j + 1, h1, h2⟩
    · rw [lookup_setL] at h1
      split at h1
      · rename_i hyx
        cases h1
        exact .inl ⟨0, by rw [hyx]; rfl, rfl⟩
      · exact .inr h1
theorem zip_lookup {xs : List String} {ms : List Value} (hn : xs.Nodup) : ∀ {j : Nat} {y : String} {m : Value}, xs[j]? = some y -> ms[j]? = some m -> ((xs.map Str.ofString).zip ms).lookup (Str.ofString y) = some m := by
  induction xs generalizing ms with
  | nil => intro j y m h; simp at h
  | cons x xs ih =>
    intro j y m h1 h2
    rw [List.nodup_cons] at hn
    cases ms with
    | nil => simp at h2
    | cons m0 ms =>
      rw [List.map_cons, List.zip_cons_cons, List.lookup_cons]
      cases j with
      | zero => cases h1; cases h2; simp
      | succ j =>
        have hyx : Str.ofString y ≠ Str.ofString x := fun q => hn.1 (ofString_inj q ▸ List.mem_of_getElem? h1)
        have hb : (Str.ofString y == Str.ofString x) = false := by simpa using hyx
        rw [hb]
        exact ih hn.2 h1 h2
theorem Step.leave {fr own η η' : List Addr} {h h1 h' : Heap} {L : Addr} (k : ∀ b o, h.get? b = some o -> h1.get? b = some o) (x : Step (L :: fr) own η h1 η' h') (hL : h.get? L = Option.none) (ho : ∀ b ∈ own, h.get? b = Option.none) : Step fr [] η h η' h' := by
  have no : ∀ b o, h.get? b = some o -> b ∉ own := fun b o e q => by rw [ho b q] at e; cases e
  have nl : ∀ b o, h.get? b = some o -> b ≠ L := fun b o e q => by rw [q, hL] at e; cases e
  refine ⟨?_, fun b o e => x.alive b o (k b o e), fun b o e hb _ => let ⟨sl, e1, q⟩ := x.data b o (k b o e) hb (no b o e); ⟨sl, e1, fun z => q fun y => (List.mem_cons.mp y).elim (nl b o e) z⟩,
    fun b o e hb => x.dicts b o (k b o e) hb, fun b o e hb => x.cells b o (k b o e) hb⟩
  obtain ⟨l, e, hl⟩ := x.pre
  refine ⟨l, e, fun a ha => ?_⟩
  cases q : h.get? a with
  | none => rfl
  | some o => have := k a o q; rw [hl a ha] at this; cases this
structure DefAt (X : Cx) (d : Def) (a : Addr) (body : List Stmt) (scope : Scope) : Prop where
  obj : ∃ o fd, X.base.get? a = some o /\ o.data = .func fd /\ fd.body = .stmts body /\ fd.scope = scope /\ fd.globals = mainGlobals /\ fd.closure = [] /\ fd.builtins = builtinsNs /\ X.base.CodeRec fd.code fd.qualname /\
    ∀ ms : List Value, ms.length = d.params.length -> bindArgs fd ⟨ms, []⟩ = pure ((d.params.map Str.ofString).zip ms)
  bodyOk : isSs X.kn X.ex scope d.body body = true
  kind : scope.kind = .function
  gen : scope.isGenerator = false
  co : scope.isCoroutine = false
  st : (d.params.all fun x => isSt scope (Str.ofString x)) = true
  nodup : d.params.Nodup
  cells : ((cellsFrom 0 scope.names []).map (·.1)).Nodup
noncomputable def RunOK (X : Cx) (n : Nat) (fv : Value) (ws : List V) (H : Hp) (r : R V) : Prop :=
  ∀ (A : Around) (st : List Env) (η : List Addr) (s : Shared) (ms : List Value), A.depth + 1 + 2 * n < recursionLimit -> A.units + 3 + 8 * n + 300 < cLine -> A.handled = Option.none -> Inv X η H s.heap -> Stk X η A st s.heap ->
    ws.length = ms.length -> (∀ p ∈ ws.zip ms, VR X η s.heap p.1 p.2) ->
    codeAny X.M A (.call fv ⟨ms, []⟩) (fun res s' => match res with
      | .ok (.ret mv) => RetAt X st η s r mv s'
      | .ok _ => False
      | .error ev => RaiseAt X st η s r ev s') s
theorem pairwise_snd {l : List (Str × Addr)} (h : l.Pairwise fun x y => x.2 ≠ y.2) {a b : Str} {c d : Addr} (ha : (a, c) ∈ l) (hb : (b, d) ∈ l) (hab : a ≠ b) : c ≠ d := by
  induction l with
  | nil => cases ha
  | cons p l ih =>
    rw [List.pairwise_cons] at h
    rcases List.mem_cons.mp ha with e | ha2
    · subst e
      rcases List.mem_cons.mp hb with hb | hb
      · injection hb with h1 h2; exact absurd h1.symm hab
      · exact h.1 _ hb
    · rcases List.mem_cons.mp hb with e | hb2
      · subst e; exact (h.1 _ ha2).symm
      · exact ih h.2 ha2 hb2
theorem nodup_map_inj {α β : Type} {f : α -> β} (hf : ∀ a b, f a = f b -> a = b) : ∀ {l : List α}, l.Nodup -> (l.map f).Nodup
  | [], _ => List.nodup_nil
  | a :: l, h => by
    rw [List.nodup_cons] at h
    rw [List.map_cons, List.nodup_cons]
    refine ⟨fun q => ?_, nodup_map_inj hf h.2⟩
    obtain ⟨b, hb, e⟩ := List.mem_map.mp q
    exact h.1 (hf _ _ e ▸ hb)
theorem head_frs {env : Env} {outer : List Env} {L : Addr} (h : env.frame = some L) : frs (env :: outer) = L :: frs outer := by unfold frs; rw [List.filterMap_cons, h]
section
variable {X : Cx} {n : Nat} {Γ : Fn}
theorem wpAny_leave {A : Around} {env : Env} {outer : List Env} {η : List Addr} {s : Shared} {h0 : Heap} {ev : Value} {c : String} {L : Addr} {H : Hp} {E : Value -> Shared -> Prop} {Q : Unit -> Shared -> Prop} (hf : env.frame = some L)
    (k : Stk X η A (env :: outer) s.heap) (i : Inv X η H s.heap) (x : ExcAt X (env :: outer) h0 ev c η s.heap) (h0k : ∀ b o, h0.get? b = some o -> ∃ o', s.heap.get? b = some o') (hb0 : ∀ b o, X.base.get? b = some o -> ∃ o', h0.get? b = some o')
    (hq : ∀ h' es, Soft (frs (env :: outer)) es s.heap h' -> (∀ b ∈ es, h0.get? b = Option.none) -> Inv X η H h' -> ExcAt X outer h0 ev c η h' -> Q () { s with heap := h' }) : wpAny X.M A (leaving env ev) Q E s := by
  unfold leaving
  exact wpAny_bind (wpAny_land hf k i x h0k hb0 fun h' es e T hev sf hes i2 tr => hq h' es sf hes i2 (hev ▸ tr.exc (.inl rfl)))
theorem run_of_def {d : Def} {a : Addr} {body : List Stmt} {scope : Scope} {ws : List V} {H : Hp} (D : DefAt X d a body scope) (S : SoundFn X n Γ) (hΓ : Γ.hd = false)
    (hs : runDef Γ d ws H ≠ .stuck) : RunOK X n (.ref a) ws H (runDef Γ d ws H) := by
  obtain ⟨o, fd, ho, hdat, hbody, hscope, hglob, hclos, hblt, hcd, hbind⟩ := D.obj
  intro A st η s ms rdep runi hh inv stk hl hv
  cases hρ : setAll d.params ws [] with
  | none => unfold runDef at hs; rw [hρ] at hs; exact absurd rfl hs
  | some ρ =>
    obtain ⟨hlen, hlook⟩ := setAll_lookup _ _ _ _ hρ D.nodup
    have hrun : runDef Γ d ws H = match exSs Γ d.body ρ H with | .next _ H1 => .ok .none H1 | .ret v H1 => .ok v H1 | .raise c _ H1 => .raise c H1 | _ => .stuck := by unfold runDef; rw [hρ]; try rfl
    have hkind : ∀ n, ∀ x ∈ (d.params.map Str.ofString).zip ms, scope.names.lookup x.1 = some .local \/ (scope.names.lookup x.1 = some .cell /\ ((cellsFrom n scope.names []).lookup x.1).isSome = true) := by
      intro n x hx
      obtain ⟨y, hy, hyx⟩ := List.mem_map.mp (List.of_mem_zip (show (x.1, x.2) ∈ _ from hx)).1
      have := List.all_eq_true.mp D.st y hy
      rw [hyx] at this
      unfold isSt at this
      split at this
      · exact .inl ‹_›
      · exact .inr ⟨‹_›, cellsFrom_some _ _ _ (.inl ‹_›)⟩
      · cases this
    refine codeAny_call_function (by omega) (inv.keep _ _ ho) hdat (hscope ▸ D.co) (hscope ▸ D.gen) hbody (hcd.keeps inv.keep) ?_
    rw [hbind ms (by rw [<- hl, hlen]), hscope, hglob, hclos, hblt]
    refine wpAny_pure (wpAny_newFunctionEnv_cells D.kind (hkind _) fun env he s1 x => ?_)
    have keep := x.toInCall.keep
    obtain ⟨h1, tk, hs1⟩ := x.toInCall.same
    have hsz : env.locals = s.heap.objs.size := by rw [he]; rfl
    refine ⟨((X.nolimit.keeps inv.keep)).keeps keep, codeAny_func ?_⟩
    have hfr : env.frame = some s.heap.objs.size := by rw [he]; rfl
    have hcs : env.cells = cellsFrom (s.heap.objs.size + 1) scope.names [] := by rw [he]; rfl
    have hsc : env.scope = scope := by rw [he]; rfl
    have hko : ∀ y, env.kindOf y = scope.names.lookup y := fun y => by unfold Env.kindOf; rw [hsc]
    have ndc : (env.cells.map (·.1)).Nodup := by rw [hcs]; exact cellsFrom_names scope.names 0 (s.heap.objs.size + 1) [] [] rfl ▸ D.cells
    have look : ∀ p ∈ env.cells, env.cells.lookup p.1 = some p.2 := fun p hp => lookup_of_mem_nodup ndc hp
    have newAddr : ∀ b ∈ ownOf env, s.heap.objs.size <= b := fun b hb => by
      rcases List.mem_cons.mp hb with rfl | hb
      · exact Nat.le_of_eq hsz.symm
      · obtain ⟨p, hp, rfl⟩ := List.mem_map.mp hb
        have := x.above p.1 p.2 hp
        rw [hsz] at this
        exact Nat.le_of_lt this
    have ownNone : ∀ b ∈ ownOf env, s.heap.get? b = Option.none := fun b hb => by
      cases e : s.heap.get? b with
      | none => rfl
      | some o => exact absurd (Heap.lt_size e) (Nat.not_lt.mpr (newAddr b hb))
    have ownOff : ∀ b ∈ ownOf env, b ∉ η /\ X.base.get? b = Option.none := fun b hb => by
      refine ⟨fun q => ?_, ?_⟩
      · obtain ⟨ob, e⟩ := inv.alive q
        rw [ownNone b hb] at e; cases e
      · cases e : X.base.get? b with
        | none => rfl
        | some o => have := inv.keep _ _ e; rw [ownNone b hb] at this; cases this
    have i1 : Inv X η H s1.heap := inv.ext keep
    have fok : FrameOK X η s1.heap env := by
      refine ⟨by rw [hsc]; exact D.kind, by rw [he]; rfl, by rw [he]; rfl, ⟨_, x.toInCall.ns⟩, fun p hp => ?_, fun y hy => ?_, fun y z c h1 h2 => ?_, ownOff⟩
      · obtain ⟨o, e, dd⟩ := x.cell p.1 p.2 (look p hp)
        exact ⟨o, _, e, dd⟩
      · rw [hko] at hy
        have := cellsFrom_some (x := y) scope.names (s.heap.objs.size + 1) [] (.inl hy)
        rw [<- hcs] at this
        exact Option.isSome_iff_exists.mp this
      · have m1 := lookup_mem h1
        have m2 := lookup_mem h2
        have hp := x.apart
        by_cases hyz : y = z
        · exact hyz
        · exact absurd rfl (pairwise_snd hp m1 m2 hyz)
    have rho : RhoR X η s1.heap env ρ := by
      intro y v hy hvar
      rcases hlook y v hy with ⟨j, h1', h2'⟩ | h1'
      · obtain ⟨m, hm, rv⟩ := (VRs.of_zip hl hv).get h2'
        have rv' : VR X η s1.heap v m := rv.step (Step.ext [] [] η keep) fun _ q => nomatch q
        have hb := zip_lookup D.nodup h1' hm
        have nd : (((d.params.map Str.ofString).zip ms).map (·.1)).Nodup := by
          rw [List.map_fst_zip (by rw [List.length_map, hlen, hl]; exact Nat.le_refl _)]
          exact nodup_map_inj (fun _ _ q => ofString_inj q) D.nodup
        refine ⟨m, ?_, rv'⟩
        have hst := List.all_eq_true.mp D.st y (List.mem_of_getElem? h1')
        unfold isSt at hst
        split at hst
        · rename_i hk
          refine .inl ⟨(hko _).trans hk, _, x.toInCall.ns, ?_⟩
          rw [bindL_at _ _ _ _ nd ((hko _).trans hk), hb]
        · rename_i hk
          have hkc : env.kindOf (Str.ofString y) = some .cell := (hko _).trans hk
          obtain ⟨c, hc⟩ := fok.cells _ hkc
          obtain ⟨o, e, dd⟩ := x.cell _ c hc
          refine .inr ⟨.inl hkc, c, o, hc, e, ?_⟩
          rw [dd, bindC_at _ _ _ _ nd hkc, hb]
        · cases hst
      · cases h1'
    have stk1 : Stk X η (A.deeper env) (env :: st) s1.heap := by
      have kf : Frm s1.heap (frs st) := fun b hb => let ⟨o, e, q⟩ := stk.frm b hb; ⟨o, keep _ _ e, q⟩
      refine ⟨Around.frames_deeper stk.frames, ?_, fun b hb => ?_, fun b hb => ?_⟩
      · exact Heap.FunFrames.cons (by rw [hsc, D.kind]; decide) hfr (hsz ▸ x.toInCall.ns) (hsz ▸ (ownOff _ (List.Mem.head _)).2) (stk.ok.of_keeps fun b o e _ => ⟨o, keep _ _ e, rfl⟩)
      · rw [head_frs hfr] at hb
        rcases List.mem_cons.mp hb with rfl | hb
        · exact hsz ▸ (ownOff _ (List.Mem.head _)).1
        · exact stk.off b hb
      · rw [head_frs hfr] at hb
        rcases List.mem_cons.mp hb with rfl | hb
        · exact hsz ▸ fok.frm _ (List.Mem.head _)
        · exact kf b hb
    have room1 : Room n (A.deeper env) := ⟨rdep, runi⟩
    have at1 : At ⟨X, n, A.deeper env, env, env :: st, Γ⟩ η ρ H s1 := ⟨i1, fok, rho, stk1, room1, fun _ => hh⟩
    have hns : exSs Γ d.body ρ H ≠ .stuck := fun q => by rw [hrun, q] at hs; exact hs rfl
    have leaveStep : ∀ {η' h'}, Step (frs (env :: st)) (ownOf env) η s1.heap η' h' -> Step (frs st) [] η s.heap η' h' := fun {η' h'} y => by
      rw [head_frs hfr] at y
      exact Step.leave keep y (hsz ▸ ownNone _ (List.Mem.head _)) ownNone
    refine wpAny_mono (exSs_ok d.body body ⟨X, n, A.deeper env, env, env :: st, Γ⟩ ρ H ⟨rfl, hfr, S⟩ (by rw [hsc]; exact D.bodyOk) hns η s1 at1 (fun _ q => nomatch q)) (fun fl s2 hfl => ?_) fun ev s2 hx => ?_
    · cases fl with
      | next =>
        obtain ⟨ρ', H', e, η', h', tk', rfl, i2, stp, _⟩ := hfl
        refine ⟨.none, H', by rw [hrun, e], η', h', tk', by rw [hs1], i2, leaveStep stp, .none⟩
      | cont =>
        obtain ⟨ρ', H', e, _⟩ := hfl
        exact absurd (by rw [hrun, e]) hs
      | brk => exact hfl.elim
      | ret mv =>
        obtain ⟨v, H', e, η', h', tk', rfl, i2, stp, _, r⟩ := hfl
        exact ⟨v, H', by rw [hrun, e], η', h', tk', by rw [hs1], i2, leaveStep stp, r⟩
    · obtain ⟨c, ρ', H', e, η', h', tk', rfl, i2, stp, en, ex⟩ := hx
      have stk2 : Stk X η' (A.deeper env) (env :: st) h' := stk1.step (s := s1) stp
      refine wpAny_leave (s := { s1 with heap := h', toks := tk' }) (h0 := s1.heap) hfr stk2 i2 ex stp.alive (fun b o g => ⟨o, i1.keep b o g⟩) fun h2 es sf hes i3 ex3 => ?_
      refine ⟨c, H', by rw [hrun, e], η', h2, tk', by rw [hs1], i3, leaveStep (sf.step stk2.frm stp hes), ?_⟩
      exact (ExcAt.older ex3 fun b o g => ⟨o, keep b o g⟩)
theorem room_d {n b : Nat} {A : Around} (r : Room (n + 1) A) (h : b <= A.depth + 1) : b + 1 + 2 * n < recursionLimit := by
  refine Nat.lt_of_le_of_lt (Nat.le_trans (Nat.add_le_add_right (Nat.add_le_add_right h 1) (2 * n)) (Nat.le_of_eq ?_)) r.depth
  rw [Nat.mul_succ, Nat.add_assoc A.depth, Nat.add_assoc, Nat.add_comm (1 + 1)]
theorem room_u {n b : Nat} {A : Around} (r : Room (n + 1) A) (h : b <= A.units + 1) : b + 3 + 8 * n + 300 < cLine := by
  refine Nat.lt_of_le_of_lt (Nat.add_le_add_right (Nat.le_trans (Nat.add_le_add_right (Nat.add_le_add_right h 3) (8 * n)) ?_) 300) r.units
  rw [Nat.mul_succ, Nat.add_assoc A.units, Nat.add_assoc, Nat.add_comm (1 + 3)]
  exact Nat.add_le_add_left (Nat.add_le_add_left (by decide) _) _
theorem callOK_of_def {d : Def} {f : String} {a : Addr} {body : List Stmt} {scope : Scope} {ws : List V} {H : Hp} (hf : X.mg (Str.ofString f) = some (.ref a)) (D : DefAt X d a body scope) (S : SoundFn X n Γ) (hΓ : Γ.hd = false)
    (hs : runDef Γ d ws H ≠ .stuck) : CallOK X (n + 1) f ws H (runDef Γ d ws H) := by
  obtain ⟨o, fd, ho, hdat, _⟩ := id D.obj
  refine ⟨.ref a, hf, fun A st η s ms room hh inv stk hl hv => ?_⟩
  exact run_of_def D S hΓ hs A st η s ms (room_d room (Nat.le_succ _)) (room_u room (Nat.le_succ _)) hh inv stk hl hv
theorem under_new (A : Around) (C : Addr) (ms : List Value) : (A.under (.builtin "type.__call__" ⟨.ref C :: ms, []⟩)).frames = A.frames /\ (A.under (.builtin "type.__call__" ⟨.ref C :: ms, []⟩)).depth <= A.depth + 1 /\
    (A.under (.builtin "type.__call__" ⟨.ref C :: ms, []⟩)).units = A.units + 1 /\ (A.under (.builtin "type.__call__" ⟨.ref C :: ms, []⟩)).handled = A.handled := ⟨rfl, Nat.le_refl _, rfl, rfl⟩
theorem callOK_of_class {d : Def} {c : String} {C fI : Addr} {body : List Stmt} {scope : Scope} {ws : List V} {H : Hp} (hcl : X.cl c = true) (hk : X.kn c = true) (hf : X.mg (Str.ofString c) = some (.ref C)) (ok : ClsOk X.K C fI) (D : DefAt X d fI body scope) (S : SoundFn X n Γ) (hΓ : Γ.hd = false)
    (hs : runClass Γ c d ws H ≠ .stuck) : CallOK X (n + 1) c ws H (runClass Γ c d ws H) := by
  refine ⟨.ref C, hf, fun A st η s ms room hh inv stk hl hv => ?_⟩
  have hrc : runClass Γ c d ws H = (runDef Γ d (.ref (H.length + 1) :: ws) (H ++ [.ns [], .inst c H.length])).bind fun v H1 => match v with | .none => .ok (.ref (H.length + 1)) H1 | _ => .stuck := rfl
  have hK := X.kin.keeps inv.keep
  obtain ⟨h, g, dr, t, os⟩ := s
  refine make_core (makes_of hK ok.makes) (looks_findIn hK ok.init) (fun self => bind_fn hK self ok.fn) (.inl rfl) ?_
  obtain ⟨u1, u2, u3, u4⟩ := under_new A C ms
  have i1 : Inv X (η ++ [h.objs.size]) (H ++ [.ns []]) (h.push emptyDict) := inv.alloc (.ns .nil (by simp)) rfl
  have sz : (h.push emptyDict).objs.size = h.objs.size + 1 := Heap.size_push ..
  have i2 : Inv X (η ++ [h.objs.size] ++ [(h.push emptyDict).objs.size]) (H ++ [.ns []] ++ [.inst c H.length]) ((h.push emptyDict).push (instObj C h.objs.size)) := i1.alloc (.inst hcl hf (by rw [<- inv.len]; simp)) rfl
  have st2 : Step (frs st) [] η h (η ++ [h.objs.size] ++ [(h.push emptyDict).objs.size]) ((h.push emptyDict).push (instObj C h.objs.size)) := (Step.push _ _ _ _ _).trans (Step.push _ _ _ _ _)
  have hne : runDef Γ d (.ref (H.length + 1) :: ws) (H ++ [.ns [], .inst c H.length]) ≠ .stuck := fun q => hs (by rw [hrc, q]; rfl)
  rw [show H ++ [O.ns []] ++ [O.inst c H.length] = H ++ [.ns [], .inst c H.length] by simp] at i2
  have run := run_of_def (ws := .ref (H.length + 1) :: ws) D S hΓ hne (A.under (.builtin "type.__call__" ⟨.ref C :: ms, []⟩)) st _ ⟨(h.push emptyDict).push (instObj C h.objs.size), g, dr, t, os⟩ (.ref (h.objs.size + 1) :: ms) (room_d room u2) (room_u room (Nat.le_of_eq u3)) (u4.trans hh) i2
    ⟨u1.trans stk.frames, (stk.step (s := ⟨h, g, dr, t, os⟩) st2).ok, (stk.step (s := ⟨h, g, dr, t, os⟩) st2).off, (stk.step (s := ⟨h, g, dr, t, os⟩) st2).frm⟩ (by rw [List.length_cons, List.length_cons, hl]) (fun p hp => ?_)
  · refine codeAny_mono run fun res s' q => ?_
    cases res with
    | error ev =>
      obtain ⟨c', H', e, P⟩ := q
      refine ⟨c', H', by rw [hrc, e]; rfl, ?_⟩
      exact P.trans (s := ⟨h, g, dr, t, os⟩) st2 fun _ _ q => q.older st2.alive
    | ok fl =>
      cases fl with
      | ret mv =>
        obtain ⟨v, H', e, P⟩ := q
        cases v with
        | none =>
          obtain ⟨η', h', tk, es, iv, stp, r⟩ := P
          cases r
          refine ⟨rfl, .ref (H.length + 1), H', by rw [hrc, e]; rfl, η', h', tk, es, iv, st2.trans stp, .ref ?_⟩
          obtain ⟨l, rfl, _⟩ := stp.pre
          refine getElem?_pre ?_
          rw [<- inv.len, sz]; simp
        | _ => exact absurd (by rw [hrc, e]; rfl) hs
      | _ => exact q.elim
  · rw [List.zip_cons_cons] at hp
    rcases List.mem_cons.mp hp with rfl | hp
    · refine .ref ?_
      rw [<- inv.len, sz]; simp
    · exact (hv p hp).step (fr := frs st) (own := []) st2 stk.frm
end
theorem lookup_zip_some : ∀ {ns : List Str} {ms : List Value} {x : Str}, ms.length = ns.length -> x ∈ ns -> ((ns.zip ms).lookup x).isSome = true
  | [], _, _, _, h => nomatch h
  | n :: ns, [], _, h, _ => by cases h
  | n :: ns, m :: ms, x, h, hx => by
    rw [List.zip_cons_cons, List.lookup_cons]
    cases hb : x == n with
    | true => rfl
    | false =>
      have : x ≠ n := by simpa using hb
      exact lookup_zip_some (Nat.succ.inj h) ((List.mem_cons.mp hx).resolve_left this)
theorem filterMap_zip : ∀ {ns : List Str} {ms : List Value} (l : List (Str × Value)), ms.length = ns.length -> ns.Nodup -> (∀ n ∈ ns, l.lookup n = Option.none) -> ns.filterMap (fun n => ((l ++ ns.zip ms).lookup n).map (n, ·)) = ns.zip ms
  | [], _, _, _, _, _ => rfl
  | n :: ns, [], _, h, _, _ => by cases h
  | n :: ns, m :: ms, l, h, hn, hl => by
    rw [List.nodup_cons] at hn
    have e1 : (l ++ (n, m) :: ns.zip ms).lookup n = some m := by
      rw [List.lookup_append, hl n (List.Mem.head _)]; simp
    rw [List.zip_cons_cons, List.filterMap_cons, e1]
    simp only [Option.map_some, List.cons.injEq, true_and]
    have e2 : l ++ (n, m) :: ns.zip ms = (l ++ [(n, m)]) ++ ns.zip ms := by simp
    rw [e2]
    refine filterMap_zip (l ++ [(n, m)]) (Nat.succ.inj h) hn.2 fun k hk => ?_
    rw [List.lookup_append, hl k (List.Mem.tail _ hk)]
    have : k ≠ n := fun q => hn.1 (q ▸ hk)
    have hb : (k == n) = false := by simpa using this
    simp [List.lookup_cons, hb]
theorem bind_of_nil {α β γ : Type} {l : List α} (h : l = []) {init : β} {f : α -> β -> Sem (ForInStep β)} {k : β -> Sem γ} : (forIn l init f >>= k) = k init := by subst h; rfl
theorem bindArgs_plain {fd : FuncData} {ms : List Value} (h1 : fd.params.posonlyargs = []) (h2 : fd.params.kwonlyargs = []) (h3 : fd.params.vararg = Option.none) (h4 : fd.params.kwarg = Option.none) (h5 : fd.defaults = .none)
    (hl : ms.length = (fd.params.args.map (·.arg)).length) (nd : (fd.params.args.map (·.arg)).Nodup) : bindArgs fd ⟨ms, []⟩ = pure ((fd.params.args.map (·.arg)).zip ms) := by
  obtain ⟨name, qual, params, a4, a5, a6, a7, a8, a9, a10, a11, a12, a13, a14, a15⟩ := fd
  obtain ⟨p1, p2, p3, p4, p5, p6, p7⟩ := params
  dsimp only at h1 h2 h3 h4 h5 hl nd ⊢
  subst h1 h2 h3 h4 h5
  have hsq : seqItems? Value.none = pure Option.none := rfl
  have hgt : ¬ (ms.length > (p2.map (·.arg)).length) := by omega
  have hmiss : (p2.map (·.arg)).filter (fun n => (((p2.map (·.arg)).zip ms).lookup n).isNone) = [] := by
    rw [List.filter_eq_nil_iff]
    intro x hx
    have := lookup_zip_some hl hx
    rw [Option.isSome_iff_ne_none] at this
    simpa using this
  have hgt' : ¬ ((decide (ms.length > (p2.map (·.arg)).length) && Option.isNone (Option.none : Option Arg)) = true) := by rw [decide_eq_false hgt]; decide
  have hd0 : List.drop (0 - (p2.map (·.arg)).length) ([] : List Value) = [] := List.drop_nil
  have hm' : ¬ ((!((List.take ((p2.map (·.arg)).length - (List.drop (0 - (p2.map (·.arg)).length) ([] : List Value)).length) (p2.map (·.arg))).filter (fun n => (((p2.map (·.arg)).zip ms).lookup n).isNone)).isEmpty) = true) := by rw [hd0, List.length_nil, Nat.sub_zero, List.take_length, hmiss]; decide
  refine Eq.trans (if_neg hgt') ?_
  refine Eq.trans (if_neg hm') ?_
  refine Eq.trans (bind_of_nil (l := (List.drop ((p2.map (·.arg)).length - (List.drop (0 - (p2.map (·.arg)).length) ([] : List Value)).length) (p2.map (·.arg))).zip (List.drop (0 - (p2.map (·.arg)).length) ([] : List Value))) (by rw [hd0, List.zip_nil_right])) ?_
  have hz' : (List.map (fun x : Arg => x.arg) p2 ++ []).filterMap (fun n => (((List.map (fun x : Arg => x.arg) p2).zip ms).lookup n).map (n, ·)) = (List.map (fun x : Arg => x.arg) p2).zip ms := by rw [List.append_nil]; exact filterMap_zip [] hl nd fun _ _ => rfl
  exact congrArg (pure : List (Str × Value) -> Sem (List (Str × Value))) hz'
noncomputable def okSig (kn ex : String -> Bool) (d : Def) (ps : Arguments) (sc : Scope) (body : List Stmt) : Bool :=
  ps.posonlyargs.isEmpty && ps.kwonlyargs.isEmpty && ps.vararg.isNone && ps.kwarg.isNone && (ps.args.map (·.arg) == d.params.map Str.ofString) && isSs kn ex sc d.body body
    && sc.kind == .function && !sc.isGenerator && !sc.isCoroutine && (d.params.all fun x => isSt sc (Str.ofString x)) && decide d.params.Nodup && decide (((cellsFrom 0 sc.names []).map (·.1)).Nodup)
noncomputable def okDef (kn ex : String -> Bool) (d : Def) (r : DefRec) : Bool := r.name == Str.ofString d.name && okSig kn ex d r.params r.scope r.body
section
variable {X : Cx} {p : Program} {loose : List Str} {mean : ExcName -> Option Value}
theorem defAt_mk {d : Def} {a : Addr} {o : Obj} {fd : FuncData} {body : List Stmt} (h : okSig X.kn X.ex d fd.params fd.scope body = true) (e2 : X.base.get? a = some o) (e3 : o.data = .func fd) (hb : fd.body = .stmts body) (hg : fd.globals = mainGlobals) (hc : fd.closure = []) (hbl : fd.builtins = builtinsNs) (hcd : X.base.CodeRec fd.code fd.qualname) (hdf : fd.defaults = .none) : DefAt X d a body fd.scope := by
  unfold okSig at h
  simp only [Bool.and_eq_true, beq_iff_eq, List.isEmpty_iff, Option.isNone_iff_eq_none, Bool.not_eq_true', decide_eq_true_eq] at h
  obtain ⟨⟨⟨⟨⟨⟨⟨⟨⟨⟨⟨h2, h3⟩, h4⟩, h5⟩, h6⟩, h7⟩, h8⟩, h9⟩, h10⟩, h11⟩, h12⟩, h13⟩ := h
  refine ⟨⟨o, fd, e2, e3, hb, rfl, hg, hc, hbl, hcd, fun ms hm => ?_⟩, h7, h8, h9, h10, h11, h12, h13⟩
  rw [<- h6]
  refine bindArgs_plain h2 h3 h4 h5 hdf ?_ ?_
  · rw [h6, List.length_map, hm]
  · rw [h6]
    exact nodup_map_inj (fun _ _ q => ofString_inj q) h12
theorem defAt_of (T : Top p loose mean X.mg X.mb X.base) {d : Def} (h : (recsOf p).any (okDef X.kn X.ex d) = true) : ∃ a body scope, X.mg (Str.ofString d.name) = some (.ref a) /\ DefAt X d a body scope := by
  obtain ⟨r, hr, ok⟩ := List.any_eq_true.mp h
  obtain ⟨h1, ok⟩ := and_inv ok
  obtain ⟨a, o, pm, code, doc, e1, e2, e3, e4⟩ := T.fn r hr
  exact ⟨a, r.body, r.scope, beq_iff_eq.mp h1 ▸ e1, defAt_mk (fd := PySem.Calls.docDef r.name r.params r.body r.scope pm code doc) ok e2 e3 rfl rfl rfl rfl e4 rfl⟩
noncomputable def funcIn (o : Obj) : Option FuncData := match o.data with | .func fd => some fd | _ => Option.none
noncomputable def bodyIn (b : FuncBody) : Option (List Stmt) := match b with | .stmts b => some b | _ => Option.none
theorem funcIn_inv {o : Obj} {fd : FuncData} (h : funcIn o = some fd) : o.data = .func fd := by
  unfold funcIn at h
  cases e : o.data with
  | func f => rw [e] at h; cases h; rfl
  | _ => rw [e] at h; cases h
theorem bodyIn_inv {b : FuncBody} {l : List Stmt} (h : bodyIn b = some l) : b = .stmts l := by
  cases b with
  | stmts f => cases h; rfl
  | _ => cases h
noncomputable def okInit (kn ex : String -> Bool) (K : Frag) (d : Def) (fI : Addr) : Bool := ((K.lookup fI).bind funcIn).any fun fd => (fd.globals == mainGlobals && fd.closure.isEmpty && fd.builtins == builtinsNs && codeIn K fd.code fd.qualname && fd.defaults == .none) && (bodyIn fd.body).any (okSig kn ex d fd.params fd.scope)
theorem any_inv {α : Type} {o : Option α} {f : α -> Bool} (h : o.any f = true) : ∃ a, o = some a /\ f a = true := by
  cases o with
  | none => cases h
  | some a => exact ⟨a, rfl, h⟩
theorem initAt_of {d : Def} {fI : Addr} (h : okInit X.kn X.ex X.K d fI = true) : ∃ body scope, DefAt X d fI body scope := by
  obtain ⟨fd, e, h⟩ := any_inv h
  obtain ⟨o, ho, e2⟩ := Option.bind_eq_some_iff.mp e
  obtain ⟨h, h1⟩ := and_inv h
  obtain ⟨body, hb, ok⟩ := any_inv h1
  simp only [Bool.and_eq_true, beq_iff_eq, List.isEmpty_iff] at h
  obtain ⟨⟨⟨⟨h2, h3⟩, h4⟩, h5⟩, h6⟩ := h
  exact ⟨body, fd.scope, defAt_mk ok (X.kin _ _ ho) (funcIn_inv e2) (bodyIn_inv hb) h2 h3 h4 (codeRec_of X.kin h5) h6⟩
theorem lk_hd {defs : List Def} {cls : List (String × Def)} {const : String -> Option V} (n : Nat) : (lk defs cls const n).hd = false := by cases n <;> rfl
theorem lk_sound {defs : List Def} {cls : List (String × Def)} {const : String -> Option V} (T : Top p loose mean X.mg X.mb X.base) (hc : ∀ x v, const x = some v -> ∃ mv, Loads X.mg X.mb x mv /\ ∀ η h, VR X η h v mv)
    (hd : (defs.all fun d => (recsOf p).any (okDef X.kn X.ex d)) = true)
    (hcls : ∀ c d, cls.lookup c = some d -> X.cl c = true /\ X.kn c = true /\ ∃ C fI, X.mg (Str.ofString c) = some (.ref C) /\ ClsOk X.K C fI /\ okInit X.kn X.ex X.K d fI = true) : ∀ n, SoundFn X n (lk defs cls const n)
  | 0 => ⟨hc, fun f ws H hs => absurd rfl hs⟩
  | n + 1 => by
    refine ⟨hc, fun f ws H hs => ?_⟩
    cases e : defs.find? (fun d => d.name == f) with
    | none =>
      have hc2 : (lk defs cls const (n + 1)).call f ws H = match cls.lookup f with | some d => runClass (lk defs cls const n) f d ws H | Option.none => .stuck := by
        show (match defs.find? (fun d => d.name == f) with | some d => runDef (lk defs cls const n) d ws H | Option.none => _) = _
        rw [e]; try rfl
      cases e2 : cls.lookup f with
      | none => rw [hc2, e2] at hs; exact absurd rfl hs
      | some d =>
        rw [hc2, e2] at hs ⊢
        obtain ⟨k1, k2, C, fI, k3, k4, k5⟩ := hcls f d e2
        obtain ⟨body, scope, D⟩ := initAt_of k5
        exact callOK_of_class k1 k2 k3 k4 D (lk_sound T hc hd hcls n) (lk_hd n) hs
    | some d =>
      have hc2 : (lk defs cls const (n + 1)).call f ws H = runDef (lk defs cls const n) d ws H := by
        show (match defs.find? (fun d => d.name == f) with | some d => runDef (lk defs cls const n) d ws H | Option.none => _) = _
        rw [e]
      rw [hc2] at hs ⊢
      have hn : d.name = f := by have := List.find?_some e; simpa using this
      obtain ⟨a, body, scope, hf, D⟩ := defAt_of T (List.all_eq_true.mp hd d (List.mem_of_find?_eq_some e))
      exact callOK_of_def (hn ▸ hf) D (lk_sound T hc hd hcls n) (lk_hd n) hs
end
noncomputable def keepV (K : Frag) (v : Value) : Bool := match v with
  | .ref a => keepIn K (.ref a)
  | _ => true
noncomputable def gOk (K : Frag) (f : String) (g : Value -> Bool) : Bool := (nsIn K mainGlobals (Str.ofString f)).any fun o => o.any g
noncomputable def refOk (v : Value) (g : Addr -> Bool) : Bool := match v with
  | .ref a => g a
  | _ => false
theorem gOk_inv {K : Frag} {f : String} {g : Value -> Bool} (h : gOk K f g = true) : ∃ v, nsIn K mainGlobals (Str.ofString f) = some (some v) /\ g v = true := by
  obtain ⟨o, e, h⟩ := any_inv h
  obtain ⟨v, rfl, h⟩ := any_inv h
  exact ⟨v, e, h⟩
theorem refOk_inv {v : Value} {g : Addr -> Bool} (h : refOk v g = true) : ∃ a, v = .ref a /\ g a = true := by
  cases v with
  | ref a => exact ⟨a, rfl, h⟩
  | _ => cases h
noncomputable def okU (K : Frag) (U : List String) : Bool := U.all fun f => gOk K f fun v => keepV K v && (biVal f).isNone
noncomputable def okB (K : Frag) (B : List String) : Bool := B.all fun f => nsIn K mainGlobals (Str.ofString f) == some Option.none && ((biVal f).any fun b => bootBuiltins (Str.ofString f) == some b) && !(f == "__name__")
noncomputable def strIs (m : Value) (t : Str) : Bool := match m with
  | .str s _ => s == t && PyData.strOk s
  | _ => false
noncomputable def intIs (m : Value) (j : Int) : Bool := match m with
  | .int i _ => i == j
  | _ => false
theorem strIs_inv {m : Value} {t : Str} (h : strIs m t = true) : ∃ k, m = .str t k /\ PyData.strOk t = true := by
  cases m with
  | str s k =>
    obtain ⟨h1, h2⟩ := and_inv h
    rw [beq_iff_eq] at h1
    subst h1
    exact ⟨k, rfl, h2⟩
  | _ => cases h
theorem intIs_inv {m : Value} {j : Int} (h : intIs m j = true) : ∃ k, m = .int j k := by
  cases m with
  | int i k => exact ⟨k, by rw [beq_iff_eq.mp h]⟩
  | _ => cases h
noncomputable def constIs (m : Value) : V -> Bool
  | .str t => strIs m t
  | .int j => intIs m j
  | _ => false
noncomputable def okC (K : Frag) (C : List (String × V)) : Bool := C.all fun p => gOk K p.1 fun m => constIs m p.2
noncomputable def okX (K : Frag) (Xs : List String) : Bool := Xs.all fun c => gOk K c fun v => refOk v fun C => excIn K C bmVE "ValueError.__new__" && (clsIn K C).any fun cd => Xs.all fun T => gOk K T fun v => refOk v fun D => cd.mro.contains (.ref D) == excIs c T
noncomputable def clsB (K : Frag) (C fI : Addr) : Bool := makesIn K C && typeIn K (.ref fI) == some (.type "function") && findIn K (.ref C) "__getattribute__" == some (some (.builtin "object.__getattribute__")) && findIn K (.ref C) "__setattr__" == some (some (.builtin "object.__setattr__"))
  && plainOver K C && (clsIn K C).any (·.hasDict) && ["road", "home", "start", "stops"].all fun a => findIn K (.ref C) (Str.ofString a) == some Option.none
noncomputable def okL (K : Frag) (U B Xs : List String) (cls : List (String × Def)) : Bool := cls.all fun p => U.contains p.1 && gOk K p.1 fun v => refOk v fun C => (findIn K (.ref C) "__init__").any fun o => o.any fun f => refOk f fun fI => clsB K C fI && okInit (fun f => U.contains f || B.contains f) (fun f => Xs.contains f) K p.2 fI
theorem clsOk_of {K : Frag} {C fI : Addr} (h : clsB K C fI = true) (hi : findIn K (.ref C) "__init__" = some (some (.ref fI))) : ClsOk K C fI := by
  unfold clsB at h
  simp only [Bool.and_eq_true, beq_iff_eq] at h
  obtain ⟨⟨⟨⟨⟨⟨h1, h2⟩, h3⟩, h4⟩, h5⟩, h6⟩, h7⟩ := h
  refine ⟨h1, hi, h2, h3, h4, h5, h6, fun a ha => ?_⟩
  have hm : a ∈ ["road", "home", "start", "stops"] := by
    unfold attrName at ha
    simp only [Bool.or_eq_true, beq_iff_eq] at ha
    rcases ha with ((rfl | rfl) | rfl) | rfl <;> simp
  exact beq_iff_eq.mp (List.all_eq_true.mp h7 a hm)
section
variable {prog : Program} {w : World} {p : Program} {loose : List Str} {mean : ExcName -> Option Value} {mg mb : Str -> Option Value} {K : Frag} {h : Heap} {U B Xs : List String}
theorem okU_at (X : K.In h) (G : h.Ns mainGlobals mg) (hu : okU K U = true) {f : String} (hf : f ∈ U) : ∃ v, mg (Str.ofString f) = some v /\ keepV K v = true /\ biVal f = Option.none := by
  obtain ⟨v, e, q⟩ := gOk_inv (List.all_eq_true.mp hu f hf)
  obtain ⟨q1, q2⟩ := and_inv q
  exact ⟨v, mg_of X G e, q1, Option.isNone_iff_eq_none.mp q2⟩
theorem okB_at (X : K.In h) (T : Top p loose mean mg mb h) (hb : okB K B = true) {f : String} (hf : f ∈ B) : ∃ v, biVal f = some v /\ mg (Str.ofString f) = Option.none /\ mb (Str.ofString f) = some v := by
  obtain ⟨q, q3⟩ := and_inv (List.all_eq_true.mp hb f hf)
  obtain ⟨q1, q2⟩ := and_inv q
  obtain ⟨b, e3, e2⟩ := any_inv q2
  refine ⟨b, e3, ns_none_of X T.g (beq_iff_eq.mp q1), ?_⟩
  rw [T.builtins _ (fun z => ?_), beq_iff_eq.mp e2]
  rw [show f = "__name__" from ofString_inj z] at q3
  cases q3
theorem clsIn_inv {C : Addr} {cd : ClassData} (e : clsIn K C = some cd) : ∃ o, K.lookup C = some o /\ o.data = .cls cd := by
  unfold clsIn at e
  split at e
  · rename_i ho
    cases e
    exact ⟨_, ho, rfl⟩
  · cases e
theorem okX_at (X : K.In h) (T : Top p loose mean mg mb h) (hx : okX K Xs = true) {c : String} (hc : c ∈ Xs) : OwnExc mg h (fun f => Xs.contains f) c := by
  obtain ⟨v, e, q⟩ := gOk_inv (List.all_eq_true.mp hx c hc)
  obtain ⟨C, rfl, q⟩ := refOk_inv q
  obtain ⟨q1, q2⟩ := and_inv q
  obtain ⟨cd, ecd, q2⟩ := any_inv q2
  refine ⟨C, own_of_in X (topRead_of T) e q1, fun T' D o cd' hT hD ho hd => ?_⟩
  obtain ⟨v', eD, q3⟩ := gOk_inv (List.all_eq_true.mp q2 T' (List.contains_iff_mem.mp hT))
  obtain ⟨D', rfl, q3⟩ := refOk_inv q3
  cases (mg_of X T.g eD).symm.trans hD
  obtain ⟨o', ho', hd'⟩ := clsIn_inv ecd
  cases (X _ _ ho').symm.trans ho
  cases hd'.symm.trans hd
  exact beq_iff_eq.mp q3
theorem okL_at (X : K.In h) (T : Top p loose mean mg mb h) {cls : List (String × Def)} (hL : okL K U B Xs cls = true) {c : String} {d : Def} (hc : (c, d) ∈ cls) :
    U.contains c = true /\ ∃ C fI, mg (Str.ofString c) = some (.ref C) /\ ClsOk K C fI /\ okInit (fun f => U.contains f || B.contains f) (fun f => Xs.contains f) K d fI = true := by
  obtain ⟨q1, q⟩ := and_inv (List.all_eq_true.mp hL (c, d) hc)
  obtain ⟨v, e, q⟩ := gOk_inv q
  obtain ⟨C, rfl, q⟩ := refOk_inv q
  obtain ⟨o, ei, q⟩ := any_inv q
  obtain ⟨f, rfl, q⟩ := any_inv q
  obtain ⟨fI, rfl, q⟩ := refOk_inv q
  obtain ⟨q2, q3⟩ := and_inv q
  exact ⟨q1, C, fI, mg_of X T.g e, clsOk_of q2 ei, q3⟩
theorem keepV_bi {v : Value} (h : ∀ a, v ≠ .ref a) : keepV K v = true := by
  cases v with
  | ref a => exact absurd rfl (h a)
  | _ => rfl
theorem keepV_at {M : Model} {v : Value} (key : keepV K v = true) (h' : Heap) (X : K.In h') : ∃ k, (k = Keeper.frame \/ k = Keeper.machine \/ k = Keeper.boundFrame) /\ PySem.W.Looks M h' (keeperOf v) k := by
  cases v with
  | ref a => exact keeps_K (K := K) (f := .ref a) key h' X
  | _ => exact ⟨.machine, .inr (.inl rfl), Looks.now⟩
noncomputable def cxOf (prog : Program) (w : World) (T : Top p loose mean mg mb h) (X : K.In h) (cls : List (String × Def)) (hu : okU K U = true) (hb : okB K B = true) (hx : okX K Xs = true) (hL : okL K U B Xs cls = true) (hM : (K.lookup sysModules).isSome = true) : Cx where
  prog := prog
  w := w
  base := h
  mg := mg
  mb := mb
  g := T.g
  b := T.b
  nolimit := T.nolimit
  kn := fun f => U.contains f || B.contains f
  known := fun f hk => by
    rw [Bool.or_eq_true, List.contains_iff_mem, List.contains_iff_mem] at hk
    rcases hk with hk | hk
    · obtain ⟨v, e, _⟩ := okU_at X T.g hu hk
      exact ⟨v, .inl e⟩
    · obtain ⟨v, _, e1, e2⟩ := okB_at X T hb hk
      exact ⟨v, .inr ⟨e1, e2⟩⟩
  bi := fun f v hv hk => by
    rw [Bool.or_eq_true, List.contains_iff_mem, List.contains_iff_mem] at hk
    rcases hk with hk | hk
    · obtain ⟨_, _, _, e⟩ := okU_at X T.g hu hk
      rw [hv] at e; cases e
    · obtain ⟨v', e, e1, e2⟩ := okB_at X T hb hk
      rw [hv] at e; cases e
      exact ⟨e1, e2⟩
  ex := fun f => Xs.contains f
  own := fun c hc => okX_at X T hx (by rwa [List.contains_iff_mem] at hc)
  K := K
  kin := X
  sysm := hM
  cl := fun c => cls.any (·.1 == c)
  cls := fun c hc => by
    obtain ⟨⟨c', d⟩, hm, e⟩ := List.any_eq_true.mp hc
    have e' : c' = c := by simpa using e
    subst e'
    obtain ⟨_, C, fI, h1, h2, _⟩ := okL_at X T hL hm
    exact ⟨C, fI, h1, h2⟩
  kp := fun f v hk hl h' k => by
    have key : keepV K v = true := by
      rw [Bool.or_eq_true, List.contains_iff_mem, List.contains_iff_mem] at hk
      rcases hk with hk | hk
      · obtain ⟨v', e, q, _⟩ := okU_at X T.g hu hk
        rw [hl.det (.inl e)]
        exact q
      · obtain ⟨v', e, e1, e2⟩ := okB_at X T hb hk
        rw [hl.det (.inr ⟨e1, e2⟩)]
        exact keepV_bi (biVal_noRef e)
    exact keepV_at key h' (X.keeps k)
theorem okC_at {C : List (String × V)} (T : Top p loose mean mg mb h) (X : K.In h) (hc : okC K C = true) (Y : Cx) (h1 : Y.mg = mg) : ∀ x v, C.lookup x = some v -> ∃ mv, Loads Y.mg Y.mb x mv /\ ∀ η h, VR Y η h v mv := by
  intro x v e
  obtain ⟨m, e1, q2⟩ := gOk_inv (List.all_eq_true.mp hc (x, v) (lookup_mem e))
  rw [h1]
  have hl := mg_of X T.g e1
  cases v with
  | str t =>
    obtain ⟨k, rfl, ok⟩ := strIs_inv q2
    exact ⟨_, .inl hl, fun _ _ => .str _ _ ok⟩
  | int j =>
    obtain ⟨k, rfl⟩ := intIs_inv q2
    exact ⟨_, .inl hl, fun _ _ => .int _ _⟩
  | _ => cases q2
theorem cls_at (prog : Program) (w : World) (T : Top p loose mean mg mb h) (X : K.In h) (cls : List (String × Def)) (hu : okU K U = true) (hb : okB K B = true) (hx : okX K Xs = true) (hL : okL K U B Xs cls = true) (hM : (K.lookup sysModules).isSome = true) : ∀ c d, cls.lookup c = some d ->
    (cxOf prog w T X cls hu hb hx hL hM).cl c = true /\ (cxOf prog w T X cls hu hb hx hL hM).kn c = true /\ ∃ C fI, (cxOf prog w T X cls hu hb hx hL hM).mg (Str.ofString c) = some (.ref C) /\ ClsOk (cxOf prog w T X cls hu hb hx hL hM).K C fI /\ okInit (cxOf prog w T X cls hu hb hx hL hM).kn (cxOf prog w T X cls hu hb hx hL hM).ex (cxOf prog w T X cls hu hb hx hL hM).K d fI = true := by
  intro c d e
  have hm := lookup_mem e
  obtain ⟨h0, C, fI, h1, h2, h3⟩ := okL_at X T hL hm
  exact ⟨List.any_eq_true.mpr ⟨_, hm, beq_self_eq_true c⟩, by show (U.contains c || B.contains c) = true; rw [h0]; rfl, C, fI, h1, h2, h3⟩
theorem law_call {X : Cx} {N : Nat} {Γ : Fn} {ns : List Int} {vs : List Value} {l fa : Addr} {s₁ : Shared} {H' : Hp} {Q : Value -> Shared -> Prop} {E : Value -> Shared -> Prop} (hb : X.base = s₁.heap) (S : SoundFn X N Γ) (hN : N < 100) (hmg : X.mg (Str.ofString "law") = some (.ref fa))
    (run : Γ.call "law" [.scr ns] [] = .ok (.bool true) H') (hL : s₁.heap.IsList l vs.toArray) (hI : IntsAre vs ns) (hn : ns.length <= 63)
    (hq : ∀ s', (∃ h' tk, s' = { s₁ with heap := h', toks := tk } /\ ∀ b o, s₁.heap.get? b = some o -> h'.get? b = some o) -> Q (.bool true) s') : wpAny X.M callerA (call (.ref fa) [.ref l]) Q E s₁ := by
  have C := S.call "law" [.scr ns] [] (by rw [run]; intro q; cases q)
  rw [run] at C
  obtain ⟨fv, e, C⟩ := C
  rw [hmg] at e; cases e
  have inv : Inv X [] [] s₁.heap := ⟨fun b o e => hb ▸ e, rfl, (fun _ q => nomatch q), List.nodup_nil, fun n a o e => by simp at e⟩
  have stk : Stk X [] callerA [] s₁.heap := ⟨rfl, trivial, (fun _ q => nomatch q), fun _ q => nomatch q⟩
  refine wpAny_call (codeAny_mono (C callerA [] [] s₁ [.ref l] ⟨?_, ?_⟩ rfl inv stk rfl fun p hp => ?_) fun res s' q => ?_)
  · show 1 + claimMargin + 2 * N < recursionLimit
    unfold claimMargin recursionLimit; omega
  · show 4 + 8 * N + 300 < cLine
    unfold cLine; omega
  · rw [List.zip_cons_cons, List.zip_nil_left, List.mem_singleton] at hp
    subst hp
    refine .scr (hb ▸ hL) (by simpa using hI) (by unfold line; omega)
  · cases res with
    | error ev => obtain ⟨c, H2, e, _⟩ := q; cases e
    | ok fl =>
      cases fl with
      | ret mv =>
        obtain ⟨v, H2, e, η', h', tk, rfl, i, stp, r⟩ := q
        cases e
        cases r
        exact hq _ ⟨h', tk, rfl, fun b o e => i.keep b o (hb ▸ e)⟩
      | _ => exact q.elim
end
noncomputable def refsOf (o : Obj) : List Addr := match o.data with
  | .dict es _ => es.toList.filterMap fun e => match e.val with | .ref a => some a | _ => Option.none
  | _ => []
noncomputable def nsOfCls (o : Obj) : List Addr := match o.data with
  | .cls cd => [cd.ns]
  | _ => []
noncomputable def codeOfFn (o : Obj) : List Addr := match o.data with
  | .func fd => (match fd.code with | .ref a => [a] | _ => [])
  | _ => []
noncomputable def pick (h : Heap) (as : List Addr) : Frag := as.filterMap fun a => (h.get? a).map fun o => (a, o)
noncomputable def fragOf (h : Heap) : Frag :=
  let g := pick h [mainGlobals]
  let l1 := pick h (g.flatMap fun p => refsOf p.2)
  let l2 := pick h (l1.flatMap fun p => nsOfCls p.2)
  let l3 := pick h (l2.flatMap fun p => refsOf p.2)
  let l4 := pick h (l3.flatMap fun p => codeOfFn p.2)
  g ++ (l1 ++ (l2 ++ (l3 ++ (l4 ++ pick h [sysModules]))))
theorem pick_get {h : Heap} {as : List Addr} {a : Addr} {o : Obj} (hm : (a, o) ∈ pick h as) : h.get? a = some o := by
  obtain ⟨b, _, e⟩ := List.mem_filterMap.mp hm
  obtain ⟨o', g, q⟩ := Option.map_eq_some_iff.mp e
  cases q
  exact g
theorem fragOf_in (h : Heap) : (fragOf h).In h := by
  intro a o e
  have hm := lookup_mem e
  unfold fragOf at hm
  rcases List.mem_append.mp hm with hm | hm
  · exact pick_get hm
  · rcases List.mem_append.mp hm with hm | hm
    · exact pick_get hm
    · rcases List.mem_append.mp hm with hm | hm
      · exact pick_get hm
      · rcases List.mem_append.mp hm with hm | hm
        · exact pick_get hm
        · rcases List.mem_append.mp hm with hm | hm
          · exact pick_get hm
          · exact pick_get hm
noncomputable def seenOk (U B Xs : List String) (C : List (String × V)) (cls : List (String × Def)) (K : Frag) : Bool := okU K U && okB K B && okX K Xs && okC K C && okL K U B Xs cls && (K.lookup sysModules).isSome
noncomputable def Says (U B Xs : List String) (C : List (String × V)) (cls : List (String × Def)) (h : Heap) : Prop := ∃ K : Frag, K.In h /\ seenOk U B Xs C cls K = true
theorem Says.keeps {U B Xs : List String} {C : List (String × V)} {cls : List (String × Def)} {h h' : Heap} (x : Says U B Xs C cls h) (k : ∀ b o, h.get? b = some o -> h'.get? b = some o) : Says U B Xs C cls h' :=
  let ⟨K, i, e⟩ := x; ⟨K, i.keeps k, e⟩
end Mine
namespace Mine
open PySem
@[simp] theorem lk_const {defs : List Def} {cls : List (String × Def)} {const : String -> Option V} (n : Nat) : (lk defs cls const n).const = const := by cases n <;> rfl
@[simp] theorem lookup_here {β : Type} (x : String) (v : β) (r : List (String × β)) : List.lookup x ((x, v) :: r) = some v := by rw [List.lookup_cons, beq_self_eq_true]
@[simp] theorem lookup_next {β : Type} {x y : String} (h : x ≠ y) (v : β) (r : List (String × β)) : List.lookup x ((y, v) :: r) = List.lookup x r := by
  rw [List.lookup_cons, beq_eq_false_iff_ne.mpr h]
theorem lk_call {defs : List Def} {cls : List (String × Def)} {const : String -> Option V} {f : String} {d : Def} (h : defs.find? (fun d => d.name == f) = some d) (n : Nat) (vs : List V) (H : Hp) :
    (lk defs cls const (n + 1)).call f vs H = runDef (lk defs cls const n) d vs H := by
  show (match defs.find? (fun d => d.name == f) with | some d => runDef (lk defs cls const n) d vs H | Option.none => _) = _
  rw [h]
@[simp] theorem ofO_some {α : Type} (H : Hp) (a : α) : ofO H (some a) = .ok a H := rfl
@[simp] theorem ofO_none {α : Type} (H : Hp) : ofO H (Option.none : Option α) = .stuck := rfl
@[simp] theorem truthR_ok (b : Bool) (H : Hp) : truthR (.ok (.bool b) H) = .ok b H := rfl
@[simp] theorem ofR_ok {α : Type} (ρ : Rho) (a : α) (H : Hp) (k : α -> Hp -> RS) : ofR ρ (.ok a H) k = k a H := rfl
@[simp] theorem RS.bind_next (ρ : Rho) (H : Hp) (k : Rho -> Hp -> RS) : (RS.next ρ H).bind k = k ρ H := rfl
@[simp] theorem RS.bind_ret (v : V) (H : Hp) (k : Rho -> Hp -> RS) : (RS.ret v H).bind k = .ret v H := rfl
@[simp] theorem callF_def (Γ : Fn) (f : String) (vs : List V) (H : Hp) : callF Γ f vs H = (if Γ.hd then .stuck else match builtin f vs H with | .stuck => Γ.call f vs H | r => r) := rfl
@[simp] theorem bi_len_scr (ns : List Int) (H : Hp) : builtin "len" [.scr ns] H = .ok (.int ns.length) H := rfl
@[simp] theorem idx_2_0 (a b : V) (H : Hp) : index (.tup [a, b]) (.int 0) H = .ok a H := rfl
@[simp] theorem idx_2_1 (a b : V) (H : Hp) : index (.tup [a, b]) (.int 1) H = .ok b H := rfl
@[simp] theorem bin_add (a b : Int) (H : Hp) : bin .add (.int a) (.int b) H = .ok (.int (a + b)) H := rfl
@[simp] theorem bin_sub (a b : Int) (H : Hp) : bin .sub (.int a) (.int b) H = .ok (.int (a - b)) H := rfl
theorem bin_of {op : Op} {a b z : Int} (H : Hp) (h : intOp op a b = some z) : bin op (.int a) (.int b) H = .ok (.int z) H := by
  have q : bin op (.int a) (.int b) H = (match intOp op a b with | some z => .ok (.int z) H | Option.none => .stuck) := rfl
  rw [q, h]
theorem bin_mul_r {a b : Int} (H : Hp) (h : b.natAbs < 2 ^ 64) : bin .mul (.int a) (.int b) H = .ok (.int (a * b)) H := bin_of H (if_pos (Or.inr h))
theorem bin_mul_l {a b : Int} (H : Hp) (h : a.natAbs < 2 ^ 64) : bin .mul (.int a) (.int b) H = .ok (.int (a * b)) H := bin_of H (if_pos (Or.inl h))
theorem bin_mod {a b : Int} (H : Hp) (h : b ≠ 0) : bin .mod (.int a) (.int b) H = .ok (.int (a.fmod b)) H := bin_of H (if_pos h)
theorem bin_fdiv {a b : Int} (H : Hp) (h : b ≠ 0) (h2 : b.natAbs < 1073741824) : bin .fdiv (.int a) (.int b) H = .ok (.int (a.fdiv b)) H := bin_of H (if_pos ⟨h, h2⟩)
theorem bin_pow {a b : Int} (H : Hp) (h : 0 <= a /\ a <= 10 /\ 0 <= b /\ b <= 100) : bin .pow (.int a) (.int b) H = .ok (.int (a ^ b.toNat)) H := bin_of H (if_pos h)
theorem cmp_eq_int (a b : Int) (H : Hp) : cmp .eq (.int a) (.int b) H = some (a == b) := rfl
theorem cmp_ne_int (a b : Int) (H : Hp) : cmp .ne (.int a) (.int b) H = some (!(a == b)) := rfl
theorem cmp_eq_str (a b : Str) (H : Hp) : cmp .eq (.str a) (.str b) H = some (a == b) := rfl
theorem cmp_ne_str (a b : Str) (H : Hp) : cmp .ne (.str a) (.str b) H = some (!(a == b)) := rfl
theorem cmp_lt (a b : Int) (H : Hp) : cmp .lt (.int a) (.int b) H = some (decide (a < b)) := rfl
theorem cmp_le (a b : Int) (H : Hp) : cmp .le (.int a) (.int b) H = some (decide (a <= b)) := rfl
theorem cmp_gt (a b : Int) (H : Hp) : cmp .gt (.int a) (.int b) H = some (decide (b < a)) := rfl
@[simp] theorem isinst_int (i : Int) (H : Hp) : isinst (.int i) "int" H = some true := rfl
@[simp] theorem isinst_int_bool (i : Int) (H : Hp) : isinst (.int i) "bool" H = some false := rfl
end Mine
namespace Mine.L05
open Mine PySem
noncomputable def d_is_within : Def := { name := "is_within", params := ["number", "low", "high"], body := [
  .ret (.and [(.isinst (.var "number") "int"), (.not (.isinst (.var "number") "bool")), (.cmp2 (.var "low") .le (.var "number") .le (.var "high"))])] }
noncomputable def d_is_road : Def := { name := "is_road", params := ["road"], body := [
  .ret (.and [(.cmp (.idx (.var "road") (.int 0)) .isIn (.tup [(.glob "LINE"), (.glob "RING")])), (.call "is_within" [(.idx (.var "road") (.int 1)), (.int 1), (.glob "LONGEST")])])] }
noncomputable def d_is_place : Def := { name := "is_place", params := ["road", "place"], body := [
  .iff (.cmp (.idx (.var "road") (.int 0)) .eq (.glob "LINE")) [
    .ret (.call "is_within" [(.var "place"), (.int 0), (.idx (.var "road") (.int 1))])] [],
  .ret (.call "is_within" [(.var "place"), (.int 0), (.bin .sub (.idx (.var "road") (.int 1)) (.int 1))])] }
noncomputable def d_apart : Def := { name := "apart", params := ["road", "one", "other"], body := [
  .asg "gap" (.call "abs" [(.bin .sub (.var "one") (.var "other"))]),
  .iff (.cmp (.idx (.var "road") (.int 0)) .eq (.glob "LINE")) [
    .ret (.var "gap")] [],
  .ret (.call "min" [(.var "gap"), (.bin .sub (.idx (.var "road") (.int 1)) (.var "gap"))])] }
noncomputable def d_Day_init : Def := { name := "Day.__init__", params := ["self", "road", "home", "start", "stops"], body := [
  .iff (.not (.call "is_road" [(.var "road")])) [
    .raise "BadRoad" "no road"] [],
  .iff (.not (.call "is_place" [(.var "road"), (.var "home")])) [
    .raise "OffRoad" "no home on the road"] [],
  .iff (.not (.call "is_within" [(.var "start"), (.int 0), (.glob "LATEST")])) [
    .raise "BadTime" "no start"] [],
  .iff (.cmp (.call "len" [(.var "stops")]) .gt (.glob "MOST")) [
    .raise "TooMany" "too many stops"] [],
  .for1 "stop" (.var "stops") [
    .expr (.call "looked_at" [(.var "road"), (.var "stop")])],
  .setattr (.var "self") "road" (.var "road"),
  .setattr (.var "self") "home" (.var "home"),
  .setattr (.var "self") "start" (.var "start"),
  .setattr (.var "self") "stops" (.call "list" [(.var "stops")])] }
noncomputable def d_looked_at : Def := { name := "looked_at", params := ["road", "stop"], body := [
  .unpack ["place", "opens", "closes", "stay"] (.var "stop"),
  .iff (.not (.call "is_place" [(.var "road"), (.var "place")])) [
    .raise "OffRoad" "a stop off the road"] [],
  .for1 "time" (.tup [(.var "opens"), (.var "closes"), (.var "stay")]) [
    .iff (.not (.call "is_within" [(.var "time"), (.int 0), (.glob "LATEST")])) [
      .raise "BadTime" "no time of a stop"] []],
  .iff (.cmp (.var "closes") .lt (.var "opens")) [
    .raise "BadTime" "closed before it opens"] []] }
noncomputable def d_need_order : Def := { name := "need_order", params := ["day", "order"], body := [
  .asg "seen" .dict0,
  .for1 "number" (.var "order") [
    .iff (.or [(.not (.call "is_within" [(.var "number"), (.int 0), (.bin .sub (.call "len" [(.attr (.var "day") "stops")]) (.int 1))])), (.cmp (.var "number") .isIn (.var "seen"))]) [
      .raise "BadOrder" "no order"] [],
    .setidx (.var "seen") (.var "number") (.bool true)]] }
noncomputable def d_served : Def := { name := "served", params := ["stop", "comes"], body := [
  .asg "begins" (.call "max" [(.var "comes"), (.idx (.var "stop") (.int 1))]),
  .iff (.cmp (.var "begins") .gt (.idx (.var "stop") (.int 2))) [
    .ret .none] [],
  .ret (.tup [(.var "begins"), (.bin .add (.var "begins") (.idx (.var "stop") (.int 3)))])] }
noncomputable def d_timetable : Def := { name := "timetable", params := ["day", "order"], body := [
  .expr (.call "need_order" [(.var "day"), (.var "order")]),
  .asg "found" (.list []),
  .asg "place" (.attr (.var "day") "home"),
  .asg "time" (.attr (.var "day") "start"),
  .for1 "number" (.var "order") [
    .asg "stop" (.idx (.attr (.var "day") "stops") (.var "number")),
    .asg "comes" (.bin .add (.var "time") (.call "apart" [(.attr (.var "day") "road"), (.var "place"), (.idx (.var "stop") (.int 0))])),
    .asg "times" (.call "served" [(.var "stop"), (.var "comes")]),
    .iff (.cmp (.var "times") .is .none) [
      .raise "Missed" "a stop has closed"] [],
    .unpack ["begins", "leaves"] (.var "times"),
    .expr (.meth (.var "found") "append" [(.tup [(.var "comes"), (.var "begins"), (.var "leaves")])]),
    .asg "place" (.idx (.var "stop") (.int 0)),
    .asg "time" (.var "leaves")],
  .ret (.var "found")] }
noncomputable def d_begun_at : Def := { name := "begun_at", params := ["day", "begun"], body := [
  .expr (.call "need_order" [(.var "day"), (.var "begun")]),
  .tryE [
    .asg "rows" (.call "timetable" [(.var "day"), (.var "begun")])] [("Missed", [
    .ret .none])],
  .iff (.cmp (.call "len" [(.var "begun")]) .eq (.int 0)) [
    .ret (.tup [(.attr (.var "day") "home"), (.attr (.var "day") "start")])] [],
  .ret (.tup [(.idx (.idx (.attr (.var "day") "stops") (.idx (.var "begun") (.bin .sub (.call "len" [(.var "begun")]) (.int 1)))) (.int 0)), (.idx (.idx (.var "rows") (.bin .sub (.call "len" [(.var "rows")]) (.int 1))) (.int 2))])] }
noncomputable def d_left_at : Def := { name := "left_at", params := ["day", "place", "time", "number"], body := [
  .asg "stop" (.idx (.attr (.var "day") "stops") (.var "number")),
  .asg "times" (.call "served" [(.var "stop"), (.bin .add (.var "time") (.call "apart" [(.attr (.var "day") "road"), (.var "place"), (.idx (.var "stop") (.int 0))]))]),
  .iff (.cmp (.var "times") .is .none) [
    .ret .none] [],
  .ret (.idx (.var "times") (.int 1))] }
noncomputable def d_put_better : Def := { name := "put_better", params := ["found", "key", "leaves", "before"], body := [
  .iff (.cmp (.var "key") .isIn (.var "found")) [
    .unpack ["old", "other"] (.idx (.var "found") (.var "key")),
    .iff (.or [(.cmp (.var "old") .lt (.var "leaves")), (.and [(.cmp (.var "old") .eq (.var "leaves")), (.cmp (.var "other") .le (.var "before"))])]) [
      .ret0] []] [],
  .setidx (.var "found") (.var "key") (.tup [(.var "leaves"), (.var "before")])] }
noncomputable def d_longer : Def := { name := "longer", params := ["day", "level", "left"], body := [
  .asg "found" .tab0,
  .for1 "key" (.var "level") [
    .unpack ["done", "last"] (.var "key"),
    .asg "leaves" (.idx (.idx (.var "level") (.var "key")) (.int 0)),
    .for1 "number" (.var "left") [
      .iff (.cmp (.var "number") .isIn (.var "done")) [
        .cont] [],
      .asg "time" (.call "left_at" [(.var "day"), (.idx (.idx (.attr (.var "day") "stops") (.var "last")) (.int 0)), (.var "leaves"), (.var "number")]),
      .iff (.cmp (.var "time") .isNot .none) [
        .expr (.call "put_better" [(.var "found"), (.tup [(.call "tuple" [(.call "sorted" [(.bin .add (.call "list" [(.var "done")]) (.list [(.var "number")]))])]), (.var "number")]), (.var "time"), (.var "last")])] []]],
  .ret (.var "found")] }
noncomputable def d_table : Def := { name := "table", params := ["day", "begun"], body := [
  .asg "here" (.call "begun_at" [(.var "day"), (.var "begun")]),
  .iff (.cmp (.var "here") .is .none) [
    .ret .tab0] [],
  .unpack ["place", "time"] (.var "here"),
  .asg "left" (.comp (.var "number") "number" (.call "range" [(.call "len" [(.attr (.var "day") "stops")])]) (some (.cmp (.var "number") .notIn (.var "begun")))),
  .asg "level" .tab0,
  .for1 "number" (.var "left") [
    .asg "leaves" (.call "left_at" [(.var "day"), (.var "place"), (.var "time"), (.var "number")]),
    .iff (.cmp (.var "leaves") .isNot .none) [
      .setidx (.var "level") (.tup [(.tup [(.var "number")]), (.var "number")]) (.tup [(.var "leaves"), .none])] []],
  .asg "found" .tab0,
  .whil (.cmp (.call "len" [(.var "level")]) .gt (.int 0)) [
    .expr (.meth (.var "found") "update" [(.var "level")]),
    .asg "level" (.call "longer" [(.var "day"), (.var "level"), (.var "left")])],
  .ret (.var "found")] }
noncomputable def d__law_cell_at : Def := { name := "_law_cell_at", params := ["_law_script", "_law_k"], body := [
  .iff (.cmp (.call "len" [(.var "_law_script")]) .eq (.int 0)) [
    .ret (.var "_law_k")] [],
  .ret (.bin .add (.idx (.var "_law_script") (.bin .mod (.var "_law_k") (.call "len" [(.var "_law_script")]))) (.bin .mul (.int 3) (.bin .fdiv (.var "_law_k") (.call "len" [(.var "_law_script")]))))] }
noncomputable def d__law_wide : Def := { name := "_law_wide", params := ["_law_cell", "_law_bound"], body := [
  .ret (.bin .mod (.bin .mod (.bin .mul (.var "_law_cell") (.int 48271000000007)) (.int 1000000000000037)) (.var "_law_bound"))] }
noncomputable def d__law_whole : Def := { name := "_law_whole", params := ["_law_found"], body := [
  .ret (.and [(.isinst (.var "_law_found") "int"), (.not (.isinst (.var "_law_found") "bool"))])] }
noncomputable def d__law_road_by : Def := { name := "_law_road_by", params := ["_law_cell"], body := [
  .asg "_law_length" (.bin .add (.int 1) (.bin .mod (.bin .fdiv (.var "_law_cell") (.int 2)) (.int 30))),
  .iff (.cmp (.bin .mod (.bin .fdiv (.var "_law_cell") (.int 2)) (.int 5)) .eq (.int 1)) [
    .asg "_law_length" (.bin .add (.int 1) (.call "_law_wide" [(.bin .fdiv (.var "_law_cell") (.int 10)), (.bin .pow (.int 10) (.int 9))]))] [],
  .iff (.cmp (.bin .mod (.bin .fdiv (.var "_law_cell") (.int 2)) (.int 25)) .eq (.int 3)) [
    .asg "_law_length" (.menu [(.int 1), (.int 2), (.int 3), (.bin .pow (.int 10) (.int 9))] (.bin .mod (.bin .fdiv (.var "_law_cell") (.int 50)) (.int 4)))] [],
  .ret (.tup [(.menu [(.str "line"), (.str "ring")] (.bin .mod (.var "_law_cell") (.int 2))), (.var "_law_length")])] }
noncomputable def d__law_places : Def := { name := "_law_places", params := ["_law_road"], body := [
  .iff (.cmp (.idx (.var "_law_road") (.int 0)) .eq (.str "line")) [
    .ret (.bin .add (.idx (.var "_law_road") (.int 1)) (.int 1))] [],
  .ret (.idx (.var "_law_road") (.int 1))] }
noncomputable def d__law_place_by : Def := { name := "_law_place_by", params := ["_law_road", "_law_cell"], body := [
  .asg "_law_many_here" (.call "_law_places" [(.var "_law_road")]),
  .iff (.cmp (.bin .mod (.var "_law_cell") (.int 7)) .eq (.int 0)) [
    .ret (.menu [(.int 0), (.bin .sub (.var "_law_many_here") (.int 1)), (.bin .fdiv (.var "_law_many_here") (.int 2))] (.bin .mod (.bin .fdiv (.var "_law_cell") (.int 7)) (.int 3)))] [],
  .ret (.call "_law_wide" [(.bin .fdiv (.var "_law_cell") (.int 7)), (.var "_law_many_here")])] }
noncomputable def d__law_apart : Def := { name := "_law_apart", params := ["_law_road", "_law_one", "_law_other"], body := [
  .asg "_law_gap" (.call "abs" [(.bin .sub (.var "_law_one") (.var "_law_other"))]),
  .iff (.cmp (.idx (.var "_law_road") (.int 0)) .eq (.str "line")) [
    .ret (.var "_law_gap")] [],
  .ret (.call "min" [(.var "_law_gap"), (.bin .sub (.idx (.var "_law_road") (.int 1)) (.var "_law_gap"))])] }
noncomputable def d__law_start_by : Def := { name := "_law_start_by", params := ["_law_road", "_law_cell"], body := [
  .iff (.cmp (.bin .mod (.var "_law_cell") (.int 3)) .eq (.int 0)) [
    .ret (.int 0)] [],
  .iff (.cmp (.bin .mod (.var "_law_cell") (.int 3)) .eq (.int 1)) [
    .ret (.bin .mod (.bin .fdiv (.var "_law_cell") (.int 3)) (.bin .add (.bin .mul (.int 2) (.idx (.var "_law_road") (.int 1))) (.int 1)))] [],
  .ret (.call "_law_wide" [(.bin .fdiv (.var "_law_cell") (.int 3)), (.bin .add (.bin .pow (.int 10) (.int 12)) (.int 1))])] }
noncomputable def d__law_stop_by : Def := { name := "_law_stop_by", params := ["_law_road", "_law_start", "_law_script", "_law_k"], body := [
  .asg "_law_place" (.call "_law_place_by" [(.var "_law_road"), (.call "_law_cell_at" [(.var "_law_script"), (.var "_law_k")])]),
  .asg "_law_cell" (.call "_law_cell_at" [(.var "_law_script"), (.bin .add (.var "_law_k") (.int 1))]),
  .asg "_law_opens" (.bin .add (.var "_law_start") (.bin .mod (.bin .fdiv (.var "_law_cell") (.int 4)) (.bin .add (.bin .mul (.int 3) (.idx (.var "_law_road") (.int 1))) (.int 2)))),
  .iff (.cmp (.bin .mod (.var "_law_cell") (.int 4)) .eq (.int 0)) [
    .asg "_law_opens" (.int 0)] [],
  .iff (.cmp (.bin .mod (.var "_law_cell") (.int 4)) .eq (.int 1)) [
    .asg "_law_opens" (.call "max" [(.int 0), (.bin .sub (.var "_law_start") (.bin .mod (.bin .fdiv (.var "_law_cell") (.int 4)) (.bin .add (.idx (.var "_law_road") (.int 1)) (.int 1))))])] [],
  .iff (.cmp (.bin .mod (.var "_law_cell") (.int 16)) .eq (.int 6)) [
    .asg "_law_opens" (.bin .add (.var "_law_start") (.call "_law_wide" [(.bin .fdiv (.var "_law_cell") (.int 32)), (.menu [(.bin .pow (.int 10) (.int 9)), (.bin .pow (.int 10) (.int 12))] (.bin .mod (.bin .fdiv (.var "_law_cell") (.int 16)) (.int 2)))]))] [],
  .asg "_law_opens" (.call "min" [(.var "_law_opens"), (.bin .pow (.int 10) (.int 12))]),
  .asg "_law_cell" (.call "_law_cell_at" [(.var "_law_script"), (.bin .add (.var "_law_k") (.int 2))]),
  .asg "_law_closes" (.bin .add (.bin .add (.call "max" [(.var "_law_opens"), (.var "_law_start")]) (.bin .mul (.menu [(.int 0), (.int 3), (.int 9), (.int 20)] (.bin .mod (.var "_law_cell") (.int 4))) (.idx (.var "_law_road") (.int 1)))) (.bin .mod (.bin .fdiv (.var "_law_cell") (.int 4)) (.bin .add (.idx (.var "_law_road") (.int 1)) (.int 2)))),
  .iff (.cmp (.bin .mod (.var "_law_cell") (.int 12)) .eq (.int 0)) [
    .asg "_law_closes" (.var "_law_opens")] [],
  .iff (.cmp (.bin .mod (.var "_law_cell") (.int 9)) .eq (.int 5)) [
    .asg "_law_closes" (.menu [(.bin .pow (.int 10) (.int 12)), (.bin .add (.call "max" [(.var "_law_opens"), (.var "_law_start")]) (.call "_law_wide" [(.bin .fdiv (.var "_law_cell") (.int 18)), (.bin .pow (.int 10) (.int 12))]))] (.bin .mod (.bin .fdiv (.var "_law_cell") (.int 9)) (.int 2)))] [],
  .asg "_law_closes" (.call "min" [(.var "_law_closes"), (.bin .pow (.int 10) (.int 12))]),
  .asg "_law_cell" (.call "_law_cell_at" [(.var "_law_script"), (.bin .add (.var "_law_k") (.int 3))]),
  .asg "_law_stay" (.bin .mod (.bin .fdiv (.var "_law_cell") (.int 3)) (.bin .add (.bin .fdiv (.idx (.var "_law_road") (.int 1)) (.int 3)) (.int 2))),
  .iff (.cmp (.bin .mod (.var "_law_cell") (.int 3)) .eq (.int 0)) [
    .asg "_law_stay" (.int 0)] [],
  .iff (.cmp (.bin .mod (.var "_law_cell") (.int 41)) .eq (.int 7)) [
    .asg "_law_stay" (.call "_law_wide" [(.bin .fdiv (.var "_law_cell") (.int 41)), (.bin .add (.bin .pow (.int 10) (.int 12)) (.int 1))])] [],
  .ret (.tup [(.var "_law_place"), (.var "_law_opens"), (.var "_law_closes"), (.var "_law_stay")])] }
noncomputable def d__law_stops_by : Def := { name := "_law_stops_by", params := ["_law_road", "_law_start", "_law_script", "_law_many_here"], body := [
  .ret (.comp (.call "_law_stop_by" [(.var "_law_road"), (.var "_law_start"), (.var "_law_script"), (.bin .add (.int 4) (.bin .mul (.int 4) (.var "_law_k")))]) "_law_k" (.call "range" [(.var "_law_many_here")]) Option.none)] }
noncomputable def d__law_many : Def := { name := "_law_many", params := ["_law_cell"], body := [
  .iff (.cmp (.bin .mod (.bin .fdiv (.var "_law_cell") (.int 6)) (.int 9)) .eq (.int 4)) [
    .ret (.bin .add (.int 6) (.bin .mod (.bin .fdiv (.var "_law_cell") (.int 54)) (.int 2)))] [],
  .ret (.bin .mod (.var "_law_cell") (.int 6))] }
noncomputable def d__law_leaves : Def := { name := "_law_leaves", params := ["_law_road", "_law_place", "_law_time", "_law_stop"], body := [
  .asg "_law_begins" (.call "max" [(.bin .add (.var "_law_time") (.call "_law_apart" [(.var "_law_road"), (.var "_law_place"), (.idx (.var "_law_stop") (.int 0))])), (.idx (.var "_law_stop") (.int 1))]),
  .iff (.cmp (.var "_law_begins") .gt (.idx (.var "_law_stop") (.int 2))) [
    .ret .none] [],
  .ret (.bin .add (.var "_law_begins") (.idx (.var "_law_stop") (.int 3)))] }
noncomputable def d__law_behind : Def := { name := "_law_behind", params := ["_law_road", "_law_home", "_law_start", "_law_stops", "_law_order"], body := [
  .asg "_law_place" (.var "_law_home"),
  .asg "_law_time" (.var "_law_start"),
  .for1 "_law_number" (.var "_law_order") [
    .asg "_law_time" (.call "_law_leaves" [(.var "_law_road"), (.var "_law_place"), (.var "_law_time"), (.idx (.var "_law_stops") (.var "_law_number"))]),
    .iff (.cmp (.var "_law_time") .is .none) [
      .ret .none] [],
    .asg "_law_place" (.idx (.idx (.var "_law_stops") (.var "_law_number")) (.int 0))],
  .ret (.tup [(.var "_law_place"), (.var "_law_time")])] }
noncomputable def d__law_begun_by : Def := { name := "_law_begun_by", params := ["_law_script", "_law_many_here", "_law_most"], body := [
  .asg "_law_order" (.list []),
  .asg "_law_left" (.call "list" [(.call "range" [(.var "_law_many_here")])]),
  .for1 "_law_k" (.call "range" [(.bin .mod (.call "_law_cell_at" [(.var "_law_script"), (.int 32)]) (.bin .add (.call "min" [(.var "_law_many_here"), (.var "_law_most")]) (.int 1)))]) [
    .asg "_law_at" (.bin .mod (.call "_law_cell_at" [(.var "_law_script"), (.bin .add (.int 33) (.var "_law_k"))]) (.call "len" [(.var "_law_left")])),
    .expr (.meth (.var "_law_order") "append" [(.idx (.var "_law_left") (.var "_law_at"))]),
    .asg "_law_left" (.bin .add (.slice (.var "_law_left") .none (.var "_law_at")) (.slice (.var "_law_left") (.bin .add (.var "_law_at") (.int 1)) .none))],
  .ret (.var "_law_order")] }
noncomputable def d__law_key : Def := { name := "_law_key", params := ["_law_key_here", "_law_left"], body := [
  .iff (.or [(.not (.isinst (.var "_law_key_here") "tuple")), (.cmp (.call "len" [(.var "_law_key_here")]) .ne (.int 2)), (.not (.isinst (.idx (.var "_law_key_here") (.int 0)) "tuple"))]) [
    .ret (.bool false)] [],
  .for1 "_law_number" (.idx (.var "_law_key_here") (.int 0)) [
    .iff (.or [(.not (.call "_law_whole" [(.var "_law_number")])), (.cmp (.var "_law_number") .notIn (.var "_law_left"))]) [
      .ret (.bool false)] []],
  .iff (.or [(.cmp (.call "len" [(.idx (.var "_law_key_here") (.int 0))]) .eq (.int 0)), (.cmp (.call "list" [(.idx (.var "_law_key_here") (.int 0))]) .ne (.sset (.idx (.var "_law_key_here") (.int 0))))]) [
    .ret (.bool false)] [],
  .ret (.and [(.call "_law_whole" [(.idx (.var "_law_key_here") (.int 1))]), (.cmp (.idx (.var "_law_key_here") (.int 1)) .isIn (.idx (.var "_law_key_here") (.int 0)))])] }
noncomputable def d__law_form : Def := { name := "_law_form", params := ["_law_found", "_law_left"], body := [
  .iff (.not (.isinst (.var "_law_found") "dict")) [
    .ret (.bool false)] [],
  .for1 "_law_key_here" (.var "_law_found") [
    .asg "_law_value" (.idx (.var "_law_found") (.var "_law_key_here")),
    .iff (.or [(.not (.call "_law_key" [(.var "_law_key_here"), (.var "_law_left")])), (.not (.isinst (.var "_law_value") "tuple")), (.cmp (.call "len" [(.var "_law_value")]) .ne (.int 2))]) [
      .ret (.bool false)] [],
    .iff (.or [(.not (.call "_law_whole" [(.idx (.var "_law_value") (.int 0))])), (.and [(.cmp (.idx (.var "_law_value") (.int 1)) .isNot .none), (.not (.call "_law_whole" [(.idx (.var "_law_value") (.int 1))]))])]) [
      .ret (.bool false)] []],
  .ret (.bool true)] }
noncomputable def d__law_goes_back : Def := { name := "_law_goes_back", params := ["_law_found", "_law_road", "_law_place", "_law_time", "_law_stops", "_law_key_here"], body := [
  .asg "_law_leaves_here" (.idx (.idx (.var "_law_found") (.var "_law_key_here")) (.int 0)),
  .asg "_law_before" (.idx (.idx (.var "_law_found") (.var "_law_key_here")) (.int 1)),
  .asg "_law_last" (.idx (.var "_law_key_here") (.int 1)),
  .asg "_law_rest" (.call "tuple" [(.comp (.var "_law_number") "_law_number" (.idx (.var "_law_key_here") (.int 0)) (some (.cmp (.var "_law_number") .ne (.var "_law_last"))))]),
  .iff (.cmp (.call "len" [(.var "_law_rest")]) .eq (.int 0)) [
    .ret (.and [(.cmp (.var "_law_before") .is .none), (.cmp (.var "_law_leaves_here") .eq (.call "_law_leaves" [(.var "_law_road"), (.var "_law_place"), (.var "_law_time"), (.idx (.var "_law_stops") (.var "_law_last"))]))])] [],
  .iff (.or [(.cmp (.var "_law_before") .is .none), (.cmp (.tup [(.var "_law_rest"), (.var "_law_before")]) .notIn (.var "_law_found"))]) [
    .ret (.bool false)] [],
  .for1 "_law_number" (.var "_law_rest") [
    .iff (.and [(.cmp (.var "_law_number") .le (.var "_law_before")), (.cmp (.tup [(.var "_law_rest"), (.var "_law_number")]) .isIn (.var "_law_found"))]) [
      .asg "_law_due" (.call "_law_leaves" [(.var "_law_road"), (.idx (.idx (.var "_law_stops") (.var "_law_number")) (.int 0)), (.idx (.idx (.var "_law_found") (.tup [(.var "_law_rest"), (.var "_law_number")])) (.int 0)), (.idx (.var "_law_stops") (.var "_law_last"))]),
      .iff (.or [(.and [(.cmp (.var "_law_number") .eq (.var "_law_before")), (.cmp (.var "_law_leaves_here") .ne (.var "_law_due"))]), (.and [(.cmp (.var "_law_number") .lt (.var "_law_before")), (.cmp (.var "_law_leaves_here") .eq (.var "_law_due"))])]) [
        .ret (.bool false)] []] []],
  .ret (.bool true)] }
noncomputable def d__law_right : Def := { name := "_law_right", params := ["_law_day", "_law_road", "_law_home", "_law_start", "_law_stops", "_law_begun"], body := [
  .asg "_law_handed" (.call "list" [(.var "_law_begun")]),
  .asg "_law_found" (.call "table" [(.var "_law_day"), (.var "_law_handed")]),
  .iff (.or [(.cmp (.var "_law_handed") .ne (.var "_law_begun")), (.cmp (.attr (.var "_law_day") "stops") .ne (.var "_law_stops")), (.cmp (.tup [(.attr (.var "_law_day") "road"), (.attr (.var "_law_day") "home"), (.attr (.var "_law_day") "start")]) .ne (.tup [(.var "_law_road"), (.var "_law_home"), (.var "_law_start")]))]) [
    .ret (.bool false)] [],
  .asg "_law_at" (.call "_law_behind" [(.var "_law_road"), (.var "_law_home"), (.var "_law_start"), (.var "_law_stops"), (.var "_law_begun")]),
  .iff (.cmp (.var "_law_at") .is .none) [
    .ret (.and [(.isinst (.var "_law_found") "dict"), (.cmp (.call "len" [(.var "_law_found")]) .eq (.int 0))])] [],
  .iff (.not (.call "_law_form" [(.var "_law_found"), (.comp (.var "_law_number") "_law_number" (.call "range" [(.call "len" [(.var "_law_stops")])]) (some (.cmp (.var "_law_number") .notIn (.var "_law_begun"))))])) [
    .ret (.bool false)] [],
  .for1 "_law_key_here" (.var "_law_found") [
    .iff (.not (.call "_law_goes_back" [(.var "_law_found"), (.var "_law_road"), (.idx (.var "_law_at") (.int 0)), (.idx (.var "_law_at") (.int 1)), (.var "_law_stops"), (.var "_law_key_here")])) [
      .ret (.bool false)] []],
  .asg "_law_kept" (.dictOf (.var "_law_found")),
  .expr (.meth (.var "_law_found") "clear" []),
  .ret (.cmp (.call "table" [(.var "_law_day"), (.var "_law_handed")]) .eq (.var "_law_kept"))] }
noncomputable def d_law : Def := { name := "law", params := ["_law_script"], body := [
  .asg "_law_road" (.call "_law_road_by" [(.call "_law_cell_at" [(.var "_law_script"), (.int 0)])]),
  .asg "_law_home" (.call "_law_place_by" [(.var "_law_road"), (.call "_law_cell_at" [(.var "_law_script"), (.int 1)])]),
  .asg "_law_start" (.call "_law_start_by" [(.var "_law_road"), (.call "_law_cell_at" [(.var "_law_script"), (.int 2)])]),
  .asg "_law_stops" (.call "_law_stops_by" [(.var "_law_road"), (.var "_law_start"), (.var "_law_script"), (.call "_law_many" [(.call "_law_cell_at" [(.var "_law_script"), (.int 3)])])]),
  .iff (.and [(.cmp (.call "len" [(.var "_law_stops")]) .gt (.int 0)), (.cmp (.bin .mod (.call "_law_cell_at" [(.var "_law_script"), (.int 40)]) (.int 3)) .eq (.int 0))]) [
    .asg "_law_late" (.call "min" [(.bin .add (.var "_law_start") (.bin .mul (.int 8) (.idx (.var "_law_road") (.int 1)))), (.bin .pow (.int 10) (.int 12))]),
    .asg "_law_stops" (.bin .add (.list [(.tup [(.idx (.idx (.var "_law_stops") (.int 0)) (.int 0)), (.var "_law_late"), (.call "min" [(.bin .add (.var "_law_start") (.bin .mul (.int 30) (.idx (.var "_law_road") (.int 1)))), (.bin .pow (.int 10) (.int 12))]), (.idx (.idx (.var "_law_stops") (.int 0)) (.int 3))])]) (.slice (.var "_law_stops") (.int 1) .none))] [],
  .asg "_law_begun" (.call "_law_begun_by" [(.var "_law_script"), (.call "len" [(.var "_law_stops")]), (.int 7)]),
  .asg "_law_day" (.call "Day" [(.var "_law_road"), (.var "_law_home"), (.var "_law_start"), (.call "list" [(.var "_law_stops")])]),
  .iff (.not (.call "_law_right" [(.var "_law_day"), (.var "_law_road"), (.var "_law_home"), (.var "_law_start"), (.var "_law_stops"), (.var "_law_begun")])) [
    .ret (.bool false)] [],
  .iff (.not (.call "_law_right" [(.var "_law_day"), (.var "_law_road"), (.var "_law_home"), (.var "_law_start"), (.var "_law_stops"), (.bin .add (.bin .add (.slice (.var "_law_begun") (.int 1) (.int 2)) (.slice (.var "_law_begun") .none (.int 1))) (.slice (.var "_law_begun") (.int 2) .none))])) [
    .ret (.bool false)] [],
  .ret (.call "_law_right" [(.var "_law_day"), (.var "_law_road"), (.var "_law_home"), (.var "_law_start"), (.var "_law_stops"), (.comp (.idx (.var "_law_begun") (.bin .sub (.neg (.int 1)) (.var "_law_k"))) "_law_k" (.call "range" [(.call "len" [(.var "_law_begun")])]) Option.none)])] }
noncomputable def constL : List (String × V) := [("LINE", .str (Str.ofString "line")), ("RING", .str (Str.ofString "ring")), ("LONGEST", .int 1000000000), ("LATEST", .int 1000000000000), ("MOST", .int 7)]
noncomputable def consts (x : String) : Option V := constL.lookup x
noncomputable def defs : List Def := [d_law, d__law_right, d__law_goes_back, d__law_form, d__law_key, d__law_begun_by, d__law_behind, d__law_leaves, d__law_many, d__law_stops_by, d__law_stop_by, d__law_start_by, d__law_apart, d__law_place_by, d__law_places, d__law_road_by, d__law_whole, d__law_wide, d__law_cell_at, d_table, d_longer, d_put_better, d_left_at, d_begun_at, d_timetable, d_served, d_need_order, d_looked_at, d_apart, d_is_place, d_is_road, d_is_within]
noncomputable def clss : List (String × Def) := [("Day", d_Day_init)]
end Mine.L05
namespace Mine.K
open Mine PySem
noncomputable def fin (r : RS) : R V := match r with
  | .next _ H => .ok .none H
  | .ret v H => .ok v H
  | .raise c _ H => .raise c H
  | _ => .stuck
noncomputable def Fin (P : R V -> Prop) (r : RS) : Prop := P (fin r)
theorem runDef_P {Γ : Fn} {d : Def} {vs : List V} {ρ : Rho} {H : Hp} {P : R V -> Prop} (e : setAll d.params vs [] = some ρ) (h : Fin P (exSs Γ d.body ρ H)) : P (runDef Γ d vs H) := by
  have q : runDef Γ d vs H = fin (exSs Γ d.body ρ H) := by
    unfold runDef
    rw [e]
    dsimp only
    cases exSs Γ d.body ρ H <;> rfl
  rw [q]; exact h
theorem runDef_is {Γ : Fn} {d : Def} {vs : List V} {ρ : Rho} {H : Hp} {X : R V} (e : setAll d.params vs [] = some ρ) (h : Fin (fun r => r = X) (exSs Γ d.body ρ H)) : runDef Γ d vs H = X := runDef_P (P := fun r => r = X) e h
noncomputable def Is (X r : RS) : Prop := r = X
noncomputable def Ext (H H' : Hp) : Prop := ∃ L, H' = H ++ L
theorem Ext.refl (H : Hp) : Ext H H := ⟨[], by simp⟩
theorem Ext.trans {H H1 H2 : Hp} (a : Ext H H1) (b : Ext H1 H2) : Ext H H2 := by
  obtain ⟨l, rfl⟩ := a; obtain ⟨m, rfl⟩ := b; exact ⟨l ++ m, by simp⟩
theorem Ext.get {H H' : Hp} (a : Ext H H') {k : Nat} {o : O} (h : H[k]? = some o) : H'[k]? = some o := by
  obtain ⟨l, rfl⟩ := a
  rw [List.getElem?_append_left (List.getElem?_eq_some_iff.mp h).1]; exact h
theorem ext_app (H L : Hp) : Ext H (H ++ L) := ⟨L, rfl⟩
theorem len_app1 (H : Hp) (o : O) : (H ++ [o])[H.length]? = some o := by simp
theorem set_app1 (H : Hp) (o o' : O) : (H ++ [o]).set H.length o' = H ++ [o'] := by
  rw [List.set_append_right _ _ (Nat.le_refl _), Nat.sub_self]; rfl
theorem setL_self (x : String) (v : V) : ∀ ρ : Rho, List.lookup x (setL x v ρ) = some v
  | [] => lookup_here x v []
  | (y, w) :: r => by
    show List.lookup x (if y = x then (y, v) :: r else (y, w) :: setL x v r) = _
    by_cases h : y = x
    · rw [if_pos h, h]; exact lookup_here x v r
    · rw [if_neg h, lookup_next (fun q => h q.symm)]; exact setL_self x v r
theorem lookup_setL (x y : String) (v : V) : ∀ ρ : Rho, List.lookup y (setL x v ρ) = if y = x then some v else List.lookup y ρ
  | [] => by
    show List.lookup y [(x, v)] = _
    by_cases h : y = x
    · rw [if_pos h, h]; exact lookup_here x v []
    · rw [if_neg h]; exact lookup_next h v []
  | (z, w) :: r => by
    have ih := lookup_setL x y v r
    show List.lookup y (if z = x then (z, v) :: r else (z, w) :: setL x v r) = _
    by_cases h : z = x
    · rw [if_pos h]
      by_cases h2 : y = x
      · rw [if_pos h2, h, h2]; exact lookup_here x v r
      · rw [if_neg h2, lookup_next (by rw [h]; exact h2), lookup_next (by rw [h]; exact h2)]
    · rw [if_neg h]
      by_cases h2 : y = z
      · rw [h2, if_neg h]; exact (lookup_here z w _).trans (lookup_here z w _).symm
      · rw [lookup_next h2, ih, lookup_next h2]
theorem setL_other {x y : String} {v : V} {ρ : Rho} {o : Option V} (h : y ≠ x) (e : List.lookup y ρ = o) : List.lookup y (setL x v ρ) = o := by rw [lookup_setL, if_neg h, e]
section
variable {T : RS -> Prop} {Γ : Fn} {ρ ρ1 : Rho} {x : String} {e t : E} {a a' b ss : List S} {H H1 H2 : Hp} {v : V}
theorem ss_asg (h : evE Γ ρ e H = .ok v H1) (k : T (exSs Γ ss (setL x v ρ) H1)) : T (exSs Γ (.asg x e :: ss) ρ H) := by
  have q : exSs Γ (.asg x e :: ss) ρ H = exSs Γ ss (setL x v ρ) H1 := by rw [exSs_cons, exS_asg, h]; rfl
  rw [q]; exact k
theorem ss_asg_raise {c : String} (h : evE Γ ρ e H = .raise c H1) (k : T (.raise c ρ H1)) : T (exSs Γ (.asg x e :: ss) ρ H) := by
  have q : exSs Γ (.asg x e :: ss) ρ H = .raise c ρ H1 := by rw [exSs_cons, exS_asg, h]; rfl
  rw [q]; exact k
theorem exSs_app : ∀ (a : List S) (ρ : Rho) (H : Hp), exSs Γ (a ++ ss) ρ H = (exSs Γ a ρ H).bind fun ρ1 H1 => exSs Γ ss ρ1 H1
  | [], ρ, H => rfl
  | s :: a, ρ, H => by
    have ih := exSs_app a
    show exSs Γ (s :: (a ++ ss)) ρ H = _
    rw [exSs_cons, exSs_cons]
    cases exS Γ s ρ H <;> simp [ih, RS.bind]
theorem ss_if {c : Bool} (ht : evE Γ ρ t H = .ok (.bool c) H1) (k : T (exSs Γ ((if c then a else a') ++ ss) ρ H1)) : T (exSs Γ (.iff t a a' :: ss) ρ H) := by
  have q : exSs Γ (.iff t a a' :: ss) ρ H = exSs Γ ((if c then a else a') ++ ss) ρ H1 := by
    rw [exSs_app, exSs_cons, exS_iff, evT, ht]
    cases c <;> rfl
  rw [q]; exact k
theorem ss_ret (h : evE Γ ρ e H = .ok v H1) (k : T (.ret v H1)) : T (exSs Γ (.ret e :: ss) ρ H) := by
  have q : exSs Γ (.ret e :: ss) ρ H = .ret v H1 := by rw [exSs_cons, exS_ret, h]; rfl
  rw [q]; exact k
theorem ss_expr (h : evE Γ ρ e H = .ok v H1) (k : T (exSs Γ ss ρ H1)) : T (exSs Γ (.expr e :: ss) ρ H) := by
  have q : exSs Γ (.expr e :: ss) ρ H = exSs Γ ss ρ H1 := by rw [exSs_cons, exS_expr, h]; rfl
  rw [q]; exact k
theorem ss_raise {c m : String} (hd : Γ.hd = false) (k : T (.raise c ρ H)) : T (exSs Γ (.raise c m :: ss) ρ H) := by
  have q : exSs Γ (.raise c m :: ss) ρ H = .raise c ρ H := by rw [exSs_cons, exS_raise, hd]; rfl
  rw [q]; exact k
theorem ss_unpack {xs : List String} {vs : List V} (hd : Γ.hd = false) (h : evE Γ ρ e H = .ok v H1) (hp : partsV v H1 = some vs) (hs : setAll xs vs ρ = some ρ1) (k : T (exSs Γ ss ρ1 H1)) : T (exSs Γ (.unpack xs e :: ss) ρ H) := by
  have q : exSs Γ (.unpack xs e :: ss) ρ H = exSs Γ ss ρ1 H1 := by
    rw [exSs_cons, exS_unpack, hd, if_neg (by decide), h]
    show RS.bind (unpackV xs v ρ H1 _) _ = _
    unfold unpackV
    rw [hp]
    dsimp only
    rw [hs]; rfl
  rw [q]; exact k
theorem ss_setidx {o i : E} {w k : V} {H3 H4 : Hp} (he : evE Γ ρ e H = .ok v H1) (ho : evE Γ ρ o H1 = .ok w H2) (hi : evE Γ ρ i H2 = .ok k H3) (hs : setK w k v H3 = .ok () H4)
    (kk : T (exSs Γ ss ρ H4)) : T (exSs Γ (.setidx o i e :: ss) ρ H) := by
  have q : exSs Γ (.setidx o i e :: ss) ρ H = exSs Γ ss ρ H4 := by
    rw [exSs_cons, exS_setidx, he, ofR_ok, ho, ofR_ok, hi, ofR_ok, hs]; rfl
  rw [q]; exact kk
theorem ss_ret0 (k : T (.ret .none H)) : T (exSs Γ (.ret0 :: ss) ρ H) := k
theorem ss_cont (k : T (.cont ρ H)) : T (exSs Γ (.cont :: ss) ρ H) := k
theorem ss_while {r : RS} (hd : Γ.hd = false) (h : whileL (fun ρ H => evT Γ ρ t H) (fun ρ H => exSs Γ b ρ H) 64 ρ H = r) (k : T (r.bind fun ρ1 H2 => exSs Γ ss ρ1 H2)) : T (exSs Γ (.whil t b :: ss) ρ H) := by
  have q : exSs Γ (.whil t b :: ss) ρ H = r.bind fun ρ1 H2 => exSs Γ ss ρ1 H2 := by rw [exSs_cons, exS_whil, hd, if_neg (by decide), h]
  rw [q]; exact k
theorem ss_try {hs : List (String × List S)} {r : RS} (hd : Γ.hd = false) (h : exSs Γ b ρ H = r) (k : T ((tryV r fun c ρ1 H1 => exH { Γ with hd := true } c hs ρ1 H1).bind fun ρ1 H2 => exSs Γ ss ρ1 H2)) : T (exSs Γ (.tryE b hs :: ss) ρ H) := by
  have q : exSs Γ (.tryE b hs :: ss) ρ H = (tryV r fun c ρ1 H1 => exH { Γ with hd := true } c hs ρ1 H1).bind fun ρ1 H2 => exSs Γ ss ρ1 H2 := by rw [exSs_cons, exS_tryE, hd, if_neg (by decide), h]
  rw [q]; exact k
theorem ss_for {xs : List V} {r : RS} (hd : Γ.hd = false) (he : evE Γ ρ e H = .ok v H1) (hx : items H1 v = some xs) (hf : forL (fun v ρ1 H2 => exSs Γ b (setL x v ρ1) H2) (sameO v H1) xs ρ H1 = r)
    (k : T (r.bind fun ρ1 H2 => exSs Γ ss ρ1 H2)) : T (exSs Γ (.for1 x e b :: ss) ρ H) := by
  have q : exSs Γ (.for1 x e b :: ss) ρ H = r.bind fun ρ1 H2 => exSs Γ ss ρ1 H2 := by
    rw [exSs_cons, exS_for1, hd, if_neg (by decide), he, ofR_ok, forV, hx]
    dsimp only
    rw [hf]
  rw [q]; exact k
end
section
variable {Γ : Fn} {ρ : Rho} {H H1 H2 H3 : Hp} {u v w : V}
theorem ev_bin {op : Op} {a b : E} (ha : evE Γ ρ a H = .ok u H1) (hb : evE Γ ρ b H1 = .ok v H2) : evE Γ ρ (.bin op a b) H = bin op u v H2 := by
  rw [evE_bin, ha, R.bind_ok, hb, R.bind_ok]
theorem ev_var {x : String} (h : ρ.lookup x = some v) : evE Γ ρ (.var x) H = .ok v H := by
  rw [evE_var, h]; rfl
theorem ev_cmp {op : Cm} {a b : E} {c : Bool} (ha : evE Γ ρ a H = .ok u H1) (hb : evE Γ ρ b H1 = .ok v H2) (hc : cmp op u v H2 = some c) : evE Γ ρ (.cmp a op b) H = .ok (.bool c) H2 := by
  rw [evE_cmp, ha, R.bind_ok, hb, R.bind_ok, hc]; rfl
theorem ev_not {a : E} {c b : Bool} (h : evE Γ ρ a H = .ok (.bool c) H1) (hb : (!c) = b) : evE Γ ρ (.not a) H = .ok (.bool b) H1 := by
  rw [evE_not, h, <- hb]; rfl
theorem ev_call {f : String} {es : List E} {vs : List V} {r : R V} (hd : Γ.hd = false) (h : evEs Γ ρ es H = .ok vs H1) (hb : builtin f vs H1 = .stuck) (hc : Γ.call f vs H1 = r) : evE Γ ρ (.call f es) H = r := by
  rw [evE_call, h, R.bind_ok, callF, hd, if_neg (by decide), hb]; exact hc
theorem ev_bi {f : String} {es : List E} {vs : List V} (hd : Γ.hd = false) (h : evEs Γ ρ es H = .ok vs H1) (hb : builtin f vs H1 = .ok v H2) : evE Γ ρ (.call f es) H = .ok v H2 := by
  rw [evE_call, h, R.bind_ok, callF, hd, if_neg (by decide), hb]
theorem evs_nil : evEs Γ ρ [] H = .ok [] H := rfl
theorem evs_cons {e : E} {es : List E} {vs : List V} (h : evE Γ ρ e H = .ok v H1) (h2 : evEs Γ ρ es H1 = .ok vs H2) : evEs Γ ρ (e :: es) H = .ok (v :: vs) H2 := by
  rw [evEs_cons, h, R.bind_ok, h2]; rfl
theorem evs_one {e : E} (h : evE Γ ρ e H = .ok v H1) : evEs Γ ρ [e] H = .ok [v] H1 := evs_cons h evs_nil
theorem ev_meth {o : E} {m : String} {es : List E} {vs : List V} (ho : evE Γ ρ o H = .ok w H1) (hk : kindV w H1 = some (mType m)) (ha : evEs Γ ρ es H1 = .ok vs H2) (hm : meth w m vs H2 = .ok v H3) : evE Γ ρ (.meth o m es) H = .ok v H3 := by
  rw [evE_meth, ho, R.bind_ok, if_pos hk, ha, R.bind_ok, hm]
theorem ev_idx {o i : E} {r : R V} (ho : evE Γ ρ o H = .ok u H1) (hi : evE Γ ρ i H1 = .ok v H2) (h : index u v H2 = r) : evE Γ ρ (.idx o i) H = r := by
  rw [evE_idx, ho, R.bind_ok, hi, R.bind_ok, h]
theorem ev_comp {elt it : E} {x : String} {cond : Option E} {xs : List V} (hd : Γ.hd = false) (hit : evE Γ ρ it H = .ok v H1) (hx : items H1 v = some xs)
    (ht : turns (fun y H2 => (evC Γ ((x, y) :: ρ) cond H2).bind fun t H3 => if t then (evE Γ ((x, y) :: ρ) elt H3).bind fun w H4 => .ok (some w) H4 else .ok Option.none H3) (sameO v H1) H1.length xs (H1 ++ [.list []]) = .ok () H2) : evE Γ ρ (.comp elt x it cond) H = .ok (.ref H1.length) H2 := by
  rw [evE_comp, hd, if_neg (by decide), hit, R.bind_ok, compV, hx]
  dsimp only
  rw [ht]; rfl
theorem ev_int (i : Int) : evE Γ ρ (.int i) H = .ok (.int i) H := rfl
theorem ev_none : evE Γ ρ .none H = .ok .none H := rfl
theorem ev_bool (b : Bool) : evE Γ ρ (.bool b) H = .ok (.bool b) H := rfl
theorem ev_tup {es : List E} {vs : List V} (h : evEs Γ ρ es H = .ok vs H1) : evE Γ ρ (.tup es) H = .ok (.tup vs) H1 := by rw [evE_tup, h]; rfl
theorem ev_list {es : List E} {vs : List V} (h : evEs Γ ρ es H = .ok vs H1) : evE Γ ρ (.list es) H = .ok (.ref H1.length) (H1 ++ [.list vs]) := by rw [evE_list, h]; rfl
theorem ev_attr {o : E} {a : String} (h : evE Γ ρ o H = .ok u H1) (h2 : attrV u a H1 = .ok v H1) : evE Γ ρ (.attr o a) H = .ok v H1 := by rw [evE_attr, h, R.bind_ok, h2]
theorem ev_bin2 {op : Op} {a b : E} (ha : evE Γ ρ a H = .ok u H1) (hb : evE Γ ρ b H1 = .ok v H2) (h : bin op u v H2 = .ok w H3) : evE Γ ρ (.bin op a b) H = .ok w H3 := by rw [ev_bin ha hb, h]
theorem ev_isinst {e : E} {T : String} {c : Bool} (h : evE Γ ρ e H = .ok u H1) (h2 : isinst u T H1 = some c) : evE Γ ρ (.isinst e T) H = .ok (.bool c) H1 := by rw [evE_isinst, h, R.bind_ok, h2]; rfl
theorem ev_slice {o lo hi : E} {l m : V} {r : R V} (ho : evE Γ ρ o H = .ok u H1) (hl : evE Γ ρ lo H1 = .ok l H2) (hh : evE Γ ρ hi H2 = .ok m H3) (h : sliceV u l m H3 = r) : evE Γ ρ (.slice o lo hi) H = r := by rw [evE_slice, ho, R.bind_ok, hl, R.bind_ok, hh, R.bind_ok, h]
theorem ev_or {a : E} {b : E} {es : List E} {c : Bool} {r : R V} (ha : evE Γ ρ a H = .ok (.bool c) H1) (h : (if c then .ok (.bool true) H1 else evOr Γ ρ (b :: es) H1) = r) : evOr Γ ρ (a :: b :: es) H = r := by
  rw [evOr_cons, ha]; exact h
theorem ev_and {a : E} {b : E} {es : List E} {c : Bool} {r : R V} (ha : evE Γ ρ a H = .ok (.bool c) H1) (h : (if c then evAnd Γ ρ (b :: es) H1 else .ok (.bool false) H1) = r) : evAnd Γ ρ (a :: b :: es) H = r := by
  rw [evAnd_cons, ha]; exact h
end
section
variable {xs : List V} {k : Nat} {H : Hp}
theorem listAt_of (h : H[k]? = some (.list xs)) : listAt (.ref k) H = some xs := at_of (f := listO) h
theorem kind_list (h : H[k]? = some (.list xs)) : kindV (.ref k) H = some "list" := by
  have q : kindV (.ref k) H = (match listAt (.ref k) H with | some _ => some "list" | Option.none => (match tabAt (.ref k) H with | some _ => some "dict" | Option.none => Option.none)) := rfl
  rw [q, listAt_of h]
theorem bi_list_ref (h : H[k]? = some (.list xs)) : builtin "list" [.ref k] H = .ok (.ref H.length) (H ++ [.list xs]) := by
  have q : builtin "list" [.ref k] H = (match listAt (.ref k) H with | some xs => new (.list xs) H | Option.none => .stuck) := rfl
  rw [q, listAt_of h]; rfl
theorem bi_len_ref (h : H[k]? = some (.list xs)) : builtin "len" [.ref k] H = .ok (.int xs.length) H := by
  have q : builtin "len" [.ref k] H = (match listAt (.ref k) H with | some xs => .ok (.int xs.length) H | Option.none => (match tabAt (.ref k) H with | some p => .ok (.int p.1.length) H | Option.none => .stuck)) := rfl
  rw [q, listAt_of h]
theorem idx_ref {i : Nat} {v : V} (h : H[k]? = some (.list xs)) (hv : xs[i]? = some v) : index (.ref k) (.int i) H = .ok v H := by
  have hp : place i xs.length = some i := by
    have := (List.getElem?_eq_some_iff.mp hv).1
    exact (if_pos (Int.natCast_nonneg i)).trans ((if_pos (Int.ofNat_lt.mpr this)).trans (congrArg some (Int.toNat_natCast i)))
  have q : index (.ref k) (.int i) H = (match listAt (.ref k) H with | some xs => itemAt xs i H | Option.none => .stuck) := rfl
  rw [q, listAt_of h]
  simp [itemAt, hp, hv]
theorem m_append {v : V} (h : H[k]? = some (.list xs)) (hl : xs.length < line) : meth (.ref k) "append" [v] H = .ok .none (H.set k (.list (xs ++ [v]))) := by
  have q : meth (.ref k) "append" [v] H = (match listAt (.ref k) H with | some xs => if xs.length < line then .ok .none (H.set k (.list (xs ++ [v]))) else .stuck | Option.none => .stuck) := rfl
  rw [q, listAt_of h]
  dsimp only
  rw [if_pos hl]
theorem same_of {H' : Hp} {o : O} (h : H[k]? = some o) (e : H'[k]? = some o) (q : eqO o o = true) : sameO (.ref k) H H' = true := by
  have r : sameO (.ref k) H H' = (match H[k]? with | some a => (match H'[k]? with | some b => eqO a b | Option.none => false) | Option.none => false) := rfl
  rw [r, h, e]; exact q
theorem sameO_ext {H' : Hp} (h : H[k]? = some (.list xs)) (e : Ext H H') : sameO (.ref k) H H' = true := same_of h (e.get h) (decide_eq_true rfl)
end
@[simp] theorem bi_min (a b : Int) (H : Hp) : builtin "min" [.int a, .int b] H = .ok (.int (if b < a then b else a)) H := rfl
@[simp] theorem bi_max (a b : Int) (H : Hp) : builtin "max" [.int a, .int b] H = .ok (.int (if a < b then b else a)) H := rfl
theorem bi_abs (a : Int) (H : Hp) : builtin "abs" [.int a] H = .ok (.int a.natAbs) H := rfl
section
variable {Γ : Fn} {ρ : Rho} {H H1 H2 : Hp} {a b : E} {x y : Int}
theorem ev_add (ha : evE Γ ρ a H = .ok (.int x) H1) (hb : evE Γ ρ b H1 = .ok (.int y) H2) : evE Γ ρ (.bin .add a b) H = .ok (.int (x + y)) H2 := ev_bin2 ha hb rfl
theorem ev_sub (ha : evE Γ ρ a H = .ok (.int x) H1) (hb : evE Γ ρ b H1 = .ok (.int y) H2) : evE Γ ρ (.bin .sub a b) H = .ok (.int (x - y)) H2 := ev_bin2 ha hb rfl
theorem ev_mod (ha : evE Γ ρ a H = .ok (.int x) H1) (hb : evE Γ ρ b H1 = .ok (.int y) H2) (h : y ≠ 0) : evE Γ ρ (.bin .mod a b) H = .ok (.int (x.fmod y)) H2 := ev_bin2 ha hb (bin_mod H2 h)
theorem ev_fdiv (ha : evE Γ ρ a H = .ok (.int x) H1) (hb : evE Γ ρ b H1 = .ok (.int y) H2) (h : y ≠ 0 /\ y.natAbs < 1073741824) : evE Γ ρ (.bin .fdiv a b) H = .ok (.int (x.fdiv y)) H2 := ev_bin2 ha hb (bin_fdiv H2 h.1 h.2)
theorem ev_mul (ha : evE Γ ρ a H = .ok (.int x) H1) (hb : evE Γ ρ b H1 = .ok (.int y) H2) (h : x.natAbs < 2 ^ 64 \/ y.natAbs < 2 ^ 64) : evE Γ ρ (.bin .mul a b) H = .ok (.int (x * y)) H2 := ev_bin2 ha hb (bin_of H2 (if_pos h))
theorem ev_eqI {i : Int} (ha : evE Γ ρ a H = .ok (.int x) H1) : evE Γ ρ (.cmp a .eq (.int i)) H = .ok (.bool (x == i)) H1 := ev_cmp ha (ev_int i) rfl
theorem ev_max (hd : Γ.hd = false) (ha : evE Γ ρ a H = .ok (.int x) H1) (hb : evE Γ ρ b H1 = .ok (.int y) H2) : evE Γ ρ (.call "max" [a, b]) H = .ok (.int (if x < y then y else x)) H2 := ev_bi hd (evs_cons ha (evs_one hb)) rfl
theorem ev_min (hd : Γ.hd = false) (ha : evE Γ ρ a H = .ok (.int x) H1) (hb : evE Γ ρ b H1 = .ok (.int y) H2) : evE Γ ρ (.call "min" [a, b]) H = .ok (.int (if y < x then y else x)) H2 := ev_bi hd (evs_cons ha (evs_one hb)) rfl
theorem ev_p9 : evE Γ ρ (.bin .pow (.int 10) (.int 9)) H = .ok (.int 1000000000) H := ev_bin2 (ev_int 10) (ev_int 9) (bin_pow H (by decide))
theorem ev_p12 : evE Γ ρ (.bin .pow (.int 10) (.int 12)) H = .ok (.int 1000000000000) H := ev_bin2 (ev_int 10) (ev_int 12) (bin_pow H (by decide))
theorem menu_at {vs : List V} {k : Int} {H : Hp} (h0 : 0 <= k) (h1 : k < vs.length) : ∃ v, v ∈ vs /\ index (.lst vs) (.int k) H = .ok v H := by
  have h3 : k.toNat < vs.length := (Int.toNat_lt ‹_›).mpr ‹_›
  refine ⟨vs[k.toNat], List.getElem_mem h3, ?_⟩
  have hp : place k vs.length = some k.toNat := (if_pos h0).trans (if_pos h1)
  have q : index (.lst vs) (.int k) H = ofO H ((place k vs.length).bind (vs[·]?)) := rfl
  rw [q, hp, Option.bind_some, List.getElem?_eq_getElem h3]; rfl
theorem ev_menu {es : List E} {vs : List V} {n : Nat} {P : V -> Prop} (h : evEs Γ ρ es H = .ok vs H1) (ha : evE Γ ρ a H1 = .ok (.int x) H2) (hn : vs.length = n) (hp : 0 < n) (hv : ∀ v ∈ vs, P v) : ∃ v, evE Γ ρ (.menu es (.bin .mod a (.int n))) H = .ok v H2 /\ P v := by
  subst hn
  have hp' : (0 : Int) < vs.length := Int.ofNat_lt.mpr hp
  obtain ⟨v, hm, e⟩ := menu_at (H := H2) (Int.fmod_nonneg_of_pos x hp') (Int.fmod_lt_of_pos x hp')
  refine ⟨v, ?_, hv v hm⟩
  rw [evE_menu, h, R.bind_ok, ev_mod ha (ev_int _) (Int.ne_of_gt hp'), R.bind_ok, e]
theorem fmod_lt (a : Int) {b : Int} (h : 0 < b) : 0 <= a.fmod b /\ a.fmod b < b := ⟨Int.fmod_nonneg_of_pos a h, Int.fmod_lt_of_pos a h⟩
end
section
variable {T : RS -> Prop} {Γ : Fn} {ρ : Rho} {x : String} {e t : E} {ss : List S} {H H1 : Hp} {v : V}
noncomputable def Oth (x : String) (ρ ρ' : Rho) : Prop := ∀ y, y ≠ x -> List.lookup y ρ' = List.lookup y ρ
theorem oth_set (x : String) (v : V) (ρ : Rho) : Oth x ρ (setL x v ρ) := fun _ h => setL_other h rfl
theorem ss_asgA (h : evE Γ ρ e H = .ok v H1) (k : ∀ ρ', List.lookup x ρ' = some v -> Oth x ρ ρ' -> T (exSs Γ ss ρ' H1)) : T (exSs Γ (.asg x e :: ss) ρ H) := ss_asg h (k _ (setL_self _ _ _) (oth_set _ _ _))
theorem ss_ifA {P : Int -> Prop} {c : Bool} {o : Int} (ht : evE Γ ρ t H = .ok (.bool c) H) (h1 : ∃ i, evE Γ ρ e H = .ok (.int i) H /\ P i) (h0 : List.lookup x ρ = some (.int o)) (hp : P o)
    (k : ∀ ρ' i, List.lookup x ρ' = some (.int i) -> P i -> Oth x ρ ρ' -> T (exSs Γ ss ρ' H)) : T (exSs Γ (.iff t [.asg x e] [] :: ss) ρ H) := by
  refine ss_if ht ?_
  cases c with
  | true =>
    obtain ⟨i, hi, pi⟩ := h1
    exact ss_asg hi (k _ i (setL_self _ _ _) pi (oth_set _ _ _))
  | false => exact k ρ o h0 hp fun _ _ => rfl
end
theorem nil_or_snoc {α : Type} (l : List α) : l = [] \/ ∃ l' b, l = l' ++ [b] := by
  rcases List.eq_nil_or_concat l with h | ⟨l', b, h⟩
  · exact .inl h
  · exact .inr ⟨l', b, by rw [h, List.concat_eq_append]⟩
noncomputable def bodyOf : Option S -> List S
  | some (.for1 _ _ b) => b
  | some (.whil _ b) => b
  | _ => []
noncomputable def loopAt (b : List S) (i : Nat) : List S := bodyOf b[i]?
noncomputable def Turns (P : Rho -> Hp -> Prop) (r : RS) : Prop := ∃ ρ H, r.loop = .next ρ H /\ P ρ H
theorem Turns.here {P : Rho -> Hp -> Prop} {Γ : Fn} {ρ : Rho} {H : Hp} (h : P ρ H) : Turns P (exSs Γ [] ρ H) := ⟨ρ, H, rfl, h⟩
theorem Turns.cont {P : Rho -> Hp -> Prop} {ρ : Rho} {H : Hp} (h : P ρ H) : Turns P (.cont ρ H) := ⟨ρ, H, rfl, h⟩
theorem forL_or {α : Type} (y : α -> V) (body : V -> Rho -> Hp -> RS) (chk : Hp -> Bool) (I : List α -> List α -> Rho -> Hp -> Prop) (J : RS -> Prop) (hJ : ∀ r, J r -> r.loop = r /\ ∀ k, r.bind k = r) (hc : ∀ a b ρ H, I a b ρ H -> chk H = true)
    (turn : ∀ a z b ρ H, I a (z :: b) ρ H -> Turns (I (a ++ [z]) b) (body (y z) ρ H) \/ J (body (y z) ρ H)) : ∀ (b a : List α) (ρ : Rho) (H : Hp), I a b ρ H -> (∃ ρ' H', forL body chk (b.map y) ρ H = .next ρ' H' /\ I (a ++ b) [] ρ' H') \/ J (forL body chk (b.map y) ρ H)
  | [], a, ρ, H, h => .inl ⟨ρ, H, if_pos (hc _ _ _ _ h), by simpa using h⟩
  | z :: b, a, ρ, H, h => by
    have e : forL body chk ((z :: b).map y) ρ H = (body (y z) ρ H).loop.bind fun ρ1 H1 => forL body chk (b.map y) ρ1 H1 := if_pos (hc _ _ _ _ h)
    rw [e]
    rcases turn a z b ρ H h with ⟨ρ1, H1, e1, i1⟩ | j
    · rw [e1, RS.bind_next]
      have := forL_or y body chk I J hJ hc turn b (a ++ [z]) ρ1 H1 i1
      simpa using this
    · obtain ⟨q1, q2⟩ := hJ _ j
      rw [q1, q2]; exact .inr j
theorem forL_all {α : Type} (y : α -> V) (body : V -> Rho -> Hp -> RS) (chk : Hp -> Bool) (I : List α -> List α -> Rho -> Hp -> Prop) (hc : ∀ a b ρ H, I a b ρ H -> chk H = true)
    (turn : ∀ a z b ρ H, I a (z :: b) ρ H -> Turns (I (a ++ [z]) b) (body (y z) ρ H)) (b : List α) (ρ : Rho) (H : Hp) (h : I [] b ρ H) : ∃ ρ' H', forL body chk (b.map y) ρ H = .next ρ' H' /\ I b [] ρ' H' := by
  rcases forL_or y body chk I (fun _ => False) (fun _ q => q.elim) hc (fun a z b ρ H h => .inl (turn a z b ρ H h)) b [] ρ H h with h | h
  · exact h
  · exact h.elim
theorem turns_filter {α : Type} (y g : α -> V) (t : α -> Bool) (f : V -> Hp -> R (Option V)) (chk : Hp -> Bool) (H : Hp) (hc : ∀ ys, chk (H ++ [.list ys]) = true) : ∀ (zs : List α) (done : List V), (∀ z ∈ zs, ∀ ys, f (y z) (H ++ [.list ys]) = .ok (if t z then some (g z) else Option.none) (H ++ [.list ys])) -> done.length + zs.length <= line ->
    turns f chk H.length (zs.map y) (H ++ [.list done]) = .ok () (H ++ [.list (done ++ (zs.filter t).map g)])
  | [], done, _, _ => by simp [turns, hc]
  | z :: zs, done, h, hl => by
    have hz := h z (List.mem_cons_self ..) done
    have hl' : done.length + (zs.length + 1) <= line := hl
    rw [List.map_cons, turns, if_pos (hc _), hz]
    cases ht : t z with
    | true =>
      have ih := turns_filter y g t f chk H hc zs (done ++ [g z]) (fun u hu => h u (List.mem_cons_of_mem _ hu)) (by simp; omega)
      simp only [if_true, len_app1, set_app1]
      rw [if_pos (by omega), ih, List.filter_cons_of_pos ht]; simp
    | false =>
      have ih := turns_filter y g t f chk H hc zs done (fun u hu => h u (List.mem_cons_of_mem _ hu)) (by omega)
      rw [List.filter_cons_of_neg (by simp [ht])]
      exact ih
theorem rangeL_one (b : Int) : rangeL 0 b 1 = (List.range b.toNat).map fun k : Nat => (k : Int) := List.map_congr_left fun k _ => (Int.zero_add _).trans (Int.one_mul _)
end Mine.K
namespace Mine.L05
open Mine PySem Mine.K
@[irreducible] noncomputable def G (n : Nat) : Fn := lk defs clss consts n
theorem G_eq (n : Nat) : G n = lk defs clss consts n := by unfold G; rfl
@[simp] theorem G_hd (n : Nat) : (G n).hd = false := by rw [G_eq]; cases n <;> rfl
@[simp] theorem G_const (n : Nat) : (G n).const = consts := by rw [G_eq]; exact lk_const n
theorem G_call {f : String} {d : Def} (h : defs.find? (fun d => d.name == f) = some d) (n : Nat) (vs : List V) (H : Hp) : (G (n + 1)).call f vs H = runDef (G n) d vs H := by
  rw [G_eq, G_eq]; exact lk_call h n vs H
theorem G_class {f : String} {d : Def} (h : defs.find? (fun d => d.name == f) = Option.none) (h2 : clss.lookup f = some d) (n : Nat) (vs : List V) (H : Hp) : (G (n + 1)).call f vs H = runClass (G n) f d vs H := by
  rw [G_eq, G_eq]
  show (match defs.find? (fun d => d.name == f) with | some d => runDef (lk defs clss consts n) d vs H | Option.none => match clss.lookup f with | some d => runClass (lk defs clss consts n) f d vs H | Option.none => .stuck) = _
  rw [h]
  show (match clss.lookup f with | some d => runClass (lk defs clss consts n) f d vs H | Option.none => .stuck) = _
  rw [h2]
noncomputable abbrev sLine : Str := Str.ofString "line"
noncomputable abbrev sRing : Str := Str.ofString "ring"
theorem c_cell (n : Nat) (ns : List Int) (k : Int) (H : Hp) (hk : 0 <= k) (hl : ns.length <= 63) : ∃ c, (G (n + 1)).call "_law_cell_at" [.scr ns, .int k] H = .ok (.int c) H := by
  rw [G_call (d := d__law_cell_at) (by kernel_rfl)]
  have hb : builtin "len" [.scr ns] H = .ok (.int ns.length) H := rfl
  refine runDef_P (ρ := [("_law_script", .scr ns), ("_law_k", .int k)]) (P := fun r => ∃ c, r = .ok (.int c) H) rfl (ss_if (ev_eqI (ev_bi (G_hd _) (evs_one (ev_var rfl)) hb)) ?_)
  cases h0 : ((ns.length : Int) == 0) with
  | true => exact ss_ret (ev_var rfl) ⟨k, rfl⟩
  | false =>
    have hne : (ns.length : Int) ≠ 0 := beq_eq_false_iff_ne.mp h0
    have hp : (0 : Int) < (ns.map V.int).length := by rw [List.length_map]; exact Int.lt_iff_le_and_ne.mpr ⟨Int.natCast_nonneg _, Ne.symm hne⟩
    obtain ⟨v, hm, e⟩ := menu_at (vs := ns.map .int) (H := H) (Int.fmod_nonneg_of_pos k hp) (Int.fmod_lt_of_pos k hp)
    obtain ⟨i, _, rfl⟩ := List.mem_map.mp hm
    rw [List.length_map] at e
    exact ss_ret (ev_add (ev_idx (ev_var rfl) (ev_mod (ev_var rfl) (ev_bi (G_hd _) (evs_one (ev_var rfl)) hb) hne) e) (ev_mul (ev_int 3) (ev_fdiv (ev_var rfl) (ev_bi (G_hd _) (evs_one (ev_var rfl)) hb) ⟨hne, Nat.lt_of_le_of_lt hl (by decide)⟩) (.inl (by decide)))) ⟨_, rfl⟩
theorem c_wide (n : Nat) (c b : Int) (H : Hp) (hb : 0 < b) : ∃ r, (G (n + 1)).call "_law_wide" [.int c, .int b] H = .ok (.int r) H /\ 0 <= r /\ r < b := by
  rw [G_call (d := d__law_wide) (by kernel_rfl)]
  refine ⟨_, runDef_is (ρ := [("_law_cell", .int c), ("_law_bound", .int b)]) rfl (ss_ret (ev_mod (ev_mod (ev_mul (ev_var rfl) (ev_int 48271000000007) (.inr (by decide))) (ev_int 1000000000000037) (by decide)) (ev_var rfl) (Int.ne_of_gt hb)) rfl), fmod_lt _ hb⟩
theorem c_whole (n : Nat) (i : Int) (H : Hp) : (G (n + 1)).call "_law_whole" [.int i] H = .ok (.bool true) H := by
  rw [G_call (d := d__law_whole) (by kernel_rfl)]
  exact runDef_is (ρ := [("_law_found", .int i)]) rfl (ss_ret (show evAnd _ _ _ _ = _ from ev_and (c := true) (H1 := H) (ev_isinst (ev_var rfl) rfl) (show evE _ _ _ _ = _ from ev_not (c := false) (ev_isinst (ev_var rfl) rfl) rfl)) rfl)
theorem ev_wide {n : Nat} {ρ : Rho} {H : Hp} {a b : E} {x y : Int} (ha : evE (G (n + 1)) ρ a H = .ok (.int x) H) (hb : evE (G (n + 1)) ρ b H = .ok (.int y) H) (hy : 0 < y) : ∃ r, evE (G (n + 1)) ρ (.call "_law_wide" [a, b]) H = .ok (.int r) H /\ 0 <= r /\ r < y := by
  obtain ⟨r, e, h⟩ := c_wide n x y H hy
  exact ⟨r, ev_call (G_hd _) (evs_cons ha (evs_one hb)) rfl e, h⟩
noncomputable def isInt (P : Int -> Prop) (v : V) : Prop := ∃ i, v = .int i /\ P i
theorem c_road (n : Nat) (c : Int) (H : Hp) : ∃ w l, (G (n + 2)).call "_law_road_by" [.int c] H = .ok (.tup [.str w, .int l]) H /\ (w = sLine \/ w = sRing) /\ 1 <= l /\ l <= 1000000000 := by
  rw [G_call (d := d__law_road_by) (by kernel_rfl)]
  refine runDef_P (ρ := [("_law_cell", .int c)]) (P := fun r => ∃ w l, r = .ok (.tup [.str w, .int l]) H /\ (w = sLine \/ w = sRing) /\ 1 <= l /\ l <= 1000000000) rfl ?_
  have half : ∀ {ρ : Rho}, ρ.lookup "_law_cell" = some (.int c) -> evE (G (n + 1)) ρ (.bin .fdiv (.var "_law_cell") (.int 2)) H = .ok (.int (c.fdiv 2)) H := fun g => ev_fdiv (ev_var g) (ev_int 2) (by decide)
  refine ss_asgA (ev_add (ev_int 1) (ev_mod (half rfl) (ev_int 30) (by decide))) fun ρ1 h1 s1 => ?_
  have c1 := s1 "_law_cell" (by decide)
  have m := fmod_lt (c.fdiv 2) (b := 30) (by decide)
  refine ss_ifA (P := fun l => 1 <= l /\ l <= 1000000000) (ev_eqI (ev_mod (half c1) (ev_int 5) (by decide))) ?_ h1 ⟨Int.le_add_of_nonneg_right m.1, Int.le_trans (Int.add_le_add_left (Int.le_of_lt m.2) 1) (by decide)⟩ fun ρ2 l2 h2 p2 s2 => ?_
  · obtain ⟨r, e, h⟩ := ev_wide (n := n) (ev_fdiv (ev_var c1) (ev_int 10) (by decide)) ev_p9 (H := H) (by decide)
    exact ⟨1 + r, ev_add (ev_int 1) e, Int.le_add_of_nonneg_right h.1, by rw [Int.add_comm]; exact h.2⟩
  have c2 := (s2 "_law_cell" (by decide)).trans c1
  refine ss_ifA (P := fun l => 1 <= l /\ l <= 1000000000) (ev_eqI (ev_mod (half c2) (ev_int 25) (by decide))) ?_ h2 p2 fun ρ3 l3 h3 p3 s3 => ?_
  · obtain ⟨v, e, i, rfl, h⟩ := ev_menu (n := 4) (P := isInt fun l => 1 <= l /\ l <= 1000000000) (evs_cons (ev_int 1) (evs_cons (ev_int 2) (evs_cons (ev_int 3) (evs_one ev_p9)))) (ev_fdiv (ev_var c2) (ev_int 50) (by decide)) rfl (by decide) (H := H) fun v hv => by
      simp only [List.mem_cons, List.not_mem_nil, or_false] at hv
      rcases hv with rfl | rfl | rfl | rfl <;> exact ⟨_, rfl, by decide⟩
    exact ⟨i, e, h⟩
  have c3 := (s3 "_law_cell" (by decide)).trans c2
  obtain ⟨v, e, w, rfl, hw⟩ := ev_menu (n := 2) (P := fun v => ∃ w, v = .str w /\ (w = sLine \/ w = sRing)) (evs_cons rfl (evs_one rfl)) (ev_var c3) rfl (by decide) (Γ := G (n + 1)) (es := [.str "line", .str "ring"]) (H := H) fun v hv => by
    simp only [List.mem_cons, List.not_mem_nil, or_false] at hv
    rcases hv with rfl | rfl
    · exact ⟨_, rfl, .inl rfl⟩
    · exact ⟨_, rfl, .inr rfl⟩
  exact ss_ret (ev_tup (evs_cons e (evs_one (ev_var h3)))) ⟨w, l3, rfl, hw, p3⟩
noncomputable def many (w : Str) (l : Int) : Int := if w = sLine then l + 1 else l
theorem c_places (n : Nat) (w : Str) (l : Int) (H : Hp) : (G (n + 1)).call "_law_places" [.tup [.str w, .int l]] H = .ok (.int (many w l)) H := by
  rw [G_call (d := d__law_places) (by kernel_rfl)]
  refine runDef_is (ρ := [("_law_road", .tup [.str w, .int l])]) rfl (ss_if (c := w == sLine) (H1 := H) (ev_cmp (ev_idx (ev_var rfl) (ev_int 0) rfl) rfl (cmp_eq_str _ _ _)) ?_)
  unfold many
  by_cases h : w = sLine
  · rw [beq_iff_eq.mpr h, if_pos h]
    exact ss_ret (ev_add (ev_idx (ev_var rfl) (ev_int 1) rfl) (ev_int 1)) rfl
  · rw [beq_eq_false_iff_ne.mpr h, if_neg h]
    exact ss_ret (ev_idx (ev_var rfl) (ev_int 1) rfl) rfl
theorem many_pos {w : Str} {l : Int} (hl : 1 <= l) : 1 <= many w l := by unfold many; split <;> omega
theorem c_place (n : Nat) (w : Str) (l c : Int) (H : Hp) (hl : 1 <= l) : ∃ p, (G (n + 2)).call "_law_place_by" [.tup [.str w, .int l], .int c] H = .ok (.int p) H /\ 0 <= p /\ p < many w l := by
  rw [G_call (d := d__law_place_by) (by kernel_rfl)]
  refine runDef_P (ρ := [("_law_road", .tup [.str w, .int l]), ("_law_cell", .int c)]) (P := fun r => ∃ p, r = .ok (.int p) H /\ 0 <= p /\ p < many w l) rfl ?_
  have hm := many_pos (w := w) hl
  refine ss_asg (ev_call (G_hd _) (evs_one (ev_var rfl)) rfl (c_places n w l H)) (ss_if (ev_eqI (ev_mod (ev_var rfl) (ev_int 7) (by decide))) ?_)
  generalize many w l = m at hm ⊢
  cases c.fmod 7 == 0 with
  | true =>
    obtain ⟨v, e, i, rfl, h⟩ := ev_menu (n := 3) (Γ := G (n + 1)) (ρ := setL "_law_many_here" (.int m) [("_law_road", .tup [.str w, .int l]), ("_law_cell", .int c)]) (P := isInt fun p => 0 <= p /\ p < m) (evs_cons (ev_int 0) (evs_cons (ev_sub (x := m) (ev_var (x := "_law_many_here") rfl) (ev_int 1)) (evs_one (ev_fdiv (x := m) (ev_var (x := "_law_many_here") rfl) (ev_int 2) (by decide))))) (ev_fdiv (x := c) (ev_var (x := "_law_cell") rfl) (ev_int 7) (by decide)) rfl (by decide) (H := H) fun v hv => by
      simp only [List.mem_cons, List.not_mem_nil, or_false] at hv
      have h2 : m.fdiv 2 = m / 2 := Int.fdiv_eq_ediv_of_nonneg _ (by decide)
      rcases hv with rfl | rfl | rfl
      · exact ⟨_, rfl, by decide, hm⟩
      · exact ⟨_, rfl, Int.le_sub_one_of_lt hm, Int.sub_lt_self _ (by decide)⟩
      · rw [h2]; exact ⟨_, rfl, Int.ediv_nonneg (Int.le_of_lt hm) (by decide), Int.ediv_lt_self_of_pos_of_ne_one hm (by decide)⟩
    exact ss_ret e ⟨i, rfl, h⟩
  | false =>
    obtain ⟨r, e, h⟩ := ev_wide (n := n) (ρ := setL "_law_many_here" (.int m) [("_law_road", .tup [.str w, .int l]), ("_law_cell", .int c)]) (H := H) (ev_fdiv (ev_var (x := "_law_cell") rfl) (ev_int 7) (by decide)) (ev_var (x := "_law_many_here") rfl) hm
    exact ss_ret e ⟨r, rfl, h⟩
theorem c_start (n : Nat) (w : Str) (l c : Int) (H : Hp) (hl : 1 <= l) (hl2 : l <= 1000000000) : ∃ s, (G (n + 2)).call "_law_start_by" [.tup [.str w, .int l], .int c] H = .ok (.int s) H /\ 0 <= s /\ s <= 1000000000000 := by
  rw [G_call (d := d__law_start_by) (by kernel_rfl)]
  refine runDef_P (ρ := [("_law_road", .tup [.str w, .int l]), ("_law_cell", .int c)]) (P := fun r => ∃ p, r = .ok (.int p) H /\ 0 <= p /\ p <= 1000000000000) rfl ?_
  refine ss_if (ev_eqI (ev_mod (ev_var rfl) (ev_int 3) (by decide))) ?_
  cases c.fmod 3 == 0 with
  | true => exact ss_ret (ev_int 0) ⟨0, rfl, by decide⟩
  | false =>
    refine ss_if (ev_eqI (ev_mod (ev_var rfl) (ev_int 3) (by decide))) ?_
    cases c.fmod 3 == 1 with
    | true =>
      have pl : 0 < 2 * l + 1 := by omega
      have m := fmod_lt (c.fdiv 3) pl
      exact ss_ret (ev_mod (ev_fdiv (ev_var rfl) (ev_int 3) (by decide)) (ev_add (ev_mul (ev_int 2) (ev_idx (ev_var rfl) (ev_int 1) rfl) (.inl (by decide))) (ev_int 1)) (Int.ne_of_gt pl)) ⟨_, rfl, m.1, Int.le_trans (Int.le_of_lt m.2) (Int.le_trans (Int.add_le_add_right (Int.mul_le_mul_of_nonneg_left hl2 (by decide)) 1) (by decide))⟩
    | false =>
      obtain ⟨r, e, h⟩ := ev_wide (n := n) (ρ := [("_law_road", .tup [.str w, .int l]), ("_law_cell", .int c)]) (H := H) (ev_fdiv (ev_var (x := "_law_cell") rfl) (ev_int 3) (by decide)) (ev_add ev_p12 (ev_int 1)) (by decide)
      exact ss_ret e ⟨r, rfl, h.1, Int.le_of_lt_add_one h.2⟩
structure StopOk (w : Str) (l p o c s : Int) : Prop where
  p0 : 0 <= p
  p1 : p < many w l
  o0 : 0 <= o
  oc : o <= c
  c1 : c <= 1000000000000
  s0 : 0 <= s
  s1 : s <= 1000000000000
structure SE (w : Str) (l st k : Int) (ns : List Int) (ρ : Rho) : Prop where
  road : ρ.lookup "_law_road" = some (.tup [.str w, .int l])
  start : ρ.lookup "_law_start" = some (.int st)
  script : ρ.lookup "_law_script" = some (.scr ns)
  kk : ρ.lookup "_law_k" = some (.int k)
section
variable {w : Str} {l st k : Int} {ns : List Int} {ρ : Rho} {H : Hp} {n : Nat}
theorem SE.oth {x : String} {ρ' : Rho} (g : SE w l st k ns ρ) (h : Oth x ρ ρ') (hx : "_law_road" ≠ x /\ "_law_start" ≠ x /\ "_law_script" ≠ x /\ "_law_k" ≠ x) : SE w l st k ns ρ' :=
  ⟨(h _ hx.1).trans g.road, (h _ hx.2.1).trans g.start, (h _ hx.2.2.1).trans g.script, (h _ hx.2.2.2).trans g.kk⟩
theorem SE.len (g : SE w l st k ns ρ) : evE (G n) ρ (.idx (.var "_law_road") (.int 1)) H = .ok (.int l) H := ev_idx (ev_var g.road) (ev_int 1) rfl
theorem SE.cell (g : SE w l st k ns ρ) (hns : ns.length <= 63) {e : E} {j : Int} (he : evE (G (n + 1)) ρ e H = .ok (.int j) H) (hj : 0 <= j) : ∃ c, evE (G (n + 1)) ρ (.call "_law_cell_at" [.var "_law_script", e]) H = .ok (.int c) H := by
  obtain ⟨c, e1⟩ := c_cell n ns j H hj hns
  exact ⟨c, ev_call (G_hd _) (evs_cons (ev_var g.script) (evs_one he)) rfl e1⟩
noncomputable abbrev Nat12 (o : Int) : Prop := 0 <= o /\ o <= 1000000000000
theorem third {l : Int} (h : 1 <= l) (h2 : l <= 1000000000) : 0 < l.fdiv 3 + 2 /\ l.fdiv 3 + 2 <= 1000000000000 := by
  have h0 : 0 <= l := Int.le_trans (by decide) h
  rw [Int.fdiv_eq_ediv_of_nonneg _ (by decide)]
  exact ⟨Int.lt_of_lt_of_le (by decide) (Int.add_le_add_right (Int.ediv_nonneg h0 (by decide)) 2), Int.le_trans (Int.add_le_add_right (Int.le_trans (Int.ediv_le_self 3 h0) h2) 2) (by decide)⟩
theorem abs20 {i : Int} (h : 0 <= i /\ i <= 20) : i.natAbs < 2 ^ 64 := by
  obtain ⟨k, rfl⟩ := Int.eq_ofNat_of_zero_le h.1
  exact Nat.lt_of_le_of_lt (Int.ofNat_le.mp h.2) (by decide)
theorem min12 (o : Int) : (if 1000000000000 < o then 1000000000000 else o) <= 1000000000000 := by split <;> omega
theorem le_min12 {a o : Int} (h : a <= o) (ha : a <= 1000000000000) : a <= (if 1000000000000 < o then 1000000000000 else o) := by split <;> omega
theorem le_maxI (a b : Int) : a <= (if a < b then b else a) := by split <;> omega
theorem st_open {T : RS -> Prop} (g : SE w l st k ns ρ) (hl : 1 <= l) (s0 : 0 <= st) (hk : 0 <= k + 1) (hns : ns.length <= 63)
    (K : ∀ ρ' o, SE w l st k ns ρ' -> ρ'.lookup "_law_opens" = some (.int o) -> Nat12 o -> ρ'.lookup "_law_place" = ρ.lookup "_law_place" -> T (exSs (G (n + 2)) (d__law_stop_by.body.drop 7) ρ' H)) : T (exSs (G (n + 2)) (d__law_stop_by.body.drop 1) ρ H) := by
  obtain ⟨c, e⟩ := g.cell (n := n + 1) hns (ev_add (ev_var g.kk) (ev_int 1)) hk (H := H)
  refine ss_asgA e fun ρ1 h1 s1 => ?_
  have g1 := g.oth s1 (by decide)
  have p1 := s1 "_law_place" (by decide)
  have cell : ∀ {ρ' : Rho}, ρ'.lookup "_law_cell" = some (.int c) -> evE (G (n + 2)) ρ' (.bin .fdiv (.var "_law_cell") (.int 4)) H = .ok (.int (c.fdiv 4)) H := fun q => ev_fdiv (ev_var q) (ev_int 4) (by decide)
  have m1 := fmod_lt (c.fdiv 4) (b := 3 * l + 2) (by omega)
  refine ss_asgA (ev_add (ev_var g1.start) (ev_mod (cell h1) (ev_add (ev_mul (ev_int 3) g1.len (.inl (by decide))) (ev_int 2)) (by omega))) fun ρ2 h2 s2 => ?_
  have g2 := g1.oth s2 (by decide)
  have c2 := (s2 "_law_cell" (by decide)).trans h1
  refine ss_ifA (P := fun o => 0 <= o) (ev_eqI (ev_mod (ev_var c2) (ev_int 4) (by decide))) ⟨0, ev_int 0, by decide⟩ h2 (Int.add_nonneg s0 m1.1) fun ρ3 o3 h3 q3 s3 => ?_
  have g3 := g2.oth s3 (by decide)
  have c3 := (s3 "_law_cell" (by decide)).trans c2
  refine ss_ifA (P := fun o => 0 <= o) (ev_eqI (ev_mod (ev_var c3) (ev_int 4) (by decide))) ⟨_, ev_max (G_hd _) (ev_int 0) (ev_sub (ev_var g3.start) (ev_mod (cell c3) (ev_add g3.len (ev_int 1)) (by omega))), le_maxI _ _⟩ h3 q3 fun ρ4 o4 h4 q4 s4 => ?_
  have g4 := g3.oth s4 (by decide)
  have c4 := (s4 "_law_cell" (by decide)).trans c3
  refine ss_ifA (P := fun o => 0 <= o) (ev_eqI (ev_mod (ev_var c4) (ev_int 16) (by decide))) ?_ h4 q4 fun ρ5 o5 h5 q5 s5 => ?_
  · obtain ⟨v, em, i, rfl, hi⟩ := ev_menu (n := 2) (P := isInt fun i => 0 < i) (evs_cons ev_p9 (evs_one ev_p12)) (ev_fdiv (ev_var c4) (ev_int 16) (by decide)) rfl (by decide) (Γ := G (n + 2)) (H := H) fun v hv => by
      simp only [List.mem_cons, List.not_mem_nil, or_false] at hv
      rcases hv with rfl | rfl <;> exact ⟨_, rfl, by decide⟩
    obtain ⟨r, er, hr⟩ := ev_wide (n := n + 1) (ev_fdiv (ev_var c4) (ev_int 32) (by decide)) em hi
    exact ⟨_, ev_add (ev_var g4.start) er, Int.add_nonneg s0 hr.1⟩
  have g5 := g4.oth s5 (by decide)
  refine ss_asgA (ev_min (G_hd _) (ev_var h5) ev_p12) fun ρ6 h6 s6 => ?_
  exact K ρ6 _ (g5.oth s6 (by decide)) h6 ⟨le_min12 q5 (by decide), min12 _⟩ ((s6 _ (by decide)).trans ((s5 _ (by decide)).trans ((s4 _ (by decide)).trans ((s3 _ (by decide)).trans ((s2 _ (by decide)).trans p1)))))
theorem st_close {T : RS -> Prop} {o : Int} (g : SE w l st k ns ρ) (ho : ρ.lookup "_law_opens" = some (.int o)) (h12 : Nat12 o) (hl : 1 <= l) (hk : 0 <= k + 2) (hns : ns.length <= 63)
    (K : ∀ ρ' c, SE w l st k ns ρ' -> ρ'.lookup "_law_opens" = some (.int o) -> ρ'.lookup "_law_closes" = some (.int c) -> o <= c -> c <= 1000000000000 -> ρ'.lookup "_law_place" = ρ.lookup "_law_place" -> T (exSs (G (n + 2)) (d__law_stop_by.body.drop 12) ρ' H)) : T (exSs (G (n + 2)) (d__law_stop_by.body.drop 7) ρ H) := by
  obtain ⟨c, e⟩ := g.cell (n := n + 1) hns (ev_add (ev_var g.kk) (ev_int 2)) hk (H := H)
  refine ss_asgA e fun ρ1 h1 s1 => ?_
  have g1 := g.oth s1 (by decide)
  have o1 := (s1 "_law_opens" (by decide)).trans ho
  have big : ∀ {ρ' : Rho}, SE w l st k ns ρ' -> ρ'.lookup "_law_opens" = some (.int o) -> evE (G (n + 2)) ρ' (.call "max" [(.var "_law_opens"), (.var "_law_start")]) H = .ok (.int (if o < st then st else o)) H := fun g q => ev_max (G_hd _) (ev_var q) (ev_var g.start)
  have hm := le_maxI o st
  obtain ⟨v, em, i, rfl, hi⟩ := ev_menu (n := 4) (P := isInt fun i => 0 <= i /\ i <= 20) (evs_cons (ev_int 0) (evs_cons (ev_int 3) (evs_cons (ev_int 9) (evs_one (ev_int 20))))) (ev_var h1) rfl (by decide) (Γ := G (n + 2)) (H := H) fun v hv => by
    simp only [List.mem_cons, List.not_mem_nil, or_false] at hv
    rcases hv with rfl | rfl | rfl | rfl <;> exact ⟨_, rfl, by decide⟩
  have il : 0 <= i * l := Int.mul_nonneg hi.1 (Int.le_trans (by decide) hl)
  have pl : 0 < l + 2 := Int.add_pos_of_nonneg_of_pos (Int.le_trans (by decide) hl) (by decide)
  have m := fmod_lt (c.fdiv 4) pl
  generalize (if o < st then st else o) = mx at big hm
  refine ss_asgA (ev_add (ev_add (big g1 o1) (ev_mul em g1.len (.inl (abs20 hi)))) (ev_mod (ev_fdiv (ev_var h1) (ev_int 4) (by decide)) (ev_add g1.len (ev_int 2)) (Int.ne_of_gt pl))) fun ρ2 h2 s2 => ?_
  have g2 := g1.oth s2 (by decide)
  have c2 := (s2 "_law_cell" (by decide)).trans h1
  have o2 := (s2 "_law_opens" (by decide)).trans o1
  refine ss_ifA (P := fun c => o <= c) (ev_eqI (ev_mod (ev_var c2) (ev_int 12) (by decide))) ⟨o, ev_var o2, Int.le_refl _⟩ h2 (Int.le_trans hm (Int.le_trans (Int.le_add_of_nonneg_right il) (Int.le_add_of_nonneg_right m.1))) fun ρ3 x3 h3 q3 s3 => ?_
  have g3 := g2.oth s3 (by decide)
  have c3 := (s3 "_law_cell" (by decide)).trans c2
  have o3 := (s3 "_law_opens" (by decide)).trans o2
  refine ss_ifA (P := fun c => o <= c) (ev_eqI (ev_mod (ev_var c3) (ev_int 9) (by decide))) ?_ h3 q3 fun ρ4 x4 h4 q4 s4 => ?_
  · obtain ⟨r, er, hr⟩ := ev_wide (n := n + 1) (ev_fdiv (ev_var c3) (ev_int 18) (by decide)) ev_p12 (H := H) (by decide)
    obtain ⟨v, em, i, rfl, hi⟩ := ev_menu (n := 2) (P := isInt fun i => o <= i) (evs_cons ev_p12 (evs_one (ev_add (big g3 o3) er))) (ev_fdiv (ev_var c3) (ev_int 9) (by decide)) rfl (by decide) (Γ := G (n + 2)) (H := H) fun v hv => by
      simp only [List.mem_cons, List.not_mem_nil, or_false] at hv
      rcases hv with rfl | rfl
      · exact ⟨_, rfl, h12.2⟩
      · exact ⟨_, rfl, Int.le_trans hm (Int.le_add_of_nonneg_right hr.1)⟩
    exact ⟨i, em, hi⟩
  have g4 := g3.oth s4 (by decide)
  refine ss_asgA (ev_min (G_hd _) (ev_var h4) ev_p12) fun ρ5 h5 s5 => ?_
  exact K ρ5 _ (g4.oth s5 (by decide)) ((s5 _ (by decide)).trans ((s4 _ (by decide)).trans o3)) h5 (le_min12 q4 h12.2) (min12 _) ((s5 _ (by decide)).trans ((s4 _ (by decide)).trans ((s3 _ (by decide)).trans ((s2 _ (by decide)).trans (s1 _ (by decide))))))
theorem c_stop (n : Nat) (w : Str) (l st k : Int) (ns : List Int) (H : Hp) (hl : 1 <= l) (hl2 : l <= 1000000000) (s0 : 0 <= st) (s1 : st <= 1000000000000) (hk : 0 <= k) (hns : ns.length <= 63) :
    ∃ p o c s, (G (n + 3)).call "_law_stop_by" [.tup [.str w, .int l], .int st, .scr ns, .int k] H = .ok (.tup [.int p, .int o, .int c, .int s]) H /\ StopOk w l p o c s := by
  rw [G_call (d := d__law_stop_by) (by kernel_rfl)]
  refine runDef_P (ρ := [("_law_road", .tup [.str w, .int l]), ("_law_start", .int st), ("_law_script", .scr ns), ("_law_k", .int k)]) (P := fun r => ∃ p o c s, r = .ok (.tup [.int p, .int o, .int c, .int s]) H /\ StopOk w l p o c s) rfl ?_
  have g0 : SE w l st k ns [("_law_road", .tup [.str w, .int l]), ("_law_start", .int st), ("_law_script", .scr ns), ("_law_k", .int k)] := ⟨rfl, rfl, rfl, rfl⟩
  obtain ⟨c0, e0⟩ := g0.cell (n := n + 1) hns (ev_var g0.kk) hk (H := H)
  obtain ⟨p, ep, p0, p1⟩ := c_place n w l c0 H hl
  refine ss_asgA (ev_call (G_hd _) (evs_cons (ev_var g0.road) (evs_one e0)) rfl ep) fun ρ1 h1 q1 => ?_
  refine st_open (g0.oth q1 (by decide)) hl s0 (Int.add_nonneg hk (by decide)) hns fun ρ2 o g2 o2 h12 p2 => ?_
  refine st_close g2 o2 h12 hl (Int.add_nonneg hk (by decide)) hns fun ρ3 c g3 o3 c3 hoc hc p3 => ?_
  obtain ⟨cc, e⟩ := g3.cell (n := n + 1) hns (ev_add (ev_var g3.kk) (ev_int 3)) (Int.add_nonneg hk (by decide)) (H := H)
  refine ss_asgA e fun ρ4 h4 q4 => ?_
  have g4 := g3.oth q4 (by decide)
  obtain ⟨pl, pl2⟩ := third hl hl2
  have m5 := fmod_lt (cc.fdiv 3) pl
  refine ss_asgA (ev_mod (ev_fdiv (ev_var h4) (ev_int 3) (by decide)) (ev_add (ev_fdiv g4.len (ev_int 3) (by decide)) (ev_int 2)) (Int.ne_of_gt pl)) fun ρ5 h5 q5 => ?_
  have c5 := (q5 "_law_cell" (by decide)).trans h4
  refine ss_ifA (P := Nat12) (ev_eqI (ev_mod (ev_var c5) (ev_int 3) (by decide))) ⟨0, ev_int 0, by decide⟩ h5 ⟨m5.1, Int.le_trans (Int.le_of_lt m5.2) pl2⟩ fun ρ6 y6 h6 n6 q6 => ?_
  have c6 := (q6 "_law_cell" (by decide)).trans c5
  refine ss_ifA (P := Nat12) (ev_eqI (ev_mod (ev_var c6) (ev_int 41) (by decide))) ?_ h6 n6 fun ρ7 y7 h7 n7 q7 => ?_
  · obtain ⟨r, er, hr⟩ := ev_wide (n := n + 1) (ev_fdiv (ev_var c6) (ev_int 41) (by decide)) (ev_add ev_p12 (ev_int 1)) (H := H) (by decide)
    exact ⟨r, er, hr.1, Int.le_of_lt_add_one hr.2⟩
  have key : ∀ x, x ≠ "_law_stay" -> x ≠ "_law_cell" -> List.lookup x ρ7 = List.lookup x ρ3 := fun x hx hy => (q7 x hx).trans ((q6 x hx).trans ((q5 x hx).trans (q4 x hy)))
  exact ss_ret (ev_tup (evs_cons (ev_var ((key _ (by decide) (by decide)).trans (p3.trans (p2.trans h1)))) (evs_cons (ev_var ((key _ (by decide) (by decide)).trans o3)) (evs_cons (ev_var ((key _ (by decide) (by decide)).trans c3)) (evs_one (ev_var h7)))))) ⟨p, o, c, y7, rfl, p0, p1, h12.1, hoc, hc, n7.1, n7.2⟩
end
theorem c_many (n : Nat) (c : Int) (H : Hp) : ∃ m : Nat, (G (n + 1)).call "_law_many" [.int c] H = .ok (.int m) H /\ m <= 7 := by
  rw [G_call (d := d__law_many) (by kernel_rfl)]
  refine runDef_P (ρ := [("_law_cell", .int c)]) (P := fun r => ∃ m : Nat, r = .ok (.int m) H /\ m <= 7) rfl (ss_if (ev_eqI (ev_mod (ev_fdiv (ev_var rfl) (ev_int 6) (by decide)) (ev_int 9) (by decide))) ?_)
  have nat : ∀ i : Int, 0 <= i -> i <= 7 -> ∃ m : Nat, R.ok (V.int i) H = .ok (.int m) H /\ m <= 7 := fun i h1 h2 => ⟨i.toNat, by rw [Int.toNat_of_nonneg h1], Int.toNat_le.mpr h2⟩
  cases (c.fdiv 6).fmod 9 == 4 with
  | true =>
    have m := fmod_lt (c.fdiv 54) (b := 2) (by decide)
    exact ss_ret (ev_add (ev_int 6) (ev_mod (ev_fdiv (ev_var rfl) (ev_int 54) (by decide)) (ev_int 2) (by decide))) (nat _ (Int.add_nonneg (by decide) m.1) (show 6 + (c.fdiv 54).fmod 2 <= 6 + 1 from Int.add_le_add_left (Int.le_of_lt_add_one (b := 1) m.2) 6))
  | false =>
    have m := fmod_lt c (b := 6) (by decide)
    exact ss_ret (ev_mod (ev_var rfl) (ev_int 6) (by decide)) (nat _ m.1 (Int.le_trans (Int.le_of_lt m.2) (by decide)))
noncomputable abbrev Q4 := Int × Int × Int × Int
noncomputable def tupQ (q : Q4) : V := .tup [.int q.1, .int q.2.1, .int q.2.2.1, .int q.2.2.2]
theorem items_list {xs : List V} {k : Nat} {H : Hp} (h : H[k]? = some (.list xs)) : items H (.ref k) = some xs := by
  have q : items H (.ref k) = (match listAt (.ref k) H with | some xs => some xs | Option.none => (tabAt (.ref k) H).map fun p => p.1.map fun x => keyV x.1) := rfl
  rw [q, listAt_of h]
noncomputable def rangeI (m : Nat) : List Int := (List.range m).map fun k : Nat => (k : Int)
theorem rangeI_len (m : Nat) : (rangeI m).length = m := by unfold rangeI; rw [List.length_map, List.length_range]
theorem mem_rangeI {m : Nat} {z : Int} : z ∈ rangeI m ↔ 0 <= z /\ z < m := by
  unfold rangeI
  rw [List.mem_map]
  refine ⟨?_, fun h => ⟨z.toNat, List.mem_range.mpr ((Int.toNat_lt h.1).mpr h.2), Int.toNat_of_nonneg h.1⟩⟩
  rintro ⟨k, hk, rfl⟩
  exact ⟨Int.natCast_nonneg _, Int.ofNat_lt.mpr (List.mem_range.mp hk)⟩
theorem rng_ok {m : Nat} (hm : m <= 100) : rngOk 0 m 1 = true := by simp [rngOk]; omega
theorem items_range {H : Hp} {m : Nat} (hm : m <= 100) : items H (.rng 0 m 1) = some ((rangeI m).map .int) := by
  have q : items H (.rng 0 m 1) = if rngOk 0 m 1 then some ((rangeL 0 m 1).map .int) else Option.none := rfl
  rw [q, if_pos (rng_ok hm), rangeL_one]; rfl
theorem ev_glob {Γ : Fn} {ρ : Rho} {x : String} {v : V} {H : Hp} (h : Γ.const x = some v) : evE Γ ρ (.glob x) H = .ok v H := by rw [evE_glob, h]; rfl
theorem turns_some (P : V -> Prop) (f : V -> Hp -> R (Option V)) (chk : Hp -> Bool) (H : Hp) (hc : ∀ ys, chk (H ++ [.list ys]) = true) : ∀ (xs done : List V), (∀ y ∈ xs, ∀ ys, ∃ v, f y (H ++ [.list ys]) = .ok (some v) (H ++ [.list ys]) /\ P v) -> done.length + xs.length <= line ->
    ∃ vs, turns f chk H.length xs (H ++ [.list done]) = .ok () (H ++ [.list (done ++ vs)]) /\ vs.length = xs.length /\ ∀ v ∈ vs, P v
  | [], done, _, _ => ⟨[], by simp [turns, hc], rfl, fun _ q => nomatch q⟩
  | y :: ys, done, h, hl => by
    obtain ⟨v, ev, pv⟩ := h y (List.mem_cons_self ..) done
    obtain ⟨vs, e, l, p⟩ := turns_some P f chk H hc ys (done ++ [v]) (fun z hz => h z (List.mem_cons_of_mem _ hz)) (by simp at hl ⊢; omega)
    refine ⟨v :: vs, ?_, by simp [l], fun z hz => ?_⟩
    · rw [turns, if_pos (hc _), ev]
      simp only [len_app1, set_app1]
      rw [if_pos (by simp at hl; omega), e]; simp
    · rcases List.mem_cons.mp hz with rfl | hz
      · exact pv
      · exact p z hz
theorem c_stops (n : Nat) (w : Str) (l st : Int) (m : Nat) (ns : List Int) (H : Hp) (hl : 1 <= l) (hl2 : l <= 1000000000) (s0 : 0 <= st) (s1 : st <= 1000000000000) (hm2 : m <= 100) (hns : ns.length <= 63) :
    ∃ vs, (G (n + 4)).call "_law_stops_by" [.tup [.str w, .int l], .int st, .scr ns, .int m] H = .ok (.ref H.length) (H ++ [.list vs]) /\ vs.length = m /\ ∀ v ∈ vs, ∃ p o c s, v = .tup [.int p, .int o, .int c, .int s] /\ StopOk w l p o c s := by
  rw [G_call (d := d__law_stops_by) (by kernel_rfl)]
  obtain ⟨vs, e, le, p⟩ := turns_some (fun v => ∃ p o c s, v = .tup [.int p, .int o, .int c, .int s] /\ StopOk w l p o c s)
    (fun y H2 => (evC (G (n + 3)) (("_law_k", y) :: [("_law_road", .tup [.str w, .int l]), ("_law_start", .int st), ("_law_script", .scr ns), ("_law_many_here", .int m)]) Option.none H2).bind fun t H3 => if t then (evE (G (n + 3)) (("_law_k", y) :: [("_law_road", .tup [.str w, .int l]), ("_law_start", .int st), ("_law_script", .scr ns), ("_law_many_here", .int m)]) (.call "_law_stop_by" [.var "_law_road", .var "_law_start", .var "_law_script", .bin .add (.int 4) (.bin .mul (.int 4) (.var "_law_k"))]) H3).bind fun w H4 => .ok (some w) H4 else .ok Option.none H3)
    (sameO (.rng 0 m 1) H) H (fun _ => rfl) ((rangeI m).map .int) [] (by
      intro y hy ys
      obtain ⟨j, hj, rfl⟩ := List.mem_map.mp hy
      obtain ⟨p, o, c, s, es, so⟩ := c_stop n w l st (4 + 4 * j) ns (H ++ [.list ys]) hl hl2 s0 s1 (Int.add_nonneg (by decide) (Int.mul_nonneg (by decide) (mem_rangeI.mp hj).1)) hns
      refine ⟨_, ?_, p, o, c, s, rfl, so⟩
      have ee := ev_call (Γ := G (n + 3)) (ρ := ("_law_k", .int j) :: [("_law_road", .tup [.str w, .int l]), ("_law_start", .int st), ("_law_script", .scr ns), ("_law_many_here", .int m)]) (es := [.var "_law_road", .var "_law_start", .var "_law_script", .bin .add (.int 4) (.bin .mul (.int 4) (.var "_law_k"))]) (G_hd _) (evs_cons (ev_var rfl) (evs_cons (ev_var rfl) (evs_cons (ev_var rfl) (evs_one (ev_add (ev_int 4) (ev_mul (ev_int 4) (ev_var rfl) (.inl (by decide)))))))) rfl es
      show (evE _ _ _ _).bind _ = _
      rw [ee]; rfl) (by rw [List.length_map, rangeI_len]; exact Nat.le_trans (Nat.le_of_eq (Nat.zero_add m)) (Nat.le_trans hm2 (by decide)))
  refine ⟨vs, ?_, by rw [le, List.length_map, rangeI_len], p⟩
  exact runDef_is (ρ := [("_law_road", .tup [.str w, .int l]), ("_law_start", .int st), ("_law_script", .scr ns), ("_law_many_here", .int m)]) rfl (ss_ret (ev_comp (it := .call "range" [.var "_law_many_here"]) (v := .rng 0 m 1) (G_hd _) (ev_bi (G_hd _) (evs_one (ev_var rfl)) rfl) (items_range hm2) e) rfl)
theorem c_within (n : Nat) {x lo hi : Int} (H : Hp) (h1 : lo <= x) (h2 : x <= hi) : (G (n + 1)).call "is_within" [.int x, .int lo, .int hi] H = .ok (.bool true) H := by
  rw [G_call (d := d_is_within) (by kernel_rfl)]
  have c2 : evE (G n) [("number", .int x), ("low", .int lo), ("high", .int hi)] (.cmp2 (.var "low") .le (.var "number") .le (.var "high")) H = .ok (.bool true) H := by
    have q : evE (G n) [("number", .int x), ("low", .int lo), ("high", .int hi)] (.cmp2 (.var "low") .le (.var "number") .le (.var "high")) H = if decide (lo <= x) then .ok (.bool (decide (x <= hi))) H else .ok (.bool false) H := rfl
    rw [q, decide_eq_true h1, decide_eq_true h2]; rfl
  exact runDef_is (ρ := [("number", .int x), ("low", .int lo), ("high", .int hi)]) rfl (ss_ret (show evAnd _ _ _ _ = _ from ev_and (c := true) (H1 := H) (ev_isinst (ev_var rfl) rfl) (show evAnd _ _ _ _ = _ from ev_and (c := true) (H1 := H) (ev_not (c := false) (ev_isinst (ev_var rfl) rfl) rfl) c2)) rfl)
theorem c_isplace (n : Nat) {w : Str} {l p : Int} (H : Hp) (h0 : 0 <= p) (h1 : p < many w l) : (G (n + 2)).call "is_place" [.tup [.str w, .int l], .int p] H = .ok (.bool true) H := by
  rw [G_call (d := d_is_place) (by kernel_rfl)]
  refine runDef_is (ρ := [("road", .tup [.str w, .int l]), ("place", .int p)]) rfl (ss_if (c := w == sLine) (H1 := H) (ev_cmp (ev_idx (ev_var rfl) (ev_int 0) rfl) (ev_glob (by rw [G_const]; rfl)) (cmp_eq_str _ _ _)) ?_)
  unfold many at h1
  by_cases h : w = sLine
  · rw [if_pos h] at h1
    rw [beq_iff_eq.mpr h]
    exact ss_ret (ev_call (G_hd _) (evs_cons (ev_var rfl) (evs_cons (ev_int 0) (evs_one (ev_idx (ev_var rfl) (ev_int 1) rfl)))) rfl (c_within n H h0 (Int.le_of_lt_add_one h1))) rfl
  · rw [if_neg h] at h1
    rw [beq_eq_false_iff_ne.mpr h]
    exact ss_ret (ev_call (G_hd _) (evs_cons (ev_var rfl) (evs_cons (ev_int 0) (evs_one (ev_sub (ev_idx (ev_var rfl) (ev_int 1) rfl) (ev_int 1))))) rfl (c_within n H h0 (Int.le_sub_one_of_lt h1))) rfl
theorem c_isroad (n : Nat) {w : Str} {l : Int} (H : Hp) (hw : w = sLine \/ w = sRing) (h0 : 1 <= l) (h1 : l <= 1000000000) : (G (n + 2)).call "is_road" [.tup [.str w, .int l]] H = .ok (.bool true) H := by
  rw [G_call (d := d_is_road) (by kernel_rfl)]
  have ei : cmp .isIn (.str w) (.tup [.str sLine, .str sRing]) H = some true := by
    have q : cmp .isIn (.str w) (.tup [.str sLine, .str sRing]) H = some ((sLine == w) || ((sRing == w) || false)) := rfl
    rw [q]
    rcases hw with rfl | rfl
    · rw [beq_self_eq_true]; rfl
    · rw [beq_self_eq_true]; simp
  exact runDef_is (ρ := [("road", .tup [.str w, .int l])]) rfl (ss_ret (show evAnd _ _ _ _ = _ from ev_and (c := true) (H1 := H) (ev_cmp (ev_idx (ev_var rfl) (ev_int 0) rfl) (ev_tup (evs_cons (ev_glob (by rw [G_const]; rfl)) (evs_one (ev_glob (by rw [G_const]; rfl))))) ei)
    (show evE _ _ _ _ = _ from ev_call (G_hd _) (evs_cons (ev_idx (ev_var rfl) (ev_int 1) rfl) (evs_cons (ev_int 1) (evs_one (ev_glob (by rw [G_const]; rfl))))) rfl (c_within n H h0 h1))) rfl)
noncomputable def DayH (H : Hp) (fs : List (String × V)) (L : Hp) : Hp := H ++ .ns fs :: .inst "Day" H.length :: L
theorem dayH_inst (H : Hp) (fs : List (String × V)) (L : Hp) : (DayH H fs L)[H.length + 1]? = some (.inst "Day" H.length) := by
  unfold DayH; rw [List.getElem?_append_right (Nat.le_add_right _ 1), Nat.add_sub_cancel_left]; rfl
theorem dayH_ns (H : Hp) (fs : List (String × V)) (L : Hp) : (DayH H fs L)[H.length]? = some (.ns fs) := by
  unfold DayH; rw [List.getElem?_append_right (Nat.le_refl _), Nat.sub_self]; rfl
theorem dayH_set (H : Hp) (fs fs' : List (String × V)) (L : Hp) : (DayH H fs L).set H.length (.ns fs') = DayH H fs' L := by
  unfold DayH; rw [List.set_append_right _ _ (Nat.le_refl _), Nat.sub_self]; rfl
theorem dayH_ext (H : Hp) (fs : List (String × V)) (L : Hp) : Ext H (DayH H fs L) := ext_app _ _
theorem ss_setattr {T : RS -> Prop} {Γ : Fn} {ρ : Rho} {o e : E} {a : String} {ss : List S} {H0 H : Hp} {v : V} {fs : List (String × V)} {L : Hp} (he : evE Γ ρ e H = .ok v (DayH H0 fs L)) (ho : evE Γ ρ o (DayH H0 fs L) = .ok (.ref (H0.length + 1)) (DayH H0 fs L)) (hl : fs.length <= 20)
    (k : T (exSs Γ ss ρ (DayH H0 (setL a v fs) L))) : T (exSs Γ (.setattr o a e :: ss) ρ H) := by
  have q : exSs Γ (.setattr o a e :: ss) ρ H = exSs Γ ss ρ (DayH H0 (setL a v fs) L) := by
    rw [exSs_cons, exS_setattr, he, ofR_ok, ho, ofR_ok]
    simp only [setA, dayH_inst, dayH_ns, dayH_set, hl, if_true, ofR_ok, RS.bind_next]
  rw [q]; exact k
noncomputable def dayFs (w : Str) (l h s : Int) (k : Nat) : List (String × V) := [("road", .tup [.str w, .int l]), ("home", .int h), ("start", .int s), ("stops", .ref k)]
theorem eqV_of {a b : V} {H : Hp} {x y : PyData} {r : Bool} (ha : snap 8 H a = some x) (hb : snap 8 H b = some y) (h : PyData.eqv x y = r) : eqV H a b = some r := by
  unfold eqV eqData
  rw [ha, hb]
  show some (PyData.eqv x y) = _
  rw [h]
theorem eqv_int (a : Int) : PyData.eqv (.int a) (.int a) = true := beq_self_eq_true a
theorem attr_day {H : Hp} {n d : Nat} {c a : String} {fs : List (String × V)} {v : V} (h1 : H[n]? = some (.inst c d)) (h2 : H[d]? = some (.ns fs)) (h3 : fs.lookup a = some v) : attrV (.ref n) a H = .ok v H := by
  simp [attrV, h1, h2, h3]
noncomputable def NextT (H' : Hp) (r : RS) : Prop := ∃ ρ, r = .next ρ H'
structure DayOk (w : Str) (l h s : Int) (qs : List Q4) : Prop where
  word : w = sLine \/ w = sRing
  l0 : 1 <= l
  l1 : l <= 1000000000
  h0 : 0 <= h
  h1 : h < many w l
  s0 : 0 <= s
  s1 : s <= 1000000000000
  few : qs.length <= 7
  stops : ∀ q ∈ qs, StopOk w l q.1 q.2.1 q.2.2.1 q.2.2.2
theorem c_looked (n : Nat) (w : Str) (l : Int) (q : Q4) (H : Hp) (ok : StopOk w l q.1 q.2.1 q.2.2.1 q.2.2.2) : (G (n + 3)).call "looked_at" [.tup [.str w, .int l], tupQ q] H = .ok .none H := by
  rw [G_call (d := d_looked_at) (by kernel_rfl)]
  refine runDef_is (ρ := [("road", .tup [.str w, .int l]), ("stop", tupQ q)]) rfl ?_
  refine ss_unpack (v := tupQ q) (vs := [.int q.1, .int q.2.1, .int q.2.2.1, .int q.2.2.2]) (H1 := H) (G_hd _) (ev_var rfl) rfl rfl ?_
  refine ss_if (c := false) (H1 := H) (ev_not (c := true) (ev_call (G_hd _) (evs_cons (ev_var rfl) (evs_one (ev_var rfl))) rfl (c_isplace n H ok.p0 ok.p1)) rfl) ?_
  have hall : ∀ t ∈ [q.2.1, q.2.2.1, q.2.2.2], Nat12 t := fun t ht => by
    simp only [List.mem_cons, List.not_mem_nil, or_false] at ht
    rcases ht with rfl | rfl | rfl
    · exact ⟨ok.o0, Int.le_trans ok.oc ok.c1⟩
    · exact ⟨Int.le_trans ok.o0 ok.oc, ok.c1⟩
    · exact ⟨ok.s0, ok.s1⟩
  obtain ⟨ρ', H', e, ⟨rfl, g1, g2, _⟩⟩ := K.forL_all V.int (fun v ρ1 H2 => exSs (G (n + 2)) (loopAt d_looked_at.body 2) (setL "time" v ρ1) H2) (sameO (.tup [.int q.2.1, .int q.2.2.1, .int q.2.2.2]) H)
    (fun _ b ρ H' => H' = H /\ ρ.lookup "closes" = some (.int q.2.2.1) /\ ρ.lookup "opens" = some (.int q.2.1) /\ ∀ t ∈ b, Nat12 t) (fun _ _ _ _ _ => rfl) (by
      rintro a t b ρ H' ⟨rfl, g1, g2, g3⟩
      obtain ⟨t0, t1⟩ := g3 t (List.mem_cons_self ..)
      exact ss_if (c := false) (H1 := H') (ev_not (c := true) (ev_call (G_hd _) (evs_cons (ev_var (setL_self _ _ _)) (evs_cons (ev_int 0) (evs_one (ev_glob (by rw [G_const]; rfl))))) rfl (c_within (n + 1) H' t0 t1)) rfl) (Turns.here ⟨rfl, setL_other (by decide) g1, setL_other (by decide) g2, fun y hy => g3 y (List.mem_cons_of_mem _ hy)⟩))
    [q.2.1, q.2.2.1, q.2.2.2] (setL "stay" (.int q.2.2.2) (setL "closes" (.int q.2.2.1) (setL "opens" (.int q.2.1) (setL "place" (.int q.1) [("road", .tup [.str w, .int l]), ("stop", tupQ q)])))) H ⟨rfl, rfl, rfl, hall⟩
  refine ss_for (v := .tup [.int q.2.1, .int q.2.2.1, .int q.2.2.2]) (H1 := H') (G_hd _) (ev_tup (evs_cons (ev_var rfl) (evs_cons (ev_var rfl) (evs_one (ev_var rfl))))) rfl e ?_
  rw [RS.bind_next]
  exact ss_if (c := false) (H1 := H') (ev_cmp (ev_var g1) (ev_var g2) (by rw [cmp_lt, decide_eq_false (Int.not_lt.mpr ok.oc)])) rfl
theorem c_init (n : Nat) (w : Str) (l h s : Int) (qs : List Q4) (j : Nat) (H : Hp) (hj : H[j]? = some (.list (qs.map tupQ))) (ok : DayOk w l h s qs) :
    NextT (DayH H (dayFs w l h s (H.length + 2)) [.list (qs.map tupQ)]) (exSs (G (n + 4)) d_Day_init.body [("self", .ref (H.length + 1)), ("road", .tup [.str w, .int l]), ("home", .int h), ("start", .int s), ("stops", .ref j)] (DayH H [] [])) := by
  have hj' := (dayH_ext H [] []).get hj
  have e4 := bi_len_ref hj'
  rw [List.length_map] at e4
  have h7 : ¬ (7 : Int) < qs.length := Int.not_lt.mpr (Int.ofNat_le.mpr ok.few)
  refine ss_if (c := false) (H1 := DayH H [] []) (ev_not (c := true) (ev_call (G_hd _) (evs_one (ev_var rfl)) rfl (c_isroad (n + 2) _ ok.word ok.l0 ok.l1)) rfl) ?_
  refine ss_if (c := false) (H1 := DayH H [] []) (ev_not (c := true) (ev_call (G_hd _) (evs_cons (ev_var rfl) (evs_one (ev_var rfl))) rfl (c_isplace (n + 2) _ ok.h0 ok.h1)) rfl) ?_
  refine ss_if (c := false) (H1 := DayH H [] []) (ev_not (c := true) (ev_call (G_hd _) (evs_cons (ev_var rfl) (evs_cons (ev_int 0) (evs_one (ev_glob (by rw [G_const]; rfl))))) rfl (c_within (n + 3) _ ok.s0 ok.s1)) rfl) ?_
  refine ss_if (c := false) (H1 := DayH H [] []) (ev_cmp (ev_bi (G_hd _) (evs_one (ev_var rfl)) e4) (ev_glob (v := .int 7) (by rw [G_const]; rfl)) (by rw [cmp_gt, decide_eq_false h7])) ?_
  obtain ⟨ρ, H', e, ⟨rfl, g1, g2, g3, g4, g5, _⟩⟩ := K.forL_all tupQ (fun v ρ1 H2 => exSs (G (n + 4)) [.expr (.call "looked_at" [.var "road", .var "stop"])] (setL "stop" v ρ1) H2) (sameO (.ref j) (DayH H [] []))
    (fun _ b ρ H' => H' = DayH H [] [] /\ ρ.lookup "self" = some (.ref (H.length + 1)) /\ ρ.lookup "road" = some (.tup [.str w, .int l]) /\ ρ.lookup "home" = some (.int h) /\ ρ.lookup "start" = some (.int s) /\ ρ.lookup "stops" = some (.ref j) /\ ∀ q ∈ b, q ∈ qs)
    (fun _ _ ρ H' z => by rw [z.1]; exact sameO_ext hj' (Ext.refl _)) (by
      rintro a q b ρ H' ⟨e0, g1, g2, g3, g4, g5, g6⟩
      rw [e0]
      have el := c_looked (n + 1) w l q (DayH H [] []) (ok.stops q (g6 q (List.mem_cons_self ..)))
      refine ss_expr (ev_call (G_hd _) (evs_cons (ev_var (setL_other (by decide) g2)) (evs_one (ev_var (setL_self _ _ _)))) rfl el) (Turns.here ⟨rfl, ?_, ?_, ?_, ?_, ?_, fun z hz => g6 z (List.mem_cons_of_mem _ hz)⟩)
      all_goals exact setL_other (by decide) (by assumption))
    qs [("self", .ref (H.length + 1)), ("road", .tup [.str w, .int l]), ("home", .int h), ("start", .int s), ("stops", .ref j)] (DayH H [] []) ⟨rfl, rfl, rfl, rfl, rfl, rfl, fun _ q => q⟩
  refine ss_for (v := .ref j) (H1 := DayH H [] []) (G_hd _) (ev_var rfl) (items_list hj') e ?_
  rw [RS.bind_next]
  refine ss_setattr (ev_var g2) (ev_var g1) (by simp [setL]) ?_
  refine ss_setattr (ev_var g3) (ev_var g1) (by simp [setL]) ?_
  refine ss_setattr (ev_var g4) (ev_var g1) (by simp [setL]) ?_
  refine ss_setattr (H0 := H) (v := .ref (H.length + 2)) (fs := setL "start" (.int s) (setL "home" (.int h) (setL "road" (.tup [.str w, .int l]) []))) (L := [.list (qs.map tupQ)]) ?_ (ev_var g1) (by simp [setL]) ?_
  · have e5 := bi_list_ref ((dayH_ext H (setL "start" (.int s) (setL "home" (.int h) (setL "road" (.tup [.str w, .int l]) []))) []).get hj)
    have q := ev_bi (Γ := G (n + 4)) (G_hd _) (evs_one (ev_var g5)) e5
    rw [q]
    simp [DayH]
  · exact ⟨ρ, by simp [dayFs, setL]⟩
theorem c_day (n : Nat) (w : Str) (l h s : Int) (qs : List Q4) (j : Nat) (H : Hp) (hj : H[j]? = some (.list (qs.map tupQ))) (ok : DayOk w l h s qs) :
    (G (n + 5)).call "Day" [.tup [.str w, .int l], .int h, .int s, .ref j] H = .ok (.ref (H.length + 1)) (DayH H (dayFs w l h s (H.length + 2)) [.list (qs.map tupQ)]) := by
  rw [G_class (d := d_Day_init) (by kernel_rfl) (by kernel_rfl)]
  have q : ∀ c, runClass (G (n + 4)) c d_Day_init [.tup [.str w, .int l], .int h, .int s, .ref j] H = (runDef (G (n + 4)) d_Day_init (.ref (H.length + 1) :: [.tup [.str w, .int l], .int h, .int s, .ref j]) (H ++ [.ns [], .inst c H.length])).bind fun v H1 => match v with | .none => .ok (.ref (H.length + 1)) H1 | _ => .stuck := fun _ => rfl
  obtain ⟨ρ, i⟩ := c_init n w l h s qs j H hj ok
  have e : setAll d_Day_init.params (.ref (H.length + 1) :: [.tup [.str w, .int l], .int h, .int s, .ref j]) [] = some [("self", .ref (H.length + 1)), ("road", .tup [.str w, .int l]), ("home", .int h), ("start", .int s), ("stops", .ref j)] := rfl
  simp only [DayH] at i
  simp [q, runDef, e, i, DayH]
structure DayAt (w : Str) (l h s : Int) (qs : List Q4) (d dn k : Nat) (H : Hp) : Prop where
  inst : H[d]? = some (.inst "Day" dn)
  ns : H[dn]? = some (.ns (dayFs w l h s k))
  list : H[k]? = some (.list (qs.map tupQ))
section
variable {w : Str} {l h s : Int} {qs : List Q4} {d dn k : Nat} {H H' : Hp}
theorem DayAt.ext (x : DayAt w l h s qs d dn k H) (e : Ext H H') : DayAt w l h s qs d dn k H' := ⟨e.get x.inst, e.get x.ns, e.get x.list⟩
theorem DayAt.road (x : DayAt w l h s qs d dn k H) : attrV (.ref d) "road" H = .ok (.tup [.str w, .int l]) H := attr_day x.inst x.ns rfl
theorem DayAt.home (x : DayAt w l h s qs d dn k H) : attrV (.ref d) "home" H = .ok (.int h) H := attr_day x.inst x.ns rfl
theorem DayAt.start (x : DayAt w l h s qs d dn k H) : attrV (.ref d) "start" H = .ok (.int s) H := attr_day x.inst x.ns rfl
theorem DayAt.stops (x : DayAt w l h s qs d dn k H) : attrV (.ref d) "stops" H = .ok (.ref k) H := attr_day x.inst x.ns rfl
end
noncomputable def apartI (w : Str) (l a b : Int) : Int := if w = sLine then ((a - b).natAbs : Int) else if l - (a - b).natAbs < ((a - b).natAbs : Int) then l - (a - b).natAbs else (a - b).natAbs
theorem c_apart (n : Nat) (w : Str) (l a b : Int) (H : Hp) : (G (n + 1)).call "apart" [.tup [.str w, .int l], .int a, .int b] H = .ok (.int (apartI w l a b)) H := by
  rw [G_call (d := d_apart) (by kernel_rfl)]
  refine runDef_is (ρ := [("road", .tup [.str w, .int l]), ("one", .int a), ("other", .int b)]) rfl (ss_asg (v := .int (a - b).natAbs) (H1 := H) (ev_bi (G_hd _) (evs_one (ev_sub (ev_var rfl) (ev_var rfl))) rfl) (ss_if (c := w == sLine) (H1 := H) (ev_cmp (ev_idx (ev_var rfl) (ev_int 0) rfl) (ev_glob (by rw [G_const]; rfl)) (cmp_eq_str _ _ _)) ?_))
  unfold apartI
  by_cases h : w = sLine
  · rw [beq_iff_eq.mpr h, if_pos h]
    exact ss_ret (ev_var rfl) rfl
  · rw [beq_eq_false_iff_ne.mpr h, if_neg h]
    exact ss_ret (ev_min (G_hd _) (ev_var rfl) (ev_sub (ev_idx (ev_var rfl) (ev_int 1) rfl) (ev_var rfl))) rfl
theorem c_lapart (n : Nat) (w : Str) (l a b : Int) (H : Hp) : (G (n + 1)).call "_law_apart" [.tup [.str w, .int l], .int a, .int b] H = .ok (.int (apartI w l a b)) H := by
  rw [G_call (d := d__law_apart) (by kernel_rfl)]
  refine runDef_is (ρ := [("_law_road", .tup [.str w, .int l]), ("_law_one", .int a), ("_law_other", .int b)]) rfl (ss_asg (v := .int (a - b).natAbs) (H1 := H) (ev_bi (G_hd _) (evs_one (ev_sub (ev_var rfl) (ev_var rfl))) rfl) (ss_if (c := w == sLine) (H1 := H) (ev_cmp (ev_idx (ev_var rfl) (ev_int 0) rfl) rfl (cmp_eq_str _ _ _)) ?_))
  unfold apartI
  by_cases h : w = sLine
  · rw [beq_iff_eq.mpr h, if_pos h]
    exact ss_ret (ev_var rfl) rfl
  · rw [beq_eq_false_iff_ne.mpr h, if_neg h]
    exact ss_ret (ev_min (G_hd _) (ev_var rfl) (ev_sub (ev_idx (ev_var rfl) (ev_int 1) rfl) (ev_var rfl))) rfl
noncomputable def begI (w : Str) (l p t : Int) (q : Q4) : Int := if t + apartI w l p q.1 < q.2.1 then q.2.1 else t + apartI w l p q.1
noncomputable def leavesI (w : Str) (l p t : Int) (q : Q4) : Option Int := if q.2.2.1 < begI w l p t q then Option.none else some (begI w l p t q + q.2.2.2)
noncomputable def optI : Option Int -> V
  | Option.none => .none
  | some t => .int t
theorem tq_0 (q : Q4) (H : Hp) : index (tupQ q) (.int 0) H = .ok (.int q.1) H := rfl
theorem is_none (v : V) (H : Hp) : cmp .is v .none H = some (isNoneV v) := rfl
theorem isnt_none (v : V) (H : Hp) : cmp .isNot v .none H = some (!isNoneV v) := rfl
theorem idx_at {xs : List V} {i : Nat} {k : Int} {v : V} {H : Hp} (h : H[i]? = some (.list xs)) (h0 : 0 <= k) (hv : xs[k.toNat]? = some v) : index (.ref i) (.int k) H = .ok v H := by
  have e : k = (k.toNat : Int) := (Int.toNat_of_nonneg h0).symm
  rw [e]; exact idx_ref h hv
theorem stop_at {qs : List Q4} {k : Nat} {z : Int} {q : Q4} {H : Hp} (h : H[k]? = some (.list (qs.map tupQ))) (h0 : 0 <= z) (hq : qs[z.toNat]? = some q) : index (.ref k) (.int z) H = .ok (tupQ q) H :=
  idx_at h h0 (by rw [List.getElem?_map, hq]; rfl)
noncomputable def servedV (w : Str) (l p t : Int) (q : Q4) : V := if q.2.2.1 < begI w l p t q then .none else .tup [.int (begI w l p t q), .int (begI w l p t q + q.2.2.2)]
theorem c_served (n : Nat) (w : Str) (l p t : Int) (q : Q4) (H : Hp) : (G (n + 1)).call "served" [tupQ q, .int (t + apartI w l p q.1)] H = .ok (servedV w l p t q) H := by
  rw [G_call (d := d_served) (by kernel_rfl)]
  refine runDef_is (ρ := [("stop", tupQ q), ("comes", .int (t + apartI w l p q.1))]) rfl (ss_asg (v := .int (begI w l p t q)) (H1 := H) (ev_max (G_hd _) (ev_var rfl) (ev_idx (ev_var rfl) (ev_int 1) rfl)) (ss_if (ev_cmp (ev_var rfl) (ev_idx (ev_var rfl) (ev_int 2) rfl) (cmp_gt _ _ _)) ?_))
  unfold servedV
  by_cases h : q.2.2.1 < begI w l p t q
  · rw [decide_eq_true h, if_pos h]; exact ss_ret ev_none rfl
  · rw [decide_eq_false h, if_neg h]; exact ss_ret (ev_tup (evs_cons (ev_var rfl) (evs_one (ev_add (ev_var rfl) (ev_idx (ev_var rfl) (ev_int 3) rfl))))) rfl
theorem c_leaves (n : Nat) (w : Str) (l p t : Int) (q : Q4) (H : Hp) : (G (n + 2)).call "_law_leaves" [.tup [.str w, .int l], .int p, .int t, tupQ q] H = .ok (optI (leavesI w l p t q)) H := by
  rw [G_call (d := d__law_leaves) (by kernel_rfl)]
  refine runDef_is (ρ := [("_law_road", .tup [.str w, .int l]), ("_law_place", .int p), ("_law_time", .int t), ("_law_stop", tupQ q)]) rfl (ss_asg (v := .int (begI w l p t q)) (H1 := H) (ev_max (G_hd _) (ev_add (ev_var rfl) (ev_call (G_hd _) (evs_cons (ev_var rfl) (evs_cons (ev_var rfl) (evs_one (ev_idx (ev_var rfl) (ev_int 0) rfl)))) rfl (c_lapart n w l p q.1 H))) (ev_idx (ev_var rfl) (ev_int 1) rfl)) (ss_if (ev_cmp (ev_var rfl) (ev_idx (ev_var rfl) (ev_int 2) rfl) (cmp_gt _ _ _)) ?_))
  unfold leavesI
  by_cases h : q.2.2.1 < begI w l p t q
  · rw [decide_eq_true h, if_pos h]; exact ss_ret ev_none rfl
  · rw [decide_eq_false h, if_neg h]; exact ss_ret (ev_add (ev_var rfl) (ev_idx (ev_var rfl) (ev_int 3) rfl)) rfl
section
variable {w : Str} {l h s : Int} {qs : List Q4} {d dn k : Nat} {H : Hp}
theorem c_left (n : Nat) (x : DayAt w l h s qs d dn k H) {z : Int} {q : Q4} (h0 : 0 <= z) (hq : qs[z.toNat]? = some q) (p t : Int) : (G (n + 2)).call "left_at" [.ref d, .int p, .int t, .int z] H = .ok (optI (leavesI w l p t q)) H := by
  rw [G_call (d := d_left_at) (by kernel_rfl)]
  have e1 := x.stops
  have e2 := stop_at x.list h0 hq
  have e3 := x.road
  have e4 := c_apart n w l p q.1 H
  have e5 := c_served n w l p t q H
  have e6 : bin .add (.int t) (.int (apartI w l p q.1)) H = .ok (.int (t + apartI w l p q.1)) H := rfl
  refine runDef_P (ρ := [("day", .ref d), ("place", .int p), ("time", .int t), ("number", .int z)]) (P := fun r => r = .ok (optI (leavesI w l p t q)) H) rfl ?_
  have g1 : List.lookup "day" ([("day", .ref d), ("place", .int p), ("time", .int t), ("number", .int z)] : Rho) = some (.ref d) := rfl
  have g2 : List.lookup "place" ([("day", .ref d), ("place", .int p), ("time", .int t), ("number", .int z)] : Rho) = some (.int p) := rfl
  have g3 : List.lookup "time" ([("day", .ref d), ("place", .int p), ("time", .int t), ("number", .int z)] : Rho) = some (.int t) := rfl
  have g4 : List.lookup "number" ([("day", .ref d), ("place", .int p), ("time", .int t), ("number", .int z)] : Rho) = some (.int z) := rfl
  refine ss_asg (by repeat (first | with_reducible (first | assumption | exact setL_self _ _ _ | refine setL_other (by decide) ?_ | exact ev_int _ | exact ev_none | exact ev_bool _ | exact evs_nil | apply evs_cons | apply ev_var | apply ev_tup | apply ev_attr | apply ev_idx | apply ev_not | apply ev_cmp | apply ev_bin2 | apply ev_isinst | apply ev_call (G_hd _) ?_ rfl | apply ev_bi (G_hd _)) | rfl)) ?_
  refine ss_asg (by repeat (first | with_reducible (first | assumption | exact setL_self _ _ _ | refine setL_other (by decide) ?_ | exact ev_int _ | exact ev_none | exact ev_bool _ | exact evs_nil | apply evs_cons | apply ev_var | apply ev_tup | apply ev_attr | apply ev_idx | apply ev_not | apply ev_cmp | apply ev_bin2 | apply ev_isinst | apply ev_call (G_hd _) ?_ rfl | apply ev_bi (G_hd _)) | rfl)) ?_
  refine ss_if (ev_cmp (ev_var (setL_self _ _ _)) ev_none (is_none _ _)) ?_
  unfold servedV leavesI
  by_cases hb : q.2.2.1 < begI w l p t q
  · rw [if_pos hb, if_pos hb]; exact ss_ret ev_none rfl
  · rw [if_neg hb, if_neg hb]; exact ss_ret (ev_idx (ev_var (setL_self _ _ _)) (ev_int _) rfl) rfl
end
noncomputable def behindI (w : Str) (l : Int) (qs : List Q4) : List Int -> Int -> Int -> Option (Int × Int)
  | [], p, t => some (p, t)
  | z :: r, p, t => (qs[z.toNat]?).bind fun q => (leavesI w l p t q).bind fun t' => behindI w l qs r q.1 t'
theorem behind_cons (w : Str) (l : Int) (qs : List Q4) (z : Int) (r : List Int) (p t : Int) : behindI w l qs (z :: r) p t = (qs[z.toNat]?).bind fun q => (leavesI w l p t q).bind fun t' => behindI w l qs r q.1 t' := rfl
theorem behind_app (w : Str) (l : Int) (qs : List Q4) (b : List Int) : ∀ (a : List Int) (p t : Int), behindI w l qs (a ++ b) p t = (behindI w l qs a p t).bind fun x => behindI w l qs b x.1 x.2
  | [], _, _ => rfl
  | z :: a, p, t => by
    have ih := behind_app w l qs b a
    show behindI w l qs (z :: (a ++ b)) p t = _
    rw [behind_cons, behind_cons]
    cases qs[z.toNat]? with
    | none => rfl
    | some q =>
      rw [Option.bind_some, Option.bind_some]
      cases leavesI w l p t q with
      | none => rfl
      | some t' => exact ih q.1 t'
noncomputable def placeV : Option (Int × Int) -> V
  | Option.none => .none
  | some x => .tup [.int x.1, .int x.2]
noncomputable def Kept (H H' : Hp) : Prop := ∀ (i : Nat) (o : O), H[i]? = some o -> H'[i]? = some o
theorem Kept.refl (H : Hp) : Kept H H := fun _ _ q => q
theorem Kept.trans {H H1 H2 : Hp} (a : Kept H H1) (b : Kept H1 H2) : Kept H H2 := fun i o q => b i o (a i o q)
theorem Kept.app (H L : Hp) : Kept H (H ++ L) := fun _ _ q => (ext_app H L).get q
theorem Kept.set {H H' : Hp} (a : Kept H H') {i : Nat} (hi : H.length <= i) (o : O) : Kept H (H'.set i o) := fun j o' q => by
  have := (List.getElem?_eq_some_iff.mp q).1
  rw [List.getElem?_set_ne (Nat.ne_of_gt (Nat.lt_of_lt_of_le this hi))]; exact a j o' q
theorem DayAt.kept {w : Str} {l h s : Int} {qs : List Q4} {d dn k : Nat} {H H' : Hp} (x : DayAt w l h s qs d dn k H) (e : Kept H H') : DayAt w l h s qs d dn k H' := ⟨e _ _ x.inst, e _ _ x.ns, e _ _ x.list⟩
theorem same_list {H H' : Hp} {k : Nat} {xs : List V} (h : H[k]? = some (.list xs)) (e : H'[k]? = some (.list xs)) : sameO (.ref k) H H' = true := same_of h e (decide_eq_true rfl)
theorem some_of_lt {qs : List Q4} {z : Int} (h0 : 0 <= z) (h1 : z < qs.length) : ∃ q, qs[z.toNat]? = some q := ⟨_, List.getElem?_eq_getElem ((Int.toNat_lt h0).mpr h1)⟩
structure Ord (m : Nat) (os : List Int) : Prop where
  low : ∀ z ∈ os, 0 <= z
  high : ∀ z ∈ os, z < m
  nodup : os.Nodup
  few : os.length <= 100
theorem idx_last {ys xs : List V} {i : Nat} {v : V} {H : Hp} (h : H[i]? = some (.list ys)) (e : ys = xs ++ [v]) : index (.ref i) (.int (ys.length - 1)) H = .ok v H := by
  have hl : ((ys.length : Int) - 1) = (xs.length : Nat) := by rw [e, List.length_append, List.length_singleton]; omega
  rw [hl]
  exact idx_ref h (by rw [e, List.getElem?_append_right (Nat.le_refl _), Nat.sub_self]; rfl)
theorem len_snoc {α β : Type} (f : α -> β) (xs : List α) (x : α) : ((((xs ++ [x]).map f).length : Int) == 0) = false := beq_eq_false_iff_ne.mpr (by rw [List.length_map, List.length_append, List.length_singleton]; omega)
theorem keysAt_of {ks : List Int} {k : Nat} {H : Hp} (h : H[k]? = some (.keys ks)) : keysAt (.ref k) H = some ks := at_of (f := keysO) h
theorem in_keys {ks : List Int} {k : Nat} {z : Int} {H : Hp} (h : H[k]? = some (.keys ks)) : cmp .isIn (.int z) (.ref k) H = some (ks.contains z) := by
  have q : cmp .isIn (.int z) (.ref k) H = (match listAt (.ref k) H with
    | some vs => inTup H (.int z) vs
    | Option.none => inKeys H (.int z) (.ref k)) := rfl
  have q2 : listAt (.ref k) H = Option.none := at_of (f := listO) h
  rw [q, q2]
  dsimp only
  unfold inKeys
  rw [keysAt_of h]; rfl
theorem setK_keys {ks : List Int} {k : Nat} {z : Int} {v : V} {H : Hp} (h : H[k]? = some (.keys ks)) (hl : ks.length < line) (hz : ks.contains z = false) : setK (.ref k) (.int z) v H = .ok () (H.set k (.keys (ks ++ [z]))) := by
  have q : setK (.ref k) (.int z) v H = (match keysAt (.ref k) H with
    | some ks => if ks.length < line then .ok () (H.set k (.keys (if ks.contains z then ks else ks ++ [z]))) else .stuck
    | Option.none => (match tabAt (.ref k) H with
      | some p => (match keyAt (.int z) with
        | some k' => if p.1.length < 100000 then .ok () (H.set k (.tab (tabPut p.1 k' v) (tabEp p.1 k' p.2))) else .stuck
        | Option.none => .stuck)
      | Option.none => .stuck)) := rfl
  rw [q, keysAt_of h]
  dsimp only
  rw [if_pos hl, hz]; rfl
section
variable {w : Str} {l h s : Int} {qs : List Q4} {d dn k : Nat} {H : Hp}
theorem c_need (n : Nat) (x : DayAt w l h s qs d dn k H) {o : Nat} {os : List Int} (ho : H[o]? = some (.list (os.map .int))) (ok : Ord qs.length os) :
    (G (n + 2)).call "need_order" [.ref d, .ref o] H = .ok .none (H ++ [.keys os]) := by
  rw [G_call (d := d_need_order) (by kernel_rfl)]
  refine runDef_is (ρ := [("day", .ref d), ("order", .ref o)]) rfl ?_
  refine ss_asg (v := .ref H.length) (H1 := H ++ [.keys []]) rfl ?_
  have ho' : (H ++ [O.keys []])[o]? = some (.list (os.map .int)) := (ext_app _ _).get ho
  have turn : ∀ a z b ρ H', (H' = H ++ [.keys a] /\ ρ.lookup "day" = some (.ref d) /\ ρ.lookup "seen" = some (.ref H.length) /\ a ++ z :: b = os) ->
      Turns (fun ρ H' => H' = H ++ [.keys (a ++ [z])] /\ ρ.lookup "day" = some (.ref d) /\ ρ.lookup "seen" = some (.ref H.length) /\ (a ++ [z]) ++ b = os) (exSs (G (n + 1)) (loopAt d_need_order.body 1) (setL "number" (.int z) ρ) H') := by
    rintro a z b ρ H' ⟨rfl, g1, g2, g3⟩
    have y := x.ext (ext_app H [.keys a])
    have hz : z ∈ os := by rw [<- g3]; simp
    have e1 := y.stops
    have e2 := bi_len_ref y.list
    have e4 : bin .sub (.int (qs.map tupQ).length) (.int 1) (H ++ [.keys a]) = .ok (.int ((qs.map tupQ).length - 1)) (H ++ [.keys a]) := rfl
    have w1 := ok.low z hz
    have w2 := ok.high z hz
    have e3 := c_within n (H ++ [.keys a]) w1 (show z <= ((qs.map tupQ).length : Int) - 1 by rw [List.length_map]; exact Int.le_sub_one_of_lt w2)
    have nd := ok.nodup
    rw [<- g3] at nd
    have hc : a.contains z = false := by
      rw [<- Bool.not_eq_true, List.contains_iff_mem]
      exact fun q => (List.nodup_append.mp nd).2.2 z q z (List.mem_cons_self ..) rfl
    have e5 := in_keys (z := z) (len_app1 H (.keys a))
    rw [hc] at e5
    have la : a.length < line := by
      have := ok.few
      rw [<- g3, List.length_append] at this
      unfold line; omega
    have e6 := setK_keys (v := .bool true) (len_app1 H (.keys a)) la hc
    rw [set_app1] at e6
    refine ss_if (c := false) (H1 := H ++ [.keys a]) (show evOr _ _ _ _ = _ from ev_or (c := false) (H1 := H ++ [.keys a]) (by repeat (first | with_reducible (first | assumption | exact setL_self _ _ _ | refine setL_other (by decide) ?_ | exact ev_int _ | exact ev_none | exact ev_bool _ | exact evs_nil | apply evs_cons | apply ev_var | apply ev_tup | apply ev_attr | apply ev_idx | apply ev_not | apply ev_cmp | apply ev_bin2 | apply ev_isinst | apply ev_call (G_hd _) ?_ rfl | apply ev_bi (G_hd _)) | rfl)) (show evE _ _ _ _ = _ from (by repeat (first | with_reducible (first | assumption | exact setL_self _ _ _ | refine setL_other (by decide) ?_ | exact ev_int _ | exact ev_none | exact ev_bool _ | exact evs_nil | apply evs_cons | apply ev_var | apply ev_tup | apply ev_attr | apply ev_idx | apply ev_not | apply ev_cmp | apply ev_bin2 | apply ev_isinst | apply ev_call (G_hd _) ?_ rfl | apply ev_bi (G_hd _)) | rfl)))) ?_
    exact ss_setidx (by repeat (first | with_reducible (first | assumption | exact setL_self _ _ _ | refine setL_other (by decide) ?_ | exact ev_int _ | exact ev_none | exact ev_bool _ | exact evs_nil | apply evs_cons | apply ev_var | apply ev_tup | apply ev_attr | apply ev_idx | apply ev_not | apply ev_cmp | apply ev_bin2 | apply ev_isinst | apply ev_call (G_hd _) ?_ rfl | apply ev_bi (G_hd _)) | rfl)) (by repeat (first | with_reducible (first | assumption | exact setL_self _ _ _ | refine setL_other (by decide) ?_ | exact ev_int _ | exact ev_none | exact ev_bool _ | exact evs_nil | apply evs_cons | apply ev_var | apply ev_tup | apply ev_attr | apply ev_idx | apply ev_not | apply ev_cmp | apply ev_bin2 | apply ev_isinst | apply ev_call (G_hd _) ?_ rfl | apply ev_bi (G_hd _)) | rfl)) (by repeat (first | with_reducible (first | assumption | exact setL_self _ _ _ | refine setL_other (by decide) ?_ | exact ev_int _ | exact ev_none | exact ev_bool _ | exact evs_nil | apply evs_cons | apply ev_var | apply ev_tup | apply ev_attr | apply ev_idx | apply ev_not | apply ev_cmp | apply ev_bin2 | apply ev_isinst | apply ev_call (G_hd _) ?_ rfl | apply ev_bi (G_hd _)) | rfl)) e6 (Turns.here ⟨rfl, (by repeat (first | assumption | with_reducible first | exact setL_self _ _ _ | refine setL_other (by decide) ?_)), (by repeat (first | assumption | with_reducible first | exact setL_self _ _ _ | refine setL_other (by decide) ?_)), by rw [<- g3]; simp⟩)
  obtain ⟨ρ', H', e, rfl, _⟩ := forL_all V.int (fun v ρ1 H2 => exSs (G (n + 1)) (loopAt d_need_order.body 1) (setL "number" v ρ1) H2) (sameO (.ref o) (H ++ [.keys []]))
    (fun a b ρ H' => H' = H ++ [.keys a] /\ ρ.lookup "day" = some (.ref d) /\ ρ.lookup "seen" = some (.ref H.length) /\ a ++ b = os)
    (fun a b ρ H' z => by rw [z.1]; exact same_list ho' ((ext_app _ _).get ho)) turn os (setL "seen" (.ref H.length) [("day", .ref d), ("order", .ref o)]) (H ++ [.keys []]) ⟨rfl, rfl, rfl, rfl⟩
  exact ss_for (v := .ref o) (G_hd _) rfl (items_list ho') e rfl
end
section
variable {w : Str} {l h s : Int} {qs : List Q4} {d dn k : Nat} {H : Hp}
noncomputable def RowsOk (qs : List Q4) (a : List Int) (p t : Int) (rows : List V) : Prop :=
  rows.length = a.length /\ ∀ a' z, a = a' ++ [z] -> ∃ (q : Q4) (c b : V) (rs : List V), qs[z.toNat]? = some q /\ p = q.1 /\ rows = rs ++ [.tup [c, b, .int t]]
noncomputable def TI (w : Str) (l h s : Int) (qs : List Q4) (os : List Int) (d : Nat) (K : Hp) (a b : List Int) (ρ : Rho) (H' : Hp) : Prop :=
  a ++ b = os /\ ∃ (p t : Int) (rows : List V), behindI w l qs a h s = some (p, t) /\ H' = K ++ [.list rows] /\ RowsOk qs a p t rows /\ ρ.lookup "day" = some (.ref d) /\ ρ.lookup "found" = some (.ref K.length) /\ ρ.lookup "place" = some (.int p) /\ ρ.lookup "time" = some (.int t)
noncomputable def TJ (w : Str) (l h s : Int) (qs : List Q4) (os : List Int) (K : Hp) (r : RS) : Prop := behindI w l qs os h s = Option.none /\ ∃ ρ rows, r = .raise "Missed" ρ (K ++ [.list rows])
theorem behind_snoc {w : Str} {l p t p' t' : Int} {qs : List Q4} {a : List Int} {z : Int} {q : Q4} (e : behindI w l qs a p t = some (p', t')) (hq : qs[z.toNat]? = some q) (b : List Int) :
    behindI w l qs (a ++ z :: b) p t = (leavesI w l p' t' q).bind fun t2 => behindI w l qs b q.1 t2 := by
  rw [behind_app, e]
  show behindI w l qs (z :: b) p' t' = _
  rw [behind_cons, hq]; rfl
theorem tt_turn (n : Nat) {K : Hp} (x : DayAt w l h s qs d dn k K) {os : List Int} (ok : Ord qs.length os) (a : List Int) (z : Int) (b : List Int) (ρ : Rho) (H' : Hp) (i : TI w l h s qs os d K a (z :: b) ρ H') :
    Turns (TI w l h s qs os d K (a ++ [z]) b) (exSs (G (n + 1)) (loopAt d_timetable.body 4) (setL "number" (.int z) ρ) H') \/ TJ w l h s qs os K (exSs (G (n + 1)) (loopAt d_timetable.body 4) (setL "number" (.int z) ρ) H') := by
  obtain ⟨rfl, p, t, rows, eb, rfl, ro, g1, g2, g3, g4⟩ := i
  have hz : z ∈ a ++ z :: b := by simp
  obtain ⟨q, hq⟩ := some_of_lt (ok.low z hz) (ok.high z hz)
  have y := x.ext (ext_app K [.list rows])
  have e1 := y.stops
  have e2 := stop_at y.list (ok.low z hz) hq
  have e3 := y.road
  have e4 := c_apart n w l p q.1 (K ++ [.list rows])
  have e5 := c_served n w l p t q (K ++ [.list rows])
  have e6 : bin .add (.int t) (.int (apartI w l p q.1)) (K ++ [.list rows]) = .ok (.int (t + apartI w l p q.1)) (K ++ [.list rows]) := rfl
  have sn := behind_snoc eb hq
  unfold servedV at e5
  unfold leavesI at sn
  by_cases hb : q.2.2.1 < begI w l p t q
  · right
    rw [if_pos hb] at e5
    simp only [if_pos hb] at sn
    refine ss_asg (by repeat (first | with_reducible (first | assumption | exact setL_self _ _ _ | refine setL_other (by decide) ?_ | exact ev_int _ | exact ev_none | exact ev_bool _ | exact evs_nil | apply evs_cons | apply ev_var | apply ev_tup | apply ev_attr | apply ev_idx | apply ev_not | apply ev_cmp | apply ev_bin2 | apply ev_isinst | apply ev_call (G_hd _) ?_ rfl | apply ev_bi (G_hd _)) | rfl)) ?_
    refine ss_asg (by repeat (first | with_reducible (first | assumption | exact setL_self _ _ _ | refine setL_other (by decide) ?_ | exact ev_int _ | exact ev_none | exact ev_bool _ | exact evs_nil | apply evs_cons | apply ev_var | apply ev_tup | apply ev_attr | apply ev_idx | apply ev_not | apply ev_cmp | apply ev_bin2 | apply ev_isinst | apply ev_call (G_hd _) ?_ rfl | apply ev_bi (G_hd _)) | rfl)) ?_
    refine ss_asg (by repeat (first | with_reducible (first | assumption | exact setL_self _ _ _ | refine setL_other (by decide) ?_ | exact ev_int _ | exact ev_none | exact ev_bool _ | exact evs_nil | apply evs_cons | apply ev_var | apply ev_tup | apply ev_attr | apply ev_idx | apply ev_not | apply ev_cmp | apply ev_bin2 | apply ev_isinst | apply ev_call (G_hd _) ?_ rfl | apply ev_bi (G_hd _)) | rfl)) ?_
    refine ss_if (ev_cmp (ev_var (setL_self _ _ _)) ev_none (is_none _ _)) ?_
    exact ss_raise (G_hd _) ⟨sn b, _, _, rfl⟩
  · left
    rw [if_neg hb] at e5
    simp only [if_neg hb] at sn
    have la : rows.length < line := by
      have := ok.few
      rw [List.length_append] at this
      rw [ro.1]; unfold line; omega
    have e7 := m_append (v := .tup [.int (t + apartI w l p q.1), .int (begI w l p t q), .int (begI w l p t q + q.2.2.2)]) (len_app1 K (.list rows)) la
    rw [set_app1] at e7
    refine ss_asg (by repeat (first | with_reducible (first | assumption | exact setL_self _ _ _ | refine setL_other (by decide) ?_ | exact ev_int _ | exact ev_none | exact ev_bool _ | exact evs_nil | apply evs_cons | apply ev_var | apply ev_tup | apply ev_attr | apply ev_idx | apply ev_not | apply ev_cmp | apply ev_bin2 | apply ev_isinst | apply ev_call (G_hd _) ?_ rfl | apply ev_bi (G_hd _)) | rfl)) ?_
    refine ss_asg (by repeat (first | with_reducible (first | assumption | exact setL_self _ _ _ | refine setL_other (by decide) ?_ | exact ev_int _ | exact ev_none | exact ev_bool _ | exact evs_nil | apply evs_cons | apply ev_var | apply ev_tup | apply ev_attr | apply ev_idx | apply ev_not | apply ev_cmp | apply ev_bin2 | apply ev_isinst | apply ev_call (G_hd _) ?_ rfl | apply ev_bi (G_hd _)) | rfl)) ?_
    refine ss_asg (by repeat (first | with_reducible (first | assumption | exact setL_self _ _ _ | refine setL_other (by decide) ?_ | exact ev_int _ | exact ev_none | exact ev_bool _ | exact evs_nil | apply evs_cons | apply ev_var | apply ev_tup | apply ev_attr | apply ev_idx | apply ev_not | apply ev_cmp | apply ev_bin2 | apply ev_isinst | apply ev_call (G_hd _) ?_ rfl | apply ev_bi (G_hd _)) | rfl)) ?_
    refine ss_if (ev_cmp (ev_var (setL_self _ _ _)) ev_none (is_none _ _)) ?_
    refine ss_unpack (G_hd _) (ev_var (setL_self _ _ _)) rfl rfl ?_
    refine ss_expr (ev_meth (w := .ref K.length) (H1 := K ++ [.list rows]) (by repeat (first | with_reducible (first | assumption | exact setL_self _ _ _ | refine setL_other (by decide) ?_ | exact ev_int _ | exact ev_none | exact ev_bool _ | exact evs_nil | apply evs_cons | apply ev_var | apply ev_tup | apply ev_attr | apply ev_idx | apply ev_not | apply ev_cmp | apply ev_bin2 | apply ev_isinst | apply ev_call (G_hd _) ?_ rfl | apply ev_bi (G_hd _)) | rfl)) (kind_list (len_app1 _ _)) (by repeat (first | with_reducible (first | assumption | exact setL_self _ _ _ | refine setL_other (by decide) ?_ | exact ev_int _ | exact ev_none | exact ev_bool _ | exact evs_nil | apply evs_cons | apply ev_var | apply ev_tup | apply ev_attr | apply ev_idx | apply ev_not | apply ev_cmp | apply ev_bin2 | apply ev_isinst | apply ev_call (G_hd _) ?_ rfl | apply ev_bi (G_hd _)) | rfl)) e7) ?_
    have e8 : index (tupQ q) (.int 0) (K ++ [.list (rows ++ [.tup [.int (t + apartI w l p q.1), .int (begI w l p t q), .int (begI w l p t q + q.2.2.2)]])]) = .ok (.int q.1) _ := rfl
    refine ss_asg (by repeat (first | with_reducible (first | assumption | exact setL_self _ _ _ | refine setL_other (by decide) ?_ | exact ev_int _ | exact ev_none | exact ev_bool _ | exact evs_nil | apply evs_cons | apply ev_var | apply ev_tup | apply ev_attr | apply ev_idx | apply ev_not | apply ev_cmp | apply ev_bin2 | apply ev_isinst | apply ev_call (G_hd _) ?_ rfl | apply ev_bi (G_hd _)) | rfl)) ?_
    refine ss_asg (by repeat (first | with_reducible (first | assumption | exact setL_self _ _ _ | refine setL_other (by decide) ?_ | exact ev_int _ | exact ev_none | exact ev_bool _ | exact evs_nil | apply evs_cons | apply ev_var | apply ev_tup | apply ev_attr | apply ev_idx | apply ev_not | apply ev_cmp | apply ev_bin2 | apply ev_isinst | apply ev_call (G_hd _) ?_ rfl | apply ev_bi (G_hd _)) | rfl)) ?_
    refine Turns.here ⟨by simp, q.1, begI w l p t q + q.2.2.2, _, sn [], rfl, ⟨by simp [ro.1], fun a' z' ha => ?_⟩, (by repeat (first | assumption | with_reducible first | exact setL_self _ _ _ | refine setL_other (by decide) ?_)), (by repeat (first | assumption | with_reducible first | exact setL_self _ _ _ | refine setL_other (by decide) ?_)), (by repeat (first | assumption | with_reducible first | exact setL_self _ _ _ | refine setL_other (by decide) ?_)), (by repeat (first | assumption | with_reducible first | exact setL_self _ _ _ | refine setL_other (by decide) ?_))⟩
    obtain ⟨rfl, hzz⟩ := List.append_inj' ha rfl
    cases hzz
    exact ⟨q, _, _, rows, hq, rfl, rfl⟩
noncomputable def TimeAns (w : Str) (l h s : Int) (qs : List Q4) (os : List Int) (H : Hp) (r : R V) : Prop :=
  (behindI w l qs os h s = Option.none /\ ∃ H', r = .raise "Missed" H' /\ Kept H H') \/
  ∃ p t rows k H', behindI w l qs os h s = some (p, t) /\ r = .ok (.ref k) H' /\ Kept H H' /\ H'[k]? = some (.list rows) /\ RowsOk qs os p t rows
theorem c_time (n : Nat) (x : DayAt w l h s qs d dn k H) {o : Nat} {os : List Int} (ho : H[o]? = some (.list (os.map .int))) (ok : Ord qs.length os) : TimeAns w l h s qs os H ((G (n + 3)).call "timetable" [.ref d, .ref o] H) := by
  rw [G_call (d := d_timetable) (by kernel_rfl)]
  refine runDef_P (ρ := [("day", .ref d), ("order", .ref o)]) (P := TimeAns w l h s qs os H) rfl ?_
  have e0 := c_need n x ho ok
  have y := x.ext (ext_app H [.keys os])
  have z := y.ext (ext_app (H ++ [.keys os]) [.list []])
  have e1 := z.home
  have e2 := z.start
  have ho2 : ((H ++ [O.keys os]) ++ [O.list []])[o]? = some (.list (os.map .int)) := (ext_app _ _).get ((ext_app _ _).get ho)
  refine ss_expr (ev_call (H1 := H) (G_hd _) (evs_cons (ev_var rfl) (evs_one (ev_var rfl))) rfl e0) ?_
  refine ss_asg (ev_list evs_nil) ?_
  refine ss_asg (v := .int h) (ev_attr (ev_var rfl) e1) ?_
  refine ss_asg (v := .int s) (ev_attr (ev_var rfl) e2) ?_
  have lp := forL_or V.int (fun v ρ1 H2 => exSs (G (n + 2)) (loopAt d_timetable.body 4) (setL "number" v ρ1) H2) (sameO (.ref o) ((H ++ [.keys os]) ++ [.list []])) (TI w l h s qs os d (H ++ [.keys os])) (TJ w l h s qs os (H ++ [.keys os]))
    (fun r ⟨_, _, _, e⟩ => by rw [e]; exact ⟨rfl, fun _ => rfl⟩) (fun a b ρ H' i => by obtain ⟨_, _, _, _, _, rfl, _⟩ := i; exact same_list ho2 ((ext_app _ _).get ((ext_app _ _).get ho))) (tt_turn (n + 1) y ok) os [] 
    (setL "time" (.int s) (setL "place" (.int h) (setL "found" (.ref (H ++ [O.keys os]).length) [("day", .ref d), ("order", .ref o)]))) ((H ++ [.keys os]) ++ [.list []]) ⟨rfl, h, s, [], rfl, rfl, ⟨rfl, fun a' z q => by simp at q⟩, rfl, rfl, rfl, rfl⟩
  refine ss_for (v := .ref o) (r := forL (fun v ρ1 H2 => exSs (G (n + 2)) (loopAt d_timetable.body 4) (setL "number" v ρ1) H2) (sameO (.ref o) ((H ++ [.keys os]) ++ [.list []])) (os.map .int) (setL "time" (.int s) (setL "place" (.int h) (setL "found" (.ref (H ++ [O.keys os]).length) [("day", .ref d), ("order", .ref o)]))) ((H ++ [.keys os]) ++ [.list []])) (G_hd _) rfl (items_list ho2) rfl ?_
  rcases lp with ⟨ρ', H', e, _, p, t, rows, eb, rfl, ro, g1, g2, g3, g4⟩ | ⟨eb, ρ', rows, e⟩
  · rw [e, RS.bind_next]
    refine ss_ret (ev_var g2) ?_
    exact .inr ⟨p, t, rows, _, _, eb, rfl, (Kept.app _ _).trans (Kept.app _ _), len_app1 _ _, ro⟩
  · rw [e]
    exact .inl ⟨eb, _, rfl, (Kept.app _ _).trans (Kept.app _ _)⟩
theorem c_begun (n : Nat) (x : DayAt w l h s qs d dn k H) {o : Nat} {os : List Int} (ho : H[o]? = some (.list (os.map .int))) (ok : Ord qs.length os) : ∃ H', Kept H H' /\ (G (n + 4)).call "begun_at" [.ref d, .ref o] H = .ok (placeV (behindI w l qs os h s)) H' := by
  rw [G_call (d := d_begun_at) (by kernel_rfl)]
  refine runDef_P (ρ := [("day", .ref d), ("begun", .ref o)]) (P := fun r => ∃ H', Kept H H' /\ r = .ok (placeV (behindI w l qs os h s)) H') rfl ?_
  have e0 := c_need (n + 1) x ho ok
  have y := x.ext (ext_app H [.keys os])
  have ho1 : (H ++ [O.keys os])[o]? = some (.list (os.map .int)) := (ext_app _ _).get ho
  refine ss_expr (ev_call (H1 := H) (G_hd _) (evs_cons (ev_var rfl) (evs_one (ev_var rfl))) rfl e0) ?_
  rcases c_time n y ho1 ok with ⟨eb, H', e1, kp⟩ | ⟨p, t, rows, j, H', eb, e1, kp, hj, ro⟩
  · have t0 : evE (G (n + 3)) [("day", .ref d), ("begun", .ref o)] (.call "timetable" [(.var "day"), (.var "begun")]) (H ++ [.keys os]) = .raise "Missed" H' :=
      ev_call (vs := [.ref d, .ref o]) (H1 := H ++ [.keys os]) (G_hd _) (evs_cons (ev_var rfl) (evs_one (ev_var rfl))) rfl e1
    have t1 : Is (.raise "Missed" [("day", .ref d), ("begun", .ref o)] H') (exSs (G (n + 3)) [.asg "rows" (.call "timetable" [(.var "day"), (.var "begun")])] [("day", .ref d), ("begun", .ref o)] (H ++ [.keys os])) :=
      ss_asg_raise t0 rfl
    refine ss_try (G_hd _) t1 ?_
    have t2 : exH { G (n + 3) with hd := true } "Missed" [("Missed", [.ret .none])] [("day", .ref d), ("begun", .ref o)] H' = .ret .none H' := by
      rw [exH_cons, if_pos (by decide)]; rfl
    rw [eb]
    show Fin _ (RS.bind (exH { G (n + 3) with hd := true } "Missed" [("Missed", [.ret .none])] [("day", .ref d), ("begun", .ref o)] H') _)
    rw [t2]
    exact ⟨H', (Kept.app _ _).trans kp, rfl⟩
  · have t0 : evE (G (n + 3)) [("day", .ref d), ("begun", .ref o)] (.call "timetable" [(.var "day"), (.var "begun")]) (H ++ [.keys os]) = .ok (.ref j) H' :=
      ev_call (vs := [.ref d, .ref o]) (H1 := H ++ [.keys os]) (G_hd _) (evs_cons (ev_var rfl) (evs_one (ev_var rfl))) rfl e1
    have t1 : Is (.next (setL "rows" (.ref j) [("day", .ref d), ("begun", .ref o)]) H') (exSs (G (n + 3)) [.asg "rows" (.call "timetable" [(.var "day"), (.var "begun")])] [("day", .ref d), ("begun", .ref o)] (H ++ [.keys os])) :=
      ss_asg t0 rfl
    refine ss_try (G_hd _) t1 ?_
    show Fin _ (exSs _ _ _ _)
    have z := y.kept kp
    have ho2 := kp _ _ ho1
    have kp2 := (Kept.app H [.keys os]).trans kp
    have e2 := bi_len_ref ho2
    have e3 := z.home
    have e4 := z.start
    have e5 := z.stops
    have e6 := bi_len_ref hj
    have g1 : List.lookup "day" (setL "rows" (.ref j) [("day", .ref d), ("begun", .ref o)]) = some (.ref d) := rfl
    have g2 : List.lookup "begun" (setL "rows" (.ref j) [("day", .ref d), ("begun", .ref o)]) = some (.ref o) := rfl
    have g3 : List.lookup "rows" (setL "rows" (.ref j) [("day", .ref d), ("begun", .ref o)]) = some (.ref j) := rfl
    rw [eb]
    refine ss_if (c := ((os.map V.int).length : Int) == 0) (ev_cmp (ev_bi (G_hd _) (evs_one (ev_var g2)) e2) (ev_int _) (cmp_eq_int _ _ _)) ?_
    rcases nil_or_snoc os with hos | ⟨os', z', hos⟩
    · rw [hos] at eb ⊢
      cases eb
      exact ss_ret (v := .tup [.int h, .int s]) (by repeat (first | with_reducible (first | assumption | exact setL_self _ _ _ | refine setL_other (by decide) ?_ | exact ev_int _ | exact ev_none | exact ev_bool _ | exact evs_nil | apply evs_cons | apply ev_var | apply ev_tup | apply ev_attr | apply ev_idx | apply ev_not | apply ev_cmp | apply ev_bin2 | apply ev_isinst | apply ev_call (G_hd _) ?_ rfl | apply ev_bi (G_hd _)) | rfl)) ⟨H', kp2, rfl⟩
    · obtain ⟨q, c, b, rs, hq, hp, hr⟩ := ro.2 os' z' hos
      rw [show (((os.map V.int).length : Int) == 0) = false from by rw [hos]; exact len_snoc _ _ _]
      have i1 := idx_last ho2 (xs := os'.map V.int) (v := .int z') (by rw [hos, List.map_append]; rfl)
      have i2 := idx_last hj hr
      have i3 := stop_at z.list (ok.low z' (hos ▸ List.mem_append.mpr (.inr (List.mem_singleton.mpr rfl)))) hq
      rw [hp]
      exact ss_ret (v := .tup [.int q.1, .int t]) (H1 := H') (ev_tup (evs_cons (ev_idx (ev_idx (ev_attr (ev_var g1) e5) (ev_idx (ev_var g2) (ev_sub (ev_bi (G_hd _) (evs_one (ev_var g2)) e2) (ev_int 1)) i1) i3) (ev_int 0) rfl) (evs_one (ev_idx (ev_idx (ev_var g3) (ev_sub (ev_bi (G_hd _) (evs_one (ev_var g3)) e6) (ev_int 1)) i2) (ev_int 2) rfl)))) ⟨H', kp2, rfl⟩
noncomputable def BI (w : Str) (l h s : Int) (qs : List Q4) (os : List Int) (ks : Nat) (H : Hp) (a b : List Int) (ρ : Rho) (H' : Hp) : Prop :=
  a ++ b = os /\ H' = H /\ ∃ (p t : Int), behindI w l qs a h s = some (p, t) /\ ρ.lookup "_law_road" = some (.tup [.str w, .int l]) /\ ρ.lookup "_law_stops" = some (.ref ks) /\ ρ.lookup "_law_place" = some (.int p) /\ ρ.lookup "_law_time" = some (.int t)
theorem c_behind (n : Nat) {ko ks : Nat} {os : List Int} (hs : H[ks]? = some (.list (qs.map tupQ))) (ho : H[ko]? = some (.list (os.map .int))) (ok : Ord qs.length os) :
    (G (n + 3)).call "_law_behind" [.tup [.str w, .int l], .int h, .int s, .ref ks, .ref ko] H = .ok (placeV (behindI w l qs os h s)) H := by
  rw [G_call (d := d__law_behind) (by kernel_rfl)]
  refine runDef_is (ρ := [("_law_road", .tup [.str w, .int l]), ("_law_home", .int h), ("_law_start", .int s), ("_law_stops", .ref ks), ("_law_order", .ref ko)]) rfl ?_
  refine ss_asg (v := .int h) rfl ?_
  refine ss_asg (v := .int s) rfl ?_
  have turn : ∀ a z b ρ H', BI w l h s qs os ks H a (z :: b) ρ H' -> Turns (BI w l h s qs os ks H (a ++ [z]) b) (exSs (G (n + 2)) (loopAt d__law_behind.body 2) (setL "_law_number" (.int z) ρ) H') \/ (behindI w l qs os h s = Option.none /\ exSs (G (n + 2)) (loopAt d__law_behind.body 2) (setL "_law_number" (.int z) ρ) H' = .ret .none H) := by
    rintro a z b ρ H' ⟨rfl, rfl, p, t, eb, g1, g2, g3, g4⟩
    have hz : z ∈ a ++ z :: b := by simp
    obtain ⟨q, hq⟩ := some_of_lt (ok.low z hz) (ok.high z hz)
    have e2 := stop_at hs (ok.low z hz) hq
    have e3 := c_leaves n w l p t q H'
    have e4 := tq_0 q H'
    have sn := behind_snoc eb hq
    cases hv : leavesI w l p t q with
    | none =>
      right
      rw [hv] at e3 sn
      refine ⟨sn b, ?_⟩
      show Is (.ret .none H') _
      refine ss_asg (by repeat (first | with_reducible (first | assumption | exact setL_self _ _ _ | refine setL_other (by decide) ?_ | exact ev_int _ | exact ev_none | exact ev_bool _ | exact evs_nil | apply evs_cons | apply ev_var | apply ev_tup | apply ev_attr | apply ev_idx | apply ev_not | apply ev_cmp | apply ev_bin2 | apply ev_isinst | apply ev_call (G_hd _) ?_ rfl | apply ev_bi (G_hd _)) | rfl)) ?_
      refine ss_if (ev_cmp (ev_var (setL_self _ _ _)) ev_none (is_none _ _)) ?_
      exact ss_ret ev_none rfl
    | some t' =>
      left
      rw [hv] at e3 sn
      change _ = R.ok (V.int t') H' at e3
      refine ss_asg (by repeat (first | with_reducible (first | assumption | exact setL_self _ _ _ | refine setL_other (by decide) ?_ | exact ev_int _ | exact ev_none | exact ev_bool _ | exact evs_nil | apply evs_cons | apply ev_var | apply ev_tup | apply ev_attr | apply ev_idx | apply ev_not | apply ev_cmp | apply ev_bin2 | apply ev_isinst | apply ev_call (G_hd _) ?_ rfl | apply ev_bi (G_hd _)) | rfl)) ?_
      refine ss_if (ev_cmp (ev_var (setL_self _ _ _)) ev_none (is_none _ _)) ?_
      refine ss_asg (by repeat (first | with_reducible (first | assumption | exact setL_self _ _ _ | refine setL_other (by decide) ?_ | exact ev_int _ | exact ev_none | exact ev_bool _ | exact evs_nil | apply evs_cons | apply ev_var | apply ev_tup | apply ev_attr | apply ev_idx | apply ev_not | apply ev_cmp | apply ev_bin2 | apply ev_isinst | apply ev_call (G_hd _) ?_ rfl | apply ev_bi (G_hd _)) | rfl)) ?_
      exact Turns.here ⟨by simp, rfl, q.1, t', sn [], (by repeat (first | assumption | with_reducible first | exact setL_self _ _ _ | refine setL_other (by decide) ?_)), (by repeat (first | assumption | with_reducible first | exact setL_self _ _ _ | refine setL_other (by decide) ?_)), (by repeat (first | assumption | with_reducible first | exact setL_self _ _ _ | refine setL_other (by decide) ?_)), (by repeat (first | assumption | with_reducible first | exact setL_self _ _ _ | refine setL_other (by decide) ?_))⟩
  have lp := forL_or V.int (fun v ρ1 H2 => exSs (G (n + 2)) (loopAt d__law_behind.body 2) (setL "_law_number" v ρ1) H2) (sameO (.ref ko) H) (BI w l h s qs os ks H) (fun r => behindI w l qs os h s = Option.none /\ r = .ret .none H)
    (fun r ⟨_, e⟩ => by rw [e]; exact ⟨rfl, fun _ => rfl⟩) (fun a b ρ H' i => by obtain ⟨_, rfl, _⟩ := i; exact same_list ho ho) turn os []
    (setL "_law_time" (.int s) (setL "_law_place" (.int h) [("_law_road", .tup [.str w, .int l]), ("_law_home", .int h), ("_law_start", .int s), ("_law_stops", .ref ks), ("_law_order", .ref ko)])) H ⟨rfl, rfl, h, s, rfl, rfl, rfl, rfl, rfl⟩
  rcases lp with ⟨ρ', H', e, _, rfl, p, t, eb, g1, g2, g3, g4⟩ | ⟨eb, e⟩
  · refine ss_for (v := .ref ko) (G_hd _) rfl (items_list ho) e ?_
    rw [List.nil_append] at eb
    rw [RS.bind_next, eb]
    exact ss_ret (v := .tup [.int p, .int t]) (by repeat (first | with_reducible (first | assumption | exact setL_self _ _ _ | refine setL_other (by decide) ?_ | exact ev_int _ | exact ev_none | exact ev_bool _ | exact evs_nil | apply evs_cons | apply ev_var | apply ev_tup | apply ev_attr | apply ev_idx | apply ev_not | apply ev_cmp | apply ev_bin2 | apply ev_isinst | apply ev_call (G_hd _) ?_ rfl | apply ev_bi (G_hd _)) | rfl)) rfl
  · refine ss_for (v := .ref ko) (G_hd _) rfl (items_list ho) e ?_
    rw [eb]; rfl
end
noncomputable abbrev Ent := Key × Int × Option Int
noncomputable def valV (x : Int × Option Int) : V := .tup [.int x.1, optI x.2]
noncomputable def entV (e : Ent) : Key × V := (e.1, valV e.2)
noncomputable def getE (es : List Ent) (k : Key) : Option (Int × Option Int) := (es.find? fun e => decide (e.1 = k)).map (·.2)
noncomputable def putE (es : List Ent) (k : Key) (x : Int × Option Int) : List Ent := if (getE es k).isSome then es.map fun e => if e.1 = k then (e.1, x) else e else es ++ [(k, x)]
theorem tabGet_of (es : List Ent) (k : Key) : tabGet (es.map entV) k = (getE es k).map valV := by
  unfold tabGet getE
  rw [List.find?_map, Option.map_map, Option.map_map]; rfl
theorem tabPut_of (es : List Ent) (k : Key) (x : Int × Option Int) : tabPut (es.map entV) k (valV x) = (putE es k x).map entV := by
  unfold tabPut putE
  rw [tabGet_of, Option.isSome_map]
  split
  · rw [List.map_map, List.map_map]
    refine List.map_congr_left fun e _ => ?_
    show (if e.1 = k then (e.1, valV x) else entV e) = entV (if e.1 = k then (e.1, x) else e)
    split <;> rfl
  · rw [List.map_append]; rfl
theorem keys_of (es : List Ent) : (es.map entV).map (·.1) = es.map (·.1) := by rw [List.map_map]; rfl
theorem getE_some {es : List Ent} {k : Key} {x : Int × Option Int} (h : getE es k = some x) : (k, x) ∈ es := by
  obtain ⟨e, h1, h2⟩ := Option.map_eq_some_iff.mp h
  have := List.find?_some h1
  rw [decide_eq_true_eq] at this
  rw [<- this, <- h2]
  exact List.mem_of_find?_eq_some h1
theorem getE_none {es : List Ent} {k : Key} (h : getE es k = Option.none) : k ∉ es.map (·.1) := by
  unfold getE at h
  rw [Option.map_eq_none_iff, List.find?_eq_none] at h
  rintro q
  obtain ⟨e, he, rfl⟩ := List.mem_map.mp q
  exact h e he (decide_eq_true rfl)
theorem getE_mem {es : List Ent} {k : Key} {x : Int × Option Int} (h : (k, x) ∈ es) (nd : (es.map (·.1)).Nodup) : getE es k = some x := by
  cases e : getE es k with
  | none => exact absurd (List.mem_map.mpr ⟨_, h, rfl⟩) (getE_none e)
  | some y =>
    have := getE_some e
    have : ∀ (l : List Ent), (l.map (·.1)).Nodup -> (k, x) ∈ l -> (k, y) ∈ l -> y = x := by
      intro l
      induction l with
      | nil => intro _ q; cases q
      | cons a l ih =>
        intro nd h1 h2
        rw [List.map_cons, List.nodup_cons] at nd
        rcases List.mem_cons.mp h1 with e1 | h1
        · rcases List.mem_cons.mp h2 with e2 | h2
          · rw [<- e1] at e2; exact (Prod.mk.inj e2).2
          · exact absurd (List.mem_map.mpr ⟨_, h2, by rw [<- e1]⟩) nd.1
        · rcases List.mem_cons.mp h2 with e2 | h2
          · exact absurd (List.mem_map.mpr ⟨_, h1, by rw [<- e2]⟩) nd.1
          · exact ih nd.2 h1 h2
    rw [this es nd h (getE_some e)]
theorem keys_putE (es : List Ent) (k : Key) (x : Int × Option Int) : (putE es k x).map (·.1) = if k ∈ es.map (·.1) then es.map (·.1) else es.map (·.1) ++ [k] := by
  unfold putE
  cases e : getE es k with
  | none =>
    rw [if_neg (by simp), if_neg (getE_none e), List.map_append]; rfl
  | some y =>
    rw [if_pos (show (some y).isSome = true from rfl), if_pos (List.mem_map.mpr ⟨_, getE_some e, rfl⟩), List.map_map]
    refine List.map_congr_left fun e _ => ?_
    show (if e.1 = k then (e.1, x) else e).1 = e.1
    split <;> rfl
theorem nodup_putE {es : List Ent} {k : Key} {x : Int × Option Int} (nd : (es.map (·.1)).Nodup) : ((putE es k x).map (·.1)).Nodup := by
  rw [keys_putE]
  split
  · exact nd
  · rename_i h
    refine List.nodup_append.mpr ⟨nd, List.nodup_cons.mpr ⟨List.not_mem_nil, List.nodup_nil⟩, fun a ha b hb => ?_⟩
    rw [List.mem_singleton] at hb
    rw [hb]; exact fun q => h (q ▸ ha)
theorem mem_putE {es : List Ent} {k : Key} {x : Int × Option Int} {e : Ent} (h : e ∈ putE es k x) : e = (k, x) \/ (e ∈ es /\ e.1 ≠ k) := by
  unfold putE at h
  cases hg : getE es k with
  | none =>
    rw [hg, if_neg (by simp)] at h
    rcases List.mem_append.mp h with h | h
    · exact .inr ⟨h, fun q => getE_none hg (List.mem_map.mpr ⟨_, h, q⟩)⟩
    · exact .inl (List.mem_singleton.mp h)
  | some y =>
    rw [hg, if_pos (show (some y).isSome = true from rfl)] at h
    obtain ⟨a, ha, rfl⟩ := List.mem_map.mp h
    by_cases q : a.1 = k
    · rw [if_pos q, q]; exact .inl rfl
    · rw [if_neg q]; exact .inr ⟨ha, q⟩
theorem put_mem (es : List Ent) (k : Key) (x : Int × Option Int) : (k, x) ∈ putE es k x := by
  unfold putE
  cases hg : getE es k with
  | none => rw [if_neg (by simp)]; exact List.mem_append.mpr (.inr (List.mem_singleton.mpr rfl))
  | some y => rw [if_pos (show (some y).isSome = true from rfl)]; exact List.mem_map.mpr ⟨_, getE_some hg, by rw [if_pos rfl]⟩
theorem mem_put_other {es : List Ent} {k : Key} {x : Int × Option Int} {e : Ent} (h : e ∈ es) (q : e.1 ≠ k) : e ∈ putE es k x := by
  unfold putE
  split
  · exact List.mem_map.mpr ⟨e, h, by rw [if_neg q]⟩
  · exact List.mem_append.mpr (.inl h)
theorem len_putE (es : List Ent) (k : Key) (x : Int × Option Int) : (putE es k x).length <= es.length + 1 := by
  unfold putE
  split
  · rw [List.length_map]; omega
  · simp
noncomputable def lessE (old other t b : Int) : Bool := decide (old < t) || (old == t && decide (other <= b))
noncomputable def putB (es : List Ent) (k : Key) (t b : Int) : List Ent := match getE es k with
  | some x => if lessE x.1 (x.2.getD 0) t b then es else putE es k (t, some b)
  | Option.none => putE es k (t, some b)
noncomputable def Full (es : List Ent) : Prop := ∀ e ∈ es, ∃ b, e.2.2 = some b
theorem putB_cases (es : List Ent) (k : Key) (t b : Int) : (putB es k t b = es /\ ∃ x, getE es k = some x /\ x.1 <= t) \/ (putB es k t b = putE es k (t, some b) /\ ∀ x, getE es k = some x -> t <= x.1) := by
  unfold putB
  cases hg : getE es k with
  | none => exact .inr ⟨rfl, fun x q => by cases q⟩
  | some x =>
    dsimp only
    by_cases h : lessE x.1 (x.2.getD 0) t b = true
    · rw [if_pos h]
      refine .inl ⟨rfl, x, rfl, ?_⟩
      unfold lessE at h
      simp only [Bool.or_eq_true, Bool.and_eq_true, decide_eq_true_eq, beq_iff_eq] at h
      omega
    · rw [if_neg h]
      refine .inr ⟨rfl, fun y hy => ?_⟩
      cases hy
      unfold lessE at h
      simp only [Bool.or_eq_true, Bool.and_eq_true, decide_eq_true_eq, beq_iff_eq, not_or] at h
      omega
theorem full_putB {es : List Ent} {k : Key} {t b : Int} (h : Full es) : Full (putB es k t b) := by
  rcases putB_cases es k t b with ⟨e, _⟩ | ⟨e, _⟩
  · rw [e]; exact h
  · rw [e]
    intro a ha
    rcases mem_putE ha with rfl | ⟨ha, _⟩
    · exact ⟨b, rfl⟩
    · exact h a ha
theorem len_putB (es : List Ent) (k : Key) (t b : Int) : (putB es k t b).length <= es.length + 1 := by
  rcases putB_cases es k t b with ⟨e, _⟩ | ⟨e, _⟩
  · rw [e]; omega
  · rw [e]; exact len_putE _ _ _
theorem nodup_putB {es : List Ent} {k : Key} {t b : Int} (nd : (es.map (·.1)).Nodup) : ((putB es k t b).map (·.1)).Nodup := by
  rcases putB_cases es k t b with ⟨e, _⟩ | ⟨e, _⟩
  · rw [e]; exact nd
  · rw [e]; exact nodup_putE nd
theorem mem_putB {es : List Ent} {k : Key} {t b : Int} {e : Ent} (h : e ∈ putB es k t b) : e = (k, t, some b) \/ e ∈ es := by
  rcases putB_cases es k t b with ⟨q, _⟩ | ⟨q, _⟩
  · rw [q] at h; exact .inr h
  · rw [q] at h
    rcases mem_putE h with h | h
    · exact .inl h
    · exact .inr h.1
section
variable {xs : List (Key × V)} {ep k : Nat} {H : Hp}
theorem tabAt_of (h : H[k]? = some (.tab xs ep)) : tabAt (.ref k) H = some (xs, ep) := at_of (f := tabO) h
theorem listAt_tab (h : H[k]? = some (.tab xs ep)) : listAt (.ref k) H = Option.none := at_of (f := listO) h
theorem keysAt_tab (h : H[k]? = some (.tab xs ep)) : keysAt (.ref k) H = Option.none := at_of (f := keysO) h
theorem intsV_map : ∀ ns : List Int, intsV (ns.map .int) = some ns
  | [] => rfl
  | n :: ns => by
    have ih := intsV_map ns
    unfold intsV at ih ⊢
    rw [List.map_cons, List.mapM_cons, ih]; rfl
theorem keyAt_keyV (q : Key) : keyAt (keyV q) = some q := by
  have e : keyAt (keyV q) = (match intsV (q.1.map .int) with
    | some ks => some (ks, q.2)
    | Option.none => Option.none) := rfl
  rw [e, intsV_map]
theorem kind_tab (h : H[k]? = some (.tab xs ep)) : kindV (.ref k) H = some "dict" := by
  have q : kindV (.ref k) H = (match listAt (.ref k) H with | some _ => some "list" | Option.none => (match tabAt (.ref k) H with | some _ => some "dict" | Option.none => Option.none)) := rfl
  rw [q, listAt_tab h, tabAt_of h]
theorem in_tab (h : H[k]? = some (.tab xs ep)) (q : Key) : cmp .isIn (keyV q) (.ref k) H = some ((xs.map (·.1)).contains q) := by
  have e : cmp .isIn (keyV q) (.ref k) H = (match listAt (.ref k) H with
    | some vs => inTup H (keyV q) vs
    | Option.none => inKeys H (keyV q) (.ref k)) := rfl
  rw [e, listAt_tab h]
  dsimp only
  unfold inKeys
  rw [keysAt_tab h, tabAt_of h, keyAt_keyV]; rfl
theorem idx_tab (h : H[k]? = some (.tab xs ep)) {q : Key} {v : V} (hv : tabGet xs q = some v) : index (.ref k) (keyV q) H = .ok v H := by
  have e : index (.ref k) (keyV q) H = (match tabAt (.ref k) H with
    | some p => (match keyAt (keyV q) with | some k => ofO H (tabGet p.1 k) | Option.none => .stuck)
    | Option.none => .stuck) := rfl
  rw [e, tabAt_of h, keyAt_keyV]
  dsimp only
  rw [hv]; rfl
theorem setK_tab (h : H[k]? = some (.tab xs ep)) (q : Key) (v : V) (hl : xs.length < 100000) : setK (.ref k) (keyV q) v H = .ok () (H.set k (.tab (tabPut xs q v) (tabEp xs q ep))) := by
  have e : setK (.ref k) (keyV q) v H = (match keysAt (.ref k) H with
    | some ks => (match intAt (keyV q) with
      | some k' => if ks.length < line then .ok () (H.set k (.keys (if ks.contains k' then ks else ks ++ [k']))) else .stuck
      | Option.none => .stuck)
    | Option.none => (match tabAt (.ref k) H with
      | some p => (match keyAt (keyV q) with
        | some k' => if p.1.length < 100000 then .ok () (H.set k (.tab (tabPut p.1 k' v) (tabEp p.1 k' p.2))) else .stuck
        | Option.none => .stuck)
      | Option.none => .stuck)) := rfl
  rw [e, keysAt_tab h, tabAt_of h, keyAt_keyV]
  exact if_pos hl
theorem len_tab (h : H[k]? = some (.tab xs ep)) : builtin "len" [.ref k] H = .ok (.int xs.length) H := by
  have q : builtin "len" [.ref k] H = (match listAt (.ref k) H with | some xs => .ok (.int xs.length) H | Option.none => (match tabAt (.ref k) H with | some p => .ok (.int p.1.length) H | Option.none => .stuck)) := rfl
  rw [q, listAt_tab h, tabAt_of h]
theorem items_tab {es : List Ent} (h : H[k]? = some (.tab (es.map entV) ep)) : items H (.ref k) = some (es.map fun e => keyV e.1) := by
  have q : items H (.ref k) = (match listAt (.ref k) H with | some xs => some xs | Option.none => (tabAt (.ref k) H).map fun p => p.1.map fun x => keyV x.1) := rfl
  rw [q, listAt_tab h, tabAt_of h]
  show some ((es.map entV).map fun x => keyV x.1) = _
  rw [List.map_map]; rfl
theorem same_tab {H' : Hp} (h : H[k]? = some (.tab xs ep)) (e : H'[k]? = some (.tab xs ep)) : sameO (.ref k) H H' = true := same_of h e (by show (decide (xs = xs) && ep == ep) = true; rw [decide_eq_true rfl, beq_self_eq_true]; rfl)
theorem upd_tab {m ep2 : Nat} {ys : List (Key × V)} (h : H[k]? = some (.tab xs ep)) (h2 : H[m]? = some (.tab ys ep2)) (hn : k ≠ m) (hf : xs.isEmpty = false \/ firstOk ys = true) (hl : xs.length + ys.length <= 100000) :
    meth (.ref k) "update" [.ref m] H = .ok .none (H.set k (.tab (tabMerge xs ys) (tabMEp xs ys ep))) := by
  have e : meth (.ref k) "update" [.ref m] H = (match tabAt (.ref k) H with
    | some p => (match tabAt (.ref m) H with
          | some q => if k ≠ m /\ (p.1.isEmpty = false \/ firstOk q.1 = true) /\ p.1.length + q.1.length <= 100000 then .ok .none (H.set k (.tab (tabMerge p.1 q.1) (tabMEp p.1 q.1 p.2))) else .stuck
          | Option.none => .stuck)
    | Option.none => .stuck) := rfl
  rw [e, tabAt_of h, tabAt_of h2]
  exact if_pos ⟨hn, hf, hl⟩
end
theorem set_same {H : Hp} {k : Nat} {o : O} (h : H[k]? = some o) : H.set k o = H := by
  obtain ⟨hk, e⟩ := List.getElem?_eq_some_iff.mp h
  rw [<- e]; exact List.set_getElem_self hk
theorem mapM_ints (H : Hp) : ∀ ds : List Int, (ds.map V.int).mapM (snap 8 H) = some (ds.map PyData.int)
  | [] => rfl
  | d :: ds => by rw [List.map_cons, List.mapM_cons, mapM_ints H ds]; rfl
theorem any_ints (z : Int) : ∀ ds : List Int, ((ds.map PyData.int).any fun y => PyData.eqv y (.int z)) = ds.contains z
  | [] => rfl
  | d :: ds => by
    have e : PyData.eqv (.int d) (.int z) = (d == z) := rfl
    rw [List.map_cons, List.any_cons, any_ints z ds, e, List.contains_cons]
    congr 1
    rw [Bool.eq_iff_iff, beq_iff_eq, beq_iff_eq]; exact eq_comm
theorem inTup_ints (H : Hp) (z : Int) (ds : List Int) : inTup H (.int z) (ds.map .int) = some (ds.contains z) := by
  unfold inTup
  rw [mapM_ints]
  show some ((ds.map PyData.int).any fun y => PyData.eqv y (.int z)) = _
  rw [any_ints]
theorem in_tup (H : Hp) (z : Int) (ds : List Int) : cmp .isIn (.int z) (.tup (ds.map .int)) H = some (ds.contains z) := inTup_ints H z ds
theorem notin_tup (H : Hp) (z : Int) (ds : List Int) : cmp .notIn (.int z) (.tup (ds.map .int)) H = some (!ds.contains z) := by
  have e : cmp .notIn (.int z) (.tup (ds.map .int)) H = (inTup H (.int z) (ds.map .int)).map (!·) := rfl
  rw [e, inTup_ints]; rfl
theorem notin_list {H : Hp} {k : Nat} {ds : List Int} (h : H[k]? = some (.list (ds.map .int))) (z : Int) : cmp .notIn (.int z) (.ref k) H = some (!ds.contains z) := by
  have e : cmp .notIn (.int z) (.ref k) H = if (keysAt (.ref k) H).isSome then Option.none else (match listAt (.ref k) H with
    | some vs => inTup H (.int z) vs
    | Option.none => inKeys H (.int z) (.ref k)).map (!·) := rfl
  have e2 : keysAt (.ref k) H = Option.none := at_of (f := keysO) h
  rw [e, e2, if_neg (by simp), listAt_of h]
  dsimp only
  rw [inTup_ints]; rfl
theorem contains_iff_get (es : List Ent) (q : Key) : ((es.map entV).map (·.1)).contains q = (getE es q).isSome := by
  rw [keys_of, Bool.eq_iff_iff, List.contains_iff_mem]
  cases e : getE es q with
  | none => simp [getE_none e]
  | some x => simp only [Option.isSome_some, iff_true]; exact List.mem_map.mpr ⟨_, getE_some e, rfl⟩
theorem c_put (n : Nat) {f ep : Nat} {es : List Ent} {H : Hp} (hf : H[f]? = some (.tab (es.map entV) ep)) (fu : Full es) (hl : es.length < 100000) (q : Key) (t b : Int) :
    ∃ ep', (G (n + 1)).call "put_better" [.ref f, keyV q, .int t, .int b] H = .ok .none (H.set f (.tab ((putB es q t b).map entV) ep')) := by
  rw [G_call (d := d_put_better) (by kernel_rfl)]
  refine runDef_P (ρ := [("found", .ref f), ("key", keyV q), ("leaves", .int t), ("before", .int b)]) (P := fun r => ∃ ep', r = .ok .none (H.set f (.tab ((putB es q t b).map entV) ep'))) rfl ?_
  have e1 := in_tab hf q
  rw [contains_iff_get] at e1
  have e2 := setK_tab hf q (valV (t, some b)) (by rw [List.length_map]; exact hl)
  rw [tabPut_of] at e2
  refine ss_if (ev_cmp (ev_var rfl) (ev_var rfl) e1) ?_
  cases hg : getE es q with
  | none =>
    have e3 : putB es q t b = putE es q (t, some b) := by unfold putB; rw [hg]
    rw [e3]
    exact ss_setidx (v := .tup [.int t, .int b]) (w := .ref f) (k := keyV q) (H1 := H) (H2 := H) (H3 := H) rfl rfl rfl e2 ⟨_, rfl⟩
  | some x =>
    obtain ⟨o, ho⟩ := fu _ (getE_some hg)
    obtain ⟨x1, x2⟩ := x
    have ho : x2 = some o := ho
    subst ho
    have e4 : index (.ref f) (keyV q) H = .ok (.tup [.int x1, .int o]) H := idx_tab hf (by rw [tabGet_of, hg]; rfl)
    have e3 : putB es q t b = if lessE x1 o t b then es else putE es q (t, some b) := by unfold putB; rw [hg]; rfl
    show Fin _ (exSs _ (S.unpack _ _ :: _) _ _)
    refine ss_unpack (v := .tup [.int x1, .int o]) (H1 := H) (G_hd _) (ev_idx (ev_var rfl) (ev_var rfl) e4) rfl rfl ?_
    have e5 : evE (G n) (setL "other" (.int o) (setL "old" (.int x1) [("found", .ref f), ("key", keyV q), ("leaves", .int t), ("before", .int b)])) (.or [(.cmp (.var "old") .lt (.var "leaves")), (.and [(.cmp (.var "old") .eq (.var "leaves")), (.cmp (.var "other") .le (.var "before"))])]) H = .ok (.bool (lessE x1 o t b)) H := by
      unfold lessE
      refine ev_or (c := decide (x1 < t)) (H1 := H) (ev_cmp (ev_var rfl) (ev_var rfl) rfl) ?_
      cases decide (x1 < t) with
      | true => rfl
      | false =>
        show evAnd _ _ _ _ = _
        refine ev_and (c := x1 == t) (H1 := H) (ev_cmp (ev_var rfl) (ev_var rfl) rfl) ?_
        cases x1 == t with
        | false => rfl
        | true => exact (ev_cmp (u := .int o) (v := .int b) (ev_var rfl) (ev_var rfl) (cmp_le o b H) : evE (G n) (setL "other" (.int o) (setL "old" (.int x1) [("found", .ref f), ("key", keyV q), ("leaves", .int t), ("before", .int b)])) (.cmp (.var "other") .le (.var "before")) H = _)
    refine ss_if e5 ?_
    rw [e3]
    cases lessE x1 o t b with
    | true =>
      show Fin _ (exSs _ (S.ret0 :: _) _ _)
      exact ss_ret0 ⟨ep, by rw [if_pos rfl, set_same hf]; rfl⟩
    | false => exact ss_setidx (v := .tup [.int t, .int b]) (w := .ref f) (k := keyV q) (H1 := H) (H2 := H) (H3 := H) rfl rfl rfl e2 ⟨_, rfl⟩
noncomputable def ins (ds : List Int) (z : Int) : List Int := (ds ++ [z]).mergeSort fun a b => decide (a <= b)
noncomputable def nextT (w : Str) (l : Int) (qs : List Q4) (e : Ent) (z : Int) : Option Int := match qs[e.1.2.toNat]? with
  | some a => (match qs[z.toNat]? with
    | some q => leavesI w l a.1 e.2.1 q
    | Option.none => Option.none)
  | Option.none => Option.none
noncomputable def stepN (w : Str) (l : Int) (qs : List Q4) (e : Ent) (es : List Ent) (z : Int) : List Ent := if e.1.1.contains z then es else match nextT w l qs e z with
  | some t => putB es (ins e.1.1 z, z) t e.1.2
  | Option.none => es
noncomputable def stepE (w : Str) (l : Int) (qs : List Q4) (left : List Int) (es : List Ent) (e : Ent) : List Ent := left.foldl (stepN w l qs e) es
noncomputable def longerP (w : Str) (l : Int) (qs : List Q4) (left : List Int) (lev : List Ent) : List Ent := lev.foldl (stepE w l qs left) []
theorem stepN_cases (w : Str) (l : Int) (qs : List Q4) (e : Ent) (es : List Ent) (z : Int) : stepN w l qs e es z = es \/ ∃ t, e.1.1.contains z = false /\ nextT w l qs e z = some t /\ stepN w l qs e es z = putB es (ins e.1.1 z, z) t e.1.2 := by
  unfold stepN
  by_cases hc : e.1.1.contains z = true
  · rw [if_pos hc]; exact .inl rfl
  · rw [if_neg hc]
    cases hv : nextT w l qs e z with
    | none => exact .inl rfl
    | some t => exact .inr ⟨t, Bool.eq_false_iff.mpr hc, rfl, rfl⟩
theorem full_stepN {w : Str} {l : Int} {qs : List Q4} {e : Ent} {es : List Ent} {z : Int} (h : Full es) : Full (stepN w l qs e es z) := by
  rcases stepN_cases w l qs e es z with q | ⟨t, _, _, q⟩
  · rw [q]; exact h
  · rw [q]; exact full_putB h
theorem len_stepN (w : Str) (l : Int) (qs : List Q4) (e : Ent) (es : List Ent) (z : Int) : (stepN w l qs e es z).length <= es.length + 1 := by
  rcases stepN_cases w l qs e es z with q | ⟨t, _, _, q⟩
  · rw [q]; exact Nat.le_succ _
  · rw [q]; exact len_putB _ _ _ _
theorem bi_sorted_ref {H : Hp} {k : Nat} {ns : List Int} (h : H[k]? = some (.list (ns.map .int))) (hl : ns.length < 64) : builtin "sorted" [.ref k] H = .ok (.ref H.length) (H ++ [.list ((ns.mergeSort fun a b => decide (a <= b)).map .int)]) := by
  have q : builtin "sorted" [.ref k] H = (match (listAt (.ref k) H).bind intsV with
    | some ns => if ns.length < 64 then new (.list ((ns.mergeSort fun a b => decide (a <= b)).map .int)) H else .stuck
    | Option.none => .stuck) := rfl
  rw [q, listAt_of h]
  show (match intsV (ns.map .int) with
    | some ns => if ns.length < 64 then new (.list ((ns.mergeSort fun a b => decide (a <= b)).map .int)) H else .stuck
    | Option.none => .stuck) = _
  rw [intsV_map]
  exact if_pos hl
theorem bi_tuple_ref {H : Hp} {k : Nat} {vs : List V} (h : H[k]? = some (.list vs)) : builtin "tuple" [.ref k] H = .ok (.tup vs) H := by
  have q : builtin "tuple" [.ref k] H = (match listAt (.ref k) H with | some xs => .ok (.tup xs) H | Option.none => .stuck) := rfl
  rw [q, listAt_of h]
theorem bin_add_ref {xs ys : List V} {i j : Nat} {H : Hp} (h1 : H[i]? = some (.list xs)) (h2 : H[j]? = some (.list ys)) (hl : xs.length + ys.length <= line) : bin .add (.ref i) (.ref j) H = .ok (.ref H.length) (H ++ [.list (xs ++ ys)]) := by
  have q : bin .add (.ref i) (.ref j) H = addL (.ref i) (.ref j) H := rfl
  rw [q, addL, listAt_of h1, listAt_of h2]
  exact if_pos hl
theorem ev_ins {n : Nat} {ρ : Rho} {H : Hp} {ds : List Int} {z : Int} (g1 : ρ.lookup "done" = some (.tup (ds.map .int))) (g2 : ρ.lookup "number" = some (.int z)) (hl : ds.length <= 8) :
    ∃ L, evE (G n) ρ (.call "tuple" [(.call "sorted" [(.bin .add (.call "list" [(.var "done")]) (.list [(.var "number")]))])]) H = .ok (.tup ((ins ds z).map .int)) (H ++ L) := by
  have e1 : builtin "list" [.tup (ds.map .int)] H = .ok (.ref H.length) (H ++ [.list (ds.map .int)]) := rfl
  have e2 := bin_add_ref (i := H.length) (j := (H ++ [O.list (ds.map .int)]).length) (H := (H ++ [O.list (ds.map .int)]) ++ [.list [.int z]]) ((ext_app _ _).get (len_app1 _ _)) (len_app1 _ _) (by simp [line]; omega)
  have e3 := bi_sorted_ref (ns := ds ++ [z]) (H := ((H ++ [O.list (ds.map .int)]) ++ [.list [.int z]]) ++ [.list (ds.map .int ++ [.int z])]) (by rw [List.map_append]; exact len_app1 _ _) (by simp; omega)
  have e4 := bi_tuple_ref (len_app1 (((H ++ [O.list (ds.map .int)]) ++ [.list [.int z]]) ++ [.list (ds.map .int ++ [.int z])]) (.list (((ds ++ [z]).mergeSort fun a b => decide (a <= b)).map .int)))
  refine ⟨[O.list (ds.map .int), .list [.int z], .list (ds.map .int ++ [.int z]), .list (((ds ++ [z]).mergeSort fun a b => decide (a <= b)).map .int)], ?_⟩
  have e5 := ev_bi (Γ := G n) (ρ := ρ) (es := [(.call "sorted" [(.bin .add (.call "list" [(.var "done")]) (.list [(.var "number")]))])]) (H := H) (G_hd n) (evs_one (ev_bi (G_hd n) (evs_one (ev_bin2 (ev_bi (G_hd n) (evs_one (ev_var g1)) e1) (ev_list (evs_one (ev_var g2))) e2)) e3)) e4
  rw [e5]
  simp [ins]
theorem app_tab (H L M : Hp) (o : O) : (H ++ o :: L) ++ M = H ++ o :: (L ++ M) := by simp
theorem get_tab (H L : Hp) (o : O) : (H ++ o :: L)[H.length]? = some o := by rw [List.getElem?_append_right (Nat.le_refl _)]; simp
theorem set_tab (H L : Hp) (o o' : O) : (H ++ o :: L).set H.length o' = H ++ o' :: L := by rw [List.set_append_right _ _ (Nat.le_refl _)]; simp
structure LevIn (m : Nat) (lev : List Ent) : Prop where
  low : ∀ e ∈ lev, 0 <= e.1.2
  high : ∀ e ∈ lev, e.1.2 < m
  few : ∀ e ∈ lev, e.1.1.length <= 8
  nodup : (lev.map (·.1)).Nodup
  len : lev.length <= 1000
section
variable {w : Str} {l h s : Int} {qs : List Q4} {d dn k kl kf epl : Nat} {H : Hp} {left : List Int} {lev : List Ent}
noncomputable def NI (w : Str) (l : Int) (qs : List Q4) (d kl kf : Nat) (H : Hp) (left : List Int) (e : Ent) (es0 : List Ent) (a b : List Int) (ρ : Rho) (H' : Hp) : Prop :=
  a ++ b = left /\ (∃ ep L, H' = H ++ .tab ((a.foldl (stepN w l qs e) es0).map entV) ep :: L) /\ Full (a.foldl (stepN w l qs e) es0) /\ (a.foldl (stepN w l qs e) es0).length <= es0.length + a.length /\
  ρ.lookup "day" = some (.ref d) /\ ρ.lookup "level" = some (.ref kl) /\ ρ.lookup "left" = some (.ref kf) /\ ρ.lookup "found" = some (.ref H.length) /\ ρ.lookup "done" = some (.tup (e.1.1.map .int)) /\ ρ.lookup "last" = some (.int e.1.2) /\ ρ.lookup "leaves" = some (.int e.2.1)
noncomputable def LI (w : Str) (l : Int) (qs : List Q4) (d kl kf : Nat) (H : Hp) (left : List Int) (lev : List Ent) (a b : List Ent) (ρ : Rho) (H' : Hp) : Prop :=
  a ++ b = lev /\ (∃ ep L, H' = H ++ .tab ((a.foldl (stepE w l qs left) []).map entV) ep :: L) /\ Full (a.foldl (stepE w l qs left) []) /\ (a.foldl (stepE w l qs left) []).length <= 7 * a.length /\
  ρ.lookup "day" = some (.ref d) /\ ρ.lookup "level" = some (.ref kl) /\ ρ.lookup "left" = some (.ref kf) /\ ρ.lookup "found" = some (.ref H.length)
theorem inner_turn (n : Nat) (x : DayAt w l h s qs d dn k H) (lo : ∀ z ∈ left, 0 <= z) (hi : ∀ z ∈ left, z < qs.length) {e : Ent} {es0 : List Ent} (e0 : 0 <= e.1.2) (e1 : e.1.2 < qs.length) (ed : e.1.1.length <= 8) (hl : es0.length <= 7000) (h7 : left.length <= 7)
    (a : List Int) (z : Int) (b : List Int) (ρ : Rho) (H' : Hp) (i : NI w l qs d kl kf H left e es0 a (z :: b) ρ H') :
    Turns (NI w l qs d kl kf H left e es0 (a ++ [z]) b) (exSs (G (n + 2)) (loopAt (loopAt d_longer.body 1) 2) (setL "number" (.int z) ρ) H') := by
  obtain ⟨rfl, ⟨ep, L, rfl⟩, fu, ln, g1, g2, g3, g4, g5, g6, g7⟩ := i
  have fold : (a ++ [z]).foldl (stepN w l qs e) es0 = stepN w l qs e (a.foldl (stepN w l qs e) es0) z := by rw [List.foldl_append]; rfl
  have hz : z ∈ a ++ z :: b := by simp
  obtain ⟨q, hq⟩ := some_of_lt (lo z hz) (hi z hz)
  obtain ⟨q', hq'⟩ := some_of_lt e0 e1
  have la : a.length <= 7 := Nat.le_trans (by rw [List.length_append]; exact Nat.le_add_right _ _) h7
  -- what the turn has to leave
  have key : ∀ ρ' H2, ρ'.lookup "day" = some (.ref d) /\ ρ'.lookup "level" = some (.ref kl) /\ ρ'.lookup "left" = some (.ref kf) /\ ρ'.lookup "found" = some (.ref H.length) /\ ρ'.lookup "done" = some (.tup (e.1.1.map .int)) /\ ρ'.lookup "last" = some (.int e.1.2) /\ ρ'.lookup "leaves" = some (.int e.2.1) ->
      (∃ ep L, H2 = H ++ .tab ((stepN w l qs e (a.foldl (stepN w l qs e) es0) z).map entV) ep :: L) -> NI w l qs d kl kf H (a ++ z :: b) e es0 (a ++ [z]) b ρ' H2 := fun ρ' H2 g hh => by
    unfold NI
    rw [fold]
    refine ⟨by simp, hh, full_stepN fu, ?_, g⟩
    have := len_stepN w l qs e (a.foldl (stepN w l qs e) es0) z
    rw [List.length_append, List.length_singleton]; exact Nat.le_trans this (Nat.succ_le_succ ln)
  have fe : stepN w l qs e (a.foldl (stepN w l qs e) es0) z = if e.1.1.contains z then a.foldl (stepN w l qs e) es0 else match leavesI w l q'.1 e.2.1 q with | some t => putB (a.foldl (stepN w l qs e) es0) (ins e.1.1 z, z) t e.1.2 | Option.none => a.foldl (stepN w l qs e) es0 := by
    unfold stepN nextT; rw [hq', hq]
  rw [fe] at key
  clear fe fold
  generalize a.foldl (stepN w l qs e) es0 = es at fu ln key ⊢
  have y := x.kept (Kept.app H (.tab (es.map entV) ep :: L))
  have c1 := in_tup (H ++ .tab (es.map entV) ep :: L) z e.1.1
  refine ss_if (c := e.1.1.contains z) (ev_cmp (ev_var (setL_self _ _ _)) (ev_var (by repeat (first | assumption | with_reducible first | exact setL_self _ _ _ | refine setL_other (by decide) ?_))) c1) ?_
  cases hc : e.1.1.contains z with
  | true =>
    rw [hc, if_pos rfl] at key
    exact ss_cont (Turns.cont (key _ _ ⟨(by repeat (first | assumption | with_reducible first | exact setL_self _ _ _ | refine setL_other (by decide) ?_)), (by repeat (first | assumption | with_reducible first | exact setL_self _ _ _ | refine setL_other (by decide) ?_)), (by repeat (first | assumption | with_reducible first | exact setL_self _ _ _ | refine setL_other (by decide) ?_)), (by repeat (first | assumption | with_reducible first | exact setL_self _ _ _ | refine setL_other (by decide) ?_)), (by repeat (first | assumption | with_reducible first | exact setL_self _ _ _ | refine setL_other (by decide) ?_)), (by repeat (first | assumption | with_reducible first | exact setL_self _ _ _ | refine setL_other (by decide) ?_)), (by repeat (first | assumption | with_reducible first | exact setL_self _ _ _ | refine setL_other (by decide) ?_))⟩ ⟨ep, L, rfl⟩))
  | false =>
    rw [hc, if_neg (by simp)] at key
    have c2 := y.stops
    have c3 := stop_at y.list e0 hq'
    have c4 := tq_0 q' (H ++ .tab (es.map entV) ep :: L)
    have c5 := c_left n y (lo z hz) hq q'.1 e.2.1
    show Turns _ (exSs _ (S.asg "time" _ :: _) _ _)
    refine ss_asg (by repeat (first | with_reducible (first | assumption | exact setL_self _ _ _ | refine setL_other (by decide) ?_ | exact ev_int _ | exact ev_none | exact ev_bool _ | exact evs_nil | apply evs_cons | apply ev_var | apply ev_tup | apply ev_attr | apply ev_idx | apply ev_not | apply ev_cmp | apply ev_bin2 | apply ev_isinst | apply ev_call (G_hd _) ?_ rfl | apply ev_bi (G_hd _)) | rfl)) ?_
    refine ss_if (ev_cmp (ev_var (setL_self _ _ _)) ev_none (isnt_none _ _)) ?_
    cases hv : leavesI w l q'.1 e.2.1 q with
    | none =>
      rw [hv] at key
      exact Turns.here (key _ _ ⟨(by repeat (first | assumption | with_reducible first | exact setL_self _ _ _ | refine setL_other (by decide) ?_)), (by repeat (first | assumption | with_reducible first | exact setL_self _ _ _ | refine setL_other (by decide) ?_)), (by repeat (first | assumption | with_reducible first | exact setL_self _ _ _ | refine setL_other (by decide) ?_)), (by repeat (first | assumption | with_reducible first | exact setL_self _ _ _ | refine setL_other (by decide) ?_)), (by repeat (first | assumption | with_reducible first | exact setL_self _ _ _ | refine setL_other (by decide) ?_)), (by repeat (first | assumption | with_reducible first | exact setL_self _ _ _ | refine setL_other (by decide) ?_)), (by repeat (first | assumption | with_reducible first | exact setL_self _ _ _ | refine setL_other (by decide) ?_))⟩ ⟨ep, L, rfl⟩)
    | some t =>
      rw [hv] at key
      dsimp only at key
      obtain ⟨M, ei⟩ := ev_ins (n := n + 2) (ρ := setL "time" (.int t) (setL "number" (.int z) ρ)) (H := H ++ .tab (es.map entV) ep :: L) (ds := e.1.1) (z := z) (by repeat (first | assumption | with_reducible first | exact setL_self _ _ _ | refine setL_other (by decide) ?_)) (by repeat (first | assumption | with_reducible first | exact setL_self _ _ _ | refine setL_other (by decide) ?_)) ed
      rw [app_tab] at ei
      obtain ⟨ep', c6⟩ := c_put (n + 1) (get_tab H (L ++ M) (.tab (es.map entV) ep)) fu (by omega) (ins e.1.1 z, z) t e.1.2
      rw [set_tab] at c6
      show Turns _ (exSs _ (S.expr _ :: _) (setL "time" (.int t) (setL "number" (.int z) ρ)) _)
      refine ss_expr (ev_call (vs := [.ref H.length, keyV (ins e.1.1 z, z), .int t, .int e.1.2]) (G_hd _) (evs_cons (ev_var (by repeat (first | assumption | with_reducible first | exact setL_self _ _ _ | refine setL_other (by decide) ?_))) (evs_cons (ev_tup (evs_cons ei (evs_one (ev_var (by repeat (first | assumption | with_reducible first | exact setL_self _ _ _ | refine setL_other (by decide) ?_)))))) (evs_cons (ev_var (by repeat (first | assumption | with_reducible first | exact setL_self _ _ _ | refine setL_other (by decide) ?_))) (evs_one (ev_var (by repeat (first | assumption | with_reducible first | exact setL_self _ _ _ | refine setL_other (by decide) ?_))))))) rfl c6) ?_
      exact Turns.here (key _ _ ⟨(by repeat (first | assumption | with_reducible first | exact setL_self _ _ _ | refine setL_other (by decide) ?_)), (by repeat (first | assumption | with_reducible first | exact setL_self _ _ _ | refine setL_other (by decide) ?_)), (by repeat (first | assumption | with_reducible first | exact setL_self _ _ _ | refine setL_other (by decide) ?_)), (by repeat (first | assumption | with_reducible first | exact setL_self _ _ _ | refine setL_other (by decide) ?_)), (by repeat (first | assumption | with_reducible first | exact setL_self _ _ _ | refine setL_other (by decide) ?_)), (by repeat (first | assumption | with_reducible first | exact setL_self _ _ _ | refine setL_other (by decide) ?_)), (by repeat (first | assumption | with_reducible first | exact setL_self _ _ _ | refine setL_other (by decide) ?_))⟩ ⟨ep', L ++ M, rfl⟩)
theorem outer_turn (n : Nat) (x : DayAt w l h s qs d dn k H) (hlev : H[kl]? = some (.tab (lev.map entV) epl)) (hleft : H[kf]? = some (.list (left.map .int))) (lo : ∀ z ∈ left, 0 <= z) (hi : ∀ z ∈ left, z < qs.length) (h7 : left.length <= 7) (li : LevIn qs.length lev)
    (a : List Ent) (e : Ent) (b : List Ent) (ρ : Rho) (H' : Hp) (i : LI w l qs d kl kf H left lev a (e :: b) ρ H') :
    Turns (LI w l qs d kl kf H left lev (a ++ [e]) b) (exSs (G (n + 2)) (loopAt d_longer.body 1) (setL "key" (keyV e.1) ρ) H') := by
  obtain ⟨rfl, ⟨ep, L, rfl⟩, fu, ln, g1, g2, g3, g4⟩ := i
  have he : e ∈ a ++ e :: b := by simp
  have len : a.length < 1000 := by have := li.len; rw [List.length_append, List.length_cons] at this; omega
  have fold : (a ++ [e]).foldl (stepE w l qs left) [] = left.foldl (stepN w l qs e) (a.foldl (stepE w l qs left) []) := by rw [List.foldl_append]; rfl
  generalize a.foldl (stepE w l qs left) [] = es at fu ln fold ⊢
  have kp := Kept.app H (.tab (es.map entV) ep :: L)
  have c1 : index (.ref kl) (keyV e.1) (H ++ .tab (es.map entV) ep :: L) = .ok (valV e.2) _ := idx_tab (kp _ _ hlev) (by rw [tabGet_of, getE_mem (x := e.2) he li.nodup]; rfl)
  have c2 : index (valV e.2) (.int 0) (H ++ .tab (es.map entV) ep :: L) = .ok (.int e.2.1) _ := rfl
  have hleft' := kp _ _ hleft
  refine ss_unpack (v := keyV e.1) (vs := [.tup (e.1.1.map .int), .int e.1.2]) (G_hd _) (ev_var (setL_self _ _ _)) rfl rfl ?_
  refine ss_asg (v := .int e.2.1) (H1 := H ++ .tab (es.map entV) ep :: L) (by repeat (first | with_reducible (first | assumption | exact setL_self _ _ _ | refine setL_other (by decide) ?_ | exact ev_int _ | exact ev_none | exact ev_bool _ | exact evs_nil | apply evs_cons | apply ev_var | apply ev_tup | apply ev_attr | apply ev_idx | apply ev_not | apply ev_cmp | apply ev_bin2 | apply ev_isinst | apply ev_call (G_hd _) ?_ rfl | apply ev_bi (G_hd _)) | rfl)) ?_
  have lp := forL_all V.int (fun v ρ1 H2 => exSs (G (n + 2)) (loopAt (loopAt d_longer.body 1) 2) (setL "number" v ρ1) H2) (sameO (.ref kf) (H ++ .tab (es.map entV) ep :: L)) (NI w l qs d kl kf H left e es)
    (fun a b ρ H' i => by obtain ⟨_, ⟨ep, L, rfl⟩, _⟩ := i; exact same_list hleft' (Kept.app _ _ _ _ hleft)) (inner_turn n x lo hi (li.low e he) (li.high e he) (li.few e he) (by omega) h7) left
    (setL "leaves" (.int e.2.1) (setL "last" (.int e.1.2) (setL "done" (.tup (e.1.1.map .int)) (setL "key" (keyV e.1) ρ)))) (H ++ .tab (es.map entV) ep :: L) ⟨rfl, ⟨ep, L, rfl⟩, fu, Nat.le_refl _, (by repeat (first | assumption | with_reducible first | exact setL_self _ _ _ | refine setL_other (by decide) ?_)), (by repeat (first | assumption | with_reducible first | exact setL_self _ _ _ | refine setL_other (by decide) ?_)), (by repeat (first | assumption | with_reducible first | exact setL_self _ _ _ | refine setL_other (by decide) ?_)), (by repeat (first | assumption | with_reducible first | exact setL_self _ _ _ | refine setL_other (by decide) ?_)), (by repeat (first | assumption | with_reducible first | exact setL_self _ _ _ | refine setL_other (by decide) ?_)), (by repeat (first | assumption | with_reducible first | exact setL_self _ _ _ | refine setL_other (by decide) ?_)), (by repeat (first | assumption | with_reducible first | exact setL_self _ _ _ | refine setL_other (by decide) ?_))⟩
  obtain ⟨ρ', H', er, ⟨_, hh, fu', ln', k1, k2, k3, k4, _⟩⟩ := lp
  refine ss_for (v := .ref kf) (G_hd _) (ev_var (by repeat (first | assumption | with_reducible first | exact setL_self _ _ _ | refine setL_other (by decide) ?_))) (items_list hleft') er ?_
  refine ⟨ρ', H', rfl, by simp, ?_, ?_, ?_, k1, k2, k3, k4⟩
  · rw [fold]; exact hh
  · rw [fold]; exact fu'
  · rw [fold, List.length_append, List.length_singleton]; omega
theorem c_longer (n : Nat) (x : DayAt w l h s qs d dn k H) (hlev : H[kl]? = some (.tab (lev.map entV) epl)) (hleft : H[kf]? = some (.list (left.map .int))) (lo : ∀ z ∈ left, 0 <= z) (hi : ∀ z ∈ left, z < qs.length) (h7 : left.length <= 7) (li : LevIn qs.length lev) :
    ∃ (ep : Nat) (L : Hp), (G (n + 3)).call "longer" [.ref d, .ref kl, .ref kf] H = .ok (.ref H.length) (H ++ .tab ((longerP w l qs left lev).map entV) ep :: L) := by
  rw [G_call (d := d_longer) (by kernel_rfl)]
  refine runDef_P (ρ := [("day", .ref d), ("level", .ref kl), ("left", .ref kf)]) (P := fun r => ∃ (ep : Nat) (L : Hp), r = .ok (.ref H.length) (H ++ .tab ((longerP w l qs left lev).map entV) ep :: L)) rfl ?_
  refine ss_asg (v := .ref H.length) (H1 := H ++ [.tab [] 0]) rfl ?_
  have hlev' := Kept.app H [.tab [] 0] _ _ hlev
  obtain ⟨ρ', H', er, ⟨_, ⟨ep, L, rfl⟩, _, _, k1, k2, k3, k4⟩⟩ := forL_all (fun e : Ent => keyV e.1) (fun v ρ1 H2 => exSs (G (n + 2)) (loopAt d_longer.body 1) (setL "key" v ρ1) H2) (sameO (.ref kl) (H ++ [.tab [] 0])) (LI w l qs d kl kf H left lev)
    (fun a b ρ H' i => by obtain ⟨_, ⟨ep, L, rfl⟩, _⟩ := i; exact same_tab hlev' (Kept.app _ _ _ _ hlev)) (outer_turn n x hlev hleft lo hi h7 li) lev
    (setL "found" (.ref H.length) [("day", .ref d), ("level", .ref kl), ("left", .ref kf)]) (H ++ [.tab [] 0]) ⟨rfl, ⟨0, [], rfl⟩, (fun _ q => nomatch q), Nat.zero_le _, rfl, rfl, rfl, rfl⟩
  refine ss_for (v := .ref kl) (G_hd _) (ev_var rfl) (items_tab hlev') er ?_
  exact ss_ret (ev_var k4) ⟨ep, L, rfl⟩
end
theorem foldl_inv {α β : Type} {f : β -> α -> β} {I : β -> Prop} : ∀ {l : List α} {b : β}, I b -> (∀ b a, a ∈ l -> I b -> I (f b a)) -> I (l.foldl f b)
  | [], _, h, _ => h
  | a :: l, b, h, hs => foldl_inv (l := l) (hs b a (List.mem_cons_self ..) h) fun b a' ha => hs b a' (List.mem_cons_of_mem _ ha)
theorem foldl_reach {α β : Type} {f : β -> α -> β} {I P : β -> Prop} {x : α} : ∀ {l : List α} {b : β}, I b -> (∀ b a, a ∈ l -> I b -> I (f b a)) -> (∀ b a, a ∈ l -> I b -> P b -> P (f b a)) -> x ∈ l -> (∀ b, I b -> P (f b x)) -> P (l.foldl f b)
  | [], _, _, _, _, hx, _ => nomatch hx
  | a :: l, b, h, hs, hp, hx, hr => by
    have h1 := hs b a (List.mem_cons_self ..) h
    have hs' : ∀ b a', a' ∈ l -> I b -> I (f b a') := fun b a' ha => hs b a' (List.mem_cons_of_mem _ ha)
    have hp' : ∀ b a', a' ∈ l -> I b -> P b -> P (f b a') := fun b a' ha => hp b a' (List.mem_cons_of_mem _ ha)
    rcases List.mem_cons.mp hx with rfl | hx
    · exact (foldl_inv (I := fun b => I b /\ P b) (l := l) ⟨h1, hr b h⟩ fun b a' ha q => ⟨hs' b a' ha q.1, hp' b a' ha q.1 q.2⟩).2
    · exact foldl_reach (l := l) h1 hs' hp' hx hr
theorem ins_perm (ds : List Int) (z : Int) : (ins ds z).Perm (ds ++ [z]) := List.mergeSort_perm _ _
theorem ins_mem {ds : List Int} {z x : Int} : x ∈ ins ds z ↔ x ∈ ds \/ x = z := by rw [(ins_perm ds z).mem_iff]; simp
theorem ins_len (ds : List Int) (z : Int) : (ins ds z).length = ds.length + 1 := by rw [(ins_perm ds z).length_eq]; simp
theorem ins_rise {ds : List Int} {z : Int} (h : ds.Pairwise (· < ·)) (hz : z ∉ ds) : (ins ds z).Pairwise (· < ·) := by
  have nd : (ins ds z).Nodup := by
    rw [(ins_perm ds z).nodup_iff, List.nodup_append]
    exact ⟨h.imp fun q => Int.ne_of_lt q, List.nodup_cons.mpr ⟨List.not_mem_nil, List.nodup_nil⟩, fun a ha b hb => by rw [List.mem_singleton] at hb; rw [hb]; exact fun q => hz (q ▸ ha)⟩
  have so : (ins ds z).Pairwise fun a b => decide (a <= b) = true := List.pairwise_mergeSort sort_tr sort_tot _
  exact (so.and nd).imp fun ⟨q1, q2⟩ => Int.lt_iff_le_and_ne.mpr ⟨of_decide_eq_true q1, q2⟩
structure EntOk (left : List Int) (i : Nat) (e : Ent) : Prop where
  rise : e.1.1.Pairwise (· < ·)
  sub : ∀ d ∈ e.1.1, d ∈ left
  len : e.1.1.length = i
  last : e.1.2 ∈ e.1.1
section
variable {w : Str} {l : Int} {qs : List Q4} {left : List Int} {lev : List Ent} {i : Nat}
theorem longer_mem {e' : Ent} (h : e' ∈ longerP w l qs left lev) : ∃ e ∈ lev, ∃ z ∈ left, ∃ t, z ∉ e.1.1 /\ nextT w l qs e z = some t /\ e' = ((ins e.1.1 z, z), t, some e.1.2) := by
  have key : ∀ e' ∈ longerP w l qs left lev, ∃ e ∈ lev, ∃ z ∈ left, ∃ t, z ∉ e.1.1 /\ nextT w l qs e z = some t /\ e' = ((ins e.1.1 z, z), t, some e.1.2) :=
    foldl_inv (I := fun es => ∀ e' ∈ es, ∃ e ∈ lev, ∃ z ∈ left, ∃ t, z ∉ e.1.1 /\ nextT w l qs e z = some t /\ e' = ((ins e.1.1 z, z), t, some e.1.2)) (fun _ q => nomatch q) fun es e he hes =>
      foldl_inv (I := fun es => ∀ e' ∈ es, ∃ e ∈ lev, ∃ z ∈ left, ∃ t, z ∉ e.1.1 /\ nextT w l qs e z = some t /\ e' = ((ins e.1.1 z, z), t, some e.1.2)) hes fun es z hz hes => by
        rcases stepN_cases w l qs e es z with q | ⟨t, hc, hv, q⟩
        · rw [q]; exact hes
        · rw [q]
          intro e' he'
          rcases mem_putB he' with rfl | he'
          · exact ⟨e, he, z, hz, t, (fun q => by rw [List.contains_iff_mem.mpr q] at hc; exact Bool.noConfusion hc), hv, rfl⟩
          · exact hes e' he'
  exact key e' h
theorem longer_ok (h : ∀ e ∈ lev, EntOk left i e) : ∀ e ∈ longerP w l qs left lev, EntOk left (i + 1) e := by
  intro e' he'
  obtain ⟨e, he, z, hz, t, hn, _, rfl⟩ := longer_mem he'
  have q := h e he
  exact ⟨ins_rise q.rise hn, fun d hd => (ins_mem.mp hd).elim (q.sub d) fun r => r ▸ hz, by rw [ins_len, q.len], ins_mem.mpr (.inr rfl)⟩
theorem nodup_step {e : Ent} {es : List Ent} {z : Int} (h : (es.map (·.1)).Nodup) : ((stepN w l qs e es z).map (·.1)).Nodup := by
  rcases stepN_cases w l qs e es z with q | ⟨t, hc, hv, q⟩
  · rw [q]; exact h
  · rw [q]; exact nodup_putB h
theorem longer_nodup : ((longerP w l qs left lev).map (·.1)).Nodup :=
  foldl_inv (I := fun es : List Ent => (es.map (·.1)).Nodup) (b := []) List.nodup_nil fun _ _ _ h => foldl_inv (I := fun es : List Ent => (es.map (·.1)).Nodup) h fun _ _ _ h => nodup_step h
end
theorem nodup_len {α : Type} [DecidableEq α] : ∀ {l u : List α}, l.Nodup -> (∀ x ∈ l, x ∈ u) -> l.length <= u.length
  | [], _, _, _ => Nat.zero_le _
  | a :: l, u, nd, h => by
    rw [List.nodup_cons] at nd
    have ha := h a (List.mem_cons_self ..)
    have := nodup_len (l := l) (u := u.erase a) nd.2 fun x hx => (List.mem_erase_of_ne (fun q => nd.1 (show a ∈ l by rw [<- q]; exact hx))).mpr (h x (List.mem_cons_of_mem _ hx))
    rw [List.length_erase_of_mem ha] at this
    exact Nat.le_trans (Nat.succ_le_succ this) (Nat.le_of_eq (Nat.sub_add_cancel (List.length_pos_of_mem ha)))
theorem up1 {x a : Int} {n : Nat} (h : x < a + (n + 1 : Nat)) : x < a + 1 + n := by rw [Int.natCast_succ, Int.add_comm (n : Int) 1, <- Int.add_assoc] at h; exact h
theorem rise_upto : ∀ (n : Nat) (a : Int) (ds : List Int), ds.Pairwise (· < ·) -> (∀ d ∈ ds, a <= d /\ d < a + n) -> ds.Sublist (upto a n)
  | 0, a, ds, _, h => by
    cases ds with
    | nil => exact List.Sublist.slnil
    | cons d r => have := h d (List.mem_cons_self ..); exact absurd (Int.lt_of_le_of_lt this.1 this.2) (by rw [Int.natCast_zero, Int.add_zero]; exact Int.lt_irrefl _)
  | n + 1, a, ds, hp, h => by
    cases ds with
    | nil => exact List.nil_sublist _
    | cons d r =>
      obtain ⟨h1, h2⟩ := List.pairwise_cons.mp hp
      have hd := h d (List.mem_cons_self ..)
      by_cases q : d = a
      · subst q
        exact (rise_upto n (d + 1) r h2 fun x hx => ⟨h1 x hx, up1 (h x (List.mem_cons_of_mem _ hx)).2⟩).cons_cons d
      · refine (rise_upto n (a + 1) (d :: r) hp fun x hx => ?_).cons a
        have hda := Int.lt_iff_le_and_ne.mpr ⟨hd.1, Ne.symm q⟩
        refine ⟨?_, up1 (h x hx).2⟩
        rcases List.mem_cons.mp hx with rfl | hx
        · exact hda
        · exact Int.lt_trans hda (h1 x hx)
theorem mem_subs {ds u : List Int} (h : ds.Sublist u) : ds ∈ subs u := by
  induction h with
  | slnil => exact List.mem_singleton.mpr rfl
  | cons a _ ih => exact List.mem_append.mpr (.inl ih)
  | cons_cons a _ ih => exact List.mem_append.mpr (.inr (List.mem_map.mpr ⟨_, ih, rfl⟩))
noncomputable def univ : List Key := (subs (upto 0 7)).flatMap fun ds => (upto 0 7).map fun z => (ds, z)
theorem univ_len : univ.length = 896 := by decide +kernel
theorem mem_upto : ∀ (n : Nat) (a z : Int), a <= z -> z < a + n -> z ∈ upto a n
  | 0, a, z, h1, h2 => absurd (Int.lt_of_le_of_lt h1 h2) (by rw [Int.natCast_zero, Int.add_zero]; exact Int.lt_irrefl _)
  | n + 1, a, z, h1, h2 => by
    by_cases q : z = a
    · rw [q]; exact List.mem_cons_self ..
    · exact List.mem_cons_of_mem _ (mem_upto n (a + 1) z (Int.lt_iff_le_and_ne.mpr ⟨h1, Ne.symm q⟩) (up1 h2))
structure LeftOk (m : Nat) (left : List Int) : Prop where
  low : ∀ z ∈ left, 0 <= z
  high : ∀ z ∈ left, z < m
  rise : left.Pairwise (· < ·)
  few : left.length <= 7
  m7 : m <= 7
theorem EntOk.univ {m i : Nat} {left : List Int} {e : Ent} (h : EntOk left i e) (lo : LeftOk m left) : e.1 ∈ univ := by
  have := lo.m7
  refine List.mem_flatMap.mpr ⟨e.1.1, mem_subs (rise_upto 7 0 _ h.rise fun d hd => ?_), List.mem_map.mpr ⟨e.1.2, mem_upto 7 0 _ ?_ ?_, rfl⟩⟩
  · exact ⟨lo.low d (h.sub d hd), Int.lt_of_lt_of_le (lo.high d (h.sub d hd)) (Int.ofNat_le.mpr this)⟩
  · exact lo.low _ (h.sub _ h.last)
  · exact Int.lt_of_lt_of_le (lo.high _ (h.sub _ h.last)) (Int.ofNat_le.mpr this)
theorem EntOk.le7 {m i : Nat} {left : List Int} {e : Ent} (h : EntOk left i e) (lo : LeftOk m left) : i <= 7 := by
  rw [<- h.len]
  exact Nat.le_trans (nodup_len (h.rise.imp fun q => Int.ne_of_lt q) h.sub) lo.few
structure Shape (left : List Int) (j : Nat) (f lv : List Ent) : Prop where
  lev : ∀ e ∈ lv, EntOk left (j + 1) e
  fnd : ∀ e ∈ f, ∃ i, i <= j /\ EntOk left i e
  nodup : ((f ++ lv).map (·.1)).Nodup
  first : f = [] -> j = 0
section
variable {m j : Nat} {left : List Int} {f lv : List Ent} (lo : LeftOk m left) (x : Shape left j f lv)
include lo x
omit lo in
theorem Shape.all : ∀ e ∈ f ++ lv, ∃ i, EntOk left i e := fun e he => by
  rcases List.mem_append.mp he with he | he
  · obtain ⟨i, _, q⟩ := x.fnd e he; exact ⟨i, q⟩
  · exact ⟨_, x.lev e he⟩
theorem Shape.size : f.length + lv.length <= 896 := by
  have := nodup_len (l := (f ++ lv).map (·.1)) (u := univ) x.nodup fun k hk => by
    obtain ⟨e, he, rfl⟩ := List.mem_map.mp hk
    obtain ⟨i, q⟩ := x.all e he
    exact q.univ lo
  rw [univ_len, List.length_map, List.length_append] at this
  exact this
theorem Shape.levIn : LevIn m lv := by
  have := x.size lo
  have nd := x.nodup
  rw [List.map_append, List.nodup_append] at nd
  refine ⟨fun e he => lo.low _ ((x.lev e he).sub _ (x.lev e he).last), fun e he => lo.high _ ((x.lev e he).sub _ (x.lev e he).last), fun e he => ?_, nd.2.1, by omega⟩
  rw [(x.lev e he).len]
  exact Nat.le_trans ((x.lev e he).le7 lo) (by decide)
theorem Shape.firstOk (hf : f = []) : firstOk (lv.map entV) = true := by
  have h0 := x.first hf
  unfold Mine.firstOk
  rw [List.all_eq_true]
  intro y hy
  obtain ⟨e, he, rfl⟩ := List.mem_map.mp hy
  have q := x.lev e he
  have hl := q.len
  rw [h0] at hl
  obtain ⟨d, hd⟩ := List.length_eq_one_iff.mp hl
  have la := q.last
  rw [hd, List.mem_singleton] at la
  have l1 := lo.low _ (q.sub _ q.last)
  have l2 := lo.high _ (q.sub _ q.last)
  have l3 := lo.m7
  show (decide (e.1.1 = [e.1.2]) && (decide (0 <= e.1.2) && decide (e.1.2 < 7))) = true
  rw [hd, <- la]
  rw [decide_eq_true rfl, decide_eq_true l1, decide_eq_true (Int.lt_of_lt_of_le l2 (Int.ofNat_le.mpr l3) : e.1.2 < 7)]; rfl
theorem Shape.ends (hj : 7 <= j) : lv = [] := by
  cases lv with
  | nil => rfl
  | cons e r => exact absurd (Nat.le_trans (Nat.succ_le_succ hj) ((x.lev e (List.mem_cons_self ..)).le7 lo)) (by decide)
omit lo in
theorem Shape.next (w : Str) (l : Int) (qs : List Q4) (hne : lv ≠ []) : Shape left (j + 1) (f ++ lv) (longerP w l qs left lv) := by
  have hl := longer_ok (w := w) (l := l) (qs := qs) x.lev
  refine ⟨hl, fun e he => ?_, ?_, fun q => absurd (List.append_eq_nil_iff.mp q).2 hne⟩
  · rcases List.mem_append.mp he with he | he
    · obtain ⟨i, hi, q⟩ := x.fnd e he; exact ⟨i, Nat.le_succ_of_le hi, q⟩
    · exact ⟨j + 1, Nat.le_refl _, x.lev e he⟩
  · rw [List.map_append, List.nodup_append]
    refine ⟨x.nodup, longer_nodup, fun a ha b hb q => ?_⟩
    obtain ⟨e, he, rfl⟩ := List.mem_map.mp ha
    obtain ⟨e', he', rfl⟩ := List.mem_map.mp hb
    have h1 := (hl e' he').len
    rw [<- q] at h1
    rcases List.mem_append.mp he with he | he
    · obtain ⟨i, hi, r⟩ := x.fnd e he
      have := r.len; omega
    · have := (x.lev e he).len; omega
end
theorem merge_app : ∀ (lv f : List Ent), ((f ++ lv).map (·.1)).Nodup -> tabMerge (f.map entV) (lv.map entV) = (f ++ lv).map entV
  | [], f, _ => by rw [List.append_nil]; rfl
  | e :: lv, f, nd => by
    have q : tabMerge (f.map entV) ((e :: lv).map entV) = tabMerge (tabPut (f.map entV) e.1 (valV e.2)) (lv.map entV) := rfl
    have hg : getE f e.1 = Option.none := by
      cases hg : getE f e.1 with
      | none => rfl
      | some y =>
        rw [List.map_append, List.nodup_append] at nd
        exact absurd rfl (nd.2.2 e.1 (List.mem_map.mpr ⟨_, getE_some hg, rfl⟩) e.1 (List.mem_map.mpr ⟨e, List.mem_cons_self .., rfl⟩))
    have e2 : putE f e.1 e.2 = f ++ [e] := by unfold putE; rw [hg, if_neg (by simp)]
    have nd' : (((f ++ [e]) ++ lv).map (·.1)).Nodup := by rw [List.append_assoc]; exact nd
    rw [q, tabPut_of, e2, merge_app lv (f ++ [e]) nd', List.append_assoc]; rfl
noncomputable def leftOf (m : Nat) (os : List Int) : List Int := ((List.range m).map fun k : Nat => (k : Int)).filter fun z => !os.contains z
theorem left_ok {m : Nat} (os : List Int) (h7 : m <= 7) : LeftOk m (leftOf m os) := by
  have mem : ∀ z ∈ leftOf m os, 0 <= z /\ z < m := fun z hz => by
    obtain ⟨k, hk, rfl⟩ := List.mem_map.mp (List.mem_filter.mp hz).1
    exact ⟨Int.natCast_nonneg k, Int.ofNat_lt.mpr (List.mem_range.mp hk)⟩
  refine ⟨fun z hz => (mem z hz).1, fun z hz => (mem z hz).2, ?_, ?_, h7⟩
  · refine List.Pairwise.filter _ (List.pairwise_map.mpr (List.pairwise_lt_range.imp fun q => Int.ofNat_lt.mpr q))
  · refine Nat.le_trans (List.length_filter_le ..) ?_
    rw [List.length_map, List.length_range]; exact h7
noncomputable def step1 (w : Str) (l : Int) (qs : List Q4) (p t : Int) (es : List Ent) (z : Int) : List Ent := match qs[z.toNat]? with
  | some q => (match leavesI w l p t q with
    | some t' => putE es ([z], z) (t', Option.none)
    | Option.none => es)
  | Option.none => es
noncomputable def firstP (w : Str) (l : Int) (qs : List Q4) (p t : Int) (left : List Int) : List Ent := left.foldl (step1 w l qs p t) []
theorem step1_cases (w : Str) (l : Int) (qs : List Q4) (p t : Int) (es : List Ent) (z : Int) : step1 w l qs p t es z = es \/ ∃ q t', qs[z.toNat]? = some q /\ leavesI w l p t q = some t' /\ step1 w l qs p t es z = putE es ([z], z) (t', Option.none) := by
  unfold step1
  cases hq : qs[z.toNat]? with
  | none => exact .inl rfl
  | some q =>
    dsimp only
    cases hv : leavesI w l p t q with
    | none => exact .inl rfl
    | some t' => exact .inr ⟨q, t', rfl, hv, rfl⟩
theorem len_step1 (w : Str) (l : Int) (qs : List Q4) (p t : Int) (es : List Ent) (z : Int) : (step1 w l qs p t es z).length <= es.length + 1 := by
  rcases step1_cases w l qs p t es z with q | ⟨_, _, _, _, q⟩
  · rw [q]; exact Nat.le_succ _
  · rw [q]; exact len_putE _ _ _
theorem first_shape (w : Str) (l : Int) (qs : List Q4) (p t : Int) (left : List Int) : Shape left 0 [] (firstP w l qs p t left) := by
  have key : (∀ e ∈ firstP w l qs p t left, EntOk left 1 e) /\ ((firstP w l qs p t left).map (·.1)).Nodup := by
    refine foldl_inv (I := fun es : List Ent => (∀ e ∈ es, EntOk left 1 e) /\ (es.map (·.1)).Nodup) (b := []) ⟨(fun _ q => nomatch q), List.nodup_nil⟩ fun es z hz ih => ?_
    rcases step1_cases w l qs p t es z with q | ⟨_, _, _, _, q⟩
    · rw [q]; exact ih
    · rw [q]
      refine ⟨fun e he => ?_, nodup_putE ih.2⟩
      rcases mem_putE he with rfl | he
      · exact ⟨List.pairwise_singleton _ _, fun d hd => by rw [List.mem_singleton.mp hd]; exact hz, rfl, List.mem_singleton.mpr rfl⟩
      · exact ih.1 e he.1
  exact ⟨key.1, (fun _ q => nomatch q), key.2, fun _ => rfl⟩
section
variable {w : Str} {l h s : Int} {qs : List Q4} {d dn k kf : Nat} {H0 : Hp} {left : List Int}
theorem while_tab (n : Nat) (x : DayAt w l h s qs d dn k H0) (hleft : H0[kf]? = some (.list (left.map .int))) (lo : LeftOk qs.length left) (P : Nat -> List Ent -> List Ent -> Prop)
    (step : ∀ j f lv, Shape left j f lv -> P j f lv -> lv ≠ [] -> P (j + 1) (f ++ lv) (longerP w l qs left lv)) : ∀ (fuel j : Nat) (f lv : List Ent) (ρ : Rho) (H : Hp) (kl ep epl : Nat), j <= 7 -> 8 <= fuel + j -> Kept H0 H ->
      H[H0.length]? = some (.tab (f.map entV) ep) -> H[kl]? = some (.tab (lv.map entV) epl) -> H0.length ≠ kl -> ρ.lookup "day" = some (.ref d) -> ρ.lookup "left" = some (.ref kf) -> ρ.lookup "found" = some (.ref H0.length) -> ρ.lookup "level" = some (.ref kl) -> Shape left j f lv -> P j f lv ->
      ∃ (ρ' : Rho) (H' : Hp) (f' : List Ent) (j' ep' : Nat), whileL (fun ρ H => evT (G (n + 3)) ρ (.cmp (.call "len" [(.var "level")]) .gt (.int 0)) H) (fun ρ H => exSs (G (n + 3)) (loopAt d_table.body 7) ρ H) fuel ρ H = .next ρ' H' /\ ρ'.lookup "found" = some (.ref H0.length) /\ Kept H0 H' /\ H'[H0.length]? = some (.tab (f'.map entV) ep') /\ Shape left j' f' [] /\ P j' f' []
  | 0, j, f, lv, ρ, H, kl, ep, epl, h7, h8, _, _, _, _, _, _, _, _, _, _ => absurd (Nat.le_trans h8 (by rw [Nat.zero_add]; exact h7)) (by decide)
  | fuel + 1, j, f, lv, ρ, H, kl, ep, epl, h7, h8, kp, hf, hl, hne, g1, g2, g3, g4, sh, pp => by
    have e1 := len_tab hl
    have et : evT (G (n + 3)) ρ (.cmp (.call "len" [(.var "level")]) .gt (.int 0)) H = .ok (decide ((0 : Int) < (lv.map entV).length)) H := by
      unfold evT
      rw [ev_cmp (ev_bi (G_hd _) (evs_one (ev_var g4)) e1) (ev_int 0) (cmp_gt _ _ _)]; rfl
    rw [whileL, et]
    dsimp only
    by_cases hlne : lv = []
    · subst hlne; exact ⟨ρ, H, f, j, ep, rfl, g3, kp, hf, sh, pp⟩
    · have hd : decide ((0 : Int) < (lv.map entV).length) = true := decide_eq_true (by rw [List.length_map]; exact Int.ofNat_lt.mpr (List.length_pos_iff.mpr hlne))
      rw [hd, if_pos rfl]
      have hj : j < 7 := (Nat.lt_or_ge j 7).resolve_right fun q => hlne (sh.ends lo q)
      have sz := sh.size lo
      have e2 := upd_tab hf hl hne (by
        cases f with
        | nil => exact .inr (sh.firstOk lo rfl)
        | cons a b => exact .inl rfl) (by rw [List.length_map, List.length_map]; omega)
      rw [merge_app lv f sh.nodup] at e2
      obtain ⟨ep1, hep1⟩ : ∃ ep1, ep1 = tabMEp (f.map entV) (lv.map entV) ep := ⟨_, rfl⟩
      rw [<- hep1] at e2
      have lt := (List.getElem?_eq_some_iff.mp hf).1
      have kp1 : Kept H0 (H.set H0.length (.tab ((f ++ lv).map entV) ep1)) := kp.set (Nat.le_refl _) _
      have hf1 : (H.set H0.length (O.tab ((f ++ lv).map entV) ep1))[H0.length]? = some (.tab ((f ++ lv).map entV) ep1) := by rw [List.getElem?_set_self lt]
      have hl1 : (H.set H0.length (O.tab ((f ++ lv).map entV) ep1))[kl]? = some (.tab (lv.map entV) epl) := by rw [List.getElem?_set_ne hne]; exact hl
      have len1 : (H.set H0.length (O.tab ((f ++ lv).map entV) ep1)).length = H.length := List.length_set
      generalize H.set H0.length (O.tab ((f ++ lv).map entV) ep1) = H1 at e2 kp1 hf1 hl1 len1
      obtain ⟨ep2, L, e3⟩ := c_longer n (x.kept kp1) hl1 (kp1 _ _ hleft) lo.low lo.high lo.few (sh.levIn lo)
      have kp2 := Kept.app H1 (.tab ((longerP w l qs left lv).map entV) ep2 :: L)
      have eb : Is (.next (setL "level" (.ref H1.length) ρ) (H1 ++ .tab ((longerP w l qs left lv).map entV) ep2 :: L)) (exSs (G (n + 3)) (loopAt d_table.body 7) ρ H) := by
        refine ss_expr (ev_meth (ev_var g3) (kind_tab hf) (evs_one (ev_var g4)) e2) ?_
        refine ss_asg (ev_call (vs := [.ref d, .ref kl, .ref kf]) (H1 := H1) (G_hd _) (evs_cons (ev_var g1) (evs_cons (ev_var g4) (evs_one (ev_var g2)))) rfl e3) ?_
        rfl
      unfold Is at eb
      rw [eb]
      exact while_tab n x hleft lo P step fuel (j + 1) (f ++ lv) (longerP w l qs left lv) (setL "level" (.ref H1.length) ρ) _ H1.length ep1 ep2 hj (Nat.le_trans h8 (Nat.le_of_eq (by rw [Nat.add_assoc, Nat.add_comm 1]))) (kp1.trans kp2) (kp2 _ _ hf1) (get_tab _ _ _) (Nat.ne_of_lt (len1.symm ▸ lt)) (by repeat (first | assumption | with_reducible first | exact setL_self _ _ _ | refine setL_other (by decide) ?_)) (by repeat (first | assumption | with_reducible first | exact setL_self _ _ _ | refine setL_other (by decide) ?_)) (by repeat (first | assumption | with_reducible first | exact setL_self _ _ _ | refine setL_other (by decide) ?_)) (by repeat (first | assumption | with_reducible first | exact setL_self _ _ _ | refine setL_other (by decide) ?_)) (sh.next w l qs hlne) (step j f lv sh pp hlne)
end
section
variable {w : Str} {l h s : Int} {qs : List Q4} {d dn k : Nat} {H : Hp}
theorem ev_leftL {n : Nat} {ρ : Rho} {H : Hp} {x b : String} {m : Nat} {o : Nat} {os : List Int} {itE : E} (hx : x ≠ b) (gb : ρ.lookup b = some (.ref o)) (ho : H[o]? = some (.list (os.map .int))) (hm : m <= 100) (hit : evE (G n) ρ itE H = .ok (.int m) H) :
    evE (G n) ρ (.comp (.var x) x (.call "range" [itE]) (some (.cmp (.var x) .notIn (.var b)))) H = .ok (.ref H.length) (H ++ [.list ((leftOf m os).map .int)]) := by
  have e1 : items H (.rng 0 m 1) = some (((List.range m).map fun k : Nat => (k : Int)).map .int) := items_range hm
  have tf := turns_filter V.int V.int (fun z => !os.contains z)
    (fun y H2 => (evC (G n) ((x, y) :: ρ) (some (.cmp (.var x) .notIn (.var b))) H2).bind fun t H3 => if t then (evE (G n) ((x, y) :: ρ) (.var x) H3).bind fun w H4 => .ok (some w) H4 else .ok Option.none H3) (sameO (.rng 0 m 1) H) H (fun _ => rfl) ((List.range m).map fun k : Nat => (k : Int)) [] (fun z _ ys => by
      have c1 := notin_list ((ext_app H [.list ys]).get ho) z
      have c2 : evE (G n) ((x, .int z) :: ρ) (.cmp (.var x) .notIn (.var b)) (H ++ [.list ys]) = .ok (.bool (!os.contains z)) (H ++ [.list ys]) := ev_cmp (ev_var (lookup_here _ _ _)) (ev_var (by rw [lookup_next (fun q => hx q.symm)]; exact gb)) c1
      rw [evC_some, c2]
      show (if (!os.contains z) = true then _ else _) = _
      cases !os.contains z with
      | true => rw [if_pos rfl, ev_var (lookup_here _ _ _)]; rfl
      | false => rfl) (by simp [line]; omega)
  exact ev_comp (G_hd _) (ev_bi (v := .rng 0 m 1) (G_hd _) (evs_one hit) rfl) e1 tf
noncomputable def FI (w : Str) (l : Int) (qs : List Q4) (p t : Int) (d kf : Nat) (H : Hp) (left a b : List Int) (ρ : Rho) (H' : Hp) : Prop :=
  a ++ b = left /\ (∃ ep, H' = H ++ [.tab ((a.foldl (step1 w l qs p t) []).map entV) ep]) /\ (a.foldl (step1 w l qs p t) []).length <= a.length /\
  ρ.lookup "day" = some (.ref d) /\ ρ.lookup "left" = some (.ref kf) /\ ρ.lookup "level" = some (.ref H.length) /\ ρ.lookup "place" = some (.int p) /\ ρ.lookup "time" = some (.int t)
theorem first_turn (n : Nat) (x : DayAt w l h s qs d dn k H) {kf : Nat} {left : List Int} {p t : Int} (lo : LeftOk qs.length left) (a : List Int) (z : Int) (b : List Int) (ρ : Rho) (H' : Hp) (i : FI w l qs p t d kf H left a (z :: b) ρ H') :
    Turns (FI w l qs p t d kf H left (a ++ [z]) b) (exSs (G (n + 2)) (loopAt d_table.body 5) (setL "number" (.int z) ρ) H') := by
  obtain ⟨rfl, ⟨ep, rfl⟩, ln, g1, g2, g3, g4, g5⟩ := i
  have fold : (a ++ [z]).foldl (step1 w l qs p t) [] = step1 w l qs p t (a.foldl (step1 w l qs p t) []) z := by rw [List.foldl_append]; rfl
  have hz : z ∈ a ++ z :: b := by simp
  have la := lo.few
  rw [List.length_append, List.length_cons] at la
  obtain ⟨q, hq⟩ := some_of_lt (lo.low z hz) (lo.high z hz)
  have key : ∀ ρ' H2, ρ'.lookup "day" = some (.ref d) /\ ρ'.lookup "left" = some (.ref kf) /\ ρ'.lookup "level" = some (.ref H.length) /\ ρ'.lookup "place" = some (.int p) /\ ρ'.lookup "time" = some (.int t) ->
      (∃ ep, H2 = H ++ [.tab ((step1 w l qs p t (a.foldl (step1 w l qs p t) []) z).map entV) ep]) -> FI w l qs p t d kf H (a ++ z :: b) (a ++ [z]) b ρ' H2 := fun ρ' H2 g hh => by
    unfold FI
    rw [fold]
    refine ⟨by simp, hh, ?_, g⟩
    have := len_step1 w l qs p t (a.foldl (step1 w l qs p t) []) z
    rw [List.length_append, List.length_singleton]; exact Nat.le_trans this (Nat.succ_le_succ ln)
  have fe : ∀ es, step1 w l qs p t es z = match leavesI w l p t q with | some t' => putE es ([z], z) (t', Option.none) | Option.none => es := fun es => by
    unfold step1; rw [hq] <;> rfl
  rw [fe] at key
  clear fe fold
  generalize a.foldl (step1 w l qs p t) [] = es at ln key ⊢
  have y := x.ext (ext_app H [.tab (es.map entV) ep])
  have c5 := c_left n y (lo.low z hz) hq p t
  refine ss_asg (by repeat (first | with_reducible (first | assumption | exact setL_self _ _ _ | refine setL_other (by decide) ?_ | exact ev_int _ | exact ev_none | exact ev_bool _ | exact evs_nil | apply evs_cons | apply ev_var | apply ev_tup | apply ev_attr | apply ev_idx | apply ev_not | apply ev_cmp | apply ev_bin2 | apply ev_isinst | apply ev_call (G_hd _) ?_ rfl | apply ev_bi (G_hd _)) | rfl)) ?_
  refine ss_if (ev_cmp (ev_var (setL_self _ _ _)) ev_none (isnt_none _ _)) ?_
  cases hv : leavesI w l p t q with
  | none =>
    rw [hv] at key
    exact Turns.here (key _ _ ⟨(by repeat (first | assumption | with_reducible first | exact setL_self _ _ _ | refine setL_other (by decide) ?_)), (by repeat (first | assumption | with_reducible first | exact setL_self _ _ _ | refine setL_other (by decide) ?_)), (by repeat (first | assumption | with_reducible first | exact setL_self _ _ _ | refine setL_other (by decide) ?_)), (by repeat (first | assumption | with_reducible first | exact setL_self _ _ _ | refine setL_other (by decide) ?_)), (by repeat (first | assumption | with_reducible first | exact setL_self _ _ _ | refine setL_other (by decide) ?_))⟩ ⟨ep, rfl⟩)
  | some t' =>
    rw [hv] at key
    dsimp only at key
    have e2 := setK_tab (len_app1 H (.tab (es.map entV) ep)) ([z], z) (valV (t', Option.none)) (by rw [List.length_map]; exact Nat.lt_of_le_of_lt (Nat.le_trans ln (Nat.le_trans (Nat.le_add_right _ _) la)) (by decide))
    rw [tabPut_of, set_app1] at e2
    show Turns _ (exSs _ (S.setidx _ _ _ :: _) (setL "leaves" (.int t') (setL "number" (.int z) ρ)) _)
    exact ss_setidx (v := .tup [.int t', .none]) (w := .ref H.length) (k := keyV ([z], z)) (ev_tup (evs_cons (ev_var (by repeat (first | assumption | with_reducible first | exact setL_self _ _ _ | refine setL_other (by decide) ?_))) (evs_one ev_none))) (ev_var (by repeat (first | assumption | with_reducible first | exact setL_self _ _ _ | refine setL_other (by decide) ?_))) (ev_tup (evs_cons (ev_tup (evs_one (ev_var (by repeat (first | assumption | with_reducible first | exact setL_self _ _ _ | refine setL_other (by decide) ?_))))) (evs_one (ev_var (by repeat (first | assumption | with_reducible first | exact setL_self _ _ _ | refine setL_other (by decide) ?_)))))) e2 (Turns.here (key _ _ ⟨(by repeat (first | assumption | with_reducible first | exact setL_self _ _ _ | refine setL_other (by decide) ?_)), (by repeat (first | assumption | with_reducible first | exact setL_self _ _ _ | refine setL_other (by decide) ?_)), (by repeat (first | assumption | with_reducible first | exact setL_self _ _ _ | refine setL_other (by decide) ?_)), (by repeat (first | assumption | with_reducible first | exact setL_self _ _ _ | refine setL_other (by decide) ?_)), (by repeat (first | assumption | with_reducible first | exact setL_self _ _ _ | refine setL_other (by decide) ?_))⟩ ⟨_, rfl⟩))
theorem Kept.len {H H' : Hp} (a : Kept H H') : H.length <= H'.length := by
  rcases nil_or_snoc H with rfl | ⟨l, b, rfl⟩
  · exact Nat.zero_le _
  · rw [List.length_append, List.length_singleton]
    exact (List.getElem?_eq_some_iff.mp (a l.length b (len_app1 l b))).1
noncomputable def TabAns (w : Str) (l h s : Int) (qs : List Q4) (os : List Int) (H : Hp) (P : Int -> Int -> Nat -> List Ent -> List Ent -> Prop) (r : R V) : Prop :=
  ∃ (k : Nat) (H' : Hp), r = .ok (.ref k) H' /\ Kept H H' /\ H.length <= k /\ match behindI w l qs os h s with
    | Option.none => H'[k]? = some (.tab [] 0)
    | some x => ∃ (f : List Ent) (j ep : Nat), H'[k]? = some (.tab (f.map entV) ep) /\ Shape (leftOf qs.length os) j f [] /\ P x.1 x.2 j f []
theorem c_table (n : Nat) (x : DayAt w l h s qs d dn k H) {o : Nat} {os : List Int} (ho : H[o]? = some (.list (os.map .int))) (ok : Ord qs.length os) (h7 : qs.length <= 7) (P : Int -> Int -> Nat -> List Ent -> List Ent -> Prop)
    (p0 : ∀ p t, P p t 0 [] (firstP w l qs p t (leftOf qs.length os))) (step : ∀ p t j f lv, Shape (leftOf qs.length os) j f lv -> P p t j f lv -> lv ≠ [] -> P p t (j + 1) (f ++ lv) (longerP w l qs (leftOf qs.length os) lv)) :
    TabAns w l h s qs os H P ((G (n + 5)).call "table" [.ref d, .ref o] H) := by
  rw [G_call (d := d_table) (by kernel_rfl)]
  refine runDef_P (ρ := [("day", .ref d), ("begun", .ref o)]) (P := TabAns w l h s qs os H P) rfl ?_
  obtain ⟨H1, kp1, e1⟩ := c_begun n x ho ok
  have lo := left_ok os h7
  refine ss_asg (ev_call (vs := [.ref d, .ref o]) (H1 := H) (G_hd _) (evs_cons (ev_var rfl) (evs_one (ev_var rfl))) rfl e1) ?_
  refine ss_if (ev_cmp (ev_var (setL_self _ _ _)) ev_none (is_none _ _)) ?_
  cases hb : behindI w l qs os h s with
  | none =>
    refine ss_ret (v := .ref H1.length) (H1 := H1 ++ [.tab [] 0]) rfl ⟨_, _, rfl, kp1.trans (Kept.app _ _), kp1.len, ?_⟩
    rw [hb]; exact len_app1 _ _
  | some pt =>
    obtain ⟨p, t⟩ := pt
    have y := x.kept kp1
    have ho1 := kp1 _ _ ho
    have c1 := y.stops
    have c2 := bi_len_ref y.list
    rw [List.length_map] at c2
    show Fin _ (exSs _ (S.unpack _ _ :: _) _ _)
    refine ss_unpack (v := .tup [.int p, .int t]) (G_hd _) (ev_var (setL_self _ _ _)) rfl rfl ?_
    refine ss_asg (ev_leftL (os := os) (m := qs.length) (by decide) rfl ho1 (by omega) (ev_bi (G_hd _) (evs_one (ev_attr (ev_var rfl) c1)) c2)) ?_
    generalize hH2 : H1 ++ [O.list ((leftOf qs.length os).map .int)] = H2
    have kp2 : Kept H1 H2 := by rw [<- hH2]; exact Kept.app _ _
    have hl2 : H2[H1.length]? = some (.list ((leftOf qs.length os).map .int)) := by rw [<- hH2]; exact len_app1 _ _
    have y2 := y.kept kp2
    refine ss_asg (v := .ref H2.length) (H1 := H2 ++ [.tab [] 0]) rfl ?_
    have hl3 := Kept.app H2 [.tab [] 0] _ _ hl2
    generalize hρ : setL "level" (.ref H2.length) (setL "left" (.ref H1.length) (setL "time" (.int t) (setL "place" (.int p) (setL "here" (placeV (some (p, t))) [("day", .ref d), ("begun", .ref o)])))) = ρ
    obtain ⟨ρ', H', er, ⟨_, ⟨ep, rfl⟩, _, k1, k2, k3, k4, k5⟩⟩ := forL_all V.int (fun v ρ1 H2 => exSs (G (n + 4)) (loopAt d_table.body 5) (setL "number" v ρ1) H2) (sameO (.ref H1.length) (H2 ++ [.tab [] 0])) (FI w l qs p t d H1.length H2 (leftOf qs.length os))
      (fun a b ρ H' i => by obtain ⟨_, ⟨ep, rfl⟩, _⟩ := i; exact same_list hl3 (Kept.app _ _ _ _ hl2)) (first_turn (n + 2) y2 lo) (leftOf qs.length os)
      ρ (H2 ++ [.tab [] 0]) ⟨rfl, ⟨0, rfl⟩, Nat.le_refl _, by rw [<- hρ]; rfl, by rw [<- hρ]; rfl, by rw [<- hρ]; rfl, by rw [<- hρ]; rfl, by rw [<- hρ]; rfl⟩
    refine ss_for (v := .ref H1.length) (G_hd _) (ev_var (by rw [<- hρ]; rfl)) (items_list hl3) er ?_
    generalize hH3 : H2 ++ [O.tab ((List.foldl (step1 w l qs p t) [] (leftOf qs.length os)).map entV) ep] = H3
    have kp3 : Kept H2 H3 := by rw [<- hH3]; exact Kept.app _ _
    have hv3 : H3[H2.length]? = some (.tab ((firstP w l qs p t (leftOf qs.length os)).map entV) ep) := by rw [<- hH3]; exact len_app1 _ _
    have len3 : H3.length = H2.length + 1 := by rw [<- hH3, List.length_append, List.length_singleton]
    rw [RS.bind_next]
    refine ss_asg (v := .ref H3.length) (H1 := H3 ++ [.tab [] 0]) rfl ?_
    obtain ⟨ρ2, H4, f, j, ep', ew, g1, kp4, hf, sh, pf⟩ := while_tab (n + 1) (y2.kept kp3) (kp3 _ _ hl2) lo (P p t) (step p t) 64 0 [] (firstP w l qs p t (leftOf qs.length os)) (setL "found" (.ref H3.length) ρ') (H3 ++ [.tab [] 0]) H2.length 0 ep (by omega) (by omega) (Kept.app _ _) (len_app1 _ _) (Kept.app _ _ _ _ hv3) (by omega) (by repeat (first | assumption | with_reducible first | exact setL_self _ _ _ | refine setL_other (by decide) ?_)) (by repeat (first | assumption | with_reducible first | exact setL_self _ _ _ | refine setL_other (by decide) ?_)) (by repeat (first | assumption | with_reducible first | exact setL_self _ _ _ | refine setL_other (by decide) ?_)) (by repeat (first | assumption | with_reducible first | exact setL_self _ _ _ | refine setL_other (by decide) ?_)) (first_shape ..) (p0 p t)
    refine ss_while (G_hd _) ew ?_
    rw [RS.bind_next]
    refine ss_ret (ev_var g1) ⟨_, _, rfl, kp1.trans (kp2.trans (kp3.trans kp4)), (kp1.trans (kp2.trans kp3)).len, ?_⟩
    rw [hb]
    exact ⟨f, j, ep', hf, sh, pf⟩
end
theorem clip_nat {n k : Nat} (h : k <= n) : clipV n (k : Int) = k := by
  unfold clipV
  rw [if_neg (Int.not_lt.mpr (Int.natCast_nonneg k)), Int.min_eq_left (Int.ofNat_le.mpr h), Int.max_eq_right (Int.natCast_nonneg k), Int.toNat_natCast]
theorem slice_to {xs : List V} {i k : Nat} {H : Hp} (h : H[i]? = some (.list xs)) (hk : k <= xs.length) : sliceV (.ref i) .none (.int k) H = .ok (.ref H.length) (H ++ [.list (xs.take k)]) := by
  have q : sliceV (.ref i) .none (.int k) H = (match listAt (.ref i) H with | some xs => new (.list (xs.take (clipV xs.length k - 0))) H | Option.none => .stuck) := rfl
  rw [q, listAt_of h]
  dsimp only
  rw [clip_nat hk]; rfl
theorem slice_from {xs : List V} {i k : Nat} {H : Hp} (h : H[i]? = some (.list xs)) (hk : k <= xs.length) : sliceV (.ref i) (.int k) .none H = .ok (.ref H.length) (H ++ [.list (xs.drop k)]) := by
  have q : sliceV (.ref i) (.int k) .none H = (match listAt (.ref i) H with | some xs => new (.list ((xs.drop (clipV xs.length k)).take (xs.length - clipV xs.length k))) H | Option.none => .stuck) := rfl
  rw [q, listAt_of h]
  dsimp only
  rw [clip_nat hk, List.take_of_length_le (by rw [List.length_drop]; exact Nat.le_refl _)]; rfl
noncomputable def OI (ns : List Int) (m : Nat) (H : Hp) (c : Nat) (a b : List Nat) (ρ : Rho) (H' : Hp) : Prop :=
  a.length + b.length = c /\ (∃ (os ls : List Int) (kl : Nat) (L : Hp), H' = H ++ .list (os.map .int) :: L /\ H'[kl]? = some (.list (ls.map .int)) /\ H.length < kl /\ os.length = a.length /\ (os ++ ls).Perm ((List.range m).map fun k : Nat => (k : Int)) /\ ρ.lookup "_law_left" = some (.ref kl)) /\
  ρ.lookup "_law_script" = some (.scr ns) /\ ρ.lookup "_law_order" = some (.ref H.length) /\ (∀ z ∈ b, 0 <= z)
theorem begun_turn (n : Nat) {ns : List Int} {m c : Nat} {H : Hp} (hns : ns.length <= 63) (hm : m <= 7) (hc : c <= m) (a : List Nat) (z : Nat) (b : List Nat) (ρ : Rho) (H' : Hp) (i : OI ns m H c a (z :: b) ρ H') :
    Turns (OI ns m H c (a ++ [z]) b) (exSs (G (n + 1)) (loopAt d__law_begun_by.body 2) (setL "_law_k" (.int z) ρ) H') := by
  obtain ⟨rfl, ⟨os, ls, kl, L, rfl, hl, lt, lo, pm, g3⟩, g1, g2, g4⟩ := i
  have len := pm.length_eq
  rw [List.length_append, List.length_map, List.length_range, lo] at len
  rw [List.length_cons] at hc
  have lpos : 0 < ls.length := Nat.lt_of_lt_of_le (Nat.succ_pos _) (Nat.le_of_add_le_add_left (len.symm ▸ hc))
  have lposI : (0 : Int) < ls.length := Int.ofNat_lt.mpr lpos
  have la : a.length <= 7 := Nat.le_trans (Nat.le.intro len) hm
  have ll : ls.length <= 7 := Nat.le_trans (Nat.le.intro ((Nat.add_comm _ _).trans len)) hm
  obtain ⟨cc, e1⟩ := c_cell n ns (33 + z) (H ++ .list (os.map .int) :: L) (Int.add_nonneg (by decide) (Int.natCast_nonneg z)) hns
  have e2 : bin .add (.int 33) (.int z) (H ++ .list (os.map .int) :: L) = .ok (.int (33 + z)) (H ++ .list (os.map .int) :: L) := rfl
  have e3 := bi_len_ref hl
  rw [List.length_map] at e3
  have e4 := bin_mod (a := cc) (b := ls.length) (H ++ .list (os.map .int) :: L) (Int.ne_of_gt lposI)
  have f1 := fmod_lt cc lposI
  obtain ⟨at', hat⟩ : ∃ k : Nat, (k : Int) = cc.fmod ls.length := ⟨(cc.fmod ls.length).toNat, Int.toNat_of_nonneg f1.1⟩
  rw [<- hat] at e4 f1
  have hat' : at' < ls.length := Int.ofNat_lt.mp f1.2
  refine ss_asg (by repeat (first | with_reducible (first | assumption | exact setL_self _ _ _ | refine setL_other (by decide) ?_ | exact ev_int _ | exact ev_none | exact ev_bool _ | exact evs_nil | apply evs_cons | apply ev_var | apply ev_tup | apply ev_attr | apply ev_idx | apply ev_not | apply ev_cmp | apply ev_bin2 | apply ev_isinst | apply ev_call (G_hd _) ?_ rfl | apply ev_bi (G_hd _)) | rfl)) ?_
  have e5 : index (.ref kl) (.int at') (H ++ .list (os.map .int) :: L) = .ok (.int ls[at']) (H ++ .list (os.map .int) :: L) := idx_ref hl (by rw [List.getElem?_map, List.getElem?_eq_getElem hat']; rfl)
  have e6 := m_append (v := .int ls[at']) (get_tab H L (.list (os.map .int))) (by rw [List.length_map, lo]; exact Nat.lt_of_le_of_lt la (by decide))
  rw [set_tab] at e6
  refine ss_expr (ev_meth (w := .ref H.length) (H1 := H ++ .list (os.map .int) :: L) (vs := [.int ls[at']]) (ev_var (by repeat (first | assumption | with_reducible first | exact setL_self _ _ _ | refine setL_other (by decide) ?_))) (kind_list (get_tab _ _ _)) (by repeat (first | with_reducible (first | assumption | exact setL_self _ _ _ | refine setL_other (by decide) ?_ | exact ev_int _ | exact ev_none | exact ev_bool _ | exact evs_nil | apply evs_cons | apply ev_var | apply ev_tup | apply ev_attr | apply ev_idx | apply ev_not | apply ev_cmp | apply ev_bin2 | apply ev_isinst | apply ev_call (G_hd _) ?_ rfl | apply ev_bi (G_hd _)) | rfl)) e6) ?_
  have hl2 : (H ++ O.list (os.map .int ++ [.int ls[at']]) :: L)[kl]? = some (.list (ls.map .int)) := by
    rw [<- set_tab H L (.list (os.map .int)), List.getElem?_set_ne (Nat.ne_of_lt lt)]; exact hl
  generalize hH1 : H ++ O.list (os.map .int ++ [.int ls[at']]) :: L = H1 at hl2 ⊢
  have s1 := slice_to (k := at') hl2 (by rw [List.length_map]; exact Nat.le_of_lt hat')
  have s2 := slice_from (k := at' + 1) (Kept.app H1 [.list ((ls.map V.int).take at')] _ _ hl2) (by rw [List.length_map]; exact hat')
  have s3 := bin_add_ref (i := H1.length) (j := (H1 ++ [O.list ((ls.map V.int).take at')]).length) (H := (H1 ++ [O.list ((ls.map V.int).take at')]) ++ [.list ((ls.map V.int).drop (at' + 1))]) ((ext_app _ _).get (len_app1 _ _)) (len_app1 _ _) (by rw [List.length_take, List.length_drop, List.length_map]; exact Nat.le_trans (Nat.add_le_add (Nat.le_trans (Nat.min_le_right _ _) ll) (Nat.le_trans (Nat.sub_le _ _) ll)) (by decide))
  have b1 : bin .add (.int at') (.int 1) (H1 ++ [O.list ((ls.map V.int).take at')]) = .ok (.int ((at' + 1 : Nat) : Int)) (H1 ++ [O.list ((ls.map V.int).take at')]) := rfl
  refine ss_asg (ev_bin2 (ev_slice (r := .ok (.ref H1.length) (H1 ++ [O.list ((ls.map V.int).take at')])) (ev_var (by repeat (first | assumption | with_reducible first | exact setL_self _ _ _ | refine setL_other (by decide) ?_))) ev_none (ev_var (by repeat (first | assumption | with_reducible first | exact setL_self _ _ _ | refine setL_other (by decide) ?_))) s1) (ev_slice (ev_var (by repeat (first | assumption | with_reducible first | exact setL_self _ _ _ | refine setL_other (by decide) ?_))) (ev_bin2 (ev_var (by repeat (first | assumption | with_reducible first | exact setL_self _ _ _ | refine setL_other (by decide) ?_))) (ev_int 1) b1) ev_none s2) s3) ?_
  refine Turns.here ⟨by rw [List.length_append, List.length_singleton, List.length_cons, Nat.add_assoc, Nat.add_comm 1], ⟨os ++ [ls[at']], ls.take at' ++ ls.drop (at' + 1), _, _, by rw [<- hH1, List.map_append]; simp only [List.append_assoc, List.cons_append]; rfl, ?_, ?_, ?_, ?_, (by repeat (first | assumption | with_reducible first | exact setL_self _ _ _ | refine setL_other (by decide) ?_))⟩, (by repeat (first | assumption | with_reducible first | exact setL_self _ _ _ | refine setL_other (by decide) ?_)), (by repeat (first | assumption | with_reducible first | exact setL_self _ _ _ | refine setL_other (by decide) ?_)), fun z hz => g4 z (List.mem_cons_of_mem _ hz)⟩
  · rw [len_app1]; simp
  · rw [List.length_append, List.length_append, <- hH1, List.length_append, Nat.add_assoc, Nat.add_assoc]; exact Nat.lt_add_of_pos_right (Nat.add_pos_left (Nat.succ_pos _) _)
  · rw [List.length_append, List.length_append, lo]; rfl
  · refine List.Perm.trans ?_ pm
    rw [List.append_assoc]
    refine List.Perm.append_left os ?_
    have : ls = ls.take at' ++ ls[at'] :: ls.drop (at' + 1) := by rw [<- List.drop_eq_getElem_cons hat', List.take_append_drop]
    conv => rhs; rw [this]
    exact (List.perm_middle (l₁ := ls.take at')).symm
theorem c_begunby (n : Nat) (ns : List Int) (m : Nat) (H : Hp) (hns : ns.length <= 63) (hm : m <= 7) :
    ∃ (os : List Int) (k : Nat) (H' : Hp), (G (n + 2)).call "_law_begun_by" [.scr ns, .int m, .int 7] H = .ok (.ref k) H' /\ Kept H H' /\ H'[k]? = some (.list (os.map .int)) /\ Ord m os := by
  rw [G_call (d := d__law_begun_by) (by kernel_rfl)]
  refine runDef_P (ρ := [("_law_script", .scr ns), ("_law_many_here", .int m), ("_law_most", .int 7)]) (P := fun r => ∃ (os : List Int) (k : Nat) (H' : Hp), r = .ok (.ref k) H' /\ Kept H H' /\ H'[k]? = some (.list (os.map .int)) /\ Ord m os) rfl ?_
  have hr : rngOk 0 m 1 = true := rng_ok (Nat.le_trans hm (by decide))
  have e1 : builtin "list" [.rng 0 m 1] (H ++ [.list []]) = .ok (.ref (H ++ [O.list []]).length) ((H ++ [.list []]) ++ [.list (((List.range m).map fun k : Nat => (k : Int)).map .int)]) := by
    have q : builtin "list" [.rng 0 m 1] (H ++ [.list []]) = if rngOk 0 m 1 = true then new (.list ((rangeL 0 m 1).map .int)) (H ++ [.list []]) else .stuck := rfl
    rw [q, if_pos hr, rangeL_one]; rfl
  refine ss_asg (v := .ref H.length) (H1 := H ++ [.list []]) rfl ?_
  refine ss_asg (v := .ref (H ++ [O.list []]).length) (ev_bi (G_hd _) (evs_one (ev_bi (v := .rng 0 m 1) (G_hd _) (evs_one (ev_var rfl)) rfl)) e1) ?_
  generalize hH2 : (H ++ [O.list []]) ++ [O.list (((List.range m).map fun k : Nat => (k : Int)).map .int)] = H2
  obtain ⟨c0, e2⟩ := c_cell n ns 32 H2 (by decide) hns
  have e3 := bi_min m 7 H2
  have hmin : (if (7 : Int) < m then 7 else (m : Int)) = m := if_neg (Int.not_lt.mpr (Int.ofNat_le.mpr hm))
  rw [hmin] at e3
  have mp : (0 : Int) < (m : Int) + 1 := Int.ofNat_lt.mpr (Nat.succ_pos m)
  have e4 : bin .add (.int m) (.int 1) H2 = .ok (.int (m + 1)) H2 := rfl
  have e5 := bin_mod (a := c0) (b := (m : Int) + 1) H2 (Int.ne_of_gt mp)
  have f1 := fmod_lt c0 mp
  obtain ⟨c, hc⟩ : ∃ k : Nat, (k : Int) = c0.fmod ((m : Int) + 1) := ⟨(c0.fmod ((m : Int) + 1)).toNat, Int.toNat_of_nonneg f1.1⟩
  rw [<- hc] at e5 f1
  have cm : c <= m := Nat.le_of_lt_succ (Int.ofNat_lt.mp f1.2)
  have it : items H2 (.rng 0 c 1) = some ((List.range c).map fun k : Nat => V.int (k : Int)) := by rw [items_range (Nat.le_trans cm (Nat.le_trans hm (by decide))), rangeI, List.map_map]; rfl
  obtain ⟨ρ', H', er, ⟨_, ⟨os, ls, kl, L, rfl, _, _, lo, pm, _⟩, _, k2, _⟩⟩ := forL_all (fun k : Nat => V.int (k : Int)) (fun v ρ1 H2 => exSs (G (n + 1)) (loopAt d__law_begun_by.body 2) (setL "_law_k" v ρ1) H2) (sameO (.rng 0 c 1) H2) (OI ns m H c)
    (fun a b ρ H' i => rfl) (begun_turn n hns hm cm) (List.range c)
    (setL "_law_left" (.ref (H ++ [O.list []]).length) (setL "_law_order" (.ref H.length) [("_law_script", .scr ns), ("_law_many_here", .int m), ("_law_most", .int 7)])) H2
    ⟨by simp, ⟨[], (List.range m).map fun k : Nat => (k : Int), (H ++ [O.list []]).length, [.list (((List.range m).map fun k : Nat => (k : Int)).map .int)], by rw [<- hH2]; simp, by rw [<- hH2]; exact len_app1 _ _, by simp, rfl, List.Perm.refl _, rfl⟩, rfl, rfl, fun _ _ => Nat.zero_le _⟩
  refine ss_for (v := .rng 0 c 1) (H1 := H2) (G_hd _) (ev_bi (v := .rng 0 c 1) (G_hd _) (evs_one (v := .int c) (H1 := H2) (by repeat (first | with_reducible (first | assumption | exact setL_self _ _ _ | refine setL_other (by decide) ?_ | exact ev_int _ | exact ev_none | exact ev_bool _ | exact evs_nil | apply evs_cons | apply ev_var | apply ev_tup | apply ev_attr | apply ev_idx | apply ev_not | apply ev_cmp | apply ev_bin2 | apply ev_isinst | apply ev_call (G_hd _) ?_ rfl | apply ev_bi (G_hd _)) | rfl))) rfl) it er ?_
  rw [RS.bind_next]
  have mem : ∀ z ∈ os, 0 <= z /\ z < m := fun z hz => by
    obtain ⟨k, hk, rfl⟩ := List.mem_map.mp (pm.mem_iff.mp (List.mem_append.mpr (.inl hz)))
    exact ⟨Int.natCast_nonneg k, Int.ofNat_lt.mpr (List.mem_range.mp hk)⟩
  have nd : (os ++ ls).Nodup := pm.nodup_iff.mpr (List.Pairwise.imp (fun q => Int.ne_of_lt q) (List.pairwise_map.mpr (List.pairwise_lt_range.imp fun q => Int.ofNat_lt.mpr q)))
  exact ss_ret (ev_var k2) ⟨os, _, _, rfl, Kept.app _ _, get_tab _ _ _, ⟨fun z hz => (mem z hz).1, fun z hz => (mem z hz).2, (List.nodup_append.mp nd).1, by rw [lo, List.length_range]; exact Nat.le_trans cm (Nat.le_trans hm (by decide))⟩⟩
noncomputable def HasB (es : List Ent) (k : Key) (t b : Int) : Prop := ∃ t0 b0, (k, t0, some b0) ∈ es /\ (t0 < t \/ (t0 = t /\ b0 <= b))
noncomputable def Sound (es : List Ent) : Prop := (es.map (·.1)).Nodup /\ Full es
theorem putB_lex {es : List Ent} {k : Key} {t b : Int} (so : Sound es) : (putB es k t b = es /\ HasB es k t b) \/ (putB es k t b = putE es k (t, some b) /\ ∀ t0 b0, (k, t0, some b0) ∈ es -> t < t0 \/ (t = t0 /\ b <= b0)) := by
  unfold putB
  cases hg : getE es k with
  | none => exact .inr ⟨rfl, fun t0 b0 q => absurd (List.mem_map.mpr ⟨_, q, rfl⟩) (getE_none hg)⟩
  | some x =>
    obtain ⟨o, ho⟩ := so.2 _ (getE_some hg)
    obtain ⟨x1, x2⟩ := x
    have ho : x2 = some o := ho
    subst ho
    show ((if lessE x1 o t b = true then es else putE es k (t, some b)) = es /\ _) \/ ((if lessE x1 o t b = true then es else putE es k (t, some b)) = _ /\ _)
    by_cases h : lessE x1 o t b = true
    · rw [if_pos h]
      refine .inl ⟨rfl, x1, o, getE_some hg, ?_⟩
      unfold lessE at h
      simp only [Bool.or_eq_true, Bool.and_eq_true, decide_eq_true_eq, beq_iff_eq] at h
      exact h
    · rw [if_neg h]
      refine .inr ⟨rfl, fun t0 b0 q => ?_⟩
      have e := (getE_mem q so.1).symm.trans hg
      cases e
      unfold lessE at h
      simp only [Bool.or_eq_true, Bool.and_eq_true, decide_eq_true_eq, beq_iff_eq, not_or] at h
      omega
theorem hasB_put {es : List Ent} (k : Key) (t b : Int) (so : Sound es) : HasB (putB es k t b) k t b := by
  rcases putB_lex (k := k) (t := t) (b := b) so with ⟨q, h⟩ | ⟨q, _⟩
  · rw [q]; exact h
  · rw [q]; exact ⟨t, b, put_mem _ _ _, .inr ⟨rfl, Int.le_refl _⟩⟩
theorem HasB.putB {es : List Ent} {k k' : Key} {t t' b b' : Int} (h : HasB es k' t' b') (so : Sound es) : HasB (putB es k t b) k' t' b' := by
  obtain ⟨t0, b0, hx, hl⟩ := h
  rcases putB_lex (k := k) (t := t) (b := b) so with ⟨q, _⟩ | ⟨q, hle⟩
  · rw [q]; exact ⟨t0, b0, hx, hl⟩
  · rw [q]
    by_cases e : k' = k
    · subst e
      exact ⟨t, b, put_mem _ _ _, by have := hle t0 b0 hx; omega⟩
    · exact ⟨t0, b0, mem_put_other hx e, hl⟩
section
variable {w : Str} {l : Int} {qs : List Q4} {left : List Int} {lev : List Ent} {p t : Int}
theorem sound_step {e : Ent} {es : List Ent} {z : Int} (h : Sound es) : Sound (stepN w l qs e es z) := ⟨nodup_step h.1, full_stepN h.2⟩
theorem sound_all {e : Ent} {es : List Ent} (h : Sound es) : Sound (stepE w l qs left es e) := foldl_inv (I := Sound) h fun _ _ _ h => sound_step h
theorem HasB.step {e : Ent} {es : List Ent} {z : Int} {k : Key} {t b : Int} (h : HasB es k t b) (so : Sound es) : HasB (stepN w l qs e es z) k t b := by
  rcases stepN_cases w l qs e es z with q | ⟨t, hc, hv, q⟩
  · rw [q]; exact h
  · rw [q]; exact h.putB so
theorem longer_hasB {e : Ent} {z t : Int} (he : e ∈ lev) (hz : z ∈ left) (hn : z ∉ e.1.1) (ht : nextT w l qs e z = some t) : HasB (longerP w l qs left lev) (ins e.1.1 z, z) t e.1.2 := by
  refine foldl_reach (I := Sound) (P := fun es => HasB es (ins e.1.1 z, z) t e.1.2) (x := e) ⟨List.nodup_nil, fun _ q => nomatch q⟩ (fun _ _ _ h => sound_all h) (fun es e' _ so hh => ?_) he fun es so => ?_
  · exact (foldl_inv (I := fun es : List Ent => Sound es /\ HasB es (ins e.1.1 z, z) t e.1.2) ⟨so, hh⟩ fun _ _ _ h => ⟨sound_step h.1, h.2.step h.1⟩).2
  · refine foldl_reach (I := Sound) (P := fun es => HasB es (ins e.1.1 z, z) t e.1.2) (x := z) so (fun _ _ _ h => sound_step h) (fun _ _ _ so hh => hh.step so) hz fun es so => ?_
    have hc : e.1.1.contains z = false := by rw [<- Bool.not_eq_true, List.contains_iff_mem]; exact hn
    have q : stepN w l qs e es z = putB es (ins e.1.1 z, z) t e.1.2 := by unfold stepN; rw [hc, ht]; rfl
    rw [q]; exact hasB_put _ _ _ so
theorem rise_eq : ∀ {a b : List Int}, a.Pairwise (· < ·) -> b.Pairwise (· < ·) -> a.Perm b -> a = b
  | [], b, _, _, pm => (List.nil_perm.mp pm).symm
  | x :: a, [], _, _, pm => nomatch List.perm_nil.mp pm
  | x :: a, y :: b, ha, hb, pm => by
    obtain ⟨ha1, ha2⟩ := List.pairwise_cons.mp ha
    obtain ⟨hb1, hb2⟩ := List.pairwise_cons.mp hb
    have e : x = y := by
      have h1 : x ∈ y :: b := pm.mem_iff.mp (List.mem_cons_self ..)
      have h2 : y ∈ x :: a := pm.mem_iff.mpr (List.mem_cons_self ..)
      rcases List.mem_cons.mp h1 with h1 | h1
      · exact h1
      · rcases List.mem_cons.mp h2 with h2 | h2
        · exact h2.symm
        · exact absurd (hb1 x h1) (Int.lt_asymm (ha1 y h2))
    subst e
    rw [rise_eq ha2 hb2 ((List.perm_cons x).mp pm)]
noncomputable def restOf (k : Key) : List Int := k.1.filter fun z => !(z == k.2)
theorem rest_ins {ds : List Int} {z : Int} (h : ds.Pairwise (· < ·)) (hz : z ∉ ds) : restOf (ins ds z, z) = ds := by
  refine rise_eq ((ins_rise h hz).filter _) h ?_
  refine ((ins_perm ds z).filter _).trans ?_
  rw [List.filter_append, List.filter_eq_self.mpr fun d hd => by rw [beq_eq_false_iff_ne.mpr fun q : d = z => hz (q ▸ hd)]; rfl]
  rw [List.filter_cons_of_neg (by rw [beq_self_eq_true]; exact Bool.false_ne_true)]
  rw [List.filter_nil, List.append_nil]
structure From (w : Str) (l : Int) (qs : List Q4) (F : List Ent) (e : Ent) (b : Int) : Prop where
  before : e.2.2 = some b
  there : ∃ x, ((restOf e.1, b), x) ∈ F /\ nextT w l qs ((restOf e.1, b), x) e.1.2 = some e.2.1
  least : ∀ z y t', ((restOf e.1, z), y) ∈ F -> nextT w l qs ((restOf e.1, z), y) e.1.2 = some t' -> e.2.1 < t' \/ (e.2.1 = t' /\ b <= z)
noncomputable def Back (w : Str) (l : Int) (qs : List Q4) (p t : Int) (F : List Ent) (e : Ent) : Prop :=
  (restOf e.1 = [] /\ e.2.2 = Option.none /\ ∃ q, qs[e.1.2.toNat]? = some q /\ leavesI w l p t q = some e.2.1) \/ (restOf e.1 ≠ [] /\ ∃ b, From w l qs F e b)
theorem first_back {e : Ent} (F : List Ent) (h : e ∈ firstP w l qs p t left) : Back w l qs p t F e := by
  have key : ∀ e ∈ firstP w l qs p t left, Back w l qs p t F e := by
    refine foldl_inv (I := fun es : List Ent => ∀ e ∈ es, Back w l qs p t F e) (b := []) (fun _ q => nomatch q) fun es z _ ih => ?_
    rcases step1_cases w l qs p t es z with q | ⟨q0, t0, h1, h2, q⟩
    · rw [q]; exact ih
    · rw [q]
      intro e he
      rcases mem_putE he with rfl | he
      · exact .inl ⟨List.filter_cons_of_neg (by rw [beq_self_eq_true]; exact Bool.false_ne_true), rfl, q0, h1, h2⟩
      · exact ih e he.1
  exact key e h
theorem Back.more {F N : List Ent} {e : Ent} (h : Back w l qs p t F e) (hn : ∀ z y, ((restOf e.1, z), y) ∉ N) : Back w l qs p t (F ++ N) e := by
  rcases h with h | ⟨h, b, fr⟩
  · exact .inl h
  · obtain ⟨x, hx, hv⟩ := fr.there
    refine .inr ⟨h, b, fr.before, ⟨x, List.mem_append.mpr (.inl hx), hv⟩, fun z y t' hm => ?_⟩
    exact fr.least z y t' ((List.mem_append.mp hm).resolve_right (hn z y))
theorem rest_len (k : Key) : (restOf k).length <= k.1.length := List.length_filter_le ..
theorem back_next {j : Nat} {f lv : List Ent} (sh : Shape left j f lv) (h : ∀ e ∈ f ++ lv, Back w l qs p t (f ++ lv) e) : ∀ e ∈ (f ++ lv) ++ longerP w l qs left lv, Back w l qs p t ((f ++ lv) ++ longerP w l qs left lv) e := by
  have ok := longer_ok (w := w) (l := l) (qs := qs) sh.lev
  intro e' he'
  rcases List.mem_append.mp he' with he | he
  · refine (h e' he).more fun z y hm => ?_
    have h1 : (restOf e'.1).length = j + 1 + 1 := (ok _ hm).len
    have h2 : e'.1.1.length <= j + 1 := by
      rcases List.mem_append.mp he with he | he
      · obtain ⟨i, hi, q⟩ := sh.fnd e' he
        rw [q.len]; exact Nat.le_succ_of_le hi
      · exact Nat.le_of_eq (sh.lev e' he).len
    exact absurd (Nat.le_trans (rest_len e'.1) h2) (by rw [h1]; exact Nat.not_succ_le_self _)
  · obtain ⟨e, hel, z, hz, t1, hn, hv, rfl⟩ := longer_mem he
    have oe := sh.lev e hel
    have hr : restOf (ins e.1.1 z, z) = e.1.1 := rest_ins oe.rise hn
    refine .inr ⟨fun q => ?_, e.1.2, rfl, ⟨e.2, ?_, ?_⟩, ?_⟩
    · have hl := oe.last
      rw [hr.symm.trans q] at hl
      exact nomatch hl
    · show ((restOf (ins e.1.1 z, z), e.1.2), e.2) ∈ _
      rw [hr]; exact List.mem_append.mpr (.inl (List.mem_append.mpr (.inr hel)))
    · show nextT w l qs ((restOf (ins e.1.1 z, z), e.1.2), e.2) z = some t1
      rw [hr]; exact hv
    · show ∀ z' y t', ((restOf (ins e.1.1 z, z), z'), y) ∈ _ -> nextT w l qs ((restOf (ins e.1.1 z, z), z'), y) z = some t' -> t1 < t' \/ (t1 = t' /\ e.1.2 <= z')
      rw [hr]
      intro z' y t' hm hv'
      have hin : ((e.1.1, z'), y) ∈ lv := by
        have len := oe.len
        rcases List.mem_append.mp hm with hm | hm
        · rcases List.mem_append.mp hm with hm | hm
          · obtain ⟨i, hi, q⟩ := sh.fnd _ hm
            have := q.len; have : e.1.1.length = i := this
            omega
          · exact hm
        · have : e.1.1.length = j + 1 + 1 := (ok _ hm).len
          omega
      obtain ⟨t0, b0, hx, hle⟩ := longer_hasB hin hz hn hv'
      have e1 := (getE_mem hx longer_nodup).symm.trans (getE_mem he longer_nodup)
      cases e1
      exact hle
noncomputable def levs (w : Str) (l : Int) (qs : List Q4) (left : List Int) (p t : Int) : Nat -> List Ent × List Ent
  | 0 => ([], firstP w l qs p t left)
  | j + 1 => ((levs w l qs left p t j).1 ++ (levs w l qs left p t j).2, longerP w l qs left (levs w l qs left p t j).2)
theorem levs_end {j : Nat} {f : List Ent} (h : levs w l qs left p t j = (f, [])) : ∀ i, levs w l qs left p t (j + i) = (f, [])
  | 0 => h
  | i + 1 => by
    have e : levs w l qs left p t (j + (i + 1)) = ((levs w l qs left p t (j + i)).1 ++ (levs w l qs left p t (j + i)).2, longerP w l qs left (levs w l qs left p t (j + i)).2) := rfl
    rw [e, levs_end h i]
    exact congrArg (·, []) (List.append_nil f)
theorem levs_one {i j : Nat} {f g : List Ent} (h : levs w l qs left p t i = (f, [])) (h2 : levs w l qs left p t j = (g, [])) : f = g := by
  rcases Nat.le_total i j with q | q
  · obtain ⟨k, rfl⟩ := Nat.exists_eq_add_of_le q
    exact congrArg Prod.fst ((levs_end h k).symm.trans h2)
  · obtain ⟨k, rfl⟩ := Nat.exists_eq_add_of_le q
    exact congrArg Prod.fst (h.symm.trans (levs_end h2 k))
noncomputable def Came (w : Str) (l : Int) (qs : List Q4) (left : List Int) (p t : Int) (j : Nat) (f lv : List Ent) : Prop := levs w l qs left p t j = (f, lv) /\ ∀ e ∈ f ++ lv, Back w l qs p t (f ++ lv) e
theorem came_first : Came w l qs left p t 0 [] (firstP w l qs p t left) := ⟨rfl, fun _ he => first_back _ he⟩
theorem came_next {j : Nat} {f lv : List Ent} (sh : Shape left j f lv) (h : Came w l qs left p t j f lv) : Came w l qs left p t (j + 1) (f ++ lv) (longerP w l qs left lv) :=
  ⟨by show ((levs w l qs left p t j).1 ++ (levs w l qs left p t j).2, longerP w l qs left (levs w l qs left p t j).2) = _; rw [h.1], back_next sh h.2⟩
end
theorem eqvAll_ints : ∀ ds : List Int, PyData.eqvAll (ds.map PyData.int) (ds.map PyData.int) = true
  | [] => rfl
  | d :: ds => by
    have e : PyData.eqvAll ((d :: ds).map PyData.int) ((d :: ds).map PyData.int) = ((d == d) && PyData.eqvAll (ds.map PyData.int) (ds.map PyData.int)) := rfl
    rw [e, eqvAll_ints ds, beq_self_eq_true]; rfl
theorem mapM_ints7 (H : Hp) : ∀ ds : List Int, (ds.map V.int).mapM (snap 7 H) = some (ds.map PyData.int)
  | [] => rfl
  | d :: ds => by rw [List.map_cons, List.mapM_cons, mapM_ints7 H ds]; rfl
theorem snap_list {H : Hp} {k : Nat} {ds : List Int} (h : H[k]? = some (.list (ds.map .int))) : snap 8 H (.ref k) = some (.list (ds.map PyData.int)) := by
  have q : snap 8 H (.ref k) = (listAt (.ref k) H).bind fun vs => (vs.mapM (snap 7 H)).map .list := rfl
  rw [q, listAt_of h]
  show ((ds.map V.int).mapM (snap 7 H)).map PyData.list = _
  rw [mapM_ints7]; rfl
theorem ne_list {H : Hp} {j k : Nat} {ds : List Int} (h : H[j]? = some (.list (ds.map .int))) (h2 : H[k]? = some (.list (ds.map .int))) : cmp .ne (.ref j) (.ref k) H = some false := by
  have q : cmp .ne (.ref j) (.ref k) H = (eqV H (.ref j) (.ref k)).map (!·) := rfl
  rw [q, eqV_of (snap_list h) (snap_list h2) (eqvAll_ints ds)]; rfl
theorem sset_of {ds : List Int} {H : Hp} (h : ds.Pairwise (· < ·)) (h7 : ∀ d ∈ ds, 0 <= d /\ d < 7) : ssetV (.tup (ds.map .int)) H = .ok (.ref H.length) (H ++ [.list (ds.map .int)]) := by
  have q : ssetV (.tup (ds.map .int)) H = match intsV (ds.map .int) with
    | some ns => if (ns.all fun n => decide (0 <= n)) = true /\ (ns.map Int.toNat).isSublist (List.range 7) = true then new (.list (ns.map .int)) H else .stuck
    | Option.none => .stuck := rfl
  rw [q, intsV_map]
  refine if_pos ⟨List.all_eq_true.mpr fun d hd => decide_eq_true (h7 d hd).1, List.isSublist_iff_sublist.mpr ?_⟩
  have e : List.range 7 = (upto 0 7).map Int.toNat := by decide
  rw [e]
  exact (rise_upto 7 0 ds h fun d hd => by have := h7 d hd; omega).map _
theorem ev_sset {n : Nat} {ρ : Rho} {e : E} {H H1 H2 : Hp} {v u : V} (h : evE (G n) ρ e H = .ok u H1) (h2 : ssetV u H1 = .ok v H2) : evE (G n) ρ (.sset e) H = .ok v H2 := by
  rw [evE_sset, h, R.bind_ok, G_hd, if_neg (by decide), h2]
section
variable {H : Hp} {kf m : Nat} {left : List Int}
theorem c_key (n : Nat) (hleft : H[kf]? = some (.list (left.map .int))) (lo : LeftOk m left) {i : Nat} {e : Ent} (ok : EntOk left i e) :
    ∃ H', (G (n + 2)).call "_law_key" [keyV e.1, .ref kf] H = .ok (.bool true) H' /\ Kept H H' := by
  rw [G_call (d := d__law_key) (by kernel_rfl)]
  refine runDef_P (ρ := [("_law_key_here", keyV e.1), ("_law_left", .ref kf)]) (P := fun r => ∃ H', r = .ok (.bool true) H' /\ Kept H H') rfl ?_
  have g1 : List.lookup "_law_key_here" ([("_law_key_here", keyV e.1), ("_law_left", .ref kf)] : Rho) = some (keyV e.1) := rfl
  have i0 : ∀ H, index (keyV e.1) (.int 0) H = .ok (.tup (e.1.1.map .int)) H := fun _ => rfl
  have i1 : ∀ H, index (keyV e.1) (.int 1) H = .ok (.int e.1.2) H := fun _ => rfl
  refine ss_if (c := false) (H1 := H) (show evOr _ _ _ _ = _ from ev_or (c := false) (H1 := H) (ev_not (c := true) (ev_isinst (ev_var g1) rfl) rfl) (show evOr _ _ _ _ = _ from ev_or (c := false) (H1 := H) (ev_cmp (ev_bi (v := .int 2) (G_hd _) (evs_one (ev_var g1)) rfl) (ev_int 2) rfl) (show evE _ _ _ _ = _ from ev_not (c := true) (ev_isinst (ev_idx (ev_var g1) (ev_int 0) (i0 H)) rfl) rfl))) ?_
  show Fin _ (exSs _ (S.for1 _ _ _ :: _) _ _)
  obtain ⟨ρ', H', er, ⟨rfl, k1, k2, _⟩⟩ := forL_all V.int (fun v ρ1 H2 => exSs (G (n + 1)) (loopAt d__law_key.body 1) (setL "_law_number" v ρ1) H2) (sameO (.tup (e.1.1.map .int)) H)
    (fun _ b ρ H' => H' = H /\ ρ.lookup "_law_key_here" = some (keyV e.1) /\ ρ.lookup "_law_left" = some (.ref kf) /\ ∀ z ∈ b, z ∈ e.1.1) (fun _ _ _ _ _ => rfl) (by
      rintro a z b ρ H' ⟨rfl, k1, k2, k3⟩
      have c1 := notin_list hleft z
      rw [List.contains_iff_mem.mpr (ok.sub z (k3 z (List.mem_cons_self ..)))] at c1
      have c2 := c_whole n z H'
      refine ss_if (c := false) (H1 := H') (show evOr _ _ _ _ = _ from ev_or (c := false) (H1 := H') (by repeat (first | with_reducible (first | assumption | exact setL_self _ _ _ | refine setL_other (by decide) ?_ | exact ev_int _ | exact ev_none | exact ev_bool _ | exact evs_nil | apply evs_cons | apply ev_var | apply ev_tup | apply ev_attr | apply ev_idx | apply ev_not | apply ev_cmp | apply ev_bin2 | apply ev_isinst | apply ev_call (G_hd _) ?_ rfl | apply ev_bi (G_hd _)) | rfl)) (show evE _ _ _ _ = _ from ev_cmp (ev_var (by repeat (first | assumption | with_reducible first | exact setL_self _ _ _ | refine setL_other (by decide) ?_))) (ev_var (by repeat (first | assumption | with_reducible first | exact setL_self _ _ _ | refine setL_other (by decide) ?_))) c1)) ?_
      exact Turns.here ⟨rfl, (by repeat (first | assumption | with_reducible first | exact setL_self _ _ _ | refine setL_other (by decide) ?_)), (by repeat (first | assumption | with_reducible first | exact setL_self _ _ _ | refine setL_other (by decide) ?_)), fun y hy => k3 y (List.mem_cons_of_mem _ hy)⟩)
    e.1.1 [("_law_key_here", keyV e.1), ("_law_left", .ref kf)] H ⟨rfl, rfl, rfl, fun _ q => q⟩
  refine ss_for (v := .tup (e.1.1.map .int)) (G_hd _) (ev_idx (ev_var g1) (ev_int 0) (i0 _)) rfl er ?_
  rw [RS.bind_next]
  have hne : ((e.1.1.map V.int).length : Int) ≠ 0 := by
    have := List.length_pos_of_mem ok.last
    rw [List.length_map]; omega
  have c3 : cmp .eq (.int (e.1.1.map V.int).length) (.int 0) H' = some false := by rw [cmp_eq_int, beq_eq_false_iff_ne.mpr hne]
  have c4 : builtin "list" [.tup (e.1.1.map .int)] H' = .ok (.ref H'.length) (H' ++ [.list (e.1.1.map .int)]) := rfl
  have c5 := sset_of (H := H' ++ [.list (e.1.1.map .int)]) ok.rise fun d hd => ⟨lo.low d (ok.sub d hd), by have := lo.high d (ok.sub d hd); have := lo.m7; omega⟩
  have c6 := ne_list ((ext_app (H' ++ [.list (e.1.1.map .int)]) [.list (e.1.1.map .int)]).get (len_app1 H' (.list (e.1.1.map .int)))) (len_app1 _ _)
  have kp := (Kept.app H' [.list (e.1.1.map .int)]).trans (Kept.app (H' ++ [.list (e.1.1.map .int)]) [.list (e.1.1.map .int)])
  refine ss_if (c := false) (H1 := (H' ++ [.list (e.1.1.map .int)]) ++ [.list (e.1.1.map .int)]) (show evOr _ _ _ _ = _ from ev_or (c := false) (H1 := H') (ev_cmp (ev_bi (v := .int (e.1.1.map V.int).length) (G_hd _) (evs_one (ev_idx (ev_var k1) (ev_int 0) (i0 _))) rfl) (ev_int 0) c3) (show evE _ _ _ _ = _ from
    ev_cmp (ev_bi (G_hd _) (evs_one (ev_idx (ev_var k1) (ev_int 0) (i0 _))) c4) (ev_sset (ev_idx (ev_var k1) (ev_int 0) (i0 _)) c5) c6)) ?_
  generalize (H' ++ [O.list (e.1.1.map .int)]) ++ [O.list (e.1.1.map .int)] = H2 at kp ⊢
  have c7 := c_whole n e.1.2 H2
  have c8 := in_tup H2 e.1.2 e.1.1
  rw [List.contains_iff_mem.mpr ok.last] at c8
  refine ss_ret (v := .bool true) (H1 := H2) (show evAnd _ _ _ _ = _ from ev_and (c := true) (H1 := H2) (ev_call (G_hd _) (evs_one (ev_idx (ev_var k1) (ev_int 1) (i1 _))) rfl c7) (show evE _ _ _ _ = _ from ev_cmp (ev_idx (ev_var k1) (ev_int 1) (i1 _)) (ev_idx (ev_var k1) (ev_int 0) (i0 _)) c8)) ⟨H2, rfl, kp⟩
theorem c_form (n : Nat) {k ep : Nat} {f : List Ent} (hf : H[k]? = some (.tab (f.map entV) ep)) (hleft : H[kf]? = some (.list (left.map .int))) (lo : LeftOk m left) (ok : ∀ e ∈ f, ∃ i, EntOk left i e) (nd : (f.map (·.1)).Nodup) :
    ∃ H', (G (n + 3)).call "_law_form" [.ref k, .ref kf] H = .ok (.bool true) H' /\ Kept H H' := by
  rw [G_call (d := d__law_form) (by kernel_rfl)]
  refine runDef_P (ρ := [("_law_found", .ref k), ("_law_left", .ref kf)]) (P := fun r => ∃ H', r = .ok (.bool true) H' /\ Kept H H') rfl ?_
  have i0 : isinst (.ref k) "dict" H = some true := by
    have q : isinst (.ref k) "dict" H = (tabAt (.ref k) H).map fun _ => true := rfl
    rw [q, tabAt_of hf]; rfl
  refine ss_if (c := false) (H1 := H) (ev_not (c := true) (ev_isinst (ev_var rfl) i0) rfl) ?_
  show Fin _ (exSs _ (S.for1 _ _ _ :: _) _ _)
  obtain ⟨ρ', H', er, ⟨kp, _, _, _⟩⟩ := forL_all (fun e : Ent => keyV e.1) (fun v ρ1 H2 => exSs (G (n + 2)) (loopAt d__law_form.body 1) (setL "_law_key_here" v ρ1) H2) (sameO (.ref k) H)
    (fun _ b ρ H' => Kept H H' /\ ρ.lookup "_law_found" = some (.ref k) /\ ρ.lookup "_law_left" = some (.ref kf) /\ ∀ e ∈ b, e ∈ f) (fun _ _ _ _ q => same_tab hf (q.1 _ _ hf)) (by
      rintro a e b ρ H' ⟨kp, k1, k2, k3⟩
      have he := k3 e (List.mem_cons_self ..)
      obtain ⟨i, oe⟩ := ok e he
      have hf' := kp _ _ hf
      have c1 : index (.ref k) (keyV e.1) H' = .ok (valV e.2) H' := idx_tab hf' (by rw [tabGet_of, getE_mem (x := e.2) he nd]; rfl)
      obtain ⟨H2, c2, kp2⟩ := c_key n (kp _ _ hleft) lo oe
      refine ss_asg (v := valV e.2) (H1 := H') (by repeat (first | with_reducible (first | assumption | exact setL_self _ _ _ | refine setL_other (by decide) ?_ | exact ev_int _ | exact ev_none | exact ev_bool _ | exact evs_nil | apply evs_cons | apply ev_var | apply ev_tup | apply ev_attr | apply ev_idx | apply ev_not | apply ev_cmp | apply ev_bin2 | apply ev_isinst | apply ev_call (G_hd _) ?_ rfl | apply ev_bi (G_hd _)) | rfl)) ?_
      refine ss_if (c := false) (H1 := H2) (show evOr _ _ _ _ = _ from ev_or (c := false) (H1 := H2) (ev_not (c := true) (ev_call (vs := [keyV e.1, .ref kf]) (H1 := H') (G_hd _) (evs_cons (ev_var (by repeat (first | assumption | with_reducible first | exact setL_self _ _ _ | refine setL_other (by decide) ?_))) (evs_one (ev_var (by repeat (first | assumption | with_reducible first | exact setL_self _ _ _ | refine setL_other (by decide) ?_))))) rfl c2) rfl) (show evOr _ _ _ _ = _ from ev_or (c := false) (H1 := H2) (ev_not (c := true) (ev_isinst (ev_var (setL_self _ _ _)) rfl) rfl) (show evE _ _ _ _ = _ from ev_cmp (ev_bi (v := .int 2) (G_hd _) (evs_one (ev_var (setL_self _ _ _))) rfl) (ev_int 2) rfl))) ?_
      have i1 : index (valV e.2) (.int 0) H2 = .ok (.int e.2.1) H2 := rfl
      have i2 : index (valV e.2) (.int 1) H2 = .ok (optI e.2.2) H2 := rfl
      have c3 := c_whole (n + 1) e.2.1 H2
      have last : evE (G (n + 2)) (setL "_law_value" (valV e.2) (setL "_law_key_here" (keyV e.1) ρ)) (.and [(.cmp (.idx (.var "_law_value") (.int 1)) .isNot .none), (.not (.call "_law_whole" [(.idx (.var "_law_value") (.int 1))]))]) H2 = .ok (.bool false) H2 := by
        refine ev_and (c := !isNoneV (optI e.2.2)) (H1 := H2) (ev_cmp (ev_idx (ev_var (setL_self _ _ _)) (ev_int 1) i2) ev_none (isnt_none _ _)) ?_
        cases hb : e.2.2 with
        | none => rfl
        | some b =>
          rw [hb] at i2
          have c4 := c_whole (n + 1) b H2
          show evE _ _ (.not _) _ = _
          exact ev_not (c := true) (ev_call (vs := [.int b]) (H1 := H2) (G_hd _) (evs_one (ev_idx (ev_var (setL_self _ _ _)) (ev_int 1) i2)) rfl c4) rfl
      show Turns _ (exSs _ (S.iff _ _ _ :: _) _ _)
      refine ss_if (c := false) (H1 := H2) (show evOr _ _ _ _ = _ from ev_or (c := false) (H1 := H2) (ev_not (c := true) (ev_call (vs := [.int e.2.1]) (H1 := H2) (G_hd _) (evs_one (ev_idx (ev_var (setL_self _ _ _)) (ev_int 0) i1)) rfl c3) rfl) last) ?_
      exact Turns.here ⟨kp.trans kp2, (by repeat (first | assumption | with_reducible first | exact setL_self _ _ _ | refine setL_other (by decide) ?_)), (by repeat (first | assumption | with_reducible first | exact setL_self _ _ _ | refine setL_other (by decide) ?_)), fun y hy => k3 y (List.mem_cons_of_mem _ hy)⟩)
    f [("_law_found", .ref k), ("_law_left", .ref kf)] H ⟨Kept.refl _, rfl, rfl, fun _ q => q⟩
  refine ss_for (v := .ref k) (G_hd _) (ev_var rfl) (items_tab hf) er ?_
  rw [RS.bind_next]
  exact ss_ret (ev_bool true) ⟨H', rfl, kp⟩
end
theorem ne_int (a b : Int) (H : Hp) : cmp .ne (.int a) (.int b) H = some (!(a == b)) := by
  have q : cmp .ne (.int a) (.int b) H = (eqV H (.int a) (.int b)).map (!·) := rfl
  rw [q, eqV_of (x := .int a) (y := .int b) rfl rfl rfl]; rfl
theorem eqV_opt (a : Int) (D : Option Int) (H : Hp) : eqV H (.int a) (optI D) = some (decide (D = some a)) := by
  cases D with
  | none => exact eqV_of (x := .int a) (y := .none) rfl rfl rfl
  | some b =>
    refine eqV_of (x := .int a) (y := .int b) rfl rfl ?_
    show (a == b) = _
    rw [Bool.eq_iff_iff, beq_iff_eq, decide_eq_true_eq]
    exact ⟨fun q => congrArg some q.symm, fun q => (Option.some.inj q).symm⟩
theorem eq_opt (a : Int) (D : Option Int) (H : Hp) : cmp .eq (.int a) (optI D) H = some (decide (D = some a)) := eqV_opt a D H
theorem ne_opt (a : Int) (D : Option Int) (H : Hp) : cmp .ne (.int a) (optI D) H = some (!decide (D = some a)) := by
  have q : cmp .ne (.int a) (optI D) H = (eqV H (.int a) (optI D)).map (!·) := rfl
  rw [q, eqV_opt]; rfl
theorem notin_tab {H : Hp} {k ep : Nat} {xs : List (Key × V)} (h : H[k]? = some (.tab xs ep)) (q : Key) : cmp .notIn (keyV q) (.ref k) H = some (!(xs.map (·.1)).contains q) := by
  have e : cmp .notIn (keyV q) (.ref k) H = if (keysAt (.ref k) H).isSome then Option.none else (cmp .isIn (keyV q) (.ref k) H).map (!·) := rfl
  rw [e, keysAt_tab h, in_tab h]; rfl
theorem ev_restT {n : Nat} {ρ : Rho} {H : Hp} {q : Key} (g1 : ρ.lookup "_law_key_here" = some (keyV q)) (g2 : ρ.lookup "_law_last" = some (.int q.2)) (hl : q.1.length <= 100) :
    evE (G n) ρ (.call "tuple" [(.comp (.var "_law_number") "_law_number" (.idx (.var "_law_key_here") (.int 0)) (some (.cmp (.var "_law_number") .ne (.var "_law_last"))))]) H = .ok (.tup ((restOf q).map .int)) (H ++ [.list ((restOf q).map .int)]) := by
  have tf := turns_filter V.int V.int (fun z => !(z == q.2))
    (fun y H2 => (evC (G n) (("_law_number", y) :: ρ) (some (.cmp (.var "_law_number") .ne (.var "_law_last"))) H2).bind fun t H3 => if t then (evE (G n) (("_law_number", y) :: ρ) (.var "_law_number") H3).bind fun w H4 => .ok (some w) H4 else .ok Option.none H3) (sameO (.tup (q.1.map .int)) H) H (fun _ => rfl) q.1 [] (fun z _ ys => by
      have c2 : evE (G n) (("_law_number", .int z) :: ρ) (.cmp (.var "_law_number") .ne (.var "_law_last")) (H ++ [.list ys]) = .ok (.bool (!(z == q.2))) (H ++ [.list ys]) := ev_cmp (ev_var (lookup_here _ _ _)) (ev_var (by rw [lookup_next (by decide)]; exact g2)) (ne_int _ _ _)
      rw [evC_some, c2]
      show (if (!(z == q.2)) = true then _ else _) = _
      cases !(z == q.2) with
      | true => rw [if_pos rfl, ev_var (lookup_here _ _ _)]; rfl
      | false => rfl) (Nat.le_trans (Nat.le_of_eq (Nat.zero_add _)) (Nat.le_trans hl (by decide)))
  exact ev_bi (G_hd _) (evs_one (ev_comp (v := .tup (q.1.map .int)) (G_hd _) (ev_idx (ev_var g1) (ev_int 0) rfl) rfl tf)) (bi_tuple_ref (len_app1 _ _))
section
variable {w : Str} {l p t : Int} {qs : List Q4} {left : List Int} {f : List Ent} {k ks ep : Nat} {H : Hp}
structure GI (w : Str) (l : Int) (k ks : Nat) (rs : List Int) (a b c : Int) (ρ : Rho) : Prop where
  g1 : ρ.lookup "_law_found" = some (.ref k)
  g2 : ρ.lookup "_law_road" = some (.tup [.str w, .int l])
  g3 : ρ.lookup "_law_stops" = some (.ref ks)
  g4 : ρ.lookup "_law_rest" = some (.tup (rs.map .int))
  g5 : ρ.lookup "_law_leaves_here" = some (.int a)
  g6 : ρ.lookup "_law_before" = some (.int b)
  g7 : ρ.lookup "_law_last" = some (.int c)
theorem GI.oth {rs : List Int} {a b c : Int} {ρ ρ' : Rho} {x : String} (g : GI w l k ks rs a b c ρ) (h : Oth x ρ ρ') (hx : "_law_found" ≠ x /\ "_law_road" ≠ x /\ "_law_stops" ≠ x /\ "_law_rest" ≠ x /\ "_law_leaves_here" ≠ x /\ "_law_before" ≠ x /\ "_law_last" ≠ x) : GI w l k ks rs a b c ρ' :=
  ⟨(h _ hx.1).trans g.g1, (h _ hx.2.1).trans g.g2, (h _ hx.2.2.1).trans g.g3, (h _ hx.2.2.2.1).trans g.g4, (h _ hx.2.2.2.2.1).trans g.g5, (h _ hx.2.2.2.2.2.1).trans g.g6, (h _ hx.2.2.2.2.2.2).trans g.g7⟩
theorem back_turn (n : Nat) (hf : H[k]? = some (.tab (f.map entV) ep)) (nd : (f.map (·.1)).Nodup) (hs : H[ks]? = some (.list (qs.map tupQ))) {e : Ent} {b : Int} (fr : From w l qs f e b) (c0 : 0 <= e.1.2) (c1 : e.1.2 < qs.length)
    {z : Int} {ρ : Rho} (z0 : 0 <= z) (z1 : z < qs.length) (g : GI w l k ks (restOf e.1) e.2.1 b e.1.2 ρ) : Turns (fun ρ' H' => H' = H /\ GI w l k ks (restOf e.1) e.2.1 b e.1.2 ρ') (exSs (G (n + 2)) (loopAt d__law_goes_back.body 6) (setL "_law_number" (.int z) ρ) H) := by
  have gz := setL_self "_law_number" (.int z) ρ
  have g := g.oth (oth_set "_law_number" (.int z) ρ) (by decide)
  generalize setL "_law_number" (.int z) ρ = ρ at g gz
  have g1 := g.g1
  have g2 := g.g2
  have g3 := g.g3
  have g4 := g.g4
  have g7 := g.g7
  have t1 : evE (G (n + 2)) ρ (.tup [(.var "_law_rest"), (.var "_law_number")]) H = .ok (keyV (restOf e.1, z)) H := ev_tup (evs_cons (ev_var g4) (evs_one (ev_var gz)))
  have i1 := in_tab hf (restOf e.1, z)
  rw [contains_iff_get] at i1
  have skip : Turns (fun ρ' H' => H' = H /\ GI w l k ks (restOf e.1) e.2.1 b e.1.2 ρ') (exSs (G (n + 2)) [] ρ H) := Turns.here ⟨rfl, g⟩
  show Turns _ (exSs _ (S.iff _ _ _ :: _) _ _)
  by_cases hzb : z <= b
  · have a1 := cmp_le z b H
    rw [decide_eq_true hzb] at a1
    refine ss_if (show evAnd _ _ _ _ = _ from ev_and (c := true) (ev_cmp (ev_var gz) (ev_var g.g6) a1) (show evE _ _ _ _ = _ from ev_cmp t1 (ev_var g1) i1)) ?_
    cases hg : getE f (restOf e.1, z) with
    | none => exact skip
    | some y =>
      obtain ⟨qz, hqz⟩ := some_of_lt z0 z1
      obtain ⟨ql, hql⟩ := some_of_lt c0 c1
      have j1 : index (.ref k) (keyV (restOf e.1, z)) H = .ok (valV y) H := idx_tab hf (by rw [tabGet_of, hg]; rfl)
      have j2 : index (valV y) (.int 0) H = .ok (.int y.1) H := rfl
      have j3 := stop_at hs z0 hqz
      have j4 := tq_0 qz H
      have j5 := stop_at hs c0 hql
      have j6 := c_leaves n w l qz.1 y.1 ql H
      have nx : nextT w l qs ((restOf e.1, z), y) e.1.2 = leavesI w l qz.1 y.1 ql := by unfold nextT; rw [hqz, hql]
      show Turns _ (exSs _ (S.asg _ _ :: _) _ _)
      refine ss_asgA (ev_call (vs := [.tup [.str w, .int l], .int qz.1, .int y.1, tupQ ql]) (H1 := H) (G_hd _) (evs_cons (ev_var g2) (evs_cons (ev_idx (ev_idx (ev_var g3) (ev_var gz) j3) (ev_int 0) j4) (evs_cons (ev_idx (ev_idx (ev_var g1) t1 j1) (ev_int 0) j2) (evs_one (ev_idx (ev_var g3) (ev_var g7) j5))))) rfl j6) fun ρ2 gd s2 => ?_
      have gz2 := (s2 _ (by decide)).trans gz
      have G2 := g.oth s2 (by decide)
      rw [<- nx] at gd
      have hm := getE_some hg
      have k1 := ne_opt e.2.1 (nextT w l qs ((restOf e.1, z), y) e.1.2) H
      have k2 := eq_opt e.2.1 (nextT w l qs ((restOf e.1, z), y) e.1.2) H
      have tst : evE (G (n + 2)) ρ2 (.or [(.and [(.cmp (.var "_law_number") .eq (.var "_law_before")), (.cmp (.var "_law_leaves_here") .ne (.var "_law_due"))]), (.and [(.cmp (.var "_law_number") .lt (.var "_law_before")), (.cmp (.var "_law_leaves_here") .eq (.var "_law_due"))])]) H = .ok (.bool false) H := by
        have u1 := ev_cmp (Γ := G (n + 2)) (ev_var gz2) (ev_var G2.g6) (cmp_eq_int z b H)
        have u2 := ev_cmp (Γ := G (n + 2)) (ev_var gz2) (ev_var G2.g6) (cmp_lt z b H)
        by_cases hq : z = b
        · obtain ⟨x, hx, hv⟩ := fr.there
          have e1 : y = x := Option.some.inj (hg.symm.trans (by rw [hq]; exact getE_mem hx nd))
          rw [<- hq, <- e1] at hv
          rw [hv, decide_eq_true rfl] at k1
          rw [beq_iff_eq.mpr hq] at u1
          rw [decide_eq_false (Int.not_lt.mpr (Int.le_of_eq hq.symm))] at u2
          rw [hv] at gd
          exact ev_or (c := false) (show evAnd _ _ _ _ = _ from ev_and (c := true) u1 (show evE _ _ _ _ = _ from ev_cmp (ev_var G2.g5) (ev_var gd) k1)) (show evAnd _ _ _ _ = _ from ev_and (c := false) u2 rfl)
        · have hlt : z < b := Int.lt_iff_le_and_ne.mpr ⟨hzb, hq⟩
          rw [beq_eq_false_iff_ne.mpr hq] at u1
          rw [decide_eq_true hlt] at u2
          rw [decide_eq_false (fun q => by have := fr.least z y _ hm q; omega)] at k2
          exact ev_or (c := false) (show evAnd _ _ _ _ = _ from ev_and (c := false) u1 rfl) (show evAnd _ _ _ _ = _ from ev_and (c := true) u2 (show evE _ _ _ _ = _ from ev_cmp (ev_var G2.g5) (ev_var gd) k2))
      show Turns _ (exSs _ (S.iff _ _ _ :: _) _ _)
      exact ss_if (c := false) tst (Turns.here ⟨rfl, G2⟩)
  · have a1 := cmp_le z b H
    rw [decide_eq_false hzb] at a1
    exact ss_if (c := false) (show evAnd _ _ _ _ = _ from ev_and (c := false) (ev_cmp (ev_var gz) (ev_var g.g6) a1) rfl) skip
theorem c_back (n : Nat) (hf : H[k]? = some (.tab (f.map entV) ep)) (nd : (f.map (·.1)).Nodup) (hs : H[ks]? = some (.list (qs.map tupQ))) (lo : LeftOk qs.length left) {e : Ent} {i : Nat} (he : e ∈ f) (ok : EntOk left i e) (bk : Back w l qs p t f e) :
    ∃ H', (G (n + 3)).call "_law_goes_back" [.ref k, .tup [.str w, .int l], .int p, .int t, .ref ks, keyV e.1] H = .ok (.bool true) H' /\ Kept H H' := by
  rw [G_call (d := d__law_goes_back) (by kernel_rfl)]
  refine runDef_P (ρ := [("_law_found", .ref k), ("_law_road", .tup [.str w, .int l]), ("_law_place", .int p), ("_law_time", .int t), ("_law_stops", .ref ks), ("_law_key_here", keyV e.1)]) (P := fun r => ∃ H', r = .ok (.bool true) H' /\ Kept H H') rfl ?_
  have j1 : index (.ref k) (keyV e.1) H = .ok (valV e.2) H := idx_tab hf (by rw [tabGet_of, getE_mem (x := e.2) he nd]; rfl)
  refine ss_asg (v := .int e.2.1) (H1 := H) (ev_idx (ev_idx (ev_var rfl) (ev_var rfl) j1) (ev_int 0) rfl) ?_
  refine ss_asg (v := optI e.2.2) (H1 := H) (ev_idx (ev_idx (ev_var rfl) (ev_var rfl) j1) (ev_int 1) rfl) ?_
  refine ss_asg (v := .int e.1.2) (H1 := H) (ev_idx (ev_var rfl) (ev_int 1) rfl) ?_
  refine ss_asg (ev_restT (q := e.1) rfl rfl (by rw [ok.len]; exact Nat.le_trans (ok.le7 lo) (by decide))) ?_
  have kp := Kept.app H [.list ((restOf e.1).map .int)]
  generalize H ++ [O.list ((restOf e.1).map .int)] = H1 at kp ⊢
  have hf1 := kp _ _ hf
  have hs1 := kp _ _ hs
  have c0 := lo.low _ (ok.sub _ ok.last)
  have c1 := lo.high _ (ok.sub _ ok.last)
  refine ss_if (ev_cmp (ev_bi (v := .int ((restOf e.1).map V.int).length) (G_hd _) (evs_one (ev_var rfl)) rfl) (ev_int 0) (cmp_eq_int _ _ _)) ?_
  rw [List.length_map]
  rcases bk with ⟨hr, hb, q, hq, hv⟩ | ⟨hr, b, fr⟩
  · rw [hr, hb]
    have j5 := stop_at hs1 c0 hq
    have j6 := c_leaves n w l p t q H1
    have k2 := eq_opt e.2.1 (leavesI w l p t q) H1
    rw [decide_eq_true hv] at k2
    exact ss_ret (v := .bool true) (show evAnd _ _ _ _ = _ from ev_and (c := true) (H1 := H1) rfl (show evE _ _ _ _ = _ from ev_cmp (ev_var rfl) (ev_call (vs := [.tup [.str w, .int l], .int p, .int t, tupQ q]) (H1 := H1) (G_hd _) (evs_cons (ev_var rfl) (evs_cons (ev_var rfl) (evs_cons (ev_var rfl) (evs_one (ev_idx (ev_var rfl) (ev_var rfl) j5))))) rfl j6) k2)) ⟨H1, rfl, kp⟩
  · have hne : (((restOf e.1).length : Int) == 0) = false := beq_eq_false_iff_ne.mpr fun q => hr (List.length_eq_zero_iff.mp (Int.ofNat_eq_zero.mp q))
    rw [hne, fr.before]
    obtain ⟨x, hx, _⟩ := fr.there
    have i1 := notin_tab hf1 (restOf e.1, b)
    rw [contains_iff_get, getE_mem hx nd] at i1
    show Fin _ (exSs _ (S.iff _ _ _ :: _) _ _)
    refine ss_if (c := false) (H1 := H1) (show evOr _ _ _ _ = _ from ev_or (c := false) (H1 := H1) rfl (show evE _ _ _ _ = _ from ev_cmp (v := .ref k) (ev_tup (evs_cons (ev_var rfl) (evs_one (ev_var rfl)))) (ev_var rfl) i1)) ?_
    show Fin _ (exSs _ (S.for1 _ _ _ :: _) _ _)
    obtain ⟨ρ', H', er, rfl, _⟩ := forL_all V.int (fun v ρ1 H2 => exSs (G (n + 2)) (loopAt d__law_goes_back.body 6) (setL "_law_number" v ρ1) H2) (sameO (.tup ((restOf e.1).map .int)) H1)
      (fun _ r ρ H' => H' = H1 /\ GI w l k ks (restOf e.1) e.2.1 b e.1.2 ρ /\ ∀ z ∈ r, z ∈ restOf e.1) (fun _ _ _ _ _ => rfl) (by
        rintro a z r ρ H' ⟨rfl, g, hz⟩
        have zl := ok.sub z (List.mem_filter.mp (hz z (List.mem_cons_self ..))).1
        obtain ⟨ρ2, H2, e2, e3, e4⟩ := back_turn n hf1 nd hs1 fr c0 c1 (lo.low z zl) (lo.high z zl) g
        exact ⟨ρ2, H2, e2, e3, e4, fun y hy => hz y (List.mem_cons_of_mem _ hy)⟩) (restOf e.1) (setL "_law_rest" (.tup ((restOf e.1).map .int)) (setL "_law_last" (.int e.1.2) (setL "_law_before" (optI (some b)) (setL "_law_leaves_here" (.int e.2.1) [("_law_found", .ref k), ("_law_road", .tup [.str w, .int l]), ("_law_place", .int p), ("_law_time", .int t), ("_law_stops", .ref ks), ("_law_key_here", keyV e.1)])))) H1 ⟨rfl, ⟨rfl, rfl, rfl, rfl, rfl, rfl, rfl⟩, fun _ q => q⟩
    refine ss_for (v := .tup ((restOf e.1).map .int)) (G_hd _) (ev_var rfl) rfl er ?_
    rw [RS.bind_next]
    exact ss_ret (ev_bool true) ⟨_, rfl, kp⟩
end
noncomputable def datQ (q : Q4) : PyData := .tuple [.int q.1, .int q.2.1, .int q.2.2.1, .int q.2.2.2]
theorem mapM_q (H : Hp) : ∀ qs : List Q4, (qs.map tupQ).mapM (snap 7 H) = some (qs.map datQ)
  | [] => rfl
  | q :: qs => by rw [List.map_cons, List.mapM_cons, mapM_q H qs]; rfl
theorem eqvAll_q : ∀ qs : List Q4, PyData.eqvAll (qs.map datQ) (qs.map datQ) = true
  | [] => rfl
  | q :: qs => by
    have e : PyData.eqvAll ((q :: qs).map datQ) ((q :: qs).map datQ) = (((q.1 == q.1) && ((q.2.1 == q.2.1) && ((q.2.2.1 == q.2.2.1) && ((q.2.2.2 == q.2.2.2) && true)))) && PyData.eqvAll (qs.map datQ) (qs.map datQ)) := rfl
    rw [e, eqvAll_q qs, beq_self_eq_true, beq_self_eq_true, beq_self_eq_true, beq_self_eq_true]; rfl
theorem snap_q {H : Hp} {k : Nat} {qs : List Q4} (h : H[k]? = some (.list (qs.map tupQ))) : snap 8 H (.ref k) = some (.list (qs.map datQ)) := by
  have q : snap 8 H (.ref k) = (listAt (.ref k) H).bind fun vs => (vs.mapM (snap 7 H)).map .list := rfl
  rw [q, listAt_of h]
  show ((qs.map tupQ).mapM (snap 7 H)).map PyData.list = _
  rw [mapM_q]; rfl
theorem ne_of {a b : V} {H : Hp} {x : PyData} (ha : snap 8 H a = some x) (hb : snap 8 H b = some x) (h : PyData.eqv x x = true) : cmp .ne a b H = some false := by
  have q : cmp .ne a b H = (eqV H a b).map (!·) := rfl
  rw [q, eqV_of ha hb h]; rfl
theorem ne_day (w : Str) (l h s : Int) (H : Hp) : cmp .ne (.tup [.tup [.str w, .int l], .int h, .int s]) (.tup [.tup [.str w, .int l], .int h, .int s]) H = some false := ne_of (x := .tuple [.tuple [.str w, .int l], .int h, .int s]) rfl rfl (by
  have e : PyData.eqv (.tuple [.tuple [.str w, .int l], .int h, .int s]) (.tuple [.tuple [.str w, .int l], .int h, .int s]) = (((w == w) && ((l == l) && true)) && ((h == h) && ((s == s) && true))) := rfl
  rw [e, beq_self_eq_true, beq_self_eq_true, beq_self_eq_true, beq_self_eq_true]; rfl)
theorem keys_ok {m : Nat} {left : List Int} {f : List Ent} (lo : LeftOk m left) (ok : ∀ e ∈ f, ∃ i, EntOk left i e) : keysOk (f.map entV) = true := by
  unfold keysOk
  rw [List.all_eq_true]
  intro y hy
  obtain ⟨e, he, rfl⟩ := List.mem_map.mp hy
  obtain ⟨i, q⟩ := ok e he
  refine List.contains_iff_mem.mpr (List.mem_flatMap.mpr ⟨e.1.1, mem_subs (rise_upto 7 0 _ q.rise fun d hd => ?_), List.mem_map.mpr ⟨e.1.2, q.last, rfl⟩⟩)
  exact ⟨lo.low d (q.sub d hd), Int.lt_of_lt_of_le (lo.high d (q.sub d hd)) (Int.ofNat_le.mpr lo.m7)⟩
theorem dict_of {H : Hp} {k ep : Nat} {xs : List (Key × V)} (h : H[k]? = some (.tab xs ep)) (ok : keysOk xs = true) : biDict (.ref k) H = .ok (.ref H.length) (H ++ [.tab xs (tabMEp [] xs 0)]) := by
  unfold biDict
  rw [tabAt_of h]
  exact if_pos ok
theorem clear_of {H : Hp} {k ep : Nat} {xs : List (Key × V)} (h : H[k]? = some (.tab xs ep)) : meth (.ref k) "clear" [] H = .ok .none (H.set k (.tab [] (ep + 1))) := by
  have q : meth (.ref k) "clear" [] H = (match tabAt (.ref k) H with | some p => .ok .none (H.set k (.tab [] (p.2 + 1))) | Option.none => .stuck) := rfl
  rw [q, tabAt_of h]
theorem eq_tab {H : Hp} {i j ep ep' : Nat} {f : List Ent} (h : H[i]? = some (.tab (f.map entV) ep)) (h2 : H[j]? = some (.tab (f.map entV) ep')) : cmp .eq (.ref i) (.ref j) H = some true := by
  have q : cmp .eq (.ref i) (.ref j) H = eqT H (.ref i) (.ref j) := rfl
  rw [q, eqT, tabAt_of h, tabAt_of h2]
  refine if_pos ⟨rfl, List.all_eq_true.mpr fun y hy => ?_⟩
  obtain ⟨e, he, rfl⟩ := List.mem_map.mp hy
  show (snap 8 H (.tup [.int e.2.1, optI e.2.2])).isSome = true
  cases e.2.2 <;> rfl
section
variable {w : Str} {l h s : Int} {qs : List Q4} {d dn k : Nat} {H : Hp}
structure RI (w : Str) (l h s : Int) (d ks o ha kt : Nat) (ρ : Rho) : Prop where
  g1 : ρ.lookup "_law_day" = some (.ref d)
  g2 : ρ.lookup "_law_road" = some (.tup [.str w, .int l])
  g3 : ρ.lookup "_law_home" = some (.int h)
  g4 : ρ.lookup "_law_start" = some (.int s)
  g5 : ρ.lookup "_law_stops" = some (.ref ks)
  g6 : ρ.lookup "_law_begun" = some (.ref o)
  g7 : ρ.lookup "_law_handed" = some (.ref ha)
  g8 : ρ.lookup "_law_found" = some (.ref kt)
theorem RI.oth {ks o ha kt : Nat} {ρ ρ' : Rho} {x : String} (g : RI w l h s d ks o ha kt ρ) (q : Oth x ρ ρ') (hx : "_law_day" ≠ x /\ "_law_road" ≠ x /\ "_law_home" ≠ x /\ "_law_start" ≠ x /\ "_law_stops" ≠ x /\ "_law_begun" ≠ x /\ "_law_handed" ≠ x /\ "_law_found" ≠ x) : RI w l h s d ks o ha kt ρ' :=
  ⟨(q _ hx.1).trans g.g1, (q _ hx.2.1).trans g.g2, (q _ hx.2.2.1).trans g.g3, (q _ hx.2.2.2.1).trans g.g4, (q _ hx.2.2.2.2.1).trans g.g5, (q _ hx.2.2.2.2.2.1).trans g.g6, (q _ hx.2.2.2.2.2.2.1).trans g.g7, (q _ hx.2.2.2.2.2.2.2).trans g.g8⟩
theorem c_right (n : Nat) (x : DayAt w l h s qs d dn k H) {ks o : Nat} {os : List Int} (hs : H[ks]? = some (.list (qs.map tupQ))) (ho : H[o]? = some (.list (os.map .int))) (ok : Ord qs.length os) (h7 : qs.length <= 7) :
    ∃ H', (G (n + 6)).call "_law_right" [.ref d, .tup [.str w, .int l], .int h, .int s, .ref ks, .ref o] H = .ok (.bool true) H' /\ Kept H H' := by
  rw [G_call (d := d__law_right) (by kernel_rfl)]
  refine runDef_P (ρ := [("_law_day", .ref d), ("_law_road", .tup [.str w, .int l]), ("_law_home", .int h), ("_law_start", .int s), ("_law_stops", .ref ks), ("_law_begun", .ref o)]) (P := fun r => ∃ H', r = .ok (.bool true) H' /\ Kept H H') rfl ?_
  refine ss_asg (ev_bi (G_hd _) (evs_one (ev_var rfl)) (bi_list_ref ho)) ?_
  have kp0 := Kept.app H [.list (os.map .int)]
  have ha := len_app1 H (.list (os.map .int))
  have la : H.length < (H ++ [O.list (os.map .int)]).length := by rw [List.length_append, List.length_singleton]; exact Nat.lt_succ_self _
  generalize H ++ [O.list (os.map .int)] = H0 at kp0 ha la ⊢
  have tabl := fun {Hx : Hp} (kp : Kept H0 Hx) => c_table n (x.kept (kp0.trans kp)) (kp _ _ ha) ok h7 (Came w l qs (leftOf qs.length os)) (fun p t => came_first) (fun p t j f lv sh c _ => came_next sh c)
  obtain ⟨kt, H1, e1, kp1, lk1, ta⟩ := tabl (Kept.refl H0)
  refine ss_asg (ev_call (vs := [.ref d, .ref H.length]) (H1 := H0) (G_hd _) (evs_cons (ev_var rfl) (evs_one (ev_var rfl))) rfl e1) ?_
  have g : RI w l h s d ks o H.length kt (setL "_law_found" (.ref kt) (setL "_law_handed" (.ref H.length) [("_law_day", .ref d), ("_law_road", .tup [.str w, .int l]), ("_law_home", .int h), ("_law_start", .int s), ("_law_stops", .ref ks), ("_law_begun", .ref o)])) := ⟨rfl, rfl, rfl, rfl, rfl, rfl, rfl, rfl⟩
  generalize setL "_law_found" (.ref kt) (setL "_law_handed" (.ref H.length) [("_law_day", .ref d), ("_law_road", .tup [.str w, .int l]), ("_law_home", .int h), ("_law_start", .int s), ("_law_stops", .ref ks), ("_law_begun", .ref o)]) = ρ at g ⊢
  have kp01 := kp0.trans kp1
  have x1 := x.kept kp01
  have hs1 := kp01 _ _ hs
  have ho1 := kp01 _ _ ho
  refine ss_if (c := false) (H1 := H1) (show evOr _ _ _ _ = _ from ev_or (c := false) (H1 := H1) (ev_cmp (ev_var g.g7) (ev_var g.g6) (ne_list (kp1 _ _ ha) ho1)) (show evOr _ _ _ _ = _ from ev_or (c := false) (H1 := H1) (ev_cmp (ev_attr (ev_var g.g1) x1.stops) (ev_var g.g5) (ne_of (snap_q x1.list) (snap_q hs1) (eqvAll_q qs))) (show evE _ _ _ _ = _ from ev_cmp (ev_tup (evs_cons (ev_attr (ev_var g.g1) x1.road) (evs_cons (ev_attr (ev_var g.g1) x1.home) (evs_one (ev_attr (ev_var g.g1) x1.start))))) (ev_tup (evs_cons (ev_var g.g2) (evs_cons (ev_var g.g3) (evs_one (ev_var g.g4))))) (ne_day w l h s H1)))) ?_
  have e2 := c_behind (w := w) (l := l) (h := h) (s := s) (n + 2) hs1 ho1 ok
  show Fin _ (exSs _ (S.asg _ _ :: _) _ _)
  refine ss_asgA (ev_call (vs := [.tup [.str w, .int l], .int h, .int s, .ref ks, .ref o]) (H1 := H1) (G_hd _) (evs_cons (ev_var g.g2) (evs_cons (ev_var g.g3) (evs_cons (ev_var g.g4) (evs_cons (ev_var g.g5) (evs_one (ev_var g.g6)))))) rfl e2) fun ρ1 ga s1 => ?_
  have g := g.oth s1 (by decide)
  refine ss_if (ev_cmp (ev_var ga) ev_none (is_none _ _)) ?_
  have inst : ∀ {xs ep}, H1[kt]? = some (.tab xs ep) -> isinst (.ref kt) "dict" H1 = some true := fun hh => by
    have q : isinst (.ref kt) "dict" H1 = (tabAt (.ref kt) H1).map fun _ => true := rfl
    rw [q, tabAt_of hh]; rfl
  cases hb : behindI w l qs os h s with
  | none =>
    rw [hb] at ta
    exact ss_ret (v := .bool true) (H1 := H1) (show evAnd _ _ _ _ = _ from ev_and (c := true) (H1 := H1) (ev_isinst (ev_var g.g8) (inst ta)) (show evE _ _ _ _ = _ from ev_cmp (ev_bi (G_hd _) (evs_one (ev_var g.g8)) (len_tab ta)) (ev_int 0) rfl)) ⟨H1, rfl, kp01⟩
  | some pt =>
    rw [hb] at ta ga
    dsimp only at ta
    obtain ⟨f, j, ep, hf, sh, cm, bk⟩ := ta
    rw [List.append_nil] at bk
    have nd := sh.nodup
    have all := sh.all
    rw [List.append_nil] at nd all
    have lo := left_ok (m := qs.length) os h7
    have b4 := bi_len_ref hs1
    rw [List.length_map] at b4
    have kp2 := Kept.app H1 [.list ((leftOf qs.length os).map .int)]
    have e3 := ev_leftL (n := n + 5) (os := os) (m := qs.length) (x := "_law_number") (b := "_law_begun") (by decide) g.g6 ho1 (Nat.le_trans h7 (by decide)) (ev_bi (G_hd _) (evs_one (ev_var g.g5)) b4)
    have hl2 := len_app1 H1 (.list ((leftOf qs.length os).map .int))
    generalize H1 ++ [O.list ((leftOf qs.length os).map .int)] = H2 at kp2 e3 hl2
    obtain ⟨H3, e4, kp3⟩ := c_form (n + 2) (kp2 _ _ hf) hl2 lo all nd
    show Fin _ (exSs _ (S.iff _ _ _ :: _) _ _)
    refine ss_if (c := false) (H1 := H3) (ev_not (c := true) (ev_call (vs := [.ref kt, .ref H1.length]) (H1 := H2) (G_hd _) (evs_cons (ev_var g.g8) (evs_one e3)) rfl e4) rfl) ?_
    have kp13 := kp2.trans kp3
    have hf3 := kp13 _ _ hf
    have hs3 := kp13 _ _ hs1
    obtain ⟨ρ2, H4, er, kp4, g', _⟩ := forL_all (fun e : Ent => keyV e.1) (fun v ρ1 H2 => exSs (G (n + 5)) (loopAt d__law_right.body 6) (setL "_law_key_here" v ρ1) H2) (sameO (.ref kt) H3)
      (fun _ b ρ H' => Kept H3 H' /\ RI w l h s d ks o H.length kt ρ /\ ρ.lookup "_law_at" = some (placeV (some pt)) /\ ∀ e ∈ b, e ∈ f) (fun _ _ _ _ q => same_tab hf3 (q.1 _ _ hf3)) (by
        rintro a e b ρ H' ⟨kp, g, ga, hb⟩
        have he := hb e (List.mem_cons_self ..)
        obtain ⟨i, oe⟩ := all e he
        obtain ⟨H5, e5, kp5⟩ := c_back (n + 2) (kp _ _ hf3) nd (kp _ _ hs3) lo he oe (bk e he)
        have g := g.oth (oth_set "_law_key_here" (keyV e.1) ρ) (by decide)
        have gk := setL_self "_law_key_here" (keyV e.1) ρ
        have ga : (setL "_law_key_here" (keyV e.1) ρ).lookup "_law_at" = some (placeV (some pt)) := setL_other (by decide) ga
        refine ss_if (c := false) (H1 := H5) (ev_not (c := true) (ev_call (vs := [.ref kt, .tup [.str w, .int l], .int pt.1, .int pt.2, .ref ks, keyV e.1]) (H1 := H') (G_hd _) (evs_cons (ev_var g.g8) (evs_cons (ev_var g.g2) (evs_cons (ev_idx (ev_var ga) (ev_int 0) rfl) (evs_cons (ev_idx (ev_var ga) (ev_int 1) rfl) (evs_cons (ev_var g.g5) (evs_one (ev_var gk))))))) rfl e5) rfl) ?_
        exact Turns.here ⟨kp.trans kp5, g, ga, fun y hy => hb y (List.mem_cons_of_mem _ hy)⟩) f ρ1 H3 ⟨Kept.refl _, g, ga, fun _ q => q⟩
    show Fin _ (exSs _ (S.for1 _ _ _ :: _) _ _)
    refine ss_for (v := .ref kt) (G_hd _) (ev_var g.g8) (items_tab hf3) er ?_
    rw [RS.bind_next]
    have hf4 := kp4 _ _ hf3
    have d1 := dict_of hf4 (keys_ok lo all)
    have e6 : evE (G (n + 5)) ρ2 (.dictOf (.var "_law_found")) H4 = .ok (.ref H4.length) (H4 ++ [.tab (f.map entV) (tabMEp [] (f.map entV) 0)]) := by rw [evE_dictOf, ev_var g'.g8, R.bind_ok, G_hd, if_neg Bool.false_ne_true, d1]
    show Fin _ (exSs _ (S.asg _ _ :: _) _ _)
    refine ss_asgA e6 fun ρ3 gk s3 => ?_
    have g := g'.oth s3 (by decide)
    have kp5 := Kept.app H4 [.tab (f.map entV) (tabMEp [] (f.map entV) 0)]
    have hk5 := len_app1 H4 (.tab (f.map entV) (tabMEp [] (f.map entV) 0))
    generalize H4 ++ [O.tab (f.map entV) (tabMEp [] (f.map entV) 0)] = H5 at kp5 hk5 ⊢
    have hf5 := kp5 _ _ hf4
    refine ss_expr (ev_meth (ev_var g.g8) (kind_tab hf5) evs_nil (clear_of hf5)) ?_
    have kp05 := kp1.trans (kp13.trans (kp4.trans kp5))
    have kp6 : Kept H0 (H5.set kt (.tab [] (ep + 1))) := kp05.set lk1 _
    have hk6 : (H5.set kt (O.tab [] (ep + 1)))[H4.length]? = some (.tab (f.map entV) (tabMEp [] (f.map entV) 0)) := by
      rw [List.getElem?_set_ne (Nat.ne_of_lt (List.getElem?_eq_some_iff.mp hf4).1)]; exact hk5
    generalize H5.set kt (O.tab [] (ep + 1)) = H6 at kp6 hk6 ⊢
    obtain ⟨kt2, H7, e7, kp7, _, ta2⟩ := tabl kp6
    rw [hb] at ta2
    obtain ⟨f2, j2, ep2, hf2, _, cm2, _⟩ := ta2
    cases levs_one cm cm2
    exact ss_ret (v := .bool true) (H1 := H7) (ev_cmp (ev_call (vs := [.ref d, .ref H.length]) (H1 := H6) (G_hd _) (evs_cons (ev_var g.g1) (evs_one (ev_var g.g7))) rfl e7) (ev_var gk) (eq_tab hf2 (kp7 _ _ hk6))) ⟨H7, rfl, kp0.trans (kp6.trans kp7)⟩
end
theorem quads {w : Str} {l : Int} : ∀ vs : List V, (∀ v ∈ vs, ∃ p o c s, v = .tup [.int p, .int o, .int c, .int s] /\ StopOk w l p o c s) -> ∃ qs : List Q4, vs = qs.map tupQ /\ ∀ q ∈ qs, StopOk w l q.1 q.2.1 q.2.2.1 q.2.2.2
  | [], _ => ⟨[], rfl, fun _ q => nomatch q⟩
  | v :: vs, h => by
    obtain ⟨p, o, c, s, rfl, ok⟩ := h v (List.mem_cons_self ..)
    obtain ⟨qs, rfl, oks⟩ := quads vs fun u hu => h u (List.mem_cons_of_mem _ hu)
    refine ⟨(p, o, c, s) :: qs, rfl, fun q hq => ?_⟩
    rcases List.mem_cons.mp hq with rfl | hq
    · exact ok
    · exact oks q hq
theorem ev_neg {n : Nat} {ρ : Rho} {H : Hp} (i : Int) : evE (G n) ρ (.neg (.int i)) H = .ok (.int (-i)) H := rfl
theorem Ord.perm {m : Nat} {os zs : List Int} (ok : Ord m os) (p : zs.Perm os) : Ord m zs := ⟨fun z hz => ok.low z (p.mem_iff.mp hz), fun z hz => ok.high z (p.mem_iff.mp hz), p.nodup_iff.mpr ok.nodup, p.length_eq ▸ ok.few⟩
noncomputable def cutG {α : Type} (xs : List α) (a b : Option Int) : List α := (xs.drop (a.elim 0 (clipV xs.length))).take (b.elim xs.length (clipV xs.length) - a.elim 0 (clipV xs.length))
theorem cut_map (os : List Int) (a b : Option Int) : cutL (os.map .int) a b = (cutG os a b).map .int := by
  unfold cutL cutG; rw [List.length_map, List.map_take, List.map_drop]
theorem slice_g {os : List Int} {i : Nat} {H : Hp} {l u : V} {a b : Option Int} (h : H[i]? = some (.list (os.map .int))) (ha : intO l = some a) (hb : intO u = some b) : sliceV (.ref i) l u H = .ok (.ref H.length) (H ++ [.list ((cutG os a b).map .int)]) := by
  unfold sliceV
  rw [listAt_of h, ha, hb, <- cut_map]; rfl
theorem swap_perm : ∀ os : List Int, ((cutG os (some 1) (some 2) ++ cutG os Option.none (some 1)) ++ cutG os (some 2) Option.none).Perm os
  | [] => List.Perm.refl _
  | [x] => List.Perm.refl _
  | x :: y :: r => by
    have c1 : clipV (x :: y :: r).length 1 = 1 := clip_nat (k := 1) (Nat.succ_le_succ (Nat.zero_le _))
    have c2 : clipV (x :: y :: r).length 2 = 2 := clip_nat (k := 2) (Nat.succ_le_succ (Nat.succ_le_succ (Nat.zero_le _)))
    have q1 : cutG (x :: y :: r) (some 1) (some 2) = [y] := by
      show List.take (clipV (x :: y :: r).length 2 - clipV (x :: y :: r).length 1) (List.drop (clipV (x :: y :: r).length 1) (x :: y :: r)) = _
      rw [c1, c2]; rfl
    have q2 : cutG (x :: y :: r) Option.none (some 1) = [x] := by
      show List.take (clipV (x :: y :: r).length 1 - 0) (x :: y :: r) = _
      rw [c1]; rfl
    have q3 : cutG (x :: y :: r) (some 2) Option.none = r := by
      show List.take ((x :: y :: r).length - clipV (x :: y :: r).length 2) (List.drop (clipV (x :: y :: r).length 2) (x :: y :: r)) = _
      rw [c2]; exact List.take_length
    rw [q1, q2, q3]
    exact List.Perm.swap x y r
theorem cut_len {os : List Int} (a b : Option Int) : (cutG os a b).length <= os.length := by
  unfold cutG; rw [List.length_take, List.length_drop]; exact Nat.le_trans (Nat.min_le_right _ _) (Nat.sub_le _ _)
theorem neg_idx {os : List Int} {o : Nat} {H : Hp} {z : Int} (ho : H[o]? = some (.list (os.map .int))) (h0 : 0 <= z) (h1 : z < os.length) : index (.ref o) (.int (-1 - z)) H = .ok (.int (os.reverse.getD z.toNat 0)) H := by
  have hlt : z.toNat < os.length := (Int.toNat_lt h0).mpr h1
  have e : -1 - z = -((z.toNat + 1 : Nat) : Int) := by rw [Int.natCast_succ, Int.toNat_of_nonneg h0, Int.neg_add, Int.sub_eq_add_neg, Int.add_comm]
  have hp : place (-1 - z) (os.map V.int).length = some (os.length - 1 - z.toNat) := by
    unfold place
    rw [List.length_map, e, if_neg (Int.not_le.mpr (Int.neg_neg_of_pos (Int.ofNat_lt.mpr (Nat.succ_pos _)))), if_pos (Int.neg_le_neg (Int.ofNat_le.mpr hlt))]
    rw [Int.add_comm, <- Int.sub_eq_add_neg, <- Int.ofNat_sub hlt, Int.toNat_natCast, Nat.sub_sub, Nat.add_comm 1]
  have q : index (.ref o) (.int (-1 - z)) H = (match listAt (.ref o) H with | some xs => itemAt xs (-1 - z) H | Option.none => .stuck) := rfl
  rw [q, listAt_of ho]
  dsimp only
  unfold itemAt
  rw [hp, Option.bind_some, List.getElem?_map, <- List.getElem?_reverse hlt, List.getD_eq_getElem?_getD]
  rw [List.getElem?_eq_getElem (by rw [List.length_reverse]; exact hlt)]; rfl
theorem rev_map (os : List Int) : (rangeI os.length).map (fun z => V.int (os.reverse.getD z.toNat 0)) = os.reverse.map .int := by
  unfold rangeI
  rw [List.map_map]
  refine List.ext_getElem (by rw [List.length_map, List.length_map, List.length_range, List.length_reverse]) fun i h1 h2 => ?_
  rw [List.length_map] at h2
  rw [List.getElem_map, List.getElem_map, List.getElem_range]
  show V.int (os.reverse.getD ((i : Int)).toNat 0) = _
  rw [Int.toNat_natCast, List.getD_eq_getElem?_getD, List.getElem?_eq_getElem h2]; rfl
theorem ev_rev {n : Nat} {ρ : Rho} {H : Hp} {o : Nat} {os : List Int} (gb : ρ.lookup "_law_begun" = some (.ref o)) (ho : H[o]? = some (.list (os.map .int))) (hm : os.length <= 100) :
    evE (G n) ρ (.comp (.idx (.var "_law_begun") (.bin .sub (.neg (.int 1)) (.var "_law_k"))) "_law_k" (.call "range" [(.call "len" [(.var "_law_begun")])]) Option.none) H = .ok (.ref H.length) (H ++ [.list (os.reverse.map .int)]) := by
  have tf := turns_filter V.int (fun z => V.int (os.reverse.getD z.toNat 0)) (fun _ => true)
    (fun y H2 => (evC (G n) (("_law_k", y) :: ρ) Option.none H2).bind fun t H3 => if t then (evE (G n) (("_law_k", y) :: ρ) (.idx (.var "_law_begun") (.bin .sub (.neg (.int 1)) (.var "_law_k"))) H3).bind fun w H4 => .ok (some w) H4 else .ok Option.none H3) (sameO (.rng 0 os.length 1) H) H (fun _ => rfl) (rangeI os.length) [] (fun z hz ys => by
      have hz := mem_rangeI.mp hz
      have c2 : evE (G n) (("_law_k", .int z) :: ρ) (.idx (.var "_law_begun") (.bin .sub (.neg (.int 1)) (.var "_law_k"))) (H ++ [.list ys]) = .ok (.int (os.reverse.getD z.toNat 0)) (H ++ [.list ys]) := ev_idx (ev_var (by rw [lookup_next (by decide)]; exact gb)) (ev_sub (ev_neg 1) (ev_var (lookup_here _ _ _))) (neg_idx ((ext_app H [.list ys]).get ho) hz.1 hz.2)
      show (evE _ _ _ _).bind _ = _
      rw [c2]; rfl) (by rw [rangeI_len]; exact Nat.le_trans (Nat.le_of_eq (Nat.zero_add _)) (Nat.le_trans hm (by decide)))
  rw [List.filter_eq_self.mpr (fun _ _ => rfl), rev_map, List.nil_append] at tf
  have b := bi_len_ref ho
  rw [List.length_map] at b
  exact ev_comp (v := .rng 0 os.length 1) (G_hd _) (ev_bi (v := .rng 0 os.length 1) (G_hd _) (evs_one (ev_bi (G_hd _) (evs_one (ev_var gb)) b)) rfl) (items_range hm) tf
theorem ev_swap (n : Nat) {m o : Nat} {os : List Int} {ρ : Rho} {H : Hp} (gb : ρ.lookup "_law_begun" = some (.ref o)) (ho : H[o]? = some (.list (os.map .int))) (ok : Ord m os) :
    ∃ (j : Nat) (zs : List Int) (H' : Hp), evE (G n) ρ (.bin .add (.bin .add (.slice (.var "_law_begun") (.int 1) (.int 2)) (.slice (.var "_law_begun") .none (.int 1))) (.slice (.var "_law_begun") (.int 2) .none)) H = .ok (.ref j) H' /\ Kept H H' /\ H'[j]? = some (.list (zs.map .int)) /\ Ord m zs := by
  have oz := ok.perm (swap_perm os)
  have la := Nat.le_trans (cut_len (os := os) (some 1) (some 2)) ok.few
  have lb := Nat.le_trans (cut_len (os := os) Option.none (some 1)) ok.few
  have lc := Nat.le_trans (cut_len (os := os) (some 2) Option.none) ok.few
  have s1 := slice_g (l := .int 1) (u := .int 2) ho rfl rfl
  have s2 := slice_g (l := .none) (u := .int 1) (Kept.app H [.list ((cutG os (some 1) (some 2)).map .int)] _ _ ho) rfl rfl
  have s3 := fun H' (kp : Kept H H') => slice_g (l := .int 2) (u := .none) (kp _ _ ho) rfl rfl
  generalize cutG os (some 1) (some 2) = A at oz la s1 s2
  generalize cutG os Option.none (some 1) = B at oz lb s2
  generalize cutG os (some 2) Option.none = C at oz lc s3
  have a1 := bin_add_ref (i := H.length) (j := (H ++ [O.list (A.map .int)]).length) (H := (H ++ [O.list (A.map .int)]) ++ [.list (B.map .int)]) ((ext_app _ _).get (len_app1 _ _)) (len_app1 _ _) (by rw [List.length_map, List.length_map]; exact Nat.le_trans (Nat.add_le_add la lb) (by decide))
  rw [<- List.map_append] at a1
  have k1 : Kept H (((H ++ [O.list (A.map .int)]) ++ [.list (B.map .int)]) ++ [.list ((A ++ B).map .int)]) := (Kept.app _ _).trans ((Kept.app _ _).trans (Kept.app _ _))
  have hk1 := len_app1 ((H ++ [O.list (A.map .int)]) ++ [.list (B.map .int)]) (.list ((A ++ B).map .int))
  have ea := ev_bin2 (Γ := G n) (ρ := ρ) (H := H) (ev_slice (o := .var "_law_begun") (lo := .int 1) (hi := .int 2) (ev_var gb) (ev_int 1) (ev_int 2) s1) (ev_slice (o := .var "_law_begun") (lo := .none) (hi := .int 1) (ev_var gb) ev_none (ev_int 1) s2) a1
  generalize ((H ++ [O.list (A.map .int)]) ++ [.list (B.map .int)]) ++ [O.list ((A ++ B).map .int)] = H1 at ea k1 hk1
  generalize ((H ++ [O.list (A.map .int)]) ++ [O.list (B.map .int)]).length = j1 at ea hk1
  have s3 := s3 H1 k1
  have a2 := bin_add_ref (i := j1) (j := H1.length) (H := H1 ++ [.list (C.map .int)]) ((ext_app _ _).get hk1) (len_app1 _ _) (by
    rw [List.length_map, List.length_map, List.length_append]
    exact Nat.le_trans (Nat.add_le_add (Nat.add_le_add la lb) lc) (by decide))
  rw [<- List.map_append] at a2
  exact ⟨_, (A ++ B) ++ C, _, ev_bin2 ea (ev_slice (o := .var "_law_begun") (lo := .int 2) (hi := .none) (ev_var gb) (ev_int 2) ev_none s3) a2, k1.trans ((Kept.app _ _).trans (Kept.app _ _)), len_app1 _ _, oz⟩
section
variable {w : Str} {l h s : Int} {qs : List Q4} {ns : List Int} {H : Hp}
structure LE (ns : List Int) (w : Str) (l h s : Int) (ks : Nat) (ρ : Rho) : Prop where
  g1 : ρ.lookup "_law_script" = some (.scr ns)
  g2 : ρ.lookup "_law_road" = some (.tup [.str w, .int l])
  g3 : ρ.lookup "_law_home" = some (.int h)
  g4 : ρ.lookup "_law_start" = some (.int s)
  g5 : ρ.lookup "_law_stops" = some (.ref ks)
theorem LE.oth {ks : Nat} {ρ ρ' : Rho} {x : String} (g : LE ns w l h s ks ρ) (q : Oth x ρ ρ') (hx : "_law_script" ≠ x /\ "_law_road" ≠ x /\ "_law_home" ≠ x /\ "_law_start" ≠ x /\ "_law_stops" ≠ x) : LE ns w l h s ks ρ' :=
  ⟨(q _ hx.1).trans g.g1, (q _ hx.2.1).trans g.g2, (q _ hx.2.2.1).trans g.g3, (q _ hx.2.2.2.1).trans g.g4, (q _ hx.2.2.2.2).trans g.g5⟩
theorem law_tail (hns : ns.length <= 63) {ks : Nat} {ρ : Rho} (hs : H[ks]? = some (.list (qs.map tupQ))) (D0 : DayOk w l h s qs) (g : LE ns w l h s ks ρ) :
    Fin (fun r => ∃ H', r = .ok (.bool true) H') (exSs (G 8) (d_law.body.drop 5) ρ H) := by
  have b1 := bi_len_ref hs
  rw [List.length_map] at b1
  obtain ⟨os, ko, H2, e9, kp2, ho, oo⟩ := c_begunby 6 ns qs.length H hns D0.few
  show Fin _ (exSs _ (S.asg _ _ :: _) _ _)
  refine ss_asgA (ev_call (vs := [.scr ns, .int qs.length, .int 7]) (H1 := H) (G_hd _) (evs_cons (ev_var g.g1) (evs_cons (ev_bi (G_hd _) (evs_one (ev_var g.g5)) b1) (evs_one (ev_int 7)))) rfl e9) fun ρ1 gb s1 => ?_
  have g := g.oth s1 (by decide)
  have hs2 := kp2 _ _ hs
  have b2 := bi_list_ref hs2
  have d1 := c_day 3 w l h s qs H2.length (H2 ++ [.list (qs.map tupQ)]) (len_app1 H2 (.list (qs.map tupQ))) D0
  have da : DayAt w l h s qs ((H2 ++ [O.list (qs.map tupQ)]).length + 1) (H2 ++ [O.list (qs.map tupQ)]).length ((H2 ++ [O.list (qs.map tupQ)]).length + 2) (DayH (H2 ++ [.list (qs.map tupQ)]) (dayFs w l h s ((H2 ++ [O.list (qs.map tupQ)]).length + 2)) [.list (qs.map tupQ)]) :=
    ⟨dayH_inst _ _ _, dayH_ns _ _ _, by unfold DayH; rw [List.getElem?_append_right (Nat.le_add_right _ _), Nat.add_sub_cancel_left]; rfl⟩
  have kp3 : Kept H2 (DayH (H2 ++ [.list (qs.map tupQ)]) (dayFs w l h s ((H2 ++ [O.list (qs.map tupQ)]).length + 2)) [.list (qs.map tupQ)]) := (Kept.app _ _).trans (Kept.app _ _)
  generalize (H2 ++ [O.list (qs.map tupQ)]).length + 1 = dd at d1 da
  generalize DayH (H2 ++ [.list (qs.map tupQ)]) (dayFs w l h s ((H2 ++ [O.list (qs.map tupQ)]).length + 2)) [.list (qs.map tupQ)] = H3 at d1 da kp3
  refine ss_asgA (ev_call (vs := [.tup [.str w, .int l], .int h, .int s, .ref H2.length]) (H1 := H2 ++ [.list (qs.map tupQ)]) (G_hd _) (evs_cons (ev_var g.g2) (evs_cons (ev_var g.g3) (evs_cons (ev_var g.g4) (evs_one (ev_bi (G_hd _) (evs_one (ev_var g.g5)) b2))))) rfl d1) fun ρ2 gd s2 => ?_
  have g := g.oth s2 (by decide)
  have gb := (s2 _ (by decide)).trans gb
  have hs3 := kp3 _ _ hs2
  have ho3 := kp3 _ _ ho
  have right : ∀ {e : E} {Ha Hb : Hp} {j : Nat} {zs : List Int}, evE (G 8) ρ2 e Ha = .ok (.ref j) Hb -> Kept H3 Hb -> Hb[j]? = some (.list (zs.map .int)) -> Ord qs.length zs -> ∃ H', evE (G 8) ρ2 (.call "_law_right" [(.var "_law_day"), (.var "_law_road"), (.var "_law_home"), (.var "_law_start"), (.var "_law_stops"), e]) Ha = .ok (.bool true) H' /\ Kept H3 H' := fun ee kp hz oz => by
    obtain ⟨H', e1, k1⟩ := c_right 2 (da.kept kp) (kp _ _ hs3) hz oz D0.few
    exact ⟨H', ev_call (G_hd _) (evs_cons (ev_var gd) (evs_cons (ev_var g.g2) (evs_cons (ev_var g.g3) (evs_cons (ev_var g.g4) (evs_cons (ev_var g.g5) (evs_one ee)))))) rfl e1, kp.trans k1⟩
  obtain ⟨H4, e1, k4⟩ := right (ev_var gb) (Kept.refl H3) ho3 oo
  refine ss_if (c := false) (H1 := H4) (ev_not (c := true) e1 rfl) ?_
  obtain ⟨j, zs, H5, es, k5, hz, oz⟩ := ev_swap 8 gb (k4 _ _ ho3) oo
  obtain ⟨H6, e2, k6⟩ := right es (k4.trans k5) hz oz
  show Fin _ (exSs _ (S.iff _ _ _ :: _) _ _)
  refine ss_if (c := false) (H1 := H6) (ev_not (c := true) e2 rfl) ?_
  have er := ev_rev (n := 8) gb (k6 _ _ ho3) oo.few
  obtain ⟨H7, e3, _⟩ := right er (k6.trans (Kept.app _ _)) (len_app1 _ _) (oo.perm (List.reverse_perm os))
  show Fin _ (exSs _ (S.ret _ :: _) _ _)
  exact ss_ret e3 ⟨H7, rfl⟩
end
theorem min12' {a b : Int} (h : a <= b) : (if 1000000000000 < a then 1000000000000 else a) <= (if 1000000000000 < b then 1000000000000 else b) := by split <;> split <;> omega
theorem law_true (ns : List Int) (hns : ns.length <= 63) : ∃ H', (lk defs clss consts 9).call "law" [.scr ns] [] = .ok (.bool true) H' := by
  rw [<- G_eq, G_call (d := d_law) (by kernel_rfl)]
  refine runDef_P (ρ := [("_law_script", .scr ns)]) (P := fun r => ∃ H', r = .ok (.bool true) H') rfl ?_
  have cell : ∀ k : Int, 0 <= k -> ∀ {ρ : Rho} {H : Hp}, ρ.lookup "_law_script" = some (.scr ns) -> ∃ c, evE (G 8) ρ (.call "_law_cell_at" [(.var "_law_script"), (.int k)]) H = .ok (.int c) H := fun k hk {ρ H} g => by
    obtain ⟨c, e⟩ := c_cell 7 ns k H hk hns
    exact ⟨c, ev_call (G_hd _) (evs_cons (ev_var g) (evs_one (ev_int k))) rfl e⟩
  obtain ⟨c0, e0⟩ := cell 0 (by decide) (ρ := [("_law_script", .scr ns)]) (H := []) rfl
  obtain ⟨w, l, e1, hw, l0, l1⟩ := c_road 6 c0 []
  refine ss_asgA (ev_call (G_hd _) (evs_one e0) rfl e1) fun ρ1 g1 s1 => ?_
  have x1 : ρ1.lookup "_law_script" = some (.scr ns) := s1 _ (by decide)
  obtain ⟨c1, e2⟩ := cell 1 (by decide) (H := []) x1
  obtain ⟨h, e3, h0, h1⟩ := c_place 6 w l c1 [] l0
  refine ss_asgA (ev_call (G_hd _) (evs_cons (ev_var g1) (evs_one e2)) rfl e3) fun ρ2 g2 s2 => ?_
  have x2 := (s2 _ (by decide)).trans x1
  have r2 := (s2 _ (by decide)).trans g1
  obtain ⟨c2, e4⟩ := cell 2 (by decide) (H := []) x2
  obtain ⟨s, e5, s0, s1'⟩ := c_start 6 w l c2 [] l0 l1
  refine ss_asgA (ev_call (G_hd _) (evs_cons (ev_var r2) (evs_one e4)) rfl e5) fun ρ3 g3 s3 => ?_
  have x3 := (s3 _ (by decide)).trans x2
  have r3 := (s3 _ (by decide)).trans r2
  have h3 := (s3 _ (by decide)).trans g2
  obtain ⟨c3, e6⟩ := cell 3 (by decide) (H := []) x3
  obtain ⟨m, e7, m7⟩ := c_many 7 c3 []
  obtain ⟨vs, e8, lv, pv⟩ := c_stops 4 w l s m ns [] l0 l1 s0 s1' (Nat.le_trans m7 (by decide)) hns
  obtain ⟨qs, rfl, sq⟩ := quads vs pv
  have lq : qs.length = m := by rw [List.length_map] at lv; exact lv
  have q7 : qs.length <= 7 := lq ▸ m7
  refine ss_asgA (v := .ref 0) (H1 := [.list (qs.map tupQ)]) (ev_call (vs := [.tup [.str w, .int l], .int s, .scr ns, .int m]) (H1 := []) (G_hd _) (evs_cons (ev_var r3) (evs_cons (ev_var g3) (evs_cons (ev_var x3) (evs_one (ev_call (vs := [.int c3]) (H1 := []) (G_hd _) (evs_one e6) rfl e7))))) rfl e8) fun ρ4 g4 s4 => ?_
  have g : LE ns w l h s 0 ρ4 := ⟨(s4 _ (by decide)).trans x3, (s4 _ (by decide)).trans r3, (s4 _ (by decide)).trans h3, (s4 _ (by decide)).trans g3, g4⟩
  have hs1 : ([.list (qs.map tupQ)] : Hp)[0]? = some (.list (qs.map tupQ)) := rfl
  generalize ([.list (qs.map tupQ)] : Hp) = H1 at hs1 ⊢
  have b1 := bi_len_ref hs1
  rw [List.length_map] at b1
  have D : ∀ q ∈ qs, StopOk w l q.1 q.2.1 q.2.2.1 q.2.2.2 := sq
  have plain := law_tail hns hs1 ⟨hw, l0, l1, h0, h1, s0, s1', q7, sq⟩ g
  obtain ⟨c4, e9⟩ := cell 40 (by decide) (H := H1) g.g1
  have u1 := ev_cmp (Γ := G 8) (ρ := ρ4) (ev_bi (G_hd _) (evs_one (ev_var g.g5)) b1) (ev_int 0) (cmp_gt _ _ _)
  cases qs with
  | nil => exact ss_if (c := false) (show evAnd _ _ _ _ = _ from ev_and (c := false) u1 rfl) plain
  | cons q qr =>
    have u2 := ev_eqI (i := 0) (ev_mod (Γ := G 8) (ρ := ρ4) e9 (ev_int 3) (by decide))
    rw [decide_eq_true (show (0 : Int) < ((q :: qr).length : Int) from Int.ofNat_lt.mpr (Nat.succ_pos qr.length))] at u1
    refine ss_if (show evAnd _ _ _ _ = _ from ev_and (c := true) u1 u2) ?_
    cases c4.fmod 3 == 0 with
    | false => exact plain
    | true =>
      have ln : ∀ {ρ : Rho}, ρ.lookup "_law_road" = some (.tup [.str w, .int l]) -> ∀ i : Int, i.natAbs < 2 ^ 64 -> evE (G 8) ρ (.bin .mul (.int i) (.idx (.var "_law_road") (.int 1))) H1 = .ok (.int (i * l)) H1 := fun gr i hi => ev_mul (ev_int i) (ev_idx (ev_var gr) (ev_int 1) rfl) (.inl hi)
      have mn : ∀ {ρ : Rho}, ρ.lookup "_law_road" = some (.tup [.str w, .int l]) -> ρ.lookup "_law_start" = some (.int s) -> ∀ i : Int, i.natAbs < 2 ^ 64 -> evE (G 8) ρ (.call "min" [(.bin .add (.var "_law_start") (.bin .mul (.int i) (.idx (.var "_law_road") (.int 1)))), (.bin .pow (.int 10) (.int 12))]) H1 = .ok (.int (if 1000000000000 < s + i * l then 1000000000000 else s + i * l)) H1 := fun gr gs i hi => ev_min (G_hd _) (ev_add (ev_var gs) (ln gr i hi)) ev_p12
      show Fin _ (exSs _ (S.asg _ _ :: _) _ _)
      refine ss_asgA (mn g.g2 g.g4 8 (by decide)) fun ρ5 gl s5 => ?_
      have g := g.oth s5 (by decide)
      have i0 := idx_ref (i := 0) (v := tupQ q) hs1 rfl
      have ok := D q (List.mem_cons_self ..)
      have lm : 0 <= s + 8 * l /\ s + 8 * l <= s + 30 * l := by omega
      have hn : StopOk w l q.1 (if 1000000000000 < s + 8 * l then 1000000000000 else s + 8 * l) (if 1000000000000 < s + 30 * l then 1000000000000 else s + 30 * l) q.2.2.2 := ⟨ok.p0, ok.p1, le_min12 lm.1 (by decide), min12' lm.2, min12 _, ok.s0, ok.s1⟩
      have sl := slice_from (k := 1) (Kept.app H1 [.list [tupQ (q.1, (if 1000000000000 < s + 8 * l then 1000000000000 else s + 8 * l), (if 1000000000000 < s + 30 * l then 1000000000000 else s + 30 * l), q.2.2.2)]] _ _ hs1) (Nat.succ_le_succ (Nat.zero_le _))
      have m30 := mn g.g2 g.g4 30 (by decide)
      generalize (if 1000000000000 < s + 8 * l then 1000000000000 else s + 8 * l : Int) = late at gl hn sl
      generalize (if 1000000000000 < s + 30 * l then 1000000000000 else s + 30 * l : Int) = cls at hn sl m30
      have ad := bin_add_ref (i := H1.length) (j := (H1 ++ [O.list [tupQ (q.1, late, cls, q.2.2.2)]]).length) (H := (H1 ++ [O.list [tupQ (q.1, late, cls, q.2.2.2)]]) ++ [.list (((q :: qr).map tupQ).drop 1)]) ((ext_app _ _).get (len_app1 _ _)) (len_app1 _ _) (by
        show 1 + (qr.map tupQ).length <= line
        rw [List.length_map, Nat.add_comm]; exact Nat.le_trans q7 (by decide))
      refine ss_asgA (ev_bin2 (ev_list (evs_one (ev_tup (evs_cons (v := .int q.1) (H1 := H1) (ev_idx (ev_idx (ev_var g.g5) (ev_int 0) i0) (ev_int 0) rfl) (evs_cons (ev_var gl) (evs_cons m30 (evs_one (v := .int q.2.2.2) (H1 := H1) (ev_idx (ev_idx (ev_var g.g5) (ev_int 0) i0) (ev_int 3) rfl)))))))) (ev_slice (ev_var g.g5) (ev_int 1) ev_none sl) ad) fun ρ6 gs s6 => ?_
      have hs2 := len_app1 ((H1 ++ [O.list [tupQ (q.1, late, cls, q.2.2.2)]]) ++ [.list (((q :: qr).map tupQ).drop 1)]) (.list ([tupQ (q.1, late, cls, q.2.2.2)] ++ ((q :: qr).map tupQ).drop 1))
      exact law_tail (qs := (q.1, late, cls, q.2.2.2) :: qr) hns hs2 ⟨hw, l0, l1, h0, h1, s0, s1', q7, fun y hy => (List.mem_cons.mp hy).elim (fun e => by rw [e]; exact hn) fun hy => D y (List.mem_cons_of_mem _ hy)⟩ ⟨(s6 _ (by decide)).trans g.g1, (s6 _ (by decide)).trans g.g2, (s6 _ (by decide)).trans g.g3, (s6 _ (by decide)).trans g.g4, gs⟩
end Mine.L05
set_option maxRecDepth 100000
set_option maxHeartbeats 8000000
namespace Mine.L05
open PySem PySem.W PyProof.Rows
noncomputable abbrev r2 : OpenRow := PySem.Challenge.rw_uf040004_05.row
noncomputable abbrev p2 : Program := r2.prog
noncomputable def view : Program := { p2 with main := { p2.main with body := p2.main.body.filter fun s => match s with | .Assign [.Name n _] _ _ => !(n == ("__name__" : Str)) | _ => true } }
noncomputable def U : List String := ["LINE", "RING", "LONGEST", "LATEST", "MOST", "is_within", "is_road", "is_place", "apart", "looked_at", "need_order", "served", "timetable", "begun_at", "left_at", "put_better", "longer", "table", "_law_cell_at", "_law_wide", "_law_whole", "_law_road_by", "_law_places", "_law_place_by", "_law_apart", "_law_start_by", "_law_stop_by", "_law_stops_by", "_law_many", "_law_leaves", "_law_behind", "_law_begun_by", "_law_key", "_law_form", "_law_goes_back", "_law_right", "law", "Day", "RouteError", "BadRoad", "OffRoad", "BadTime", "TooMany", "BadOrder", "Missed"]
noncomputable def B : List String := ["len", "abs", "min", "max", "isinstance", "range", "list", "tuple", "sorted", "set", "dict", "int", "bool"]
noncomputable def Xs : List String := ["RouteError", "BadRoad", "OffRoad", "BadTime", "TooMany", "BadOrder", "Missed"]
theorem left : LeftO p2 view ["LONGEST", "LATEST"] (fun s => recOk (RowW.records r2.toRowW) s) (fun s => seenOk U B Xs constL clss (fragOf s.heap)) (fun _ => true) 4000 := fun w => by
  unfold openEnds fencedOpening topFrom
  rw [PySem.W.Fast.te14082659384304107361, PySem.W.Fast.te10274390034422433532, PySem.W.Fast.te14289696077712309145, PySem.W.Fast.te4187177175401517315, PySem.W.Fast.te1435165496053646825, PySem.W.Fast.te14364793385576792824]
  kernel_rfl
theorem isDef : (defOf view r2.name).isSome = true := by kernel_rfl
noncomputable def dk : DefRec × List (Str × Expr) := (defOf view r2.name).get isDef
theorem hd05 (hc : WalkO view ["LONGEST", "LATEST"] (fun _ _ => True) (fun _ h => Says U B Xs constL clss h) r2.toRowW dk.1 dk.2 fun f vs => PySem.call f vs) : PySem.Challenge.rw_uf040004_05.Holds := by
  refine holds_law (by decide +kernel) fun said => ?_
  refine holds_open (q := view) (loose := ["LONGEST", "LATEST"]) (Xt := fun s => recOk (RowW.records r2.toRowW) s) (XP := fun _ _ => True) (Yf := fun s => seenOk U B Xs constL clss (fragOf s.heap)) (Ya := fun _ => true) (YP := fun _ h => Says U B Xs constL clss h) (N := 4000) left
    (fun w s e => ⟨_, fragOf_in _, e⟩) (fun w h h' x k => x.keeps k) (fun s e => trivial) (fun _ _ _ _ _ => trivial) (d := dk.1) (kwd := dk.2) (Option.some_get isDef).symm (by kernel_rfl) (by kernel_rfl) (fun s e => recFacts_of e) (by first | rfl | decide) said (by decide +kernel) ⟨rfl, rfl, rfl, rfl, rfl, by decide +kernel⟩ ?hw hc
  case hw => w_witness2
end Mine.L05
open PySem PySem.W PyProof.Rows Mine in
theorem PySem.Challenge.cw_uf040004_05_holds : PySem.Challenge.rw_uf040004_05.Holds := by
  refine L05.hd05 ?_
  intro w s₀ s₁ mg mb G Y fa o pm cd doc dV kV ho hd hcd hD hmg hg args vals as hpre hlay hrd hwl hlo
  obtain ⟨K, KX, seen⟩ := Y
  have T := G.T
  clear ho hd hcd hD
  wrow_args hpre hlay hrd hwl hlo
  rename_i ns _ _ _ _ _ _ _ l vs _ hL _ _ _ hI _ hlen _
  have hlen' : ns.length <= 63 := by omega
  simp only [seenOk, Bool.and_eq_true] at seen
  obtain ⟨⟨⟨⟨⟨hu, hb⟩, hx⟩, hc⟩, hcl⟩, hm⟩ := seen
  let X : Cx := cxOf (U := L05.U) (B := L05.B) (Xs := L05.Xs) Challenge.rw_uf040004_05.row.prog w T KX L05.clss hu hb hx hcl hm
  have S : SoundFn X 9 (lk L05.defs L05.clss L05.consts 9) := lk_sound (X := X) T (okC_at T KX hc X rfl) (by kernel_rfl) (cls_at _ w T KX L05.clss hu hb hx hcl hm) 9
  obtain ⟨H', run⟩ := L05.law_true ns hlen'
  refine law_call (X := X) rfl S (by decide) hmg run hL hI hlen' fun s' ⟨h', tk, e, k⟩ => ?_
  subst e
  exact GoodW.toG ⟨.inl ⟨_, .bool true, [], rfl, fun cls => rfl, .bool true, (by kernel_rfl), fun _ => ⟨List.nodup_nil, fun _ q => nomatch q⟩⟩, k, rfl, hg⟩

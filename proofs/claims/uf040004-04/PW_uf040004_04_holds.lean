import PyProof.Rows.All
import Wide.All
import OpenK.AllK
import Wide.FinOn
import Lean
import PySem.Challenge.RW_uf040004_04
set_option Elab.async false
set_option autoImplicit false
set_option linter.all false
set_option genSizeOf false
/-! Ev -/
namespace Mine
open PySem
noncomputable section

inductive V where
  | none
  | bool (b : Bool)
  | int (i : Int)
  | str (s : Str)
  | tup (vs : List V)
  | ref (n : Nat)
  | exc (c : String)
  | rng (a b c : Int)
  | scr (ns : List Int)
  | lst (vs : List V)

noncomputable instance : DecidableEq V := fun a b => Classical.propDecidable (a = b)

inductive O where
  | list (vs : List V)
  | inst (c : String) (d : Nat)
  | ns (fs : List (String × V))
  | keys (ks : List Int)

noncomputable abbrev Hp := List O
noncomputable abbrev Rho := List (String × V)

inductive R (α : Type) where
  | ok (a : α) (H : Hp)
  | raise (c : String) (H : Hp)
  | stuck

noncomputable def R.bind {α β : Type} : R α → (α → Hp → R β) → R β
  | .ok a H, f => f a H
  | .raise c H, _ => .raise c H
  | .stuck, _ => .stuck
@[simp] theorem R.bind_ok {α β : Type} (a : α) (H : Hp) (f : α → Hp → R β) : (R.ok a H).bind f = f a H := rfl
@[simp] theorem R.bind_raise {α β : Type} (c : String) (H : Hp) (f : α → Hp → R β) : (R.raise c H : R α).bind f = .raise c H := rfl
@[simp] theorem R.bind_stuck {α β : Type} (f : α → Hp → R β) : (R.stuck : R α).bind f = .stuck := rfl

inductive RS where
  | next (r : Rho) (H : Hp)
  | cont (r : Rho) (H : Hp)
  | ret (v : V) (H : Hp)
  | raise (c : String) (r : Rho) (H : Hp)
  | stuck

inductive Op | add | sub | mul | fdiv | mod | pow
  deriving DecidableEq
inductive Cm | eq | ne | lt | le | gt | isIn | is
  deriving DecidableEq

set_option genInjectivity false in
inductive E where
  | var (x : String)
  | glob (x : String)
  | none
  | bool (b : Bool)
  | int (i : Int)
  | str (s : String)
  | bin (op : Op) (l r : E)
  | neg (e : E)
  | not (e : E)
  | and (es : List E)
  | or (es : List E)
  | cmp (l : E) (op : Cm) (r : E)
  | cmp2 (l : E) (op : Cm) (m : E) (op' : Cm) (r : E)
  | call (f : String) (args : List E)
  | isinst (e : E) (T : String)
  | meth (o : E) (m : String) (args : List E)
  | attr (o : E) (a : String)
  | idx (o i : E)
  | slice (o lo hi : E)
  | list (es : List E)
  | tup (es : List E)
  | menu (es : List E) (i : E)
  | comp (elt : E) (x : String) (it : E)
  | dict0

set_option genInjectivity false in
inductive It where
  | e (e : E)

set_option genInjectivity false in
inductive S where
  | asg (x : String) (e : E)
  | unpack (xs : List String) (e : E)
  | setattr (o : E) (a : String) (e : E)
  | setidx (o i e : E)
  | ret (e : E)
  | ret0
  | iff (t : E) (a b : List S)
  | for1 (x : String) (it : It) (b : List S)
  | expr (e : E)
  | raise (c : String) (msg : String)
  | tryE (b : List S) (hs : List (String × Option String × List S))
  | cont

/-! primitive operations -/
noncomputable def line : Nat := 1048576

noncomputable def new (o : O) (H : Hp) : R V := .ok (.ref H.length) (H ++ [o])

noncomputable def place (i : Int) (n : Nat) : Option Nat :=
  if 0 ≤ i then (if i < n then some i.toNat else none) else (if -(n : Int) ≤ i then some (i + n).toNat else none)

noncomputable def flatD : V → Option PyData
  | .none => some .none
  | .bool b => some (.bool b)
  | .int i => some (.int i)
  | .str s => some (.str s)
  | _ => Option.none
noncomputable def snap : Nat → Hp → V → Option PyData
  | 0, _, v => flatD v
  | n + 1, H, v => match v with
    | .tup vs => (vs.mapM (snap n H)).map .tuple
    | .ref k => (match H[k]? with
      | some (.list vs) => (vs.mapM (snap n H)).map .list
      | _ => Option.none)
    | v => flatD v

noncomputable def eqData (H : Hp) (a b : V) : Option Bool := do
  let x ← snap 8 H a
  let y ← snap 8 H b
  return PyData.eqv x y

noncomputable def eqV (H : Hp) (a b : V) : Option Bool := eqData H a b

noncomputable def intOp (op : Op) (x y : Int) : Option Int := match op with
  | .add => some (x + y)
  | .sub => some (x - y)
  | .mul => if x.natAbs < 2 ^ 64 ∨ y.natAbs < 2 ^ 64 then some (x * y) else Option.none
  | .fdiv => if y ≠ 0 ∧ y.natAbs < 1073741824 then some (x.fdiv y) else Option.none
  | .mod => if y ≠ 0 then some (x.fmod y) else Option.none
  | .pow => if 0 ≤ x ∧ x ≤ 10 ∧ 0 ≤ y ∧ y ≤ 100 then some (x ^ y.toNat) else Option.none
noncomputable def listAt (v : V) (H : Hp) : Option (List V) := match v with
  | .ref n => (match H[n]? with | some (.list xs) => some xs | _ => Option.none)
  | _ => Option.none
noncomputable def intAt : V → Option Int
  | .int i => some i
  | _ => Option.none
noncomputable def addL (a b : V) (H : Hp) : R V := match listAt a H with
  | some x => (match listAt b H with
    | some y => if x.length + y.length ≤ line then new (.list (x ++ y)) H else .stuck
    | Option.none => .stuck)
  | Option.none => .stuck
noncomputable def bin (op : Op) (a b : V) (H : Hp) : R V := match intAt a with
  | some x => (match intAt b with
    | some y => (match intOp op x y with | some z => .ok (.int z) H | Option.none => .stuck)
    | Option.none => .stuck)
  | Option.none => if op = .add then addL a b H else .stuck

noncomputable def keysAt (v : V) (H : Hp) : Option (List Int) := match v with
  | .ref n => (match H[n]? with | some (.keys ks) => some ks | _ => Option.none)
  | _ => Option.none
noncomputable def inKeys (H : Hp) (a b : V) : Option Bool := match keysAt b H with
  | some ks => (intAt a).map fun k => ks.contains k
  | Option.none => Option.none
noncomputable def isIn (H : Hp) (a b : V) : Option Bool :=
  match b with
  | .tup vs => do
    let x ← snap 8 H a
    let ys ← vs.mapM (snap 8 H)
    return ys.any fun y => PyData.eqv y x
  | b => match listAt b H with
    | some vs => do
      let x ← snap 8 H a
      let ys ← vs.mapM (snap 8 H)
      return ys.any fun y => PyData.eqv y x
    | Option.none => inKeys H a b

noncomputable def isNoneV : V → Bool
  | .none => true
  | _ => false
noncomputable def cmpI (op : Cm) (x y : Int) : Option Bool := match op with
  | .lt => some (decide (x < y))
  | .le => some (decide (x ≤ y))
  | .gt => some (decide (y < x))
  | _ => Option.none
noncomputable def cmp (op : Cm) (a b : V) (H : Hp) : Option Bool :=
  match op with
  | .eq => eqV H a b
  | .ne => (eqV H a b).map (!·)
  | .isIn => isIn H a b
  | .is => match b with
    | .none => some (isNoneV a)
    | .bool y => match a with
      | .bool x => some (x == y)
      | _ => Option.none
    | _ => Option.none
  | op => match intAt a with
    | some x => (match intAt b with | some y => cmpI op x y | Option.none => Option.none)
    | Option.none => Option.none

noncomputable def truth (v : V) : Option Bool :=
  match v with
  | .bool b => some b
  | _ => Option.none

noncomputable def ofO {α : Type} (H : Hp) : Option α → R α
  | some a => .ok a H
  | Option.none => .stuck

noncomputable def rangeL (a b c : Int) : List Int :=
  if 0 < c ∧ a < b then (List.range ((b - a - 1) / c + 1).toNat).map fun (k : Nat) => a + c * k else []
noncomputable def rngOk (a b c : Int) : Bool := decide (0 < c) && decide (c ≤ 1000) && decide (-500000 ≤ a) && decide (a ≤ 500000) && decide (-500000 ≤ b) && decide (b ≤ 500000)

noncomputable def items (H : Hp) : V → Option (List V)
  | .tup vs => some vs
  | .rng a b c => if rngOk a b c then some ((rangeL a b c).map .int) else Option.none
  | .ref n => match H[n]? with
    | some (.list vs) => some vs
    | _ => Option.none
  | _ => Option.none

noncomputable def biLen (vs : List V) (H : Hp) : R V := match vs with
  | [v] => (match v with
    | .scr xs => .ok (.int xs.length) H
    | v => (match listAt v H with | some xs => .ok (.int xs.length) H | Option.none => .stuck))
  | _ => .stuck
noncomputable def biAbs (vs : List V) (H : Hp) : R V := match vs with
  | [v] => (match intAt v with | some i => .ok (.int i.natAbs) H | Option.none => .stuck)
  | _ => .stuck
noncomputable def two' (vs : List V) : Option (Int × Int) := match vs with
  | [a, b] => (match intAt a with | some x => (match intAt b with | some y => some (x, y) | Option.none => Option.none) | Option.none => Option.none)
  | _ => Option.none
noncomputable def biMin (vs : List V) (H : Hp) : R V := match two' vs with
  | some p => .ok (.int (if p.2 < p.1 then p.2 else p.1)) H
  | Option.none => .stuck
noncomputable def biMax (vs : List V) (H : Hp) : R V := match two' vs with
  | some p => .ok (.int (if p.1 < p.2 then p.2 else p.1)) H
  | Option.none => .stuck
noncomputable def biRange (vs : List V) (H : Hp) : R V := match vs with
  | [] => .stuck
  | v :: r => (match intAt v with
    | some a => (match r with
      | [] => .ok (.rng 0 a 1) H
      | r => (match two' r with
        | some p => if p.2 ≠ 0 ∧ p.2.natAbs < 1073741824 then .ok (.rng a p.1 p.2) H else .stuck
        | Option.none => .stuck))
    | Option.none => .stuck)
noncomputable def biList (vs : List V) (H : Hp) : R V := match vs with
  | [v] => (match v with
    | .tup xs => new (.list xs) H
    | .rng a b c => if rngOk a b c then new (.list ((rangeL a b c).map .int)) H else .stuck
    | v => (match listAt v H with | some xs => new (.list xs) H | Option.none => .stuck))
  | _ => .stuck
noncomputable def biInt (vs : List V) (H : Hp) : R V := match vs with
  | [.bool b] => .ok (.int (if b then 1 else 0)) H
  | _ => .stuck
noncomputable def builtin (f : String) (vs : List V) (H : Hp) : R V :=
  if f = "len" then biLen vs H else if f = "abs" then biAbs vs H else if f = "min" then biMin vs H else if f = "max" then biMax vs H
  else if f = "range" then biRange vs H else if f = "list" then biList vs H else if f = "int" then biInt vs H else .stuck

noncomputable def kindV (v : V) (H : Hp) : Option String :=
  match v with
  | .bool _ => some "bool"
  | .int _ => some "int"
  | .tup _ => some "tuple"
  | v => (match listAt v H with | some _ => some "list" | Option.none => Option.none)
noncomputable def mAppend (o : V) (vs : List V) (H : Hp) : R V := match o with
  | .ref n => (match listAt (.ref n) H with
    | some xs => (match vs with | [v] => if xs.length < line then .ok .none (H.set n (.list (xs ++ [v]))) else .stuck | _ => .stuck)
    | Option.none => .stuck)
  | _ => .stuck
noncomputable def bools (vs : List V) : Option (List Bool) := vs.mapM fun v => match v with | .bool i => some i | _ => Option.none
noncomputable def boolAt : V → Option Bool
  | .bool b => some b
  | _ => Option.none
noncomputable def intsL (vs : List V) : Option (List Int) := vs.mapM intAt
noncomputable def mCount (o : V) (vs : List V) (H : Hp) : R V := match listAt o H with
  | some xs => (match vs with
    | [v] => (match boolAt v with
      | some b => (match bools xs with | some bs => .ok (.int (bs.count b)) H | Option.none => .stuck)
      | Option.none => (match intAt v with
        | some k => (match intsL xs with | some ns => .ok (.int (ns.count k)) H | Option.none => .stuck)
        | Option.none => .stuck))
    | _ => .stuck)
  | Option.none => .stuck
noncomputable def mClear (o : V) (vs : List V) (H : Hp) : R V := match o with
  | .ref n => (match listAt (.ref n) H with
    | some _ => (match vs with | [] => .ok .none (H.set n (.list [])) | _ => .stuck)
    | Option.none => .stuck)
  | _ => .stuck
noncomputable def mExtend (o : V) (vs : List V) (H : Hp) : R V := match o with
  | .ref n => (match listAt (.ref n) H with
    | some xs => (match vs with
      | [v] => (match listAt v H with
        | some ys => if xs.length + ys.length ≤ line then .ok .none (H.set n (.list (xs ++ ys))) else .stuck
        | Option.none => .stuck)
      | _ => .stuck)
    | Option.none => .stuck)
  | _ => .stuck
noncomputable def mName (m : String) : Bool := m == "append" || m == "count" || m == "clear" || m == "extend"
noncomputable def methKnown (T m : String) : Bool := T == "list" && mName m
noncomputable def meth (T : String) (o : V) (m : String) (vs : List V) (H : Hp) : R V :=
  if T = "list" then if m = "append" then mAppend o vs H else if m = "count" then mCount o vs H else if m = "clear" then mClear o vs H else if m = "extend" then mExtend o vs H else .stuck else .stuck

noncomputable def index (o i : V) (H : Hp) : R V :=
  match o, i with
  | .tup xs, .int k => ofO H ((place k xs.length).bind (xs[·]?))
  | .scr xs, .int k => ofO H (((place k xs.length).bind (xs[·]?)).map .int)
  | .lst xs, .int k => ofO H ((place k xs.length).bind (xs[·]?))
  | .ref n, k => match H[n]? with
    | some (.list xs) => match k with
      | .int k => ofO H ((place k xs.length).bind (xs[·]?))
      | _ => .stuck
    | _ => .stuck
  | _, _ => .stuck

noncomputable def sliceL {α : Type} (xs : List α) (lo hi : Option Int) : Option (List α) := match lo, hi with
  | some a, Option.none => if 0 ≤ a ∧ a ≤ xs.length then some (xs.drop a.toNat) else Option.none
  | Option.none, some b => if 0 ≤ b then some (xs.take b.toNat) else Option.none
  | _, _ => Option.none
noncomputable def sliceV (o : V) (lo hi : Option Int) (H : Hp) : R V :=
  match o with
  | .ref n => match H[n]? with
    | some (.list xs) => match sliceL xs lo hi with
      | some ys => new (.list ys) H
      | Option.none => .stuck
    | _ => .stuck
  | _ => .stuck

noncomputable def attrName (a : String) : Bool := a == "road" || a == "home" || a == "start" || a == "stops"
noncomputable def attrV (o : V) (a : String) (H : Hp) : R V :=
  match o with
  | .ref n => match H[n]? with
    | some (.inst _ d) => match H[d]? with
      | some (.ns fs) => ofO H (fs.lookup a)
      | _ => .stuck
    | _ => .stuck
  | _ => .stuck

noncomputable def setL (x : String) (v : V) : Rho → Rho
  | [] => [(x, v)]
  | (y, w) :: r => if y = x then (y, v) :: r else (y, w) :: setL x v r

noncomputable def setA (o : V) (a : String) (v : V) (H : Hp) : R Unit :=
  match o with
  | .ref n => match H[n]? with
    | some (.inst _ d) => match H[d]? with
      | some (.ns fs) => if fs.length ≤ 20 then .ok () (H.set d (.ns (setL a v fs))) else .stuck
      | _ => .stuck
    | _ => .stuck
  | _ => .stuck

noncomputable def setK (o i : V) (H : Hp) : R Unit := match o with
  | .ref n => (match keysAt (.ref n) H with
    | some ks => (match intAt i with
      | some k => if ks.length < line then .ok () (H.set n (.keys (if ks.contains k then ks else ks ++ [k]))) else .stuck
      | Option.none => .stuck)
    | Option.none => .stuck)
  | _ => .stuck

noncomputable def excIs (c T : String) : Bool := c == T || T == "RouteError" || T == "ValueError"

noncomputable def exName (T : String) : Bool := T == "RouteError" || T == "BadRoad" || T == "OffRoad" || T == "BadTime" || T == "TooMany" || T == "BadOrder" || T == "Missed" || T == "NoDay" || T == "ValueError"

noncomputable def bTypes : List String := ["int", "bool", "tuple", "list"]

noncomputable def isinst (v : V) (T : String) (H : Hp) : Option Bool :=
  if bTypes.contains T then (kindV v H).map fun k => k == T || (k == "bool" && T == "int")
  else match v with
    | .exc c => if exName T then some (excIs c T) else Option.none
    | .ref n => match H[n]? with
      | some (.inst c _) => if c = T then some true else Option.none
      | _ => Option.none
    | _ => Option.none

set_option genInjectivity false in
structure Fn where
  call : String → List V → Hp → R V
  const : String → Option V
  hd : Bool := false

noncomputable def mayCall (hd : Bool) (f : String) : Bool := !hd || f == "int" || f == "len"

noncomputable def intO : V → Option (Option Int)
  | .none => some Option.none
  | .int i => some (some i)
  | _ => Option.none

noncomputable def turns (f : V → Hp → R (Option V)) (chk : Hp → Bool) (k : Nat) : List V → Hp → R Unit
  | [], H => if chk H then .ok () H else .stuck
  | v :: vs, H => if chk H then match f v H with
      | .ok (some w) H1 => match H1[k]? with
        | some (.list ys) => if ys.length < line then turns f chk k vs (H1.set k (.list (ys ++ [w]))) else .stuck
        | _ => .stuck
      | .ok Option.none H1 => turns f chk k vs H1
      | _ => .stuck
    else .stuck

noncomputable def sameO (o : V) (H : Hp) (H' : Hp) : Bool :=
  match o with
  | .ref n => match H[n]?, H'[n]? with
    | some (.list xs), some (.list ys) => decide (xs = ys)
    | _, _ => false
  | _ => true

noncomputable def truthR (x : R V) : R Bool := x.bind fun v H => ofO H (truth v)

mutual
noncomputable def evE (Γ : Fn) (ρ : Rho) : E → Hp → R V
  | .var x, H => ofO H (ρ.lookup x)
  | .glob x, H => ofO H (Γ.const x)
  | .none, H => .ok .none H
  | .bool b, H => .ok (.bool b) H
  | .int i, H => .ok (.int i) H
  | .str s, H => .ok (.str (Str.ofString s)) H
  | .bin op l r, H => (evE Γ ρ l H).bind fun a H1 => (evE Γ ρ r H1).bind fun b H2 => bin op a b H2
  | .neg e, H => (evE Γ ρ e H).bind fun a H1 => match a with | .int i => .ok (.int (-i)) H1 | _ => .stuck
  | .not e, H => (truthR (evE Γ ρ e H)).bind fun b H1 => .ok (.bool (!b)) H1
  | .and es, H => evAnd Γ ρ es H
  | .or es, H => evOr Γ ρ es H
  | .cmp l op r, H => (evE Γ ρ l H).bind fun a H1 => (evE Γ ρ r H1).bind fun b H2 => ofO H2 ((cmp op a b H2).map .bool)
  | .cmp2 l op m op' r, H => (evE Γ ρ l H).bind fun a H1 => (evE Γ ρ m H1).bind fun b H2 => (ofO H2 (cmp op a b H2)).bind fun t H3 =>
      if t then (evE Γ ρ r H3).bind fun c H4 => ofO H4 ((cmp op' b c H4).map .bool) else .ok (.bool false) H3
  | .call f args, H => (evEs Γ ρ args H).bind fun vs H1 => if mayCall Γ.hd f then match builtin f vs H1 with | .stuck => if Γ.hd then .stuck else Γ.call f vs H1 | r => r else .stuck
  | .isinst e T, H => (evE Γ ρ e H).bind fun v H1 => ofO H1 ((isinst v T H1).map .bool)
  | .meth o m args, H => (evE Γ ρ o H).bind fun v H1 => match kindV v H1 with
      | some T => if methKnown T m then (evEs Γ ρ args H1).bind fun vs H2 => meth T v m vs H2 else .stuck
      | Option.none => .stuck
  | .attr o a, H => (evE Γ ρ o H).bind fun v H1 => attrV v a H1
  | .idx o i, H => (evE Γ ρ o H).bind fun v H1 => (evE Γ ρ i H1).bind fun k H2 => index v k H2
  | .slice o lo hi, H => (evE Γ ρ o H).bind fun v H1 => (evE Γ ρ lo H1).bind fun l H2 => (evE Γ ρ hi H2).bind fun u H3 =>
      match intO l, intO u with
      | some l, some u => sliceV v l u H3
      | _, _ => .stuck
  | .list es, H => (evEs Γ ρ es H).bind fun vs H1 => new (.list vs) H1
  | .tup es, H => (evEs Γ ρ es H).bind fun vs H1 => .ok (.tup vs) H1
  | .menu es i, H => (evEs Γ ρ es H).bind fun vs H1 => (evE Γ ρ i H1).bind fun k H2 => index (.lst vs) k H2
  | .comp elt x it, H => if Γ.hd then .stuck else (evE Γ ρ it H).bind fun v H1 => match items H1 v with
      | some xs => (turns (fun y H2 => (evE Γ ((x, y) :: ρ) elt H2).bind fun r H4 => .ok (some r) H4)
            (sameO v H1) H1.length xs (H1 ++ [.list []])).bind fun _ H5 => .ok (.ref H1.length) H5
      | Option.none => .stuck
  | .dict0, H => new (.keys []) H
noncomputable def evAnd (Γ : Fn) (ρ : Rho) : List E → Hp → R V
  | [], _ => .stuck
  | [e], H => evE Γ ρ e H
  | e :: es, H => (truthR (evE Γ ρ e H)).bind fun t H2 => if t then evAnd Γ ρ es H2 else .ok (.bool false) H2
noncomputable def evOr (Γ : Fn) (ρ : Rho) : List E → Hp → R V
  | [], _ => .stuck
  | [e], H => evE Γ ρ e H
  | e :: es, H => (truthR (evE Γ ρ e H)).bind fun t H2 => if t then .ok (.bool true) H2 else evOr Γ ρ es H2
noncomputable def evEs (Γ : Fn) (ρ : Rho) : List E → Hp → R (List V)
  | [], H => .ok [] H
  | e :: es, H => (evE Γ ρ e H).bind fun v H1 => (evEs Γ ρ es H1).bind fun vs H2 => .ok (v :: vs) H2
end
@[simp] theorem evE_var (Γ : Fn) (ρ : Rho) (x : String) (H : Hp) : evE Γ ρ (.var x) H = (ofO H (ρ.lookup x)) := rfl
@[simp] theorem evE_glob (Γ : Fn) (ρ : Rho) (x : String) (H : Hp) : evE Γ ρ (.glob x) H = (ofO H (Γ.const x)) := rfl
@[simp] theorem evE_none (Γ : Fn) (ρ : Rho)  (H : Hp) : evE Γ ρ (.none) H = (.ok .none H) := rfl
@[simp] theorem evE_bool (Γ : Fn) (ρ : Rho) (b : Bool) (H : Hp) : evE Γ ρ (.bool b) H = (.ok (.bool b) H) := rfl
@[simp] theorem evE_int (Γ : Fn) (ρ : Rho) (i : Int) (H : Hp) : evE Γ ρ (.int i) H = (.ok (.int i) H) := rfl
@[simp] theorem evE_str (Γ : Fn) (ρ : Rho) (s : String) (H : Hp) : evE Γ ρ (.str s) H = (.ok (.str (Str.ofString s)) H) := rfl
@[simp] theorem evE_bin (Γ : Fn) (ρ : Rho) (op : Op) (l : E) (r : E) (H : Hp) : evE Γ ρ (.bin op l r) H = ((evE Γ ρ l H).bind fun a H1 => (evE Γ ρ r H1).bind fun b H2 => bin op a b H2) := rfl
@[simp] theorem evE_neg (Γ : Fn) (ρ : Rho) (e : E) (H : Hp) : evE Γ ρ (.neg e) H = ((evE Γ ρ e H).bind fun a H1 => match a with | .int i => .ok (.int (-i)) H1 | _ => .stuck) := rfl
@[simp] theorem evE_not (Γ : Fn) (ρ : Rho) (e : E) (H : Hp) : evE Γ ρ (.not e) H = ((truthR (evE Γ ρ e H)).bind fun b H1 => .ok (.bool (!b)) H1) := rfl
@[simp] theorem evE_and (Γ : Fn) (ρ : Rho) (es : List E) (H : Hp) : evE Γ ρ (.and es) H = (evAnd Γ ρ es H) := rfl
@[simp] theorem evE_or (Γ : Fn) (ρ : Rho) (es : List E) (H : Hp) : evE Γ ρ (.or es) H = (evOr Γ ρ es H) := rfl
@[simp] theorem evE_cmp (Γ : Fn) (ρ : Rho) (l : E) (op : Cm) (r : E) (H : Hp) : evE Γ ρ (.cmp l op r) H = ((evE Γ ρ l H).bind fun a H1 => (evE Γ ρ r H1).bind fun b H2 => ofO H2 ((cmp op a b H2).map .bool)) := rfl
@[simp] theorem evE_cmp2 (Γ : Fn) (ρ : Rho) (l : E) (op : Cm) (m : E) (op' : Cm) (r : E) (H : Hp) : evE Γ ρ (.cmp2 l op m op' r) H = ((evE Γ ρ l H).bind fun a H1 => (evE Γ ρ m H1).bind fun b H2 => (ofO H2 (cmp op a b H2)).bind fun t H3 =>
      if t then (evE Γ ρ r H3).bind fun c H4 => ofO H4 ((cmp op' b c H4).map .bool) else .ok (.bool false) H3) := rfl
@[simp] theorem evE_call (Γ : Fn) (ρ : Rho) (f : String) (args : List E) (H : Hp) : evE Γ ρ (.call f args) H = ((evEs Γ ρ args H).bind fun vs H1 => if mayCall Γ.hd f then match builtin f vs H1 with | .stuck => if Γ.hd then .stuck else Γ.call f vs H1 | r => r else .stuck) := rfl
@[simp] theorem evE_isinst (Γ : Fn) (ρ : Rho) (e : E) (T : String) (H : Hp) : evE Γ ρ (.isinst e T) H = ((evE Γ ρ e H).bind fun v H1 => ofO H1 ((isinst v T H1).map .bool)) := rfl
@[simp] theorem evE_meth (Γ : Fn) (ρ : Rho) (o : E) (m : String) (args : List E) (H : Hp) : evE Γ ρ (.meth o m args) H = ((evE Γ ρ o H).bind fun v H1 => match kindV v H1 with
      | some T => if methKnown T m then (evEs Γ ρ args H1).bind fun vs H2 => meth T v m vs H2 else .stuck
      | Option.none => .stuck) := rfl
@[simp] theorem evE_attr (Γ : Fn) (ρ : Rho) (o : E) (a : String) (H : Hp) : evE Γ ρ (.attr o a) H = ((evE Γ ρ o H).bind fun v H1 => attrV v a H1) := rfl
@[simp] theorem evE_idx (Γ : Fn) (ρ : Rho) (o : E) (i : E) (H : Hp) : evE Γ ρ (.idx o i) H = ((evE Γ ρ o H).bind fun v H1 => (evE Γ ρ i H1).bind fun k H2 => index v k H2) := rfl
@[simp] theorem evE_slice (Γ : Fn) (ρ : Rho) (o : E) (lo : E) (hi : E) (H : Hp) : evE Γ ρ (.slice o lo hi) H = ((evE Γ ρ o H).bind fun v H1 => (evE Γ ρ lo H1).bind fun l H2 => (evE Γ ρ hi H2).bind fun u H3 =>
      match intO l, intO u with
      | some l, some u => sliceV v l u H3
      | _, _ => .stuck) := rfl
@[simp] theorem evE_list (Γ : Fn) (ρ : Rho) (es : List E) (H : Hp) : evE Γ ρ (.list es) H = ((evEs Γ ρ es H).bind fun vs H1 => new (.list vs) H1) := rfl
@[simp] theorem evE_tup (Γ : Fn) (ρ : Rho) (es : List E) (H : Hp) : evE Γ ρ (.tup es) H = ((evEs Γ ρ es H).bind fun vs H1 => .ok (.tup vs) H1) := rfl
@[simp] theorem evE_menu (Γ : Fn) (ρ : Rho) (es : List E) (i : E) (H : Hp) : evE Γ ρ (.menu es i) H = ((evEs Γ ρ es H).bind fun vs H1 => (evE Γ ρ i H1).bind fun k H2 => index (.lst vs) k H2) := rfl
@[simp] theorem evE_comp (Γ : Fn) (ρ : Rho) (elt : E) (x : String) (it : E) (H : Hp) : evE Γ ρ (.comp elt x it) H = (if Γ.hd then .stuck else (evE Γ ρ it H).bind fun v H1 => match items H1 v with
      | some xs => (turns (fun y H2 => (evE Γ ((x, y) :: ρ) elt H2).bind fun r H4 => .ok (some r) H4)
            (sameO v H1) H1.length xs (H1 ++ [.list []])).bind fun _ H5 => .ok (.ref H1.length) H5
      | Option.none => .stuck) := rfl
@[simp] theorem evE_dict0 (Γ : Fn) (ρ : Rho) (H : Hp) : evE Γ ρ .dict0 H = new (.keys []) H := rfl
@[simp] theorem evAnd_one (Γ : Fn) (ρ : Rho) (e : E) (H : Hp) : evAnd Γ ρ [e] H = evE Γ ρ e H := rfl
@[simp] theorem evOr_one (Γ : Fn) (ρ : Rho) (e : E) (H : Hp) : evOr Γ ρ [e] H = evE Γ ρ e H := rfl
@[simp] theorem evAnd_cons (Γ : Fn) (ρ : Rho) (e e2 : E) (es : List E) (H : Hp) : evAnd Γ ρ (e :: e2 :: es) H = (truthR (evE Γ ρ e H)).bind fun t H2 => if t then evAnd Γ ρ (e2 :: es) H2 else .ok (.bool false) H2 := rfl
@[simp] theorem evOr_cons (Γ : Fn) (ρ : Rho) (e e2 : E) (es : List E) (H : Hp) : evOr Γ ρ (e :: e2 :: es) H = (truthR (evE Γ ρ e H)).bind fun t H2 => if t then .ok (.bool true) H2 else evOr Γ ρ (e2 :: es) H2 := rfl
@[simp] theorem evEs_nil (Γ : Fn) (ρ : Rho) (H : Hp) : evEs Γ ρ [] H = .ok [] H := rfl
@[simp] theorem evEs_cons (Γ : Fn) (ρ : Rho) (e : E) (es : List E) (H : Hp) : evEs Γ ρ (e :: es) H = (evE Γ ρ e H).bind fun v H1 => (evEs Γ ρ es H1).bind fun vs H2 => .ok (v :: vs) H2 := rfl
noncomputable def evT (Γ : Fn) (ρ : Rho) (e : E) (H : Hp) : R Bool := truthR (evE Γ ρ e H)
noncomputable def setAll : List String → List V → Rho → Option Rho
  | [], [], ρ => some ρ
  | x :: xs, v :: vs, ρ => setAll xs vs (setL x v ρ)
  | _, _, _ => Option.none

noncomputable def forL (body : V → Rho → Hp → RS) (chk : Hp → Bool) : List V → Rho → Hp → RS
  | [], ρ, H => if chk H then .next ρ H else .stuck
  | v :: vs, ρ, H => if chk H then match body v ρ H with
      | .next ρ1 H1 => forL body chk vs ρ1 H1
      | .cont ρ1 H1 => forL body chk vs ρ1 H1
      | r => r
    else .stuck

noncomputable def evIt (Γ : Fn) (ρ : Rho) : It → Hp → R (V × List V)
  | .e e, H => (evE Γ ρ e H).bind fun v H1 => (ofO H1 (items H1 v)).bind fun xs H2 => .ok (v, xs) H2

noncomputable def ofR {α : Type} (ρ : Rho) (x : R α) (k : α → Hp → RS) : RS :=
  match x with
  | .ok a H => k a H
  | .raise c H => .raise c ρ H
  | .stuck => .stuck

noncomputable def tupItems (_ : Hp) : V → Option (List V)
  | .tup vs => some vs
  | _ => Option.none

mutual
noncomputable def exS (Γ : Fn) : S → Rho → Hp → RS
  | .asg x e, ρ, H => ofR ρ (evE Γ ρ e H) fun v H1 => .next (setL x v ρ) H1
  | .unpack xs e, ρ, H => if Γ.hd then .stuck else ofR ρ (evE Γ ρ e H) fun v H1 => match tupItems H1 v with
      | some vs => match setAll xs vs ρ with
        | some ρ1 => .next ρ1 H1
        | Option.none => .stuck
      | _ => .stuck
  | .setattr o a e, ρ, H => ofR ρ (evE Γ ρ e H) fun v H1 => ofR ρ (evE Γ ρ o H1) fun w H2 => ofR ρ (setA w a v H2) fun _ H3 => .next ρ H3
  | .setidx o i e, ρ, H => ofR ρ (evE Γ ρ e H) fun _ H1 => ofR ρ (evE Γ ρ o H1) fun w H2 => ofR ρ (evE Γ ρ i H2) fun k H3 => ofR ρ (setK w k H3) fun _ H4 => .next ρ H4
  | .ret e, ρ, H => ofR ρ (evE Γ ρ e H) fun v H1 => .ret v H1
  | .ret0, _, H => .ret .none H
  | .iff t a b, ρ, H => ofR ρ (evT Γ ρ t H) fun c H1 => if c then exSs Γ a ρ H1 else exSs Γ b ρ H1
  | .for1 x it b, ρ, H => if Γ.hd then .stuck else ofR ρ (evIt Γ ρ it H) fun vx H1 => forL (fun v ρ1 H2 => exSs Γ b (setL x v ρ1) H2) (sameO vx.1 H1) vx.2 ρ H1
  | .expr e, ρ, H => ofR ρ (evE Γ ρ e H) fun _ H1 => .next ρ H1
  | .raise c _, ρ, H => if Γ.hd then .stuck else .raise c ρ H
  | .tryE b hs, ρ, H => if Γ.hd then .stuck else match exSs Γ b ρ H with
      | .raise c ρ1 H1 => exH { Γ with hd := true } c hs ρ1 H1
      | r => r
  | .cont, ρ, H => .cont ρ H
noncomputable def exSs (Γ : Fn) : List S → Rho → Hp → RS
  | [], ρ, H => .next ρ H
  | s :: ss, ρ, H => match exS Γ s ρ H with
    | .next ρ1 H1 => exSs Γ ss ρ1 H1
    | r => r
noncomputable def exH (Γ : Fn) (c : String) : List (String × Option String × List S) → Rho → Hp → RS
  | [], ρ, H => .raise c ρ H
  | (T, n, b) :: r, ρ, H => if excIs c T then match n with
        | Option.none => match exSs Γ b ρ H with
          | .raise _ _ _ => .stuck
          | x => x
        | some x => match exSs Γ b (setL x (.exc c) ρ) H with
          | .ret v H1 => .ret v H1
          | _ => .stuck
      else exH Γ c r ρ H
end

@[simp] theorem exS_asg (Γ : Fn) (x : String) (e : E) (ρ : Rho) (H : Hp) : exS Γ (.asg x e) ρ H = (ofR ρ (evE Γ ρ e H) fun v H1 => .next (setL x v ρ) H1) := rfl
@[simp] theorem exS_unpack (Γ : Fn) (xs : List String) (e : E) (ρ : Rho) (H : Hp) : exS Γ (.unpack xs e) ρ H = (if Γ.hd then .stuck else ofR ρ (evE Γ ρ e H) fun v H1 => match tupItems H1 v with
      | some vs => match setAll xs vs ρ with
        | some ρ1 => .next ρ1 H1
        | Option.none => .stuck
      | _ => .stuck) := rfl
@[simp] theorem exS_setattr (Γ : Fn) (o : E) (a : String) (e : E) (ρ : Rho) (H : Hp) : exS Γ (.setattr o a e) ρ H = (ofR ρ (evE Γ ρ e H) fun v H1 => ofR ρ (evE Γ ρ o H1) fun w H2 => ofR ρ (setA w a v H2) fun _ H3 => .next ρ H3) := rfl
@[simp] theorem exS_setidx (Γ : Fn) (o i e : E) (ρ : Rho) (H : Hp) : exS Γ (.setidx o i e) ρ H = (ofR ρ (evE Γ ρ e H) fun _ H1 => ofR ρ (evE Γ ρ o H1) fun w H2 => ofR ρ (evE Γ ρ i H2) fun k H3 => ofR ρ (setK w k H3) fun _ H4 => .next ρ H4) := rfl
@[simp] theorem exS_ret (Γ : Fn) (e : E) (ρ : Rho) (H : Hp) : exS Γ (.ret e) ρ H = (ofR ρ (evE Γ ρ e H) fun v H1 => .ret v H1) := rfl
@[simp] theorem exS_ret0 (Γ : Fn)  (ρ : Rho) (H : Hp) : exS Γ (.ret0) ρ H = (.ret .none H) := rfl
@[simp] theorem exS_iff (Γ : Fn) (t : E) (a : List S) (b : List S) (ρ : Rho) (H : Hp) : exS Γ (.iff t a b) ρ H = (ofR ρ (evT Γ ρ t H) fun c H1 => if c then exSs Γ a ρ H1 else exSs Γ b ρ H1) := rfl
@[simp] theorem exS_for1 (Γ : Fn) (x : String) (it : It) (b : List S) (ρ : Rho) (H : Hp) : exS Γ (.for1 x it b) ρ H = (if Γ.hd then .stuck else ofR ρ (evIt Γ ρ it H) fun vx H1 => forL (fun v ρ1 H2 => exSs Γ b (setL x v ρ1) H2) (sameO vx.1 H1) vx.2 ρ H1) := rfl
@[simp] theorem exS_expr (Γ : Fn) (e : E) (ρ : Rho) (H : Hp) : exS Γ (.expr e) ρ H = (ofR ρ (evE Γ ρ e H) fun _ H1 => .next ρ H1) := rfl
@[simp] theorem exS_raise (Γ : Fn) (c : String) (u1 : String) (ρ : Rho) (H : Hp) : exS Γ (.raise c u1) ρ H = (if Γ.hd then .stuck else .raise c ρ H) := rfl
@[simp] theorem exS_tryE (Γ : Fn) (b : List S) (hs : List (String × Option String × List S)) (ρ : Rho) (H : Hp) : exS Γ (.tryE b hs) ρ H = (if Γ.hd then .stuck else match exSs Γ b ρ H with
      | .raise c ρ1 H1 => exH { Γ with hd := true } c hs ρ1 H1
      | r => r) := rfl
@[simp] theorem exS_cont (Γ : Fn)  (ρ : Rho) (H : Hp) : exS Γ (.cont) ρ H = (.cont ρ H) := rfl
@[simp] theorem exSs_nil (Γ : Fn) (ρ : Rho) (H : Hp) : exSs Γ [] ρ H = .next ρ H := rfl
@[simp] theorem exSs_cons (Γ : Fn) (s : S) (ss : List S) (ρ : Rho) (H : Hp) : exSs Γ (s :: ss) ρ H = (match exS Γ s ρ H with
    | .next ρ1 H1 => exSs Γ ss ρ1 H1
    | r => r) := rfl
@[simp] theorem exH_nil (Γ : Fn) (c : String) (ρ : Rho) (H : Hp) : exH Γ c [] ρ H = .raise c ρ H := rfl
@[simp] theorem exH_cons (Γ : Fn) (c T : String) (n : Option String) (b : List S) (r : List (String × Option String × List S)) (ρ : Rho) (H : Hp) : exH Γ c ((T, n, b) :: r) ρ H = (if excIs c T then match n with
        | Option.none => match exSs Γ b ρ H with
          | .raise _ _ _ => .stuck
          | x => x
        | some x => match exSs Γ b (setL x (.exc c) ρ) H with
          | .ret v H1 => .ret v H1
          | _ => .stuck
      else exH Γ c r ρ H) := rfl

set_option genInjectivity false in
structure Def where
  name : String
  params : List String
  body : List S

noncomputable def runDef (Γ : Fn) (d : Def) (vs : List V) (H : Hp) : R V :=
  match setAll d.params vs [] with
  | some ρ => match exSs Γ d.body ρ H with
    | .next _ H1 => .ok .none H1
    | .ret v H1 => .ok v H1
    | .raise c _ H1 => .raise c H1
    | _ => .stuck
  | Option.none => .stuck

noncomputable def runClass (Γ : Fn) (c : String) (d : Def) (vs : List V) (H : Hp) : R V :=
  (runDef Γ d (.ref (H.length + 1) :: vs) (H ++ [.ns [], .inst c H.length])).bind fun v H1 => match v with | .none => .ok (.ref (H.length + 1)) H1 | _ => .stuck

noncomputable def lk (defs : List Def) (cls : List (String × Def)) (const : String → Option V) : Nat → Fn
  | 0 => { call := fun _ _ _ => .stuck, const }
  | n + 1 => { const, call := fun f vs H => match defs.find? (fun d => d.name == f) with
      | some d => runDef (lk defs cls const n) d vs H
      | Option.none => match cls.lookup f with
        | some d => runClass (lk defs cls const n) f d vs H
        | Option.none => .stuck }
end
end Mine

/-! Sim1 -/
namespace Mine
open PySem PyProof.Rows

theorem ofString_inj {a b : String} (h : Str.ofString a = Str.ofString b) : a = b := by
  rw [Str.ofString_eq_toList, Str.ofString_eq_toList] at h
  have h1 := congrArg (fun s : Str => s.cps.toList) h
  simp only at h1
  have inj : ∀ l l' : List Char, l.map Char.toNat = l'.map Char.toNat → l = l' := by
    intro l
    induction l with
    | nil => intro l' h; cases l' with | nil => rfl | cons => cases h
    | cons c l ih =>
      intro l' h
      cases l' with
      | nil => cases h
      | cons d l' =>
        simp only [List.map_cons, List.cons.injEq] at h
        rw [ih l' h.2]
        have : c = d := by
          have h3 : c.val.toNat = d.val.toNat := h.1
          exact Char.ext (UInt32.toNat_inj.mp h3)
        rw [this]
  exact String.toList_inj.mp (inj _ _ h1)

noncomputable def biTable : List (String × Value) := [("len", .builtin "len"), ("abs", .builtin "abs"), ("tuple", .type "tuple"), ("min", .builtin "min"), ("max", .builtin "max"), ("isinstance", .builtin "isinstance"), ("range", .type "range"), ("list", .type "list"), ("int", .type "int"), ("bool", .type "bool"), ("ValueError", .type "ValueError")]
noncomputable def biVal (f : String) : Option Value := biTable.lookup f
theorem biVal_noRef {f : String} {v : Value} (h : biVal f = some v) (a : Addr) : v ≠ .ref a := by
  have key : ∀ (l : List (String × Value)), (l.all fun p => match p.2 with | .ref _ => false | _ => true) = true → l.lookup f = some v → v ≠ .ref a := by
    intro l
    induction l with
    | nil => intro _ e; cases e
    | cons p l ih =>
      intro ha e
      rw [List.all_cons, Bool.and_eq_true] at ha
      rw [List.lookup_cons] at e
      cases hb : f == p.1 with
      | true => rw [hb] at e; cases e; intro q; rw [q] at ha; exact nomatch ha.1
      | false => rw [hb] at e; exact ih ha.2 e
  exact key biTable (by decide) h

noncomputable def Loads (mg mb : Str → Option Value) (f : String) (v : Value) : Prop := mg (Str.ofString f) = some v ∨ (mg (Str.ofString f) = Option.none ∧ mb (Str.ofString f) = some v)

noncomputable abbrev bmVE : List Value := [.type "ValueError", .type "Exception", .type "BaseException", .type "object"]

inductive OwnExc (mg : Str → Option Value) (h : Heap) (ex : String → Bool) (c : String) : Prop
  | mk (C : Addr) (bm : List Value) (N : Addr) (nm q : Str) (bs : List Value) (hdct : Bool) (sn : List Str) (sub : List Value) (ab : Bool) (col : Option Bool) (dd : Option Addr) (k0 k1 k2 k3 k5 : Option Value) (mN : Str → Option Value)
    (e : mg (Str.ofString c) = some (.ref C)) (hC : h.get? C = some (excClassObj nm q C N bs bm hdct sn sub ab col dd k0 k1 k2 k3 k5 "ValueError.__new__")) (hN : h.Ns N mN) (hi : mN "__init__" = Option.none) (TL : OwnTail h bmVE bm)
    (hs : ∀ T D, ex T = true → mg (Str.ofString T) = some (.ref D) → (Value.ref C :: bm).contains (.ref D) = excIs c T) : OwnExc mg h ex c

structure ClsOk (K : PySem.W.Frag) (C fI : Addr) : Prop where
  makes : PySem.W.makesIn K C = true
  init : PySem.W.findIn K (.ref C) "__init__" = some (some (.ref fI))
  fn : PySem.W.typeIn K (.ref fI) = some (.type "function")
  get : PySem.W.findIn K (.ref C) "__getattribute__" = some (some (.builtin "object.__getattribute__"))
  set : PySem.W.findIn K (.ref C) "__setattr__" = some (some (.builtin "object.__setattr__"))
  over : PySem.W.plainOver K C = true
  dict : (PySem.W.clsIn K C).any (·.hasDict) = true
  names : ∀ a, attrName a = true → PySem.W.findIn K (.ref C) (Str.ofString a) = some Option.none

structure ExcGet (K : PySem.W.Frag) (C : Addr) : Prop where
  cls : (PySem.W.clsIn K C).isSome = true
  ga : PySem.W.findIn K (.ref C) "__getattribute__" = some (some (.builtin "BaseException.__getattribute__"))
  nga : PySem.W.findIn K (.ref C) "__getattr__" = some Option.none
  find : PySem.W.findObj K C Option.none "__class__" = some (.bind (.builtin "getset_descriptor.__get__") (.builtin "object.__class__"))
  obj : PySem.W.mroIn K C (.type "object") = some true
  bexc : PySem.W.mroIn K C (.type "BaseException") = some true

set_option genInjectivity false in
structure Cx where
  prog : Program
  w : World
  base : Heap
  mg : Str → Option Value
  mb : Str → Option Value
  g : base.Ns mainGlobals mg
  b : base.Ns builtinsNs mb
  nolimit : base.NoLimit
  /-- the names that the text's defs name out of themselves -/
  kn : String → Bool
  known : ∀ f, kn f = true → ∃ v, Loads mg mb f v
  bi : ∀ f v, biVal f = some v → kn f = true → mg (Str.ofString f) = Option.none ∧ mb (Str.ofString f) = some v
  /-- the text's own exception classes -/
  ex : String → Bool
  own : ∀ c, ex c = true → OwnExc mg base ex c
  /-- the text's own plain classes, and the names of their attributes -/
  K : PySem.W.Frag
  kin : K.In base
  sysm : (K.lookup sysModules).isSome = true
  exk : ∀ c T C tv, ex c = true → exName T = true → kn T = true → mg (Str.ofString c) = some (.ref C) → Loads mg mb T tv → ExcGet K C ∧ PySem.W.kitOne K (.ref C) tv = some (excIs c T)
  cl : String → Bool
  cls : ∀ c, cl c = true → ∃ C fI, mg (Str.ofString c) = some (.ref C) ∧ ClsOk K C fI
  /-- each of them may be called plainly -/
  kp : ∀ f v, kn f = true → Loads mg mb f v → ∀ h : Heap, (∀ b o, base.get? b = some o → h.get? b = some o) →
    ∃ k, (k = Keeper.frame ∨ k = Keeper.machine ∨ k = Keeper.boundFrame) ∧ PySem.W.Looks (model prog w) h (keeperOf v) k

noncomputable abbrev Cx.M (X : Cx) : Model := model X.prog X.w

noncomputable def ExCls (X : Cx) (c : String) (C : Addr) : Prop := X.mg (Str.ofString c) = some (.ref C) ∧ X.ex c = true
noncomputable def ObjCls (o : Obj) (C : Addr) : Prop := o.cls = .ref C ∧ o.dict = Option.none

mutual
inductive VR (X : Cx) (η : List Addr) (h : Heap) : V → Value → Prop
  | none : VR X η h .none .none
  | bool (b : Bool) : VR X η h (.bool b) (.bool b)
  | int (i : Int) (t : Tok) : VR X η h (.int i) (.int i t)
  | str (s : Str) (t : Tok) : PyData.strOk s = true → VR X η h (.str s) (.str s t)
  | tup {a : Addr} {items : Array Value} {n : Nat} {vs : List V} : h.get? a = some { cls := .type "tuple", data := .seq items n } → a ∉ η → VRs X η h vs items.toList → vs.length ≤ line → VR X η h (.tup vs) (.ref a)
  | ref {n : Nat} {a : Addr} : η[n]? = some a → VR X η h (.ref n) (.ref a)
  | exc {c : String} {a C : Addr} {o : Obj} {fs : Array Value} : h.get? a = some o → ObjCls o C → o.data = .fields fs → ExCls X c C → a ∉ η → VR X η h (.exc c) (.ref a)
  | rng {a b c : Int} {t u v : Tok} {r : Addr} : IsRange h r a b c t u v → r ∉ η → VR X η h (.rng a b c) (.ref r)
  | lst {a : Addr} {items : Array Value} {n : Nat} {vs : List V} : h.get? a = some { cls := .type "list", data := .seq items n } → a ∉ η → VRs X η h vs items.toList → vs.length ≤ line → VR X η h (.lst vs) (.ref a)
  | scr {a : Addr} {items : Array Value} {ns : List Int} : X.base.IsList a items → IntsAre items.toList ns → ns.length ≤ line → VR X η h (.scr ns) (.ref a)
inductive VRs (X : Cx) (η : List Addr) (h : Heap) : List V → List Value → Prop
  | nil : VRs X η h [] []
  | cons {v : V} {vs : List V} {m : Value} {ms : List Value} : VR X η h v m → VRs X η h vs ms → VRs X η h (v :: vs) (m :: ms)
end

structure Step (fr own η : List Addr) (h : Heap) (η' : List Addr) (h' : Heap) : Prop where
  pre : ∃ l, η' = η ++ l ∧ ∀ a ∈ l, h.get? a = Option.none
  alive : ∀ b o, h.get? b = some o → ∃ o', h'.get? b = some o'
  same : ∀ b o, h.get? b = some o → b ∉ η → b ∉ own → b ∉ fr → h'.get? b = some o
  slots : ∀ b o, h.get? b = some o → b ∉ η → b ∉ own → b ∈ fr → ∃ sl, h'.get? b = some { o with slots := sl }
  dicts : ∀ b o, h.get? b = some o → b ∉ η → ∀ es n, o.data = .dict es n → ∃ o' es' n', h'.get? b = some o' ∧ o'.data = .dict es' n'
  cells : ∀ b o, h.get? b = some o → b ∉ η → ∀ v, o.data = .cell v → ∃ o' v', h'.get? b = some o' ∧ o'.data = .cell v'

theorem Step.refl (fr own η : List Addr) (h : Heap) : Step fr own η h η h :=
  ⟨⟨[], by simp, fun _ q => nomatch q⟩, fun _ o e => ⟨o, e⟩, fun _ _ e _ _ _ => e, fun _ o e _ _ _ => ⟨o.slots, e⟩, fun _ o e _ es n d => ⟨o, es, n, e, d⟩, fun _ o e _ v d => ⟨o, v, e, d⟩⟩

theorem Step.mem {fr own η η' : List Addr} {h h' : Heap} (x : Step fr own η h η' h') {b : Addr} {o : Obj} (e : h.get? b = some o) (hb : b ∉ η) : b ∉ η' := by
  obtain ⟨l, rfl, hl⟩ := x.pre
  intro hm
  rcases List.mem_append.mp hm with hm | hm
  · exact hb hm
  · rw [hl b hm] at e; cases e

theorem Step.trans {fr own η η1 η2 : List Addr} {h h1 h2 : Heap} (x : Step fr own η h η1 h1) (y : Step fr own η1 h1 η2 h2) : Step fr own η h η2 h2 := by
  refine ⟨?_, fun b o e => let ⟨o1, e1⟩ := x.alive b o e; y.alive b o1 e1, fun b o e hb ho hf => y.same b o (x.same b o e hb ho hf) (x.mem e hb) ho hf, fun b o e hb ho hf => ?_,
    fun b o e hb es k d => let ⟨o1, es1, n1, e1, d1⟩ := x.dicts b o e hb es k d; y.dicts b o1 e1 (x.mem e hb) es1 n1 d1, fun b o e hb v d => let ⟨o1, v1, e1, d1⟩ := x.cells b o e hb v d; y.cells b o1 e1 (x.mem e hb) v1 d1⟩
  · obtain ⟨l1, rfl, h1'⟩ := x.pre
    obtain ⟨l2, rfl, h2'⟩ := y.pre
    refine ⟨l1 ++ l2, by simp, fun a ha => ?_⟩
    rcases List.mem_append.mp ha with ha | ha
    · exact h1' a ha
    · cases hq : h.get? a with
      | none => rfl
      | some o =>
        obtain ⟨o', e'⟩ := x.alive a o hq
        rw [h2' a ha] at e'; cases e'
  · obtain ⟨sl, e1⟩ := x.slots b o e hb ho hf
    obtain ⟨sl2, e2⟩ := y.slots b _ e1 (x.mem e hb) ho hf
    exact ⟨sl2, e2⟩

theorem Step.weak {fr own own' η η' : List Addr} {h h' : Heap} (x : Step fr own η h η' h') (ho : ∀ a ∈ own, a ∈ own') : Step fr own' η h η' h' :=
  ⟨x.pre, x.alive, fun b o e hb hb' hf => x.same b o e hb (fun q => hb' (ho b q)) hf, fun b o e hb hb' hf => x.slots b o e hb (fun q => hb' (ho b q)) hf, x.dicts, x.cells⟩

theorem Step.ext (fr own η : List Addr) {h h' : Heap} (k : ∀ b o, h.get? b = some o → h'.get? b = some o) : Step fr own η h η h' :=
  ⟨⟨[], by simp, fun _ q => nomatch q⟩, fun b o e => ⟨o, k b o e⟩, fun b o e _ _ _ => k b o e, fun b o e _ _ _ => ⟨o.slots, k b o e⟩, fun b o e _ es n d => ⟨o, es, n, k b o e, d⟩, fun b o e _ v d => ⟨o, v, k b o e, d⟩⟩

noncomputable def Frm (h : Heap) (l : List Addr) : Prop := ∀ b ∈ l, ∃ o, h.get? b = some o ∧ ((∃ es n, o.data = .dict es n) ∨ ∃ v, o.data = .cell v)

theorem Frm.not {h : Heap} {l : List Addr} (x : Frm h l) {b : Addr} {o : Obj} (e : h.get? b = some o) (hd : (∀ es n, o.data ≠ .dict es n) ∧ ∀ v, o.data ≠ .cell v) : b ∉ l := by
  intro hm
  obtain ⟨o', e', hq⟩ := x b hm
  rw [e] at e'; cases e'
  rcases hq with ⟨es, n, q⟩ | ⟨v, q⟩
  · exact hd.1 es n q
  · exact hd.2 v q

theorem getElem?_pre {η l : List Addr} {n : Nat} {a : Addr} (e : η[n]? = some a) : (η ++ l)[n]? = some a := by
  rw [List.getElem?_append_left (List.getElem?_eq_some_iff.mp e).1]; exact e

section
variable {X : Cx} {fr own η η' : List Addr} {h h' : Heap}
mutual
theorem VR.step (x : Step fr own η h η' h') (f : Frm h (own ++ fr)) : ∀ {v : V} {m : Value}, VR X η h v m → VR X η' h' v m
  | _, _, .none => .none
  | _, _, .bool b => .bool b
  | _, _, .int i t => .int i t
  | _, _, .str s t q => .str s t q
  | _, _, .tup e hn r l =>
    have q := f.not e ⟨(fun es n q => (by cases q)), fun v q => (by cases q)⟩
    .tup (x.same _ _ e hn (fun z => q (List.mem_append.mpr (.inl z))) (fun z => q (List.mem_append.mpr (.inr z)))) (x.mem e hn) (VRs.step x f r) l
  | _, _, .lst e hn r l =>
    have q := f.not e ⟨(fun es n q => (by cases q)), fun v q => (by cases q)⟩
    .lst (x.same _ _ e hn (fun z => q (List.mem_append.mpr (.inl z))) (fun z => q (List.mem_append.mpr (.inr z)))) (x.mem e hn) (VRs.step x f r) l
  | _, _, .ref e => by
    obtain ⟨l, rfl, _⟩ := x.pre
    exact .ref (getElem?_pre e)
  | _, _, .exc e c dt hm hn =>
    have q := f.not e ⟨fun es n q => (by rw [dt] at q; cases q), fun v q => (by rw [dt] at q; cases q)⟩
    .exc (x.same _ _ e hn (fun z => q (List.mem_append.mpr (.inl z))) (fun z => q (List.mem_append.mpr (.inr z)))) c dt hm (x.mem e hn)
  | _, _, .rng e hn =>
    have q := f.not e ⟨(fun es n q => (by cases q)), fun v q => (by cases q)⟩
    .rng (x.same _ _ e hn (fun z => q (List.mem_append.mpr (.inl z))) (fun z => q (List.mem_append.mpr (.inr z)))) (x.mem e hn)
  | _, _, .scr e i l => .scr e i l
theorem VRs.step (x : Step fr own η h η' h') (f : Frm h (own ++ fr)) : ∀ {v : List V} {m : List Value}, VRs X η h v m → VRs X η' h' v m
  | _, _, .nil => .nil
  | _, _, .cons a b => .cons (VR.step x f a) (VRs.step x f b)
end
end

inductive NRs (X : Cx) (η : List Addr) (h : Heap) : List (String × V) → List DictEntry → Prop
  | nil : NRs X η h [] []
  | cons {k : String} {v : V} {t : Tok} {es : List (String × V)} {e : DictEntry} {ds : List DictEntry} : e.key = .str (Str.ofString k) t → VR X η h v e.val → NRs X η h es ds → NRs X η h ((k, v) :: es) (e :: ds)

inductive OR (X : Cx) (η : List Addr) (h : Heap) : O → Obj → Prop
  | list {vs : List V} {items : Array Value} {n : Nat} : VRs X η h vs items.toList → vs.length ≤ line → OR X η h (.list vs) { cls := .type "list", data := .seq items n }
  | inst {c : String} {d : Nat} {C dx : Addr} : X.cl c = true → X.mg (Str.ofString c) = some (.ref C) → η[d]? = some dx → OR X η h (.inst c d) { cls := .ref C, dict := some dx, data := .plain }
  | ns {fs : List (String × V)} {ds : Array DictEntry} {n : Nat} : NRs X η h fs ds.toList → fs.length ≤ 21 → OR X η h (.ns fs) { cls := .type "dict", data := .dict ds n }
  | keys {ks : List Int} {kvs : List (Int × Value)} {ob : Obj} : ob.IsDictOf (intKind X.prog X.w) kvs → kvs.map (·.1) = ks → ks.length ≤ line → OR X η h (.keys ks) ob

structure Inv (X : Cx) (η : List Addr) (H : Hp) (h : Heap) : Prop where
  keep : ∀ b o, X.base.get? b = some o → h.get? b = some o
  len : η.length = H.length
  fresh : ∀ a ∈ η, X.base.get? a = Option.none
  nodup : η.Nodup
  objs : ∀ (n : Nat) (a : Addr) (o : O), η[n]? = some a → H[n]? = some o → ∃ ob, h.get? a = some ob ∧ OR X η h o ob

section
variable {X : Cx} {fr own η η' : List Addr} {h h' : Heap} {H : Hp}
theorem NRs.step (x : Step fr own η h η' h') (f : Frm h (own ++ fr)) {es : List (String × V)} {ds : List DictEntry} (r : NRs X η h es ds) : NRs X η' h' es ds := by
  induction r with
  | nil => exact .nil
  | cons a c _ ih => exact .cons a (c.step x f) ih
theorem OR.step (x : Step fr own η h η' h') (f : Frm h (own ++ fr)) {o : O} {ob : Obj} (r : OR X η h o ob) : OR X η' h' o ob := by
  cases r with
  | list d e => exact .list (d.step x f) e
  | inst a a' b =>
    obtain ⟨l, rfl, _⟩ := x.pre
    exact .inst a a' (getElem?_pre b)
  | ns d e => exact .ns (d.step x f) e
  | keys d e l => exact .keys d e l

theorem Inv.still (i : Inv X η H h) (x : Step fr own η h η h') (f : Frm h (own ++ fr)) (hm : ∀ a ∈ η, ∀ o, h.get? a = some o → h'.get? a = some o) (hf : ∀ b ∈ own ++ fr, X.base.get? b = Option.none) : Inv X η H h' := by
  refine ⟨fun b o e => ?_, i.len, i.fresh, i.nodup, fun n a o ha ho => ?_⟩
  · refine x.same b o (i.keep b o e) (fun q => ?_) (fun q => ?_) fun q => ?_
    · rw [i.fresh b q] at e; cases e
    · rw [hf b (List.mem_append.mpr (.inl q))] at e; cases e
    · rw [hf b (List.mem_append.mpr (.inr q))] at e; cases e
  · obtain ⟨ob, e, r⟩ := i.objs n a o ha ho
    exact ⟨ob, hm a (List.mem_of_getElem? ha) ob e, r.step x f⟩

theorem Inv.ext (i : Inv X η H h) (k : ∀ b o, h.get? b = some o → h'.get? b = some o) : Inv X η H h' :=
  i.still (fr := []) (own := []) (Step.ext _ _ _ k) (fun _ q => nomatch q) (fun _ _ o e => k _ o e) fun _ q => nomatch q
end

theorem Inv.alive {X : Cx} {η : List Addr} {H : Hp} {h : Heap} (i : Inv X η H h) {a : Addr} (ha : a ∈ η) : ∃ ob, h.get? a = some ob := by
  obtain ⟨n, hn, e⟩ := List.getElem_of_mem ha
  have hH : n < H.length := i.len ▸ hn
  obtain ⟨ob, e', _⟩ := i.objs n a H[n] (by rw [List.getElem?_eq_getElem hn, e]) (List.getElem?_eq_getElem hH)
  exact ⟨ob, e'⟩

theorem push_keeps (h : Heap) (ob : Obj) : ∀ b o, h.get? b = some o → (h.push ob).get? b = some o := fun _ _ e => Heap.get?_push_of_some ob e
theorem size_none (h : Heap) : h.get? h.objs.size = Option.none := by
  cases e : h.get? h.objs.size with
  | none => rfl
  | some o => exact absurd (Heap.lt_size e) (Nat.lt_irrefl _)

theorem Inv.size_off {X : Cx} {η : List Addr} {H : Hp} {h : Heap} (i : Inv X η H h) : h.objs.size ∉ η := fun q => by
  obtain ⟨ob, e⟩ := i.alive q
  rw [size_none] at e; cases e

theorem Step.push (fr own η : List Addr) (h : Heap) (ob : Obj) : Step fr own η h (η ++ [h.objs.size]) (h.push ob) :=
  ⟨⟨[h.objs.size], rfl, fun a ha => by rw [List.mem_singleton] at ha; rw [ha]; exact size_none h⟩, fun b o e => ⟨o, push_keeps h ob b o e⟩, fun b o e _ _ _ => push_keeps h ob b o e,
    fun b o e _ _ _ => ⟨o.slots, push_keeps h ob b o e⟩, fun b o e _ es n d => ⟨o, es, n, push_keeps h ob b o e, d⟩, fun b o e _ v d => ⟨o, v, push_keeps h ob b o e, d⟩⟩

section
variable {X : Cx} {fr own η : List Addr} {h : Heap} {H : Hp}
theorem Inv.alloc (i : Inv X η H h) {o : O} {ob : Obj} (r : OR X (η ++ [h.objs.size]) (h.push ob) o ob) (hfree : ob.isFreed = false) : Inv X (η ++ [h.objs.size]) (H ++ [o]) (h.push ob) := by
  refine ⟨fun b o e => push_keeps h ob b o (i.keep b o e), by simp [i.len], fun a ha => ?_, ?_, fun n a o' ha ho => ?_⟩
  · rcases List.mem_append.mp ha with ha | ha
    · exact i.fresh a ha
    · rw [List.mem_singleton] at ha; subst ha
      cases e : X.base.get? h.objs.size with
      | none => rfl
      | some o => have := i.keep _ _ e; rw [size_none] at this; cases this
  · rw [List.nodup_append]
    refine ⟨i.nodup, List.nodup_cons.mpr ⟨(fun q => nomatch q), List.nodup_nil⟩, fun a ha b hb => ?_⟩
    rw [List.mem_singleton] at hb; subst hb
    rintro rfl
    exact i.size_off ha
  · by_cases hn : n < η.length
    · rw [List.getElem?_append_left hn] at ha
      rw [List.getElem?_append_left (i.len ▸ hn)] at ho
      obtain ⟨ob', e, r'⟩ := i.objs n a o' ha ho
      exact ⟨ob', push_keeps h ob _ _ e, r'.step (Step.push [] [] η h ob) fun _ q => nomatch q⟩
    · have hn' := Nat.le_of_not_lt hn
      rw [List.getElem?_append_right hn'] at ha
      rw [List.getElem?_append_right (i.len ▸ hn')] at ho
      have e0 : n - η.length = 0 := by
        cases q : n - η.length with
        | zero => rfl
        | succ k => rw [q] at ha; cases ha
      rw [e0] at ha
      rw [← i.len, e0] at ho
      cases ha; cases ho
      exact ⟨ob, Heap.get?_push_size _ hfree, r⟩
end

theorem Step.make (fr own η : List Addr) {h h' : Heap} {a : Addr} (k : ∀ b o, h.get? b = some o → h'.get? b = some o) (ha : h.get? a = Option.none) : Step fr own η h (η ++ [a]) h' :=
  ⟨⟨[a], rfl, fun b hb => by rw [List.mem_singleton] at hb; rw [hb]; exact ha⟩, fun b o e => ⟨o, k b o e⟩, fun b o e _ _ _ => k b o e, fun b o e _ _ _ => ⟨o.slots, k b o e⟩, fun b o e _ es n d => ⟨o, es, n, k b o e, d⟩, fun b o e _ v d => ⟨o, v, k b o e, d⟩⟩

theorem Inv.make {X : Cx} {η : List Addr} {h h' : Heap} {H : Hp} {a : Addr} {o : O} {ob : Obj} (i : Inv X η H h) (k : ∀ b o, h.get? b = some o → h'.get? b = some o) (ha : h.get? a = Option.none) (e : h'.get? a = some ob) (r : OR X (η ++ [a]) h' o ob) : Inv X (η ++ [a]) (H ++ [o]) h' := by
  have an : a ∉ η := fun q => by obtain ⟨ob', z⟩ := i.alive q; rw [ha] at z; cases z
  refine ⟨fun b o e => k b o (i.keep b o e), by simp [i.len], fun b hb => ?_, ?_, fun n b o' hb ho => ?_⟩
  · rcases List.mem_append.mp hb with hb | hb
    · exact i.fresh b hb
    · rw [List.mem_singleton] at hb; subst hb
      cases g : X.base.get? b with
      | none => rfl
      | some o => have := i.keep _ _ g; rw [ha] at this; cases this
  · rw [List.nodup_append]
    refine ⟨i.nodup, List.nodup_cons.mpr ⟨(fun q => nomatch q), List.nodup_nil⟩, fun b hb c hc => ?_⟩
    rw [List.mem_singleton] at hc; subst hc
    rintro rfl
    exact an hb
  · by_cases hn : n < η.length
    · rw [List.getElem?_append_left hn] at hb
      rw [List.getElem?_append_left (i.len ▸ hn)] at ho
      obtain ⟨ob', e', r'⟩ := i.objs n b o' hb ho
      exact ⟨ob', k _ _ e', r'.step (Step.make [] [] η k ha) fun _ q => nomatch q⟩
    · have hn' := Nat.le_of_not_lt hn
      rw [List.getElem?_append_right hn'] at hb
      rw [List.getElem?_append_right (i.len ▸ hn')] at ho
      have e0 : n - η.length = 0 := by
        cases q : n - η.length with
        | zero => rfl
        | succ j => rw [q] at hb; cases hb
      rw [e0] at hb
      rw [← i.len, e0] at ho
      cases hb; cases ho
      exact ⟨ob, e, r⟩
end Mine

/-! Sim2 -/
namespace Mine
open PySem PyProof.Rows

theorem Step.data {fr own η η' : List Addr} {h h' : Heap} (x : Step fr own η h η' h') {b : Addr} {o : Obj} (e : h.get? b = some o) (hb : b ∉ η) (ho : b ∉ own) :
    ∃ sl, h'.get? b = some { o with slots := sl } := by
  by_cases hf : b ∈ fr
  · exact x.slots b o e hb ho hf
  · exact ⟨o.slots, x.same b o e hb ho hf⟩

theorem Frm.step {fr own η η' : List Addr} {h h' : Heap} {l : List Addr} (x : Step fr own η h η' h') (f : Frm h l) (hl : ∀ b ∈ l, b ∉ η) : Frm h' l := by
  intro b hb
  obtain ⟨o, e, q⟩ := f b hb
  rcases q with ⟨es, n, d⟩ | ⟨v, d⟩
  · obtain ⟨o', es', n', e', d'⟩ := x.dicts b o e (hl b hb) es n d
    exact ⟨o', e', .inl ⟨es', n', d'⟩⟩
  · obtain ⟨o', v', e', d'⟩ := x.cells b o e (hl b hb) v d
    exact ⟨o', e', .inr ⟨v', d'⟩⟩

noncomputable def frs (st : List Env) : List Addr := st.filterMap (·.frame)

structure Stk (X : Cx) (η : List Addr) (A : Around) (st : List Env) (h : Heap) : Prop where
  frames : A.frames = some st
  ok : h.FunFrames X.base st
  off : ∀ a ∈ frs st, a ∉ η
  frm : Frm h (frs st)

noncomputable def ownOf (env : Env) : List Addr := env.locals :: env.cells.map (·.2)

noncomputable def isVar (sc : Scope) (x : Str) : Bool := !(x == (".0" : Str)) && match sc.names.lookup x with
  | some .local | some .cell | some .free => true
  | _ => false

noncomputable def Held (h : Heap) (env : Env) (x : Str) (mv : Value) : Prop :=
  (env.kindOf x = some .local ∧ ∃ m, h.Ns env.locals m ∧ m x = some mv) ∨
  ((env.kindOf x = some .cell ∨ env.kindOf x = some .free) ∧ ∃ c o, env.cells.lookup x = some c ∧ h.get? c = some o ∧ o.data = .cell (some mv))

structure FrameOK (X : Cx) (η : List Addr) (h : Heap) (env : Env) : Prop where
  kind : env.scope.kind = .function
  glob : env.globals = mainGlobals
  blt : env.builtins = builtinsNs
  ns : ∃ m, h.Ns env.locals m
  cell : ∀ p ∈ env.cells, ∃ o v, h.get? p.2 = some o ∧ o.data = .cell v
  cells : ∀ x, env.kindOf x = some .cell → ∃ c, env.cells.lookup x = some c
  inj : ∀ x y c, env.cells.lookup x = some c → env.cells.lookup y = some c → x = y
  off : ∀ a ∈ ownOf env, a ∉ η ∧ X.base.get? a = Option.none

structure Room (n : Nat) (A : Around) : Prop where
  depth : A.depth + 2 * n < recursionLimit
  units : A.units + 8 * n + 300 < cLine

structure At (X : Cx) (n : Nat) (hd : Bool) (A : Around) (env : Env) (st : List Env) (η : List Addr) (ρ : Rho) (H : Hp) (s : Shared) : Prop where
  inv : Inv X η H s.heap
  fok : FrameOK X η s.heap env
  rho : ∀ x v, ρ.lookup x = some v → isVar env.scope (Str.ofString x) = true → ∃ mv, Held s.heap env (Str.ofString x) mv ∧ VR X η s.heap v mv
  stk : Stk X η A st s.heap
  room : Room n A
  hand : hd = false → A.handled = Option.none

theorem lookup_mem {α β : Type} [BEq α] [LawfulBEq α] {l : List (α × β)} {a : α} {b : β} (e : l.lookup a = some b) : (a, b) ∈ l := by
  induction l with
  | nil => cases e
  | cons p l ih =>
    obtain ⟨x, y⟩ := p
    rw [List.lookup_cons] at e
    by_cases h : (a == x) = true
    · simp only [h] at e
      cases e
      rw [eq_of_beq h]; exact List.Mem.head _
    · simp only [h] at e
      exact List.Mem.tail _ (ih e)

section
variable {X : Cx} {n : Nat} {hd : Bool} {A : Around} {env : Env} {st : List Env} {η η' : List Addr} {ρ : Rho} {H H' : Hp} {s : Shared} {h' : Heap} {fr : List Addr}

theorem FrameOK.frm (x : FrameOK X η s.heap env) : Frm s.heap (ownOf env) := by
  intro b hb
  rcases List.mem_cons.mp hb with rfl | hb
  · obtain ⟨m, o, es, ep, e, d, _⟩ := x.ns
    exact ⟨o, e, .inl ⟨es, ep, d⟩⟩
  · obtain ⟨p, hp, rfl⟩ := List.mem_map.mp hb
    obtain ⟨o, v, e, d⟩ := x.cell p hp
    exact ⟨o, e, .inr ⟨v, d⟩⟩

theorem Ns.step {a : Addr} {m : Str → Option Value} (x : Step fr [] η s.heap η' h') (hn : s.heap.Ns a m) (ha : a ∉ η) : h'.Ns a m := by
  obtain ⟨o, es, ep, e, d, r⟩ := hn
  obtain ⟨sl, e'⟩ := x.data e ha (fun q => nomatch q)
  exact ⟨_, es, ep, e', d, r⟩

theorem Held.step {x : Str} {mv : Value} (st' : Step fr [] η s.heap η' h') (f : FrameOK X η s.heap env) (hh : Held s.heap env x mv) : Held h' env x mv := by
  rcases hh with ⟨hk, m, hn, hm⟩ | ⟨hk, c, o, hc, e, d⟩
  · exact .inl ⟨hk, m, Ns.step st' hn (f.off _ (List.Mem.head _)).1, hm⟩
  · obtain ⟨sl, e'⟩ := st'.data e (f.off c (List.mem_cons.mpr (.inr (List.mem_map.mpr ⟨(x, c), lookup_mem hc, rfl⟩)))).1 (fun q => nomatch q)
    exact .inr ⟨hk, c, _, hc, e', d⟩


theorem FrameOK.step (st' : Step fr [] η s.heap η' h') (f : FrameOK X η s.heap env) : FrameOK X η' h' env := by
  have al : ∀ a ∈ ownOf env, ∃ o, s.heap.get? a = some o := fun a ha => let ⟨o, e, _⟩ := f.frm a ha; ⟨o, e⟩
  refine ⟨f.kind, f.glob, f.blt, ?_, fun p hp => ?_, f.cells, f.inj, fun a ha => ⟨?_, (f.off a ha).2⟩⟩
  · obtain ⟨m, hn⟩ := f.ns
    exact ⟨m, Ns.step st' hn (f.off _ (List.Mem.head _)).1⟩
  · obtain ⟨o, v, e, d⟩ := f.cell p hp
    obtain ⟨sl, e'⟩ := st'.data e (f.off p.2 (List.mem_cons.mpr (.inr (List.mem_map.mpr ⟨p, hp, rfl⟩)))).1 (fun q => nomatch q)
    exact ⟨_, v, e', d⟩
  · obtain ⟨o, e⟩ := al a ha
    exact st'.mem e (f.off a ha).1

theorem Stk.step {own : List Addr} (x : Step (frs st) own η s.heap η' h') (k : Stk X η A st s.heap) : Stk X η' A st h' := by
  refine ⟨k.frames, ?_, fun a ha => ?_, k.frm.step x k.off⟩
  · have : ∀ l : List Env, (∀ a ∈ frs l, a ∉ η) → Frm s.heap (frs l) → s.heap.FunFrames X.base l → h'.FunFrames X.base l := by
      intro l
      induction l with
      | nil => intro _ _ _; trivial
      | cons e l ih =>
        intro ho hf ⟨hk, ⟨L, o, hfr, hn, hg, hd⟩, hr⟩
        have hL : L ∈ frs (e :: l) := by unfold frs; rw [List.filterMap_cons, hfr]; exact List.Mem.head _
        have sub : ∀ a ∈ frs l, a ∈ frs (e :: l) := by intro a ha; unfold frs at *; rw [List.filterMap_cons, hfr]; exact List.Mem.tail _ ha
        refine ⟨hk, ?_, ih (fun a ha => ho a (sub a ha)) (fun a ha => hf a (sub a ha)) hr⟩
        obtain ⟨o', e', q⟩ := (Frm.step x hf ho) L hL
        refine ⟨L, o', hfr, hn, e', fun vs z => ?_⟩
        rcases q with ⟨_, _, q⟩ | ⟨_, q⟩ <;> (rw [z] at q; cases q)
    exact this st k.off k.frm k.ok
  · obtain ⟨o, e, _⟩ := k.frm a ha
    exact x.mem e (k.off a ha)

theorem Stk.fresh (k : Stk X η A st s.heap) : ∀ a ∈ frs st, X.base.get? a = Option.none := fun _ ha => (k.ok.mem ha).1

theorem At.step (a : At X n hd A env st η ρ H s) (x : Step (frs st) [] η s.heap η' h') (i : Inv X η' H' h') (tk : Nat) : At X n hd A env st η' ρ H' { s with heap := h', toks := tk } :=
  ⟨i, a.fok.step x, fun y v e hv => let ⟨mv, hh, r⟩ := a.rho y v e hv; ⟨mv, hh.step x a.fok, r.step x a.stk.frm⟩, a.stk.step x, a.room, a.hand⟩
end

inductive Post (X : Cx) (fr own η : List Addr) (s : Shared) (H' : Hp) (P : List Addr → Heap → Prop) (s' : Shared) : Prop
  | mk (η' : List Addr) (h' : Heap) (tk : Nat) (e : s' = { s with heap := h', toks := tk }) (i : Inv X η' H' h') (x : Step fr own η s.heap η' h') (p : P η' h') : Post X fr own η s H' P s'

inductive TbAt (X : Cx) (st : List Env) (h0 : Heap) (e : Addr) (vs : Array Value) (η' : List Addr) (h' : Heap) : Prop
  | mk (T : Addr) (oT : Obj) (ts : Array Value) (fl : Value) (q1 : vs[1]? = some (.ref T)) (q2 : T ≠ e) (q3 : h'.get? T = some oT) (q4 : oT.cls = .type "traceback") (q5 : oT.data = .fields ts) (q6 : T ∉ η') (q7 : h0.get? T = Option.none) (q8 : ts[3]? = some fl)
    (q9 : fl = .none ∨ ∃ L, (frs st).head? = some L ∧ fl = rawInt L) : TbAt X st h0 e vs η' h'
inductive ExcAt (X : Cx) (st : List Env) (h0 : Heap) (ev : Value) (c : String) (η' : List Addr) (h' : Heap) : Prop
  | mk (e : Addr) (oe : Obj) (vs : Array Value) (C : Addr) (q1 : ev = .ref e) (q2 : h'.get? e = some oe) (q3 : ExCls X c C) (q4 : ObjCls oe C) (q5 : oe.data = .fields vs) (q6 : e ∉ η') (q7 : h0.get? e = Option.none) (q8 : 4 < vs.size)
    (q9 : vs[1]? = some .none ∨ TbAt X st h0 e vs η' h') : ExcAt X st h0 ev c η' h'

theorem ExcAt.older {X : Cx} {st : List Env} {h0 h1 : Heap} {ev : Value} {c : String} {η : List Addr} {h : Heap} (x : ExcAt X st h1 ev c η h) (k : ∀ b o, h0.get? b = some o → ∃ o', h1.get? b = some o') : ExcAt X st h0 ev c η h := by
  have old : ∀ b, h1.get? b = Option.none → h0.get? b = Option.none := fun b hb => by
    cases e : h0.get? b with
    | none => rfl
    | some o => obtain ⟨o', e'⟩ := k b o e; rw [hb] at e'; cases e'
  obtain ⟨e, oe, vs, C, h1, h2, h3, h4, h5, h6, h7, h8, h9⟩ := x
  refine ⟨e, oe, vs, C, h1, h2, h3, h4, h5, h6, old _ h7, h8, ?_⟩
  rcases h9 with h9 | ⟨T, oT, ts, fl, g1, g2, g3, g4, g5, g5', g6, g7, g8⟩
  · exact .inl h9
  · exact .inr ⟨T, oT, ts, fl, g1, g2, g3, g4, g5, g5', old _ g6, g7, g8⟩

inductive OkAt (X : Cx) (st : List Env) {α β : Type} (rel : β → α → Prop × List (V × Value)) (η : List Addr) (s : Shared) (r : R β) (a : α) (s' : Shared) : Prop
  | mk (b : β) (H' : Hp) (e : r = .ok b H') (q : (rel b a).1) (p : Post X (frs st) [] η s H' (fun η' h' => ∀ p ∈ (rel b a).2, VR X η' h' p.1 p.2) s') : OkAt X st rel η s r a s'
inductive RaiseAt (X : Cx) (st : List Env) {β : Type} (η : List Addr) (s : Shared) (r : R β) (ev : Value) (s' : Shared) : Prop
  | mk (c : String) (H' : Hp) (e : r = .raise c H') (p : Post X (frs st) [] η s H' (fun η' h' => ExcAt X st s.heap ev c η' h') s') : RaiseAt X st η s r ev s'
inductive RetAt (X : Cx) (st : List Env) (η : List Addr) (s : Shared) (r : R V) (mv : Value) (s' : Shared) : Prop
  | mk (v : V) (H' : Hp) (e : r = .ok v H') (p : Post X (frs st) [] η s H' (fun η' h' => VR X η' h' v mv) s') : RetAt X st η s r mv s'

noncomputable def Tri (X : Cx) (n : Nat) (hd : Bool) (A : Around) (env : Env) (st : List Env) (ρ : Rho) {α β : Type} (vs : List (V × Value)) (m : Sem α) (H : Hp) (r : R β) (rel : β → α → Prop × List (V × Value)) : Prop :=
  r ≠ .stuck → ∀ η s, At X n hd A env st η ρ H s → (∀ p ∈ vs, VR X η s.heap p.1 p.2) → wpAny X.M A m (OkAt X st rel η s r) (RaiseAt X st η s r) s

section
variable {X : Cx} {n : Nat} {hd : Bool} {A : Around} {env : Env} {st : List Env} {ρ : Rho} {α β γ δ : Type} {vs : List (V × Value)} {H : Hp}

theorem Post.trans {fr own η η1 : List Addr} {s : Shared} {h1 : Heap} {tk : Nat} {H' : Hp} {P P' : List Addr → Heap → Prop} {s' : Shared} (x : Step fr own η s.heap η1 h1)
    (y : Post X fr own η1 { s with heap := h1, toks := tk } H' P s') (hp : ∀ η' h', P η' h' → P' η' h') : Post X fr own η s H' P' s' := by
  obtain ⟨η', h', tk', rfl, i, st, p⟩ := y
  exact ⟨η', h', tk', rfl, i, x.trans st, hp _ _ p⟩

theorem Tri.bind {m : Sem α} {k : α → Sem γ} {r : R β} {f : β → Hp → R δ} {rel : β → α → Prop × List (V × Value)} {rel' : δ → γ → Prop × List (V × Value)}
    (h1 : Tri X n hd A env st ρ vs m H r rel) (h2 : ∀ b H1 a, r = .ok b H1 → (rel b a).1 → Tri X n hd A env st ρ (vs ++ (rel b a).2) (k a) H1 (f b H1) rel') :
    Tri X n hd A env st ρ vs (m >>= k) H (r.bind f) rel' := by
  intro hs η s a hv
  have hr : r ≠ .stuck := by rintro rfl; exact hs rfl
  refine wpAny_bind (wpAny_mono (h1 hr η s a hv) (fun x s1 hx => ?_) fun ev s1 hx => ?_)
  · obtain ⟨b, H1, rfl, hrel, η1, h', tk, rfl, i, stp, hp⟩ := hx
    have a1 := a.step stp i tk
    refine wpAny_mono (h2 b H1 x rfl hrel hs η1 _ a1 (fun p hm => ?_)) (fun y s2 hy => ?_) fun ev s2 hy => ?_
    · rcases List.mem_append.mp hm with hm | hm
      · exact (hv p hm).step stp a.stk.frm
      · exact hp p hm
    · obtain ⟨d, H2, e, hrel', hP⟩ := hy
      exact ⟨d, H2, e, hrel', hP.trans stp fun _ _ q => q⟩
    · obtain ⟨c, H2, e, hP⟩ := hy
      exact ⟨c, H2, e, hP.trans stp fun _ _ q => q.older stp.alive⟩
  · obtain ⟨c, H1, rfl, hP⟩ := hx
    exact ⟨c, H1, rfl, hP⟩

theorem Tri.skip {m : Sem α} {k : α → Sem γ} {r : R δ} {rel' : δ → γ → Prop × List (V × Value)} {a₀ : α}
    (hm : ∀ (Q : α → Shared → Prop) (E : Value → Shared → Prop) (s : Shared), Q a₀ s → wpAny X.M A m Q E s) (h : Tri X n hd A env st ρ vs (k a₀) H r rel') : Tri X n hd A env st ρ vs (m >>= k) H r rel' :=
  fun hs η s a hv => wpAny_bind (hm _ _ _ (h hs η s a hv))

theorem Tri.holding {m : Sem α} {l : List Value} {r : R β} {rel : β → α → Prop × List (V × Value)} (h : Tri X n hd A env st ρ vs m H r rel) : Tri X n hd A env st ρ vs (PySem.holding l m) H r rel :=
  fun hs η s a hv => wpAny_holding (h hs η s a hv)

theorem Tri.stand {pos : Pos} {k : Unit → Sem γ} {r : R δ} {rel' : δ → γ → Prop × List (V × Value)} (h : Tri X n hd A env st ρ vs (k ()) H r rel') : Tri X n hd A env st ρ vs (standAt pos >>= k) H r rel' :=
  Tri.skip (a₀ := ()) (fun _ _ _ q => wpAny_standAt q) h

theorem Tri.pure {a : α} {b : β} {rel : β → α → Prop × List (V × Value)} (h1 : (rel b a).1) (h2 : ∀ p ∈ (rel b a).2, p ∈ vs) : Tri X n hd A env st ρ vs (Pure.pure a) H (.ok b H) rel :=
  fun _ η s at' hv => wpAny_pure ⟨b, H, rfl, h1, η, s.heap, s.toks, rfl, at'.inv, Step.refl _ _ _ _, fun p hp => hv p (h2 p hp)⟩

theorem Tri.fewer {m : Sem α} {r : R β} {rel : β → α → Prop × List (V × Value)} {vs' : List (V × Value)} (h : Tri X n hd A env st ρ vs' m H r rel) (h1 : ∀ p ∈ vs', p ∈ vs) : Tri X n hd A env st ρ vs m H r rel :=
  fun hs η s a hv => h hs η s a fun p hp => hv p (h1 p hp)

theorem Tri.reads {m : Sem α} {b : β} {rel : β → α → Prop × List (V × Value)}
    (h : ∀ (η : List Addr) (s : Shared) (Q : α → Shared → Prop) (E : Value → Shared → Prop), At X n hd A env st η ρ H s → (∀ p ∈ vs, VR X η s.heap p.1 p.2) →
      (∀ a h' tk, (∀ b o, s.heap.get? b = some o → h'.get? b = some o) → (rel b a).1 → (∀ p ∈ (rel b a).2, VR X η h' p.1 p.2) → Q a { s with heap := h', toks := tk }) → wpAny X.M A m Q E s) :
    Tri X n hd A env st ρ vs m H (.ok b H) rel :=
  fun _ η s at' hv => h η s _ _ at' hv fun a h' tk k h1 h2 => ⟨b, H, rfl, h1, η, h', tk, rfl, at'.inv.ext k, Step.ext _ _ _ k, h2⟩
end

noncomputable def rV (v : V) (m : Value) : Prop × List (V × Value) := (True, [(v, m)])
noncomputable def rL (vs : List V) (ms : List Value) : Prop × List (V × Value) := (vs.length = ms.length, vs.zip ms)
noncomputable def rB (b : Bool) (a : Bool) : Prop × List (V × Value) := (a = b, [])

theorem VRs.of_zip {X : Cx} {η : List Addr} {h : Heap} : ∀ {vs : List V} {ms : List Value}, vs.length = ms.length → (∀ p ∈ vs.zip ms, VR X η h p.1 p.2) → VRs X η h vs ms
  | [], [], _, _ => .nil
  | _ :: _, _ :: _, e, hp => .cons (hp (_, _) (List.Mem.head _)) (VRs.of_zip (Nat.succ.inj e) fun p hm => hp p (List.Mem.tail _ hm))
  | [], _ :: _, e, _ => nomatch e
  | _ :: _, [], e, _ => nomatch e
theorem VRs.length {X : Cx} {η : List Addr} {h : Heap} : ∀ {vs : List V} {ms : List Value}, VRs X η h vs ms → vs.length = ms.length
  | _, _, .nil => rfl
  | _, _, .cons _ r => congrArg Nat.succ r.length
theorem VRs.zip {X : Cx} {η : List Addr} {h : Heap} : ∀ {vs : List V} {ms : List Value}, VRs X η h vs ms → ∀ p ∈ vs.zip ms, VR X η h p.1 p.2
  | _, _, .nil, _, hp => nomatch hp
  | _, _, .cons a r, p, hp => by
    rcases List.mem_cons.mp hp with rfl | hp
    · exact a
    · exact r.zip p hp
noncomputable def RhoR (X : Cx) (η : List Addr) (h : Heap) (env : Env) (ρ : Rho) : Prop := ∀ x v, ρ.lookup x = some v → isVar env.scope (Str.ofString x) = true → ∃ mv, Held h env (Str.ofString x) mv ∧ VR X η h v mv

noncomputable def Ends (X : Cx) (env : Env) (ρ : Rho) (η : List Addr) (h : Heap) : Prop := FrameOK X η h env ∧ RhoR X η h env ρ

end Mine

/-! Sim3 -/
namespace Mine
open PySem PyProof.Rows

/-! data read off -/
section
variable {X : Cx} {η : List Addr} {H : Hp} {h : Heap}

theorem flat_reads {v : V} {m : Value} {d : PyData} (r : VR X η h v m) (e : flatD v = some d) : (∃ as, Reads h m d as) ∧ d.canLay0 = true ∧ d.depth = 0 := by
  cases r with
  | none => cases e; exact ⟨⟨_, .none⟩, by simp [PyData.canLay0], by simp [PyData.depth]⟩
  | bool b => cases e; exact ⟨⟨_, .bool b⟩, by simp [PyData.canLay0], by simp [PyData.depth]⟩
  | int b t => cases e; exact ⟨⟨_, .int b t⟩, by simp [PyData.canLay0], by simp [PyData.depth]⟩
  | str b t q => cases e; exact ⟨⟨_, .str b t⟩, by simp [PyData.canLay0, q], by simp [PyData.depth]⟩
  | _ => cases e
theorem flat_reads' {n : Nat} {v : V} {m : Value} {d : PyData} (r : VR X η h v m) (e : flatD v = some d) : (∃ as, Reads h m d as) ∧ d.canLay0 = true ∧ d.depth ≤ n :=
  let ⟨a, b, c⟩ := flat_reads r e; ⟨a, b, by rw [c]; exact Nat.zero_le _⟩
mutual
theorem snap_reads (i : Inv X η H h) : ∀ (n : Nat) {v : V} {m : Value} {d : PyData}, VR X η h v m → snap n H v = some d → (∃ as, Reads h m d as) ∧ d.canLay0 = true ∧ d.depth ≤ n
  | 0, _, _, _, r, e => flat_reads' r e
  | n + 1, v, m, d, r, e => by
    cases r with
    | tup g hn r _ =>
      obtain ⟨ds, e2, rfl⟩ := Option.map_eq_some_iff.mp e
      obtain ⟨⟨as, q⟩, c, dd⟩ := snaps_reads i n r e2
      refine ⟨⟨as, .tuple g rfl rfl q⟩, by simpa [PyData.canLay0] using c, by simp only [PyData.depth]; omega⟩
    | ref ha =>
      rename_i k a
      cases hk : H[k]? with
      | none => rw [snap, hk] at e; cases e
      | some o =>
        cases o with
        | list vs =>
          rw [snap, hk] at e
          obtain ⟨ds, e2, rfl⟩ := Option.map_eq_some_iff.mp e
          obtain ⟨ob, g, o⟩ := i.objs k a _ ha hk
          cases o with
          | list r _ =>
            obtain ⟨⟨as, q⟩, c, dd⟩ := snaps_reads i n r e2
            exact ⟨⟨_, .list g rfl rfl q⟩, by simpa [PyData.canLay0] using c, by simp only [PyData.depth]; omega⟩
        | _ => rw [snap, hk] at e; cases e
    | none => exact flat_reads' (X := X) (η := η) .none e
    | bool b => exact flat_reads' (X := X) (η := η) (.bool b) e
    | int b t => exact flat_reads' (X := X) (η := η) (.int b t) e
    | str b t q => exact flat_reads' (X := X) (η := η) (.str b t q) e
    | _ => cases e
theorem snaps_reads (i : Inv X η H h) : ∀ (n : Nat) {vs : List V} {ms : List Value} {ds : List PyData}, VRs X η h vs ms → vs.mapM (snap n H) = some ds → (∃ as, ReadsAll h ms ds as) ∧ PyData.canLayAll0 ds = true ∧ PyData.depthAll ds ≤ n
  | n, [], _, ds, .nil, e => by
    cases e
    exact ⟨⟨_, .nil⟩, by simp [PyData.canLayAll0], by simp [PyData.depthAll]⟩
  | n, v :: vs, _, ds, .cons a r, e => by
    simp only [List.mapM_cons, Option.pure_def, Option.bind_eq_bind, Option.bind_eq_some_iff, Option.some.injEq] at e
    obtain ⟨d, e1, es, e2, rfl⟩ := e
    obtain ⟨⟨as, q⟩, c, dd⟩ := snap_reads i n a e1
    obtain ⟨⟨bs, p⟩, c', dd'⟩ := snaps_reads i n r e2
    exact ⟨⟨_, .cons q p⟩, by simp [PyData.canLayAll0, c, c'], by simp only [PyData.depthAll]; omega⟩
end

theorem shaped_of {d : PyData} {n : Nat} (c : d.canLay0 = true) (e : d.depth ≤ n) (hn : n ≤ 64) : SeqAt.shaped d = true := by
  unfold SeqAt.shaped
  rw [c, Bool.true_and]
  exact decide_eq_true (Nat.le_trans e hn)
end

section
variable {X : Cx} {n : Nat} {hd : Bool} {A : Around} {env : Env} {st : List Env} {ρ : Rho} {vs : List (V × Value)} {H : Hp}

theorem Tri.operate {m : Sem Value} {l : List Value} {r : R V} {rel : V → Value → Prop × List (V × Value)} (h : Tri X n hd A env st ρ vs m H r rel) : Tri X n hd A env st ρ vs (PySem.operate l m) H r rel :=
  fun hs η s a hv => wpAny_operating (h hs η s a hv)

theorem Tri.stuck {α β : Type} {m : Sem α} {rel : β → α → Prop × List (V × Value)} : Tri X n hd A env st ρ vs m H .stuck rel := fun h => absurd rfl h

theorem Tri.plain {m : Sem Value} {v : V} (h : ∀ (η : List Addr) (s : Shared) (Q : Value → Shared → Prop) (E : Value → Shared → Prop), At X n hd A env st η ρ H s → (∀ p ∈ vs, VR X η s.heap p.1 p.2) →
      (∀ a tk, VR X η s.heap v a → Q a { s with toks := tk }) → wpAny X.M A m Q E s) : Tri X n hd A env st ρ vs m H (.ok v H) rV :=
  Tri.reads fun η s Q E at' hv hq => h η s Q E at' hv fun a tk r => hq a s.heap tk (fun _ _ e => e) trivial fun p hp => by
    rw [rV, List.mem_singleton] at hp; subst hp; exact r

noncomputable def opOf : Op → Operator
  | .add => .Add
  | .sub => .Sub
  | .mul => .Mult
  | .fdiv => .FloorDiv
  | .mod => .Mod
  | .pow => .Pow

theorem line_lt : line ≤ sizeLine := by unfold line sizeLine; decide

theorem list_of_H {η : List Addr} {h : Heap} {k : Nat} {a : Addr} {xs : List V} (i : Inv X η H h) (ha : η[k]? = some a) (hk : H[k]? = some (.list xs)) :
    ∃ items n, h.get? a = some { cls := .type "list", data := .seq items n } ∧ VRs X η h xs items.toList ∧ xs.length ≤ line := by
  obtain ⟨ob, g, o⟩ := i.objs k a _ ha hk
  cases o with
  | list r l => exact ⟨_, _, g, r, l⟩

theorem VRs.append {η : List Addr} {h : Heap} : ∀ {xs ys : List V} {ms ns : List Value}, VRs X η h xs ms → VRs X η h ys ns → VRs X η h (xs ++ ys) (ms ++ ns)
  | _, _, _, _, .nil, r => r
  | _, _, _, _, .cons a l, r => .cons a (l.append r)

theorem Tri.made {m : Sem Value} {o : O}
    (h : ∀ (η : List Addr) (s : Shared) (Q : Value → Shared → Prop) (E : Value → Shared → Prop), At X n hd A env st η ρ H s → (∀ p ∈ vs, VR X η s.heap p.1 p.2) →
      (∀ a h' ob tk, s.heap.get? a = Option.none → (∀ b o, s.heap.get? b = some o → h'.get? b = some o) → h'.get? a = some ob → OR X (η ++ [a]) h' o ob → Q (.ref a) { s with heap := h', toks := tk }) → wpAny X.M A m Q E s) :
    Tri X n hd A env st ρ vs m H (new o H) rV := by
  intro _ η s a hv
  refine h η s _ _ a hv fun b h' ob tk hb k e r => ⟨_, _, rfl, trivial, η ++ [b], h', tk, rfl, a.inv.make k hb e r, Step.make _ _ _ k hb, fun p hp => ?_⟩
  rw [rV, List.mem_singleton] at hp; subst hp
  refine .ref ?_
  rw [← a.inv.len, List.getElem?_append_right (Nat.le_refl _), Nat.sub_self]; rfl

theorem Tri.fresh {m : Sem Value} {o : O}
    (h : ∀ (η : List Addr) (s : Shared) (Q : Value → Shared → Prop) (E : Value → Shared → Prop), At X n hd A env st η ρ H s → (∀ p ∈ vs, VR X η s.heap p.1 p.2) →
      ∃ ob : Obj, ob.isFreed = false ∧ OR X (η ++ [s.heap.objs.size]) (s.heap.push ob) o ob ∧
        ((∀ tk, Q (.ref s.heap.objs.size) { s with heap := s.heap.push ob, toks := tk }) → wpAny X.M A m Q E s)) : Tri X n hd A env st ρ vs m H (new o H) rV := by
  intro _ η s a hv
  obtain ⟨ob, hf, r, hq⟩ := h η s _ _ a hv
  refine hq fun tk => ⟨_, _, rfl, trivial, η ++ [s.heap.objs.size], s.heap.push ob, tk, rfl, a.inv.alloc r hf, Step.push _ _ _ _ _, fun p hp => ?_⟩
  rw [rV, List.mem_singleton] at hp; subst hp
  refine .ref ?_
  rw [← a.inv.len]; simp
theorem VRs.size {η : List Addr} {h : Heap} {xs : List V} {ms : Array Value} (r : VRs X η h xs ms.toList) : ms.size = xs.length := by rw [r.length]; simp

theorem vr_int {η : List Addr} {h : Heap} {v : V} {m : Value} {i : Int} (r : VR X η h v m) (e : intAt v = some i) : ∃ t, m = .int i t := by
  cases r with
  | int j t => cases e; exact ⟨t, rfl⟩
  | _ => cases e
theorem listAt_inv {v : V} {xs : List V} (e : listAt v H = some xs) : ∃ k, v = .ref k ∧ H[k]? = some (.list xs) := by
  cases v with
  | ref k =>
    cases hk : H[k]? with
    | none => rw [listAt, hk] at e; cases e
    | some o =>
      cases o with
      | list ys => rw [listAt, hk] at e; cases e; exact ⟨k, rfl, hk⟩
      | _ => rw [listAt, hk] at e; cases e
  | _ => cases e
theorem vr_list {η : List Addr} {h : Heap} {v : V} {m : Value} {xs : List V} (i : Inv X η H h) (r : VR X η h v m) (e : listAt v H = some xs) : ∃ a items c, m = .ref a ∧ h.get? a = some { cls := .type "list", data := .seq items c } ∧ VRs X η h xs items.toList ∧ xs.length ≤ line := by
  obtain ⟨k, rfl, hk⟩ := listAt_inv e
  cases r with
  | ref ea =>
    obtain ⟨items, c, g, r, l⟩ := list_of_H i ea hk
    exact ⟨_, items, c, rfl, g, r, l⟩
theorem intOp_ok {op : Op} {x y z : Int} {t u : Tok} {s : Shared} {Q : Value → Shared → Prop} {E : Value → Shared → Prop} (e : intOp op x y = some z) (hq : ∀ tk w, Q (.int z w) { s with toks := tk }) : wpAny X.M A (binaryOp (opOf op) (.int x t) (.int y u)) Q E s := by
  cases op with
  | add => cases e; exact PyProof.Rows.add_int (hq _ _)
  | sub => cases e; exact PyProof.Rows.sub_int (hq _ _)
  | mul =>
    have e : (if x.natAbs < 2 ^ 64 ∨ y.natAbs < 2 ^ 64 then some (x * y) else Option.none) = some z := e
    split at e
    · rename_i hm
      cases e
      refine PyProof.Rows.mul_int (hq _ _) ?_
      rcases hm with hm | hm
      · exact .of_left (intBits_le_64 (by omega) (by omega))
      · exact .of_right (intBits_le_64 (by omega) (by omega))
    · cases e
  | fdiv =>
    have e : (if y ≠ 0 ∧ y.natAbs < 1073741824 then some (x.fdiv y) else Option.none) = some z := e
    split at e
    · rename_i hm
      cases e
      refine PyProof.Rows.floordiv_int hm.1 (hq _ _) (Or.inl (PyProof.noPylong_small ?_))
      omega
    · cases e
  | mod =>
    have e : (if y ≠ 0 then some (x.fmod y) else Option.none) = some z := e
    split at e
    · rename_i hm
      cases e
      exact PyProof.Rows.mod_int' hm (hq _ _)
    · cases e
  | pow =>
    have e : (if 0 ≤ x ∧ x ≤ 10 ∧ 0 ≤ y ∧ y ≤ 100 then some (x ^ y.toNat) else Option.none) = some z := e
    split at e
    · rename_i hm
      cases e
      exact PyProof.Rows.pow_int_small hm.2.2.1 (by omega) (by omega) (hq _ _)
    · cases e
theorem addL_ok {a b : V} {ma mb : Value} (ha : (a, ma) ∈ vs) (hb : (b, mb) ∈ vs) : Tri X n hd A env st ρ vs (binaryOp .Add ma mb) H (addL a b H) rV := by
  unfold addL
  cases hx : listAt a H with
  | none => exact Tri.stuck
  | some x =>
    cases hy : listAt b H with
    | none => exact Tri.stuck
    | some y =>
      dsimp only
      split
      · rename_i hm
        refine Tri.fresh fun η s Q E at' hv => ?_
        obtain ⟨a1, i1, m1, rfl, g1, r1, l1⟩ := vr_list at'.inv (hv _ ha) hx
        obtain ⟨a2, i2, m2, rfl, g2, r2, l2⟩ := vr_list at'.inv (hv _ hb) hy
        refine ⟨{ cls := .type "list", data := .seq (i1 ++ i2) }, rfl, ?_, fun hq => P.add_list g1 g2 (hq s.toks) (by rw [r1.size, r2.size]; exact Nat.le_trans hm line_lt)⟩
        refine .list ?_ (by rw [List.length_append]; exact hm)
        have k := Step.push [] [] η s.heap { cls := .type "list", data := .seq (i1 ++ i2) }
        rw [Array.toList_append]
        exact (r1.step k (fun _ q => nomatch q)).append (r2.step k fun _ q => nomatch q)
      · exact Tri.stuck
theorem bin_ok {op : Op} {a b : V} {ma mb : Value} (ha : (a, ma) ∈ vs) (hb : (b, mb) ∈ vs) : Tri X n hd A env st ρ vs (binaryOp (opOf op) ma mb) H (bin op a b H) rV := by
  unfold bin
  cases hx : intAt a with
  | some x =>
    cases hy : intAt b with
    | none => exact Tri.stuck
    | some y =>
      dsimp only
      cases hz : intOp op x y with
      | none => exact Tri.stuck
      | some z =>
        refine Tri.plain fun η s Q E at' hv hq => ?_
        obtain ⟨t, rfl⟩ := vr_int (hv _ ha) hx
        obtain ⟨u, rfl⟩ := vr_int (hv _ hb) hy
        exact intOp_ok hz fun tk w => hq _ tk (.int _ _)
  | none =>
    dsimp only
    by_cases ho : op = .add
    · rw [if_pos ho]; subst ho; exact addL_ok ha hb
    · rw [if_neg ho]; exact Tri.stuck
end
end Mine

/-! Sim4 -/
namespace Mine
open PySem PyProof.Rows
section
variable {X : Cx} {n : Nat} {hd : Bool} {A : Around} {env : Env} {st : List Env} {ρ : Rho} {vs : List (V × Value)} {H : Hp}

noncomputable def cmOf : Cm → CmpOp
  | .eq => .Eq
  | .ne => .NotEq
  | .lt => .Lt
  | .le => .LtE
  | .gt => .Gt
  | .isIn => .In
  | .is => .Is

theorem At.units {η : List Addr} {s : Shared} (a : At X n hd A env st η ρ H s) : A.units + 64 < cLine := by
  have := a.room.units
  omega

theorem eqData_ok {op : Cm} {a b : V} {ma mb : Value} {r : Bool} (hop : op = .eq ∨ op = .ne) (ha : (a, ma) ∈ vs) (hb : (b, mb) ∈ vs) (he : eqData H a b = some r) :
    Tri X n hd A env st ρ vs (compareOp (cmOf op) ma mb) H (.ok (.bool (if op = .eq then r else !r)) H) rV := by
  refine Tri.plain fun η s Q E at' hv hq => ?_
  simp only [eqData, Option.bind_eq_bind, Option.bind_eq_some_iff, Option.pure_def, Option.some.injEq] at he
  obtain ⟨x, e1, y, e2, rfl⟩ := he
  obtain ⟨⟨as, ra⟩, c1, d1⟩ := snap_reads at'.inv 8 (hv _ ha) e1
  obtain ⟨⟨bs, rb⟩, c2, d2⟩ := snap_reads at'.inv 8 (hv _ hb) e2
  rcases hop with rfl | rfl
  · exact PySem.SeqAt.compareEq_shaped ra rb (shaped_of c1 d1 (by decide)) (shaped_of c2 d2 (by decide)) at'.units (hq _ s.toks (.bool _))
  · exact PySem.SeqAt.compareNe_shaped ra rb (shaped_of c1 d1 (by decide)) (shaped_of c2 d2 (by decide)) at'.units (hq _ s.toks (.bool _))

theorem eqV_ok {op : Cm} {a b : V} {ma mb : Value} {r : Bool} (hop : op = .eq ∨ op = .ne) (ha : (a, ma) ∈ vs) (hb : (b, mb) ∈ vs) (he : eqV H a b = some r) :
    Tri X n hd A env st ρ vs (compareOp (cmOf op) ma mb) H (.ok (.bool (if op = .eq then r else !r)) H) rV := by
  unfold eqV at he
  exact eqData_ok hop ha hb he

theorem keysAt_inv {v : V} {ks : List Int} (e : keysAt v H = some ks) : ∃ k, v = .ref k ∧ H[k]? = some (.keys ks) := by
  cases v with
  | ref k =>
    cases hk : H[k]? with
    | none => rw [keysAt, hk] at e; cases e
    | some o =>
      cases o with
      | keys ys => rw [keysAt, hk] at e; cases e; exact ⟨k, rfl, hk⟩
      | _ => rw [keysAt, hk] at e; cases e
  | _ => cases e
theorem keys_of_H {η : List Addr} {h : Heap} {k : Nat} {a : Addr} {ks : List Int} (i : Inv X η H h) (ha : η[k]? = some a) (hk : H[k]? = some (.keys ks)) :
    ∃ kvs, h.DictOf (intKind X.prog X.w) a kvs ∧ kvs.map (·.1) = ks ∧ ks.length ≤ line ∧ (a == sysModules) = false := by
  obtain ⟨ob, g, o⟩ := i.objs k a _ ha hk
  cases o with
  | keys d e l =>
    refine ⟨_, Heap.dictOf_iff.mpr ⟨ob, g, d⟩, e, l, ?_⟩
    rw [beq_eq_false_iff_ne]
    rintro rfl
    obtain ⟨o, q⟩ := Option.isSome_iff_exists.mp X.sysm
    have := X.kin _ _ q
    rw [i.fresh _ (List.mem_of_getElem? ha)] at this
    cases this
theorem valueAt_keys (kvs : List (Int × Value)) (k : Int) : (valueAt kvs k).isSome = (kvs.map (·.1)).contains k := by
  unfold valueAt
  induction kvs with
  | nil => rfl
  | cons p kvs ih =>
    rw [List.find?_cons, List.map_cons, List.contains_cons]
    by_cases hk : p.1 = k
    · simp [hk]
    · have : (k == p.1) = false := by simpa using fun q => hk q.symm
      simp only [hk, decide_false, this, Bool.false_or]
      exact ih
theorem inKeys_ok {a b : V} {ma mb : Value} {r : Bool} {η : List Addr} {s : Shared} {Q : Value → Shared → Prop} {E : Value → Shared → Prop} (i : Inv X η H s.heap) (va : VR X η s.heap a ma) (vb : VR X η s.heap b mb) (he : inKeys H a b = some r) (hq : ∀ tk, Q (.bool r) { s with toks := tk }) : wpAny X.M A (compareOp .In ma mb) Q E s := by
  unfold inKeys at he
  cases hx : keysAt b H with
  | none => rw [hx] at he; cases he
  | some ks =>
    rw [hx] at he
    obtain ⟨k, hk, rfl⟩ := Option.map_eq_some_iff.mp he
    obtain ⟨t, rfl⟩ := vr_int va hk
    obtain ⟨n, rfl, hn⟩ := keysAt_inv hx
    cases vb with
    | ref e =>
      obtain ⟨kvs, hd, rfl, _, hs⟩ := keys_of_H i e hn
      refine wpAny_in_of (knd := intKind X.prog X.w) (intKind_is X.prog X.w k t) hs hd.mapOf ?_
      rw [valueAt_keys]
      exact hq _

theorem isIn_ok {a b : V} {ma mb : Value} {r : Bool} (ha : (a, ma) ∈ vs) (hb : (b, mb) ∈ vs) (he : isIn H a b = some r) : Tri X n hd A env st ρ vs (compareOp .In ma mb) H (.ok (.bool r) H) rV := by
  refine Tri.plain fun η s Q E at' hv hq => ?_
  have vb := hv _ hb
  have hu : ∀ (ys : List PyData) (x : PyData), x.depth ≤ 8 → A.units + 1 + min (PyData.depthAll ys) x.depth < cLine := fun ys x d => by have := at'.units; have := Nat.min_le_right (PyData.depthAll ys) x.depth; omega
  have key : (match listAt b H with | some vs => (do let x ← snap 8 H a; let ys ← vs.mapM (snap 8 H); return ys.any fun y => PyData.eqv y x) | Option.none => inKeys H a b) = some r → wpAny X.M A (compareOp .In ma mb) Q E s := fun he => by
    cases hx : listAt b H with
    | none => rw [hx] at he; exact inKeys_ok at'.inv (hv _ ha) vb he fun tk => hq _ tk (.bool _)
    | some vs =>
      rw [hx] at he
      simp only [Option.bind_eq_bind, Option.bind_eq_some_iff, Option.pure_def, Option.some.injEq] at he
      obtain ⟨x, e1, ys, e2, rfl⟩ := he
      obtain ⟨⟨as, ra⟩, c1, d1⟩ := snap_reads at'.inv 8 (hv _ ha) e1
      obtain ⟨l, items, c, rfl, g, r, _⟩ := vr_list at'.inv vb hx
      obtain ⟨⟨bs, rb⟩, c2, d2⟩ := snaps_reads at'.inv 8 r e2
      exact PySem.SeqAt.in_list_reads (.list g rfl rfl rb) ra c2 c1 (hu ys x d1) (hq _ s.toks (.bool _))
  cases vb with
  | tup g nn r _ =>
    simp only [isIn, Option.bind_eq_bind, Option.bind_eq_some_iff, Option.pure_def, Option.some.injEq] at he
    obtain ⟨x, e1, ys, e2, rfl⟩ := he
    obtain ⟨⟨as, ra⟩, c1, d1⟩ := snap_reads at'.inv 8 (hv _ ha) e1
    obtain ⟨⟨bs, rb⟩, c2, d2⟩ := snaps_reads at'.inv 8 r e2
    exact PySem.SeqAt.in_tuple_reads (.tuple g rfl rfl rb) ra c2 c1 (hu ys x d1) (hq _ s.toks (.bool _))
  | _ => exact key he

theorem cmpI_ok {op : Cm} {a b : V} {ma mb : Value} {r : Bool} (ho : op = .lt ∨ op = .le ∨ op = .gt) (ha : (a, ma) ∈ vs) (hb : (b, mb) ∈ vs) (he : (match intAt a with | some x => (match intAt b with | some y => cmpI op x y | Option.none => Option.none) | Option.none => Option.none) = some r) :
    Tri X n hd A env st ρ vs (compareOp (cmOf op) ma mb) H (.ok (.bool r) H) rV := by
  cases hx : intAt a with
  | none => rw [hx] at he; cases he
  | some x =>
    cases hy : intAt b with
    | none => rw [hx, hy] at he; cases he
    | some y =>
      rw [hx, hy] at he
      refine Tri.plain fun η s Q E at' hv hq => ?_
      obtain ⟨t, rfl⟩ := vr_int (hv _ ha) hx
      obtain ⟨u, rfl⟩ := vr_int (hv _ hb) hy
      rcases ho with rfl | rfl | rfl
      · cases he; exact PyProof.Rows.lt_int (hq _ s.toks (.bool _))
      · cases he; exact PyProof.Rows.le_int (hq _ s.toks (.bool _))
      · cases he; exact PyProof.Rows.gt_int (hq _ s.toks (.bool _))
theorem cmp_ok {op : Cm} {a b : V} {ma mb : Value} {r : Bool} (ha : (a, ma) ∈ vs) (hb : (b, mb) ∈ vs) (he : cmp op a b H = some r) :
    Tri X n hd A env st ρ vs (compareOp (cmOf op) ma mb) H (.ok (.bool r) H) rV := by
  cases op with
  | eq => exact eqV_ok (.inl rfl) ha hb he
  | ne =>
    obtain ⟨q, he', rfl⟩ := Option.map_eq_some_iff.mp he
    exact eqV_ok (op := .ne) (.inr rfl) ha hb he'
  | isIn => exact isIn_ok ha hb he
  | is =>
    refine Tri.plain fun η s Q E at' hv hq => ?_
    have va := hv _ ha; have vb := hv _ hb
    cases vb with
    | none =>
      cases he
      cases va
      · exact wpAny_is_self rfl (hq _ s.toks (.bool _))
      all_goals exact PyProof.Rows.is_none_ne (by intro q; cases q) (hq _ s.toks (.bool _))
    | bool y =>
      cases va with
      | bool x =>
        cases he
        refine wpAny_is_plain rfl ?_
        have this : ∀ x y : Bool, (Value.bool x == Value.bool y) = (x == y) := by decide
        rw [this]
        exact hq _ s.toks (.bool _)
      | _ => cases he
    | _ => cases he
  | lt => exact cmpI_ok (.inl rfl) ha hb he
  | le => exact cmpI_ok (.inr (.inl rfl)) ha hb he
  | gt => exact cmpI_ok (.inr (.inr rfl)) ha hb he
end
end Mine

/-! Sim5 -/
namespace Mine
open PySem PyProof.Rows PySem.W

theorem Loads.det {mg mb : Str → Option Value} {f : String} {v w : Value} (a : Loads mg mb f v) (b : Loads mg mb f w) : v = w := by
  rcases a with a | a <;> rcases b with b | b
  · rw [a] at b; exact Option.some.inj b
  · rw [a] at b; cases b.1
  · rw [a.1] at b; cases b
  · exact Option.some.inj (a.2.symm.trans b.2)

noncomputable def Keepable (X : Cx) (f : Value) : Prop := ∀ h : Heap, (∀ b o, X.base.get? b = some o → h.get? b = some o) → ∃ k, (k = Keeper.frame ∨ k = Keeper.machine ∨ k = Keeper.boundFrame) ∧ Looks X.M h (keeperOf f) k

theorem keepable_builtin (X : Cx) (id : String) : Keepable X (.builtin id) := fun _ _ => ⟨.machine, .inr (.inl rfl), Looks.now⟩
theorem keepable_func {X : Cx} {a : Addr} {o : Obj} {fd : FuncData} (e : X.base.get? a = some o) (d : o.data = .func fd) : Keepable X (.ref a) := fun h k => by
  refine ⟨.frame, .inl rfl, (Looks.ld (part := none) (k _ _ e)).andThen ?_⟩
  simp only [d]
  exact Looks.now

noncomputable def isGlob (sc : Scope) (x : Str) : Bool := sc.names.lookup x == some .globalImplicit

section
variable {X : Cx} {n : Nat} {hd : Bool} {A : Around} {env : Env} {st : List Env} {ρ : Rho} {vs : List (V × Value)} {H : Hp}

noncomputable def rEq (v : Value) (m : Value) : Prop × List (V × Value) := (m = v, [])

theorem Tri.name {x : String} {id : Str} {pos : Pos} (hi : id = Str.ofString x) (hv : isVar env.scope id = true) (hd1 : (id == ("__debug__" : Str)) = false) (hd2 : (id == ("__classdict__" : Str)) = false) :
    Tri X n hd A env st ρ vs (eval (.Name id pos) env) H (ofO H (ρ.lookup x)) rV := by
  cases e : ρ.lookup x with
  | none => exact Tri.stuck
  | some v =>
    refine Tri.plain fun η s Q E at' _ hq => wpAny_Name ?_ hd1
    subst hi
    obtain ⟨mv, hh, r⟩ := at'.rho x v e hv
    rcases hh with ⟨hk, m, hn, hm⟩ | ⟨hk | hk, c, o, hc, g, d⟩
    · exact wpAny_loadName_local at'.fok.kind hk hn hm (hq mv s.toks r)
    · exact wpAny_loadName_cell at'.fok.kind hk hc ⟨o, g, d⟩ (hq mv s.toks r)
    · exact wpAny_loadName_free at'.fok.kind hk hc ⟨o, g, d⟩ (hq mv s.toks r) hd2

theorem wpAny_glob {id : Str} {pos : Pos} {x : String} {v : Value} {η : List Addr} {s : Shared} {Q : Value → Shared → Prop} {E : Value → Shared → Prop} (at' : At X n hd A env st η ρ H s) (hi : id = Str.ofString x) (hg : isGlob env.scope id = true)
    (hd1 : (id == ("__debug__" : Str)) = false) (hl : Loads X.mg X.mb x v) (hq : Q v s) : wpAny X.M A (eval (.Name id pos) env) Q E s := by
  subst hi
  refine PySem.Calls.Name_function_global at'.fok.kind (by unfold isGlob at hg; exact beq_iff_eq.mp hg) ?_ hd1
  have g1 : s.heap.Ns env.globals X.mg := by rw [at'.fok.glob]; exact X.g.keeps at'.inv.keep
  have b1 : s.heap.Ns env.builtins X.mb := by rw [at'.fok.blt]; exact X.b.keeps at'.inv.keep
  rcases hl with hl | ⟨hl, hl2⟩
  · exact PySem.Calls.loadGlobal_global g1 hl hq
  · exact PySem.Calls.loadGlobal_builtin g1 hl b1 hl2 hq

theorem Tri.glob {x : String} {id : Str} {pos : Pos} {v : Value} (hi : id = Str.ofString x) (hg : isGlob env.scope id = true) (hd1 : (id == ("__debug__" : Str)) = false) (hl : Loads X.mg X.mb x v) :
    Tri X n hd A env st ρ vs (eval (.Name id pos) env) H (.ok v H) rEq :=
  Tri.reads fun _ s _ _ at' _ hq => wpAny_glob at' hi hg hd1 hl (hq v s.heap s.toks (fun _ _ e => e) rfl fun _ hp => nomatch hp)

theorem Tri.const_int {i : Int} {k : Nat} {pos : Pos} : Tri X n hd A env st ρ vs (eval (.Constant (.int i) k pos) env) H (.ok (.int i) H) rV :=
  Tri.plain fun _ _ _ _ _ _ hq => wpAny_Constant_int (hq _ _ (.int _ _))
theorem Tri.const_str {x : Str} {k : Nat} {pos : Pos} (ok : PyData.strOk x = true) : Tri X n hd A env st ρ vs (eval (.Constant (.str x) k pos) env) H (.ok (.str x) H) rV :=
  Tri.plain fun _ _ _ _ _ _ hq => PySem.Calls.Constant_str (hq _ _ (.str _ _ ok))
theorem Tri.const_none {k : Nat} {pos : Pos} : Tri X n hd A env st ρ vs (eval (.Constant .none k pos) env) H (.ok .none H) rV :=
  Tri.plain fun _ s _ _ _ _ hq => wpAny_pure (hq _ s.toks .none)
theorem Tri.const_bool {b : Bool} {k : Nat} {pos : Pos} : Tri X n hd A env st ρ vs (eval (.Constant (.bool b) k pos) env) H (.ok (.bool b) H) rV :=
  Tri.plain fun _ s _ _ _ _ hq => wpAny_pure (hq _ s.toks (.bool b))

theorem Tri.truthy {v : V} {m : Value} (hm : (v, m) ∈ vs) : Tri X n hd A env st ρ vs (PySem.truthy m) H (ofO H (truth v)) rB := by
  cases v with
  | bool b =>
    refine Tri.reads fun _ s _ _ _ hv hq => ?_
    have r := hv _ hm
    cases r
    exact wpAny_truthy_bool (hq _ s.heap s.toks (fun _ _ e => e) rfl fun _ hp => nomatch hp)
  | _ => exact Tri.stuck

theorem Tri.spliced_nil : Tri X n hd A env st ρ vs (spliced []) H (.ok ([] : List V) H) rL := Tri.pure rfl (fun _ hp => nomatch hp)

theorem Tri.spliced_cons {t : Sem Value} {rest : List (Bool × Sem Value)} {r1 : R V} {f : V → Hp → R (List V)}
    (h1 : Tri X n hd A env st ρ vs t H r1 rV) (h2 : ∀ v H1 m, r1 = .ok v H1 → Tri X n hd A env st ρ (vs ++ [(v, m)]) (spliced rest) H1 (f v H1) rL) :
    Tri X n hd A env st ρ vs (spliced ((false, t) :: rest)) H (r1.bind fun v H1 => (f v H1).bind fun ws H2 => .ok (v :: ws) H2) rL := by
  rw [spliced]
  refine Tri.bind h1 fun v H1 m e _ => ?_
  simp only [Bool.false_eq_true, if_false]
  show Tri _ _ _ _ _ _ _ _ (Pure.pure [m] >>= _) _ _ _
  refine Tri.skip (a₀ := [m]) (fun _ _ _ q => wpAny_pure q) ?_
  refine Tri.bind (Tri.holding (h2 v H1 m e)) fun ws H2 ms _ hl => ?_
  refine Tri.pure ?_ ?_
  · show (v :: ws).length = ([m] ++ ms).length
    have : ws.length = ms.length := hl
    simp [this]
  · intro p hp
    rcases List.mem_cons.mp hp with rfl | hp
    · exact List.mem_append.mpr (.inl (List.mem_append.mpr (.inr (List.Mem.head _))))
    · exact List.mem_append.mpr (.inr hp)

theorem backTo_cons {pos : Pos} {t : Sem Value} {rest : List (Bool × Sem Value)} : backTo pos ((false, t) :: rest) = (false, t) :: backTo pos rest := rfl

theorem Tri.callWith {pos : Pos} {fv : Value} {first : List Value} {args : List (Bool × Sem Value)} {r1 : R (List V)} {f : List V → Hp → R V} (hk : Keepable X fv) (hp : args.any (·.1) = false)
    (h1 : Tri X n hd A env st ρ vs (spliced args) H r1 rL) (h2 : ∀ ws H1 ms, r1 = .ok ws H1 → ws.length = ms.length → Tri X n hd A env st ρ (vs ++ ws.zip ms) (PySem.call fv (first ++ ms)) H1 (f ws H1) rV) :
    Tri X n hd A env st ρ vs (PySem.callWith pos fv first args []) H (r1.bind f) rV := by
  intro hs η s a hv
  refine callWith_of (P := fun h => ∀ b o, X.base.get? b = some o → h.get? b = some o) (by rw [hp]; rfl) hk ?_
  have key : Tri X n hd A env st ρ vs (evalArgs fv true args []) H r1 (fun ws (a : Args) => (ws.length = a.pos.length ∧ a.kw = [], ws.zip a.pos)) := by
    intro hs1 η s a hv
    cases args with
    | nil =>
      unfold evalArgs
      show wpAny X.M A (spliced [] >>= _) _ _ s
      refine wpAny_bind (wpAny_mono (h1 hs1 η s a hv) (fun ms s' ⟨ws, H', e, hl, P⟩ => ?_) fun _ _ q => q)
      refine wpAny_holding ?_
      exact wpAny_bind (wpAny_pure (wpAny_bind (wpAny_pure (wpAny_pure ⟨ws, H', e, ⟨hl, rfl⟩, P⟩))))
    | cons x rest =>
      obtain ⟨b, t⟩ := x
      have hb : b = false := by simp only [List.any_cons, Bool.or_eq_false_iff] at hp; exact hp.1
      subst hb
      refine PySem.Calls.evalArgs_plain (wpAny_mono (h1 hs1 η s a hv) (fun ms s' ⟨ws, H', e, hl, P⟩ => ⟨ws, H', e, ⟨hl, rfl⟩, P⟩) fun _ _ q => q)
  have hr : r1 ≠ .stuck := by rintro rfl; exact hs rfl
  refine wpAny_mono (key hr η s a hv) (fun ar s1 hx => ?_) fun ev s1 hx => ?_
  · obtain ⟨ws, H1, rfl, ⟨hl, hkw⟩, η1, h', tk, rfl, i, stp, hp'⟩ := hx
    refine ⟨i.keep, ?_⟩
    rw [hkw]
    refine wpAny_mono (h2 ws H1 ar.pos rfl hl hs η1 _ (a.step stp i tk) (fun p hm => ?_)) (fun y s2 hy => ?_) fun ev s2 hy => ?_
    · rcases List.mem_append.mp hm with hm | hm
      · exact (hv p hm).step stp a.stk.frm
      · exact hp' p hm
    · obtain ⟨d, H2, e, hrel', hP⟩ := hy
      exact ⟨d, H2, e, hrel', hP.trans stp fun _ _ q => q⟩
    · obtain ⟨c, H2, e, hP⟩ := hy
      exact ⟨c, H2, e, hP.trans stp fun _ _ q => q.older stp.alive⟩
  · obtain ⟨c, H1, rfl, hP⟩ := hx
    exact ⟨c, H1, rfl, hP⟩
end
end Mine

/-! Sim6 -/
namespace Mine
open PySem PyProof.Rows PySem.W

theorem rng_facts {a b c : Int} (h : rngOk a b c = true) : Builtin.Range.rangeSize a b c = ((rangeL a b c).length : Int) ∧ Builtin.Range.small a b c = true ∧ (rangeL a b c).length ≤ line := by
  unfold rngOk at h
  simp only [Bool.and_eq_true, decide_eq_true_eq] at h
  obtain ⟨⟨⟨⟨⟨h1, h2⟩, h3⟩, h4⟩, h5⟩, h6⟩ := h
  have hd : a < b → 0 ≤ (b - a - 1) / c ∧ (b - a - 1) / c ≤ b - a - 1 := fun hab => ⟨Int.ediv_nonneg (by omega) (by omega), Int.ediv_le_self _ (by omega)⟩
  have e1 : Builtin.Range.rangeSize a b c = ((rangeL a b c).length : Int) := by
    unfold Builtin.Range.rangeSize rangeL
    rw [if_pos h1]
    by_cases hab : a < b
    · have := hd hab
      rw [if_pos hab, if_pos ⟨h1, hab⟩, List.length_map, List.length_range]; omega
    · rw [if_neg hab, if_neg (fun q => hab q.2)]; rfl
  have l1 : ((rangeL a b c).length : Int) ≤ 1000000 := by
    rw [← e1]
    unfold Builtin.Range.rangeSize
    rw [if_pos h1]
    by_cases hab : a < b
    · have := hd hab
      rw [if_pos hab]; omega
    · rw [if_neg hab]; decide
  refine ⟨e1, ?_, by unfold line; omega⟩
  unfold Builtin.Range.small
  rw [e1]
  unfold Builtin.Range.rangeFitsLong
  rw [if_pos h1]
  simp only [Bool.and_eq_true, Bool.or_eq_true, decide_eq_true_eq]
  refine ⟨⟨⟨⟨?_, ?_⟩, ?_⟩, ?_⟩, .inr ?_⟩ <;> (constructor <;> omega)

theorem rangeL_get {a b c : Int} {i : Nat} (h : i < (rangeL a b c).length) : (rangeL a b c)[i] = a + c * i := by
  unfold rangeL at h ⊢
  split at h
  · rename_i hc; simp [hc]
  · rename_i hc; rw [if_neg hc] at *; simp at h

section
variable {X : Cx} {n : Nat} {hd : Bool} {A : Around} {env : Env} {st : List Env} {ρ : Rho} {vs : List (V × Value)} {H : Hp}

theorem line_63 : (line : Int) < 2 ^ 63 := by decide

theorem mayCall_hand {f : String} (h : mayCall hd f = true) (h1 : f ≠ "int") (h2 : f ≠ "len") : hd = false := by
  unfold mayCall at h
  cases hd with
  | false => rfl
  | true => simp [h1, h2] at h

theorem one_of {α : Type} {v : V} {ms : List α} (h : [v].length = ms.length) : ∃ m, ms = [m] := match ms, h with | [m], _ => ⟨m, rfl⟩
theorem two_of {α : Type} {v w : V} {ms : List α} (h : [v, w].length = ms.length) : ∃ m k, ms = [m, k] := match ms, h with | [m, k], _ => ⟨m, k, rfl⟩
theorem two'_inv {vs : List V} {p : Int × Int} (h : two' vs = some p) : ∃ a b, vs = [a, b] ∧ intAt a = some p.1 ∧ intAt b = some p.2 := by
  cases vs with
  | nil => cases h
  | cons a r =>
    cases r with
    | nil => cases h
    | cons b r =>
      cases r with
      | cons => cases h
      | nil =>
        cases ha : intAt a with
        | none => rw [two', ha] at h; cases h
        | some x =>
          cases hb : intAt b with
          | none => rw [two', ha, hb] at h; cases h
          | some y => rw [two', ha, hb] at h; cases h; exact ⟨a, b, rfl, ha, hb⟩
theorem two'_vr {ws : List V} {ms : List Value} {p : Int × Int} {η : List Addr} {h : Heap} (e : two' ws = some p) (hl : ws.length = ms.length) (hw : ∀ q ∈ ws.zip ms, VR X η h q.1 q.2) : ∃ t u, ms = [.int p.1 t, .int p.2 u] := by
  obtain ⟨a, b, rfl, ha, hb⟩ := two'_inv e
  obtain ⟨m, k, rfl⟩ := two_of hl
  obtain ⟨t, rfl⟩ := vr_int (hw _ (List.Mem.head _)) ha
  obtain ⟨u, rfl⟩ := vr_int (hw _ (List.Mem.tail _ (List.Mem.head _))) hb
  exact ⟨t, u, rfl⟩

theorem len_ok {ws : List V} {ms : List Value} (hl : ws.length = ms.length) (hw : ∀ p ∈ ws.zip ms, p ∈ vs) : Tri X n hd A env st ρ vs (PySem.call (.builtin "len") ms) H (biLen ws H) rV := by
  unfold biLen
  split
  · rename_i v
    obtain ⟨m, rfl⟩ := one_of hl
    have key : Tri X n hd A env st ρ vs (PySem.call (.builtin "len") [m]) H (match listAt v H with | some xs => .ok (.int xs.length) H | Option.none => .stuck) rV := by
      cases hx : listAt v H with
      | none => exact Tri.stuck
      | some xs =>
        refine Tri.plain fun η s Q E at' hv hq => ?_
        obtain ⟨a, items, c, rfl, g, r, l⟩ := vr_list at'.inv (hv _ (hw _ (List.Mem.head _))) hx
        have e := r.size
        refine PySem.Calls.call_len_list ⟨_, g, rfl, c, rfl⟩ (by rw [e]; have := line_63; omega) ?_
        rw [e]
        exact hq _ _ (.int _ _)
    cases v with
    | scr ns =>
      refine Tri.plain fun η s Q E at' hv hq => ?_
      have r := hv _ (hw _ (List.Mem.head _))
      cases r with
      | @scr a items ns hb hi hln =>
        have e := (Array.length_toList (xs := items)).symm.trans hi.length
        have hl' : s.heap.IsList a items := let ⟨o, ho, q⟩ := hb; ⟨o, at'.inv.keep _ _ ho, q⟩
        refine PySem.Calls.call_len_list hl' (by rw [e]; have := line_63; omega) ?_
        rw [e]
        exact hq _ _ (.int _ _)
    | _ => exact key
  · exact Tri.stuck

theorem abs_ok {ws : List V} {ms : List Value} (hl : ws.length = ms.length) (hw : ∀ p ∈ ws.zip ms, p ∈ vs) : Tri X n hd A env st ρ vs (PySem.call (.builtin "abs") ms) H (biAbs ws H) rV := by
  unfold biAbs
  split
  · rename_i v
    obtain ⟨m, rfl⟩ := one_of hl
    cases hx : intAt v with
    | none => exact Tri.stuck
    | some i =>
      refine Tri.plain fun η s Q E at' hv hq => ?_
      obtain ⟨t, rfl⟩ := vr_int (hv _ (hw _ (List.Mem.head _))) hx
      refine PyProof.Rows.call_abs_int fun u tk => ?_
      have e : (if i < 0 then -i else i) = (i.natAbs : Int) := by split <;> omega
      rw [e]
      exact hq _ _ (.int _ _)
  · exact Tri.stuck

theorem min_ok {ws : List V} {ms : List Value} (hh : hd = false) (hl : ws.length = ms.length) (hw : ∀ p ∈ ws.zip ms, p ∈ vs) : Tri X n hd A env st ρ vs (PySem.call (.builtin "min") ms) H (biMin ws H) rV := by
  unfold biMin
  cases hp : two' ws with
  | none => exact Tri.stuck
  | some p =>
    refine Tri.reads fun η s Q E at' hv hq => ?_
    obtain ⟨t, u, rfl⟩ := two'_vr hp hl fun q hq => hv _ (hw _ hq)
    refine min_two_ints (at'.hand hh) fun h' tk hk => hq _ h' tk hk trivial fun q hq => ?_
    rw [rV, List.mem_singleton] at hq; subst hq
    dsimp only
    split <;> exact .int _ _

theorem max_ok {ws : List V} {ms : List Value} (hh : hd = false) (hl : ws.length = ms.length) (hw : ∀ p ∈ ws.zip ms, p ∈ vs) : Tri X n hd A env st ρ vs (PySem.call (.builtin "max") ms) H (biMax ws H) rV := by
  unfold biMax
  cases hp : two' ws with
  | none => exact Tri.stuck
  | some p =>
    refine Tri.reads fun η s Q E at' hv hq => ?_
    obtain ⟨t, u, rfl⟩ := two'_vr hp hl fun q hq => hv _ (hw _ hq)
    refine max_two_ints (at'.hand hh) fun h' tk hk => hq _ h' tk hk trivial fun q hq => ?_
    rw [rV, List.mem_singleton] at hq; subst hq
    dsimp only
    split <;> exact .int _ _

theorem range_ok {ws : List V} {ms : List Value} (hl : ws.length = ms.length) (hw : ∀ p ∈ ws.zip ms, p ∈ vs) : Tri X n hd A env st ρ vs (PySem.call (.type "range") ms) H (biRange ws H) rV := by
  unfold biRange
  cases ws with
  | nil => exact Tri.stuck
  | cons v r =>
    cases ms with
    | nil => cases hl
    | cons m ms =>
      dsimp only
      cases hx : intAt v with
      | none => exact Tri.stuck
      | some a =>
        cases r with
        | nil =>
          cases ms with
          | cons => cases hl
          | nil =>
            refine Tri.reads fun η s Q E at' hv hq => ?_
            obtain ⟨t, rfl⟩ := vr_int (hv _ (hw _ (List.Mem.head _))) hx
            refine call_range_1 (hq _ _ _ (push_keeps _ _) trivial fun p hp => ?_)
            rw [rV, List.mem_singleton] at hp; subst hp
            exact .rng (Heap.get?_push_size _ rfl) at'.inv.size_off
        | cons v2 r2 =>
          dsimp only
          cases hp : two' (v2 :: r2) with
          | none => exact Tri.stuck
          | some p =>
            dsimp only
            split
            · rename_i hc
              refine Tri.reads fun η s Q E at' hv hq => ?_
              obtain ⟨t, rfl⟩ := vr_int (hv _ (hw _ (List.Mem.head _))) hx
              obtain ⟨t2, u2, rfl⟩ := two'_vr hp (Nat.succ.inj hl) fun q hq => hv _ (hw _ (List.Mem.tail _ hq))
              refine call_range_3 hc.1 (hq _ _ _ (push_keeps _ _) trivial fun p hp => ?_) (.inl (PyProof.noPylong_small hc.2))
              rw [rV, List.mem_singleton] at hp; subst hp
              exact .rng (Heap.get?_push_size _ rfl) at'.inv.size_off
            · exact Tri.stuck

theorem int_ok {ws : List V} {ms : List Value} (hl : ws.length = ms.length) (hw : ∀ p ∈ ws.zip ms, p ∈ vs) : Tri X n hd A env st ρ vs (PySem.call (.type "int") ms) H (biInt ws H) rV := by
  unfold biInt
  split
  · obtain ⟨m, rfl⟩ := one_of hl
    refine Tri.plain fun η s Q E at' hv hq => ?_
    have r := hv _ (hw _ (List.Mem.head _))
    cases r
    exact call_int_bool (hq _ _ (.int _ _))
  · exact Tri.stuck

theorem VRs.of_get {X : Cx} {η : List Addr} {h : Heap} : ∀ {vs : List V} {ms : List Value}, vs.length = ms.length → (∀ (i : Nat) (v : V) (m : Value), vs[i]? = some v → ms[i]? = some m → VR X η h v m) → VRs X η h vs ms
  | [], [], _, _ => .nil
  | v :: vs, m :: ms, e, hp => .cons (hp 0 v m rfl rfl) (VRs.of_get (Nat.succ.inj e) fun i v m h1 h2 => hp (i + 1) v m h1 h2)
  | [], _ :: _, e, _ => nomatch e
  | _ :: _, [], e, _ => nomatch e

theorem list_ok {ws : List V} {ms : List Value} (hh : hd = false) (hl : ws.length = ms.length) (hw : ∀ p ∈ ws.zip ms, p ∈ vs) : Tri X n hd A env st ρ vs (PySem.call (.type "list") ms) H (biList ws H) rV := by
  unfold biList
  split
  · rename_i v
    obtain ⟨m, rfl⟩ := one_of hl
    have mk : ∀ {xs : List V} {T : String} {a : Addr} {items : Array Value} {c : Nat} {η : List Addr} {s : Shared} {Q : Value → Shared → Prop} {E : Value → Shared → Prop}, (T = "list" ∨ T = "tuple") → s.heap.get? a = some { cls := .type T, data := .seq items c } → VRs X η s.heap xs items.toList → xs.length ≤ line →
        (∀ x h' ob tk, s.heap.get? x = Option.none → (∀ b o, s.heap.get? b = some o → h'.get? b = some o) → h'.get? x = some ob → OR X (η ++ [x]) h' (.list xs) ob → Q (.ref x) { s with heap := h', toks := tk }) → wpAny X.M A (PySem.call (.type "list") [.ref a]) Q E s := fun {xs T a items c η s Q E} hT g r l hq => by
      have new : s.heap.get? s.heap.objs.size = Option.none := size_none _
      refine call_list_seq _ hT g rfl rfl (fun h' c' k e => hq _ h' _ s.toks new k e (.list (r.step (fr := []) (own := []) (Step.make _ _ _ k new) fun _ q => nomatch q) l)) (by rw [r.size]; unfold sizeLine; unfold line at l; omega)
    have key : Tri X n hd A env st ρ vs (PySem.call (.type "list") [m]) H (match listAt v H with | some xs => new (.list xs) H | Option.none => .stuck) rV := by
      cases hx : listAt v H with
      | none => exact Tri.stuck
      | some xs =>
        refine Tri.made fun η s Q E at' hv hq => ?_
        obtain ⟨a, items, c, rfl, g, r, l⟩ := vr_list at'.inv (hv _ (hw _ (List.Mem.head _))) hx
        exact mk (.inl rfl) g r l hq
    cases v with
    | tup xs =>
      refine Tri.made fun η s Q E at' hv hq => ?_
      have r := hv _ (hw _ (List.Mem.head _))
      cases r with
      | tup g hn r l => exact mk (.inr rfl) g r l hq
    | rng a b c =>
      show Tri _ _ _ _ _ _ _ _ _ _ (if rngOk a b c = true then new (.list ((rangeL a b c).map V.int)) H else .stuck) _
      split
      · rename_i ok
        obtain ⟨f1, f2, f3⟩ := rng_facts ok
        refine Tri.made fun η s Q E at' hv hq => ?_
        have r := hv _ (hw _ (List.Mem.head _))
        have new : s.heap.get? s.heap.objs.size = Option.none := size_none _
        cases r with
        | rng hr hn =>
          refine call_list_range (at'.hand hh) hr f2 f1 (by unfold line at f3; omega) fun h' tk acc c' k e it => hq _ h' _ tk new k e (.list (VRs.of_get ?_ fun i v m h1 h2 => ?_) (by rw [List.length_map]; exact f3))
          · rw [List.length_map, Array.length_toList]; exact it.1.symm
          · rw [List.getElem?_map] at h1
            obtain ⟨j, hj, rfl⟩ := Option.map_eq_some_iff.mp h1
            obtain ⟨hlt, hj'⟩ := List.getElem?_eq_some_iff.mp hj
            rw [rangeL_get] at hj'
            rw [Array.getElem?_toList] at h2
            obtain ⟨t', rfl⟩ := it.2 i m h2
            rw [← hj', Int.mul_comm c]
            exact .int _ _
      · exact Tri.stuck
    | _ => exact key
  · exact Tri.stuck

theorem builtin_ok {f : String} {fv : Value} {ws : List V} {ms : List Value} (hf : biVal f = some fv) (hm : mayCall hd f = true) (hl : ws.length = ms.length) (hw : ∀ p ∈ ws.zip ms, p ∈ vs) :
    Tri X n hd A env st ρ vs (PySem.call fv ms) H (builtin f ws H) rV := by
  unfold builtin
  by_cases h1 : f = "len"
  · subst h1; cases hf; rw [if_pos rfl]; exact len_ok hl hw
  rw [if_neg h1]
  by_cases h2 : f = "abs"
  · subst h2; cases hf; rw [if_pos rfl]; exact abs_ok hl hw
  rw [if_neg h2]
  by_cases h3 : f = "min"
  · subst h3; cases hf; rw [if_pos rfl]; exact min_ok (mayCall_hand hm (by decide) (by decide)) hl hw
  rw [if_neg h3]
  by_cases h4 : f = "max"
  · subst h4; cases hf; rw [if_pos rfl]; exact max_ok (mayCall_hand hm (by decide) (by decide)) hl hw
  rw [if_neg h4]
  by_cases h5 : f = "range"
  · subst h5; cases hf; rw [if_pos rfl]; exact range_ok hl hw
  rw [if_neg h5]
  by_cases h6 : f = "list"
  · subst h6; cases hf; rw [if_pos rfl]; exact list_ok (mayCall_hand hm (by decide) (by decide)) hl hw
  rw [if_neg h6]
  by_cases h7 : f = "int"
  · subst h7; cases hf; rw [if_pos rfl]; exact int_ok hl hw
  rw [if_neg h7]
  exact Tri.stuck
end
end Mine

/-! Sim7 -/
namespace Mine
open PySem PyProof.Rows PySem.W

theorem place_eq (k : Int) (n : Nat) : place k n = seqIndex? k n := by
  unfold place seqIndex?
  by_cases h0 : 0 ≤ k
  · have h1 : ¬ k < 0 := by omega
    simp only [h0, h1, if_true, if_false, decide_true, Bool.true_and, decide_eq_true_eq]
  · have h1 : k < 0 := by omega
    simp only [h0, h1, if_true, if_false]
    by_cases h2 : -(n : Int) ≤ k
    · rw [if_pos h2, if_pos (by simp only [Bool.and_eq_true, decide_eq_true_eq]; omega)]
    · rw [if_neg h2, if_neg (by simp only [Bool.and_eq_true, decide_eq_true_eq]; omega)]

theorem place_lt {k : Int} {n j : Nat} (h : place k n = some j) : j < n ∧ -(n : Int) ≤ k ∧ k < n := by
  unfold place at h
  split at h <;> split at h <;> first | (cases h; omega) | cases h

theorem VRs.get {X : Cx} {η : List Addr} {h : Heap} : ∀ {vs : List V} {ms : List Value} (_ : VRs X η h vs ms) {j : Nat} {v : V}, vs[j]? = some v → ∃ m, ms[j]? = some m ∧ VR X η h v m
  | _, _, .nil, j, v, e => by simp at e
  | _, _, .cons a r, 0, v, e => by cases e; exact ⟨_, rfl, a⟩
  | _, _, .cons a r, j + 1, v, e => VRs.get r e

theorem IntsAre.get' : ∀ {vs : List Value} {ns : List Int} (_ : IntsAre vs ns) {j : Nat} {n : Int}, ns[j]? = some n → ∃ t, vs[j]? = some (.int n t)
  | _, _, .nil, j, v, e => by simp at e
  | _, _, .cons a t r, 0, v, e => by cases e; exact ⟨_, rfl⟩
  | _, _, .cons a t r, j + 1, v, e => IntsAre.get' r e

section
variable {X : Cx} {n : Nat} {hd : Bool} {A : Around} {env : Env} {st : List Env} {ρ : Rho} {vs : List (V × Value)} {H : Hp}

theorem wpAny_item_list {η : List Addr} {s : Shared} {a : Addr} {items : Array Value} {k : Int} {u : Tok} {j : Nat} {m : Value} {value slice : Expr} {Q : Value → Shared → Prop} {E : Value → Shared → Prop}
    (hl : s.heap.IsList a items) (hn : items.size ≤ line) (hj : place k items.size = some j) (hm : items[j]? = some m) (hs : subscripted slice false (.ref a) (.int k u) = operate [.ref a, .int k u] (getItem (.ref a) (.int k u))) (hq : Q m s) :
    wpAny X.M A (subscriptTail value slice (.ref a) (.int k u)) Q E s := by
  have hlt := place_lt hj
  have hln : (items.size : Int) ≤ 1048576 := by unfold line at hn; omega
  refine tail_any hl.typeIs slot_list_getitem.lookup ?_ hs
  unfold place at hj
  split at hj
  · rename_i h0
    rw [if_pos hlt.2.2] at hj
    cases hj
    exact wpAny_getItem_list hl h0 (by omega) hm hq
  · rename_i h0
    rw [if_pos hlt.2.1] at hj
    cases hj
    exact wpAny_getItem_list_neg hl (by omega) hlt.2.1 (by omega) hm hq

theorem index_ok {o i : V} {mo mi : Value} {value slice : Expr} (ho : (o, mo) ∈ vs) (hi : (i, mi) ∈ vs) (hs : ∀ a b, subscripted slice false a b = operate [a, b] (getItem a b)) :
    Tri X n hd A env st ρ vs (subscriptTail value slice mo mi) H (index o i H) rV := by
  unfold index
  split
  · rename_i xs k
    cases e : (place k xs.length).bind (xs[·]?) with
    | none => exact Tri.stuck
    | some v =>
      obtain ⟨j, e1, e2⟩ := Option.bind_eq_some_iff.mp e
      refine Tri.plain fun η s Q E at' hv hq => ?_
      have vo := hv _ ho; have vi := hv _ hi
      cases vi
      cases vo with
      | tup g nn r l =>
        obtain ⟨m, e3, rm⟩ := r.get e2
        rename_i a items nm
        have hlt := place_lt e1
        have hln : (xs.length : Int) ≤ 1048576 := by unfold line at l; omega
        refine tail_any (T := "tuple") ⟨_, g, rfl⟩ F.slot_tuple_getitem.lookup (P.getItem_tuple g (by omega) (by omega) (by rw [← place_eq, r.size]; exact e1) (by simpa using e3) (hq _ s.toks rm)) (hs _ _)
  · rename_i ns k
    cases e : ((place k ns.length).bind (ns[·]?)).map V.int with
    | none => exact Tri.stuck
    | some v =>
      obtain ⟨z, e0, rfl⟩ := Option.map_eq_some_iff.mp e
      obtain ⟨j, e1, e2⟩ := Option.bind_eq_some_iff.mp e0
      refine Tri.plain fun η s Q E at' hv hq => ?_
      have vo := hv _ ho; have vi := hv _ hi
      cases vi
      cases vo with
      | scr hb hi' hln =>
        rename_i a items
        have es := (Array.length_toList (xs := items)).symm.trans hi'.length
        obtain ⟨t, e3⟩ := IntsAre.get' hi' e2
        have hl' : s.heap.IsList a items := let ⟨o, ho, q⟩ := hb; ⟨o, at'.inv.keep _ _ ho, q⟩
        exact wpAny_item_list (η := η) hl' (by rw [es]; exact hln) (by rw [es]; exact e1) (by simpa using e3) (hs _ _) (hq _ s.toks (.int _ _))
  · rename_i xs k
    cases e : (place k xs.length).bind (xs[·]?) with
    | none => exact Tri.stuck
    | some v =>
      obtain ⟨j, e1, e2⟩ := Option.bind_eq_some_iff.mp e
      refine Tri.plain fun η s Q E at' hv hq => ?_
      have vo := hv _ ho; have vi := hv _ hi
      cases vi
      cases vo with
      | lst g nn r l =>
        obtain ⟨m, e3, rm⟩ := r.get e2
        exact wpAny_item_list (η := η) ⟨_, g, rfl, _, rfl⟩ (by rw [r.size]; exact l) (by rw [r.size]; exact e1) (by simpa using e3) (hs _ _) (hq _ s.toks rm)
  · split
    · split
      · rename_i xs hk _ k
        cases e : (place k xs.length).bind (xs[·]?) with
        | none => exact Tri.stuck
        | some v =>
          obtain ⟨j, e1, e2⟩ := Option.bind_eq_some_iff.mp e
          refine Tri.plain fun η s Q E at' hv hq => ?_
          have vo := hv _ ho; have vi := hv _ hi
          cases vi
          cases vo with
          | ref ea =>
            obtain ⟨items, mm, g, r, l⟩ := list_of_H at'.inv ea hk
            obtain ⟨m, e3, rm⟩ := r.get e2
            exact wpAny_item_list (η := η) ⟨_, g, rfl, mm, rfl⟩ (by rw [r.size]; exact l) (by rw [r.size]; exact e1) (by simpa using e3) (hs _ _) (hq _ s.toks rm)
      · exact Tri.stuck
    · exact Tri.stuck
  · exact Tri.stuck

theorem Tri.newTuple {ws : List V} {ms : List Value} (hl : ws.length = ms.length) (hw : ∀ p ∈ ws.zip ms, p ∈ vs) (hln : ws.length ≤ line) : Tri X n hd A env st ρ vs (PySem.newTuple ms) H (.ok (.tup ws) H) rV := by
  refine Tri.reads fun η s Q E at' hv hq => ?_
  refine wpAny_newTuple (hq _ _ s.toks (push_keeps _ _) trivial fun p hp => ?_) (by rw [← hl]; exact Nat.le_trans hln line_lt)
  rw [rV, List.mem_singleton] at hp; subst hp
  refine .tup (Heap.get?_push_size _ rfl) at'.inv.size_off ?_ hln
  exact (VRs.of_zip hl fun p hp => hv p (hw p hp)).step (Step.ext [] [] η (push_keeps _ _)) fun _ q => nomatch q

theorem Tri.newList {ws : List V} {ms : List Value} (hl : ws.length = ms.length) (hw : ∀ p ∈ ws.zip ms, p ∈ vs) (hln : ws.length ≤ line) : Tri X n hd A env st ρ vs (PySem.newList ms) H (new (.list ws) H) rV := by
  refine Tri.fresh fun η s Q E at' hv => ?_
  refine ⟨{ cls := .type "list", data := .seq ms.toArray }, rfl, ?_, fun hq => wpAny_newList (hq s.toks) (by rw [← hl]; exact Nat.le_trans hln line_lt)⟩
  exact .list ((VRs.of_zip hl fun p hp => hv p (hw p hp)).step (Step.push [] [] η _ _) fun _ q => nomatch q) hln

theorem Tri.hidden {ws : List V} {ms : List Value} (hl : ws.length = ms.length) (hw : ∀ p ∈ ws.zip ms, p ∈ vs) (hln : ws.length ≤ line) : Tri X n hd A env st ρ vs (PySem.newList ms) H (.ok (.lst ws) H) rV := by
  refine Tri.reads fun η s Q E at' hv hq => ?_
  refine wpAny_newList (hq _ _ s.toks (push_keeps _ _) trivial fun p hp => ?_) (by rw [← hl]; exact Nat.le_trans hln line_lt)
  rw [rV, List.mem_singleton] at hp; subst hp
  refine .lst (Heap.get?_push_size _ rfl) at'.inv.size_off ?_ hln
  exact (VRs.of_zip hl fun p hp => hv p (hw p hp)).step (Step.ext [] [] η (push_keeps _ _)) fun _ q => nomatch q
end
end Mine

/-! Sim18 -/
namespace Mine
open PySem PyProof.Rows PySem.W

structure Turn (it : Addr) (h h' : Heap) : Prop where
  keep : ∀ b o, b ≠ it → h.get? b = some o → h'.get? b = some o
  was : ∃ o, h.get? it = some o ∧ ((∃ T fs, o.cls = .type T ∧ o.data = .fields fs ∧ T ≠ "range") ∨ ∃ es n, o.data = .dict es n)

section
variable {X : Cx} {η : List Addr} {h h' : Heap} {H : Hp} {it : Addr}
theorem Turn.ne_seq (x : Turn it h h') {b : Addr} {o : Obj} (e : h.get? b = some o) (hd : ∀ fs, o.data ≠ .fields fs) (hd2 : ∀ es n, o.data ≠ .dict es n) : b ≠ it := fun q => by
  subst q
  obtain ⟨o', e', ⟨_, fs, _, d, _⟩ | ⟨es, n, d⟩⟩ := x.was
  · rw [e] at e'; cases e'; exact hd fs d
  · rw [e] at e'; cases e'; exact hd2 es n d
mutual
theorem Turn.vr (x : Turn it h h') : ∀ {v : V} {m : Value}, VR X η h v m → VR X η h' v m
  | _, _, .none => .none
  | _, _, .bool b => .bool b
  | _, _, .int i t => .int i t
  | _, _, .str s t q => .str s t q
  | _, _, .tup e hn r l => .tup (x.keep _ _ (x.ne_seq e (fun fs q => (by cases q)) fun _ _ q => (by cases q)) e) hn (Turn.vrs x r) l
  | _, _, .lst e hn r l => .lst (x.keep _ _ (x.ne_seq e (fun fs q => (by cases q)) fun _ _ q => (by cases q)) e) hn (Turn.vrs x r) l
  | _, _, .ref e => .ref e
  | _, .ref a, .exc (a := _) e c dt hm hn => by
    refine .exc (x.keep _ _ (fun q => ?_) e) c dt hm hn
    subst q
    obtain ⟨o', e', ⟨T, fs, c', _⟩ | ⟨es, n, d⟩⟩ := x.was
    · rw [e] at e'; cases e'; rw [c.1] at c'; cases c'
    · rw [e] at e'; cases e'; rw [dt] at d; cases d
  | _, .ref r, .rng e hn => by
    refine .rng (x.keep _ _ (fun q => ?_) e) hn
    subst q
    obtain ⟨o', e', ⟨T, fs, c', _, hT⟩ | ⟨es, n, d⟩⟩ := x.was
    · have e2 : h.get? r = _ := e
      rw [e2] at e'; cases e'; cases c'; exact hT rfl
    · have e2 : h.get? r = _ := e
      rw [e2] at e'; cases e'; cases d
  | _, _, .scr e i l => .scr e i l
theorem Turn.vrs (x : Turn it h h') : ∀ {v : List V} {m : List Value}, VRs X η h v m → VRs X η h' v m
  | _, _, .nil => .nil
  | _, _, .cons a b => .cons (Turn.vr x a) (Turn.vrs x b)
end
theorem Turn.ors (x : Turn it h h') {o : O} {ob : Obj} (r : OR X η h o ob) : OR X η h' o ob := by
  cases r with
  | list d e => exact .list (x.vrs d) e
  | inst a a' b => exact .inst a a' b
  | keys d e l => exact .keys d e l
  | ns d e =>
    refine .ns ?_ e
    clear e
    generalize hl : Array.toList _ = ds at d
    clear hl
    induction d with
    | nil => exact .nil
    | cons a b _ ih => exact .cons a (x.vr b) ih
theorem Turn.inv (x : Turn it h h') (i : Inv X η H h) (hη : it ∉ η) (hb : X.base.get? it = Option.none) : Inv X η H h' := by
  refine ⟨fun b o e => x.keep b o (fun q => by rw [q, hb] at e; cases e) (i.keep b o e), i.len, i.fresh, i.nodup, fun n a o ha ho => ?_⟩
  obtain ⟨ob, e, r⟩ := i.objs n a o ha ho
  exact ⟨ob, x.keep a ob (fun q => hη (q ▸ List.mem_of_getElem? ha)) e, x.ors r⟩
theorem Turn.step {fr own η0 : List Addr} {h0 : Heap} (x : Turn it h h') (s : Step fr own η0 h0 η h) (h0n : h0.get? it = Option.none) : Step fr own η0 h0 η h' := by
  have ne : ∀ b o, h0.get? b = some o → b ≠ it := fun b o e q => by rw [q, h0n] at e; cases e
  refine ⟨s.pre, fun b o e => let ⟨o1, e1⟩ := s.alive b o e; ⟨o1, x.keep b o1 (ne b o e) e1⟩, fun b o e hb ho hf => x.keep b o (ne b o e) (s.same b o e hb ho hf), fun b o e hb ho hf => ?_, fun b o e hb es' k d => ?_, fun b o e hb v d => ?_⟩
  · obtain ⟨sl, e1⟩ := s.slots b o e hb ho hf
    exact ⟨sl, x.keep b _ (ne b o e) e1⟩
  · obtain ⟨o1, es1, k1, e1, d1⟩ := s.dicts b o e hb es' k d
    exact ⟨o1, es1, k1, x.keep b _ (ne b o e) e1, d1⟩
  · obtain ⟨o1, v1, e1, d1⟩ := s.cells b o e hb v d
    exact ⟨o1, v1, x.keep b _ (ne b o e) e1, d1⟩
theorem Turn.frm {l : List Addr} (x : Turn it h h') (f : Frm h l) (hn : it ∉ l) : Frm h' l := by
  intro b hb
  obtain ⟨o, e, q⟩ := f b hb
  exact ⟨o, x.keep b o (fun z => hn (z ▸ hb)) e, q⟩
theorem Turn.ends {env : Env} {ρ : Rho} (x : Turn it h h') (e : Ends X env ρ η h) (hn : it ∉ ownOf env) : Ends X env ρ η h' := by
  obtain ⟨fo, ro⟩ := e
  have ns : ∀ {m : Str → Option Value}, h.Ns env.locals m → h'.Ns env.locals m := fun {m} ⟨o, es, ep, e, d, r⟩ =>
    ⟨o, es, ep, x.keep _ _ (fun z => hn (z ▸ List.Mem.head _)) e, d, r⟩
  have cl : ∀ {y : Str} {c : Addr} {o : Obj}, (y, c) ∈ env.cells → h.get? c = some o → h'.get? c = some o := fun {y c o} m e => x.keep _ _ (fun z => hn (List.mem_cons.mpr (.inr (List.mem_map.mpr ⟨(y, c), m, z⟩)))) e
  refine ⟨⟨fo.kind, fo.glob, fo.blt, let ⟨m, hn⟩ := fo.ns; ⟨m, ns hn⟩, fun p hp => let ⟨o, v, e, d⟩ := fo.cell p hp; ⟨o, v, cl (y := p.1) hp e, d⟩, fo.cells, fo.inj, fo.off⟩, fun y v ey hy => ?_⟩
  obtain ⟨mv, hh, r⟩ := ro y v ey hy
  refine ⟨mv, ?_, x.vr r⟩
  rcases hh with ⟨hk, m, hn, hm⟩ | ⟨hk, c, o, hc, g, d⟩
  · exact .inl ⟨hk, m, ns hn, hm⟩
  · exact .inr ⟨hk, c, o, hc, cl (lookup_mem hc) g, d⟩
theorem Frm.norec {l : List Addr} (f : Frm h l) (x : ∃ o fs, h.get? it = some o ∧ o.data = .fields fs) : it ∉ l := fun q => by
  obtain ⟨o, fs, e, d⟩ := x
  exact f.not e ⟨fun es n z => (by rw [d] at z; cases z), fun v z => (by rw [d] at z; cases z)⟩ q
theorem Turn.stk {A : Around} {st : List Env} (x : Turn it h h') (k : Stk X η A st h) (hr : ∃ o fs, h.get? it = some o ∧ o.data = .fields fs) : Stk X η A st h' :=
  ⟨k.frames, k.ok.of_keeps fun b o e hn => ⟨o, x.keep b o (fun z => by obtain ⟨o', fs, e', d⟩ := hr; rw [z, e'] at e; cases e; exact hn fs d) e, rfl⟩, k.off, x.frm k.frm (k.frm.norec hr)⟩
theorem Turn.at {n : Nat} {hd : Bool} {A : Around} {env : Env} {st : List Env} {ρ : Rho} {s : Shared} {tk : Nat} (x : Turn it s.heap h') (a : At X n hd A env st η ρ H s) (hη : it ∉ η) (hb : X.base.get? it = Option.none) (hr : ∃ o fs, s.heap.get? it = some o ∧ o.data = .fields fs) : At X n hd A env st η ρ H { s with heap := h', toks := tk } :=
  have en := x.ends ⟨a.fok, a.rho⟩ (a.fok.frm.norec hr)
  ⟨x.inv a.inv hη hb, en.1, en.2, x.stk a.stk hr, a.room, a.hand⟩
end

inductive ItR (X : Cx) (η : List Addr) (h : Heap) (it : Addr) : V → List V → Nat → Prop
  | list {n i : Nat} {l : Addr} {xs : List V} : η[n]? = some l → h.IsListIter it l i → ItR X η h it (.ref n) xs i
  | tup {t : Addr} {i k : Nat} {items : Array Value} {xs : List V} : h.get? t = some { cls := .type "tuple", data := .seq items k } → t ∉ η → VRs X η h xs items.toList → h.IsTupleIter it t i → ItR X η h it (.tup xs) xs i
  | rng {a b c : Int} {i : Nat} {xs : List V} : xs = (rangeL a b c).map .int → IsRangeIter h it (a + c * i) ((rangeL a b c).length - i) c → ItR X η h it (.rng a b c) xs i

section
variable {X : Cx} {η η' : List Addr} {h h' : Heap} {it : Addr} {src : V} {xs : List V} {i : Nat}
theorem ItR.obj (r : ItR X η h it src xs i) : ∃ o T fs, h.get? it = some o ∧ o.cls = .type T ∧ o.data = .fields fs ∧ T ≠ "range" := by
  cases r with
  | list _ q => obtain ⟨o, a, b, c⟩ := q; exact ⟨o, _, _, a, b, c, by decide⟩
  | tup _ _ _ q => obtain ⟨o, a, b, c⟩ := q; exact ⟨o, _, _, a, b, c, by decide⟩
  | rng _ q => exact ⟨_, _, _, q, rfl, rfl, by decide⟩

theorem ItR.rec' (r : ItR X η h it src xs i) : ∃ o fs, h.get? it = some o ∧ o.data = .fields fs := let ⟨o, _, fs, e, _, d, _⟩ := r.obj; ⟨o, fs, e, d⟩
theorem ItR.keep {fr own : List Addr} (r : ItR X η h it src xs i) (x : Step fr own η h η' h') (f : Frm h (own ++ fr)) (hη : it ∉ η) : ItR X η' h' it src xs i := by
  obtain ⟨o0, T, fs, e0, c0, d0, _⟩ := r.obj
  have q := f.not e0 ⟨fun es n q => (by rw [d0] at q; cases q), fun v q => (by rw [d0] at q; cases q)⟩
  have same : ∀ o, h.get? it = some o → h'.get? it = some o := fun o e => x.same it o e hη (fun z => q (List.mem_append.mpr (.inl z))) (fun z => q (List.mem_append.mpr (.inr z)))
  cases r with
  | list e1 q1 =>
    obtain ⟨o, a, b, c⟩ := q1
    obtain ⟨l', rfl, _⟩ := x.pre
    exact .list (getElem?_pre e1) ⟨o, same o a, b, c⟩
  | tup e1 e2 e3 q1 =>
    obtain ⟨o, a, b, c⟩ := q1
    have qt := f.not e1 ⟨(fun es n q => (by cases q)), fun v q => (by cases q)⟩
    exact .tup (x.same _ _ e1 e2 (fun z => qt (List.mem_append.mpr (.inl z))) (fun z => qt (List.mem_append.mpr (.inr z)))) (x.mem e1 e2) (e3.step x f) ⟨o, same o a, b, c⟩
  | rng e1 q1 => exact .rng e1 (same _ q1)

theorem next_ok {A : Around} {H : Hp} {s : Shared} {Q : Option Value → Shared → Prop} {E : Value → Shared → Prop} (r : ItR X η s.heap it src xs i) (iv : Inv X η H s.heap) (hη : it ∉ η) (hh : A.handled = Option.none) (hsrc : ∀ n, src = .ref n → H[n]? = some (.list xs))
    (h1 : ∀ v mv h' tk, xs[i]? = some v → Turn it s.heap h' → VR X η h' v mv → ItR X η h' it src xs (i + 1) → Q (some mv) { s with heap := h', toks := tk })
    (h2 : ∀ h', xs[i]? = Option.none → Turn it s.heap h' → Q Option.none { s with heap := h' }) : wpAny X.M A (pyNext (.ref it)) Q E s := by
  have turn : ∀ h', (∀ b o, b ≠ it → s.heap.get? b = some o → h'.get? b = some o) → Turn it s.heap h' := fun h' k => ⟨k, let ⟨o, T, fs, e, c, d, q⟩ := r.obj; ⟨o, e, .inl ⟨T, fs, c, d, q⟩⟩⟩
  have sb : ∀ {h'}, Heap.SameBut it s.heap h' → Turn it s.heap h' := fun {h'} q => turn h' fun b o hb e => (q.2 b hb).trans e
  have eb : ∀ {h'}, Heap.ExtBut it s.heap h' → Turn it s.heap h' := fun {h'} q => turn h' fun b o hb e => q b o hb e
  cases r with
  | list e1 q1 =>
    rename_i n l
    obtain ⟨ob, g, oR⟩ := iv.objs n l _ e1 (hsrc n rfl)
    cases oR with
    | list vr le =>
      rename_i items k
      have hl : s.heap.IsList l items := ⟨_, g, rfl, k, rfl⟩
      have hli : l ≠ it := fun q => hη (q ▸ List.mem_of_getElem? e1)
      cases e : xs[i]? with
      | none =>
        refine wpAny_pyNext_list_end hh q1 hl ?_ fun h' k => h2 h' e (eb k)
        rw [List.getElem?_eq_none_iff] at e
        rw [Array.getElem?_eq_none_iff, ← Array.length_toList, ← vr.length]; exact e
      | some v =>
        obtain ⟨mv, em, rv⟩ := vr.get e
        rw [Array.getElem?_toList] at em
        exact wpAny_pyNext_list_item q1 hl em fun h' k1 k2 => h1 v mv h' s.toks e (sb k2) ((sb k2).vr rv) (.list e1 k1)
  | tup e1 e2 e3 q1 =>
    rename_i t k items
    have ht : s.heap.IsTuple t items := ⟨_, e1, rfl, k, rfl⟩
    cases e : xs[i]? with
    | none =>
      refine wpAny_pyNext_tuple_end hh q1 ht ?_ fun h' k => h2 h' e (eb k)
      rw [List.getElem?_eq_none_iff] at e
      rw [Array.getElem?_eq_none_iff, ← Array.length_toList, ← e3.length]; exact e
    | some v =>
      obtain ⟨mv, em, rv⟩ := e3.get e
      rw [Array.getElem?_toList] at em
      refine wpAny_pyNext_tuple_item q1 ht em fun h' k1 k2 => h1 v mv h' s.toks e (sb k2) ((sb k2).vr rv) (.tup ((sb k2).keep _ _ ?_ e1) e2 ((sb k2).vrs e3) k1)
      exact (sb k2).ne_seq e1 (fun fs q => by cases q) fun _ _ q => by cases q
  | rng e1 q1 =>
    rename_i a b c
    subst e1
    by_cases hi : i < (rangeL a b c).length
    · refine wpAny_pyNext_range_item q1 (by omega) fun h' k1 k2 => h1 (.int (a + c * i)) _ h' _ ?_ (sb k2) (.int _ _) (.rng rfl ?_)
      · rw [List.getElem?_map, List.getElem?_eq_getElem hi, Option.map_some, rangeL_get]
      · have e1 : a + c * ((i + 1 : Nat) : Int) = a + c * i + c := by rw [Int.natCast_add, Int.mul_add]; simp [Int.add_assoc]
        have e2 : ((rangeL a b c).length : Int) - ((i + 1 : Nat) : Int) = (rangeL a b c).length - i - 1 := by omega
        rw [e1, e2]; exact k1
    · refine wpAny_pyNext_range_end hh q1 (by omega) fun h' k => h2 h' ?_ (eb k)
      rw [List.getElem?_eq_none_iff, List.length_map]; omega
end
end Mine

/-! Sim20 -/
namespace Mine
open PySem PyProof.Rows PySem.W

section
variable {X : Cx} {A : Around} {η : List Addr} {H : Hp} {s : Shared}
theorem iter_ok {v : V} {mv : Value} {xs : List V} {Q : Value → Shared → Prop} {E : Value → Shared → Prop} (i : Inv X η H s.heap) (r : VR X η s.heap v mv) (e : items H v = some xs) (hs : ∀ x, v ≠ .str x) (hdi : ∀ n, v = .ref n → H[n]? = some (.list xs))
    (hq : ∀ ob, ItR X η (s.heap.push ob) s.heap.objs.size v xs 0 → Q (.ref s.heap.objs.size) { s with heap := s.heap.push ob }) : wpAny X.M A (pyIter mv) Q E s := by
  cases r with
  | tup g hn r l =>
    cases e
    refine wpAny_pyIter_tuple ⟨_, g, rfl, _, rfl⟩ (hq _ (.tup (push_keeps _ _ _ _ g) hn ?_ ⟨_, Heap.get?_push_size _ rfl, rfl, rfl⟩))
    exact r.step (fr := []) (own := []) (Step.ext _ _ _ (push_keeps _ _)) fun _ q => nomatch q
  | ref e1 =>
    rename_i n a
    obtain ⟨ob, g, oR⟩ := i.objs n a _ e1 (hdi n rfl)
    cases oR with
    | list vr le => exact wpAny_pyIter_list ⟨_, g, rfl, _, rfl⟩ (hq _ (.list e1 ⟨_, Heap.get?_push_size _ rfl, rfl, rfl⟩))
  | rng hr hn =>
    rename_i a b c t u w r
    have e' : (if rngOk a b c = true then some ((rangeL a b c).map V.int) else Option.none) = some xs := e
    split at e'
    · rename_i ok
      cases e'
      obtain ⟨f1, f2, f3⟩ := rng_facts ok
      refine wpAny_pyIter_range hr f2 (hq _ (.rng rfl ?_))
      rw [f1]
      have z1 : a + c * ((0 : Nat) : Int) = a := by simp
      have z2 : ((rangeL a b c).length : Int) - ((0 : Nat) : Int) = (rangeL a b c).length := by simp
      rw [z1, z2]
      exact Heap.get?_push_size _ rfl
    · cases e'
  | str => exact absurd rfl (hs _)
  | _ => cases e
end
end Mine

/-! SimA -/
namespace Mine
open PySem PyProof.Rows PySem.W

section
variable {X : Cx} {n : Nat} {hd : Bool} {A : Around} {env : Env} {st : List Env} {ρ : Rho} {vs : List (V × Value)} {H : Hp}

theorem isPart_of {v : V} {m : Value} {η : List Addr} {h : Heap} {o : Option Int} (r : VR X η h v m) (e : intO v = some o) : IsPart m o := by
  unfold intO at e
  split at e
  · cases e; cases r; exact .none
  · cases e; cases r; exact .int _ _
  · cases e

theorem VRs.drop {η : List Addr} {h : Heap} : ∀ {xs : List V} {ms : List Value}, VRs X η h xs ms → ∀ k, VRs X η h (xs.drop k) (ms.drop k)
  | _, _, r, 0 => r
  | _, _, .nil, k + 1 => .nil
  | _, _, .cons _ r, k + 1 => r.drop k
theorem VRs.take {η : List Addr} {h : Heap} : ∀ {xs : List V} {ms : List Value}, VRs X η h xs ms → ∀ k, VRs X η h (xs.take k) (ms.take k)
  | _, _, _, 0 => .nil
  | _, _, .nil, k + 1 => .nil
  | _, _, .cons a r, k + 1 => .cons a (r.take k)

theorem sliceL_ok {η : List Addr} {h : Heap} {xs ys : List V} {items : Array Value} {lo hi : Option Int} (r : VRs X η h xs items.toList) (e : sliceL xs lo hi = some ys) : VRs X η h ys (slicePick items lo hi Option.none).toList ∧ ys.length ≤ xs.length := by
  have hl := r.size
  unfold sliceL at e
  split at e
  · rename_i a
    split at e
    · rename_i ha
      cases e
      have q := slicePick_from items a.toNat (by omega)
      rw [Int.toNat_of_nonneg ha.1] at q
      rw [q]
      exact ⟨r.drop _, by rw [List.length_drop]; omega⟩
    · cases e
  · rename_i b
    split at e
    · rename_i hb
      cases e
      by_cases hle : b.toNat ≤ items.size
      · have q := slicePick_upto items b.toNat hle
        rw [Int.toNat_of_nonneg hb] at q
        rw [q]
        exact ⟨r.take _, by rw [List.length_take]; omega⟩
      · have q : slicePick items Option.none (some b) Option.none = items := by
          have e1 : sliceBounds Option.none (some b) Option.none items.size = sliceBounds Option.none Option.none Option.none items.size := by
            simp only [sliceBounds, Option.getD_none]
            have h2 : ¬ (b < 0) := by omega
            simp only [h2, if_false, show (1 : Int) > 0 by decide, if_true]
            congr 1
            congr 1
            omega
          have := slicePick_all items
          unfold slicePick at this ⊢
          rw [e1]; exact this
        rw [q, List.take_of_length_le (by omega)]
        exact ⟨r, Nat.le_refl _⟩
    · cases e
  · cases e

theorem slice_ok {value : Expr} {lower upper : Option Expr} {p pos : Pos} {r1 : R V} {lo hi : Hp → R V} (h1 : Tri X n hd A env st ρ vs (eval value env) H r1 rV)
    (h2 : ∀ H1, Tri X n hd A env st ρ [] (evalPart lower env) H1 (lo H1) rV) (h3 : ∀ H1, Tri X n hd A env st ρ [] (evalPart upper env) H1 (hi H1) rV) (ht : ∀ o r, letTemporaryGo value o r = pure ()) :
    Tri X n hd A env st ρ vs (eval (.Subscript value (.Slice lower upper Option.none p) pos) env) H (r1.bind fun v H1 => (lo H1).bind fun l H2 => (hi H2).bind fun u H3 => match intO l, intO u with
      | some l, some u => sliceV v l u H3
      | _, _ => .stuck) rV := by
  intro hs η s a hv
  refine wpAny_Subscript_list_slice ?_ ht
  have hr : r1 ≠ .stuck := by rintro rfl; exact hs rfl
  refine wpAny_mono (h1 hr η s a hv) (fun mo s1 hx => ?_) fun ev s1 hx => ?_
  · obtain ⟨v, H1, rfl, _, η1, h1', tk1, rfl, i1, st1, p1⟩ := hx
    have a1 := a.step st1 i1 tk1
    simp only [R.bind_ok] at hs ⊢
    have hr2 : lo H1 ≠ .stuck := fun q => by rw [q] at hs; exact hs rfl
    refine wpAny_mono (h2 H1 hr2 η1 _ a1 fun _ q => nomatch q) (fun ml s2 hx2 => ?_) fun ev s2 hx2 => ?_
    · obtain ⟨l, H2, e2, _, η2, h2', tk2, rfl, i2, st2, p2⟩ := hx2
      have a2 := a1.step st2 i2 tk2
      simp only [e2, R.bind_ok] at hs ⊢
      have hr3 : hi H2 ≠ .stuck := fun q => by rw [q] at hs; exact hs rfl
      refine wpAny_mono (h3 H2 hr3 η2 _ a2 fun _ q => nomatch q) (fun mu s3 hx3 => ?_) fun ev s3 hx3 => ?_
      · obtain ⟨u, H3, e3, _, η3, h3', tk3, rfl, i3, st3, p3⟩ := hx3
        have a3 := a2.step st3 i3 tk3
        simp only [e3, R.bind_ok] at hs ⊢
        have rv : VR X η3 h3' v mo := ((p1 (v, mo) (List.Mem.head _)).step st2 a1.stk.frm).step st3 a2.stk.frm
        have rl : VR X η3 h3' l ml := (p2 (l, ml) (List.Mem.head _)).step st3 a2.stk.frm
        have ru : VR X η3 h3' u mu := p3 (u, mu) (List.Mem.head _)
        cases el : intO l with
        | none => simp only [el] at hs; exact absurd rfl hs
        | some lo' =>
          cases eu : intO u with
          | none => simp only [el, eu] at hs; exact absurd rfl hs
          | some hi' =>
            simp only [el, eu] at hs ⊢
            unfold sliceV at hs ⊢
            cases v with
            | ref k =>
              simp only at hs ⊢
              cases hk : H3[k]? with
              | none => simp only [hk] at hs; exact absurd rfl hs
              | some o =>
                cases o with
                | list xs =>
                  simp only [hk] at hs ⊢
                  cases es : sliceL xs lo' hi' with
                  | none => simp only [es] at hs; exact absurd rfl hs
                  | some ys =>
                    simp only [new]
                    cases rv with
                    | ref ek =>
                      obtain ⟨items, c, g, vr, le⟩ := list_of_H i3 ek hk
                      obtain ⟨vr', le'⟩ := sliceL_ok vr es
                      refine ⟨_, items, lo', hi', rfl, ⟨_, g, rfl, c, rfl⟩, ?_, isPart_of rl el, isPart_of ru eu, ?_⟩
                      · rw [vr.size]; unfold sizeLine; unfold line at le; omega
                      · obtain ⟨h4, eh4⟩ : ∃ h4, h4 = (h3'.push { cls := .type "slice", data := .fields #[ml, mu, .none] }).push { cls := .type "list", data := .seq (slicePick items lo' hi' Option.none) } := ⟨_, rfl⟩
                        have kp : ∀ b o, h3'.get? b = some o → h4.get? b = some o := fun b o e => by rw [eh4]; exact push_keeps _ _ _ _ (push_keeps _ _ _ _ e)
                        have nw : h3'.get? (h3'.objs.size + 1) = Option.none := by
                          cases e : h3'.get? (h3'.objs.size + 1) with
                          | none => rfl
                          | some o => exact absurd (Heap.lt_size e) (Nat.not_lt.mpr (Nat.le_succ _))
                        have gw : h4.get? (h3'.objs.size + 1) = some { cls := .type "list", data := .seq (slicePick items lo' hi' Option.none) } := by
                          rw [eh4]
                          have : h3'.objs.size + 1 = (h3'.push { cls := .type "slice", data := .fields #[ml, mu, .none] }).objs.size := by rw [Heap.size_push]
                          rw [this]; exact Heap.get?_push_size _ rfl
                        have inew := i3.make kp nw gw (o := .list ys) (.list (vr'.step (Step.make [] [] η3 kp nw) fun _ q => nomatch q) (Nat.le_trans le' le))
                        rw [← eh4]
                        refine ⟨_, _, rfl, trivial, η3 ++ [h3'.objs.size + 1], h4, tk3, rfl, inew, ((st1.trans st2).trans st3).trans (Step.make _ _ η3 kp nw), fun p hp => ?_⟩
                        rw [rV, List.mem_singleton] at hp; subst hp
                        refine .ref ?_
                        rw [← i3.len]; simp
                | _ => simp only [hk] at hs; exact absurd rfl hs
            | _ => exact absurd rfl hs
      · obtain ⟨c, H3, e3, hP⟩ := hx3
        simp only [e3, R.bind_raise]
        exact ⟨c, H3, rfl, hP.trans (st1.trans st2) fun _ _ q => q.older fun b o e => let ⟨o1, e1⟩ := st1.alive b o e; st2.alive b o1 e1⟩
    · obtain ⟨c, H2, e2, hP⟩ := hx2
      simp only [e2, R.bind_raise]
      exact ⟨c, H2, rfl, hP.trans st1 fun _ _ q => q.older st1.alive⟩
  · obtain ⟨c, H1, rfl, hP⟩ := hx
    exact ⟨c, H1, rfl, hP⟩
end
end Mine

/-! Sim22 -/
namespace Mine
open PySem PyProof.Rows PySem.W

section
variable {X : Cx} {fr own η : List Addr} {h h' : Heap} {H : Hp}
theorem Step.put (fr own : List Addr) {a : Addr} {ob : Obj} (ha : a ∈ η) (sb : Heap.SameBut a h h') (g : h'.get? a = some ob) : Step fr own η h η h' := by
  have ne : ∀ b, b ∉ η → b ≠ a := fun b hb q => hb (q ▸ ha)
  refine ⟨⟨[], by simp, fun _ q => nomatch q⟩, fun b o e => ?_, fun b o e hb _ _ => (sb.2 b (ne b hb)).trans e, fun b o e hb _ _ => ⟨o.slots, (sb.2 b (ne b hb)).trans e⟩, fun b o e hb es k d => ⟨o, es, k, (sb.2 b (ne b hb)).trans e, d⟩, fun b o e hb v d => ⟨o, v, (sb.2 b (ne b hb)).trans e, d⟩⟩
  by_cases hb : b = a
  · exact ⟨ob, hb ▸ g⟩
  · exact ⟨o, (sb.2 b hb).trans e⟩

theorem Inv.put (i : Inv X η H h) {n : Nat} {a : Addr} {o : O} {ob : Obj} (e : η[n]? = some a) (sb : Heap.SameBut a h h') (g : h'.get? a = some ob) (r : OR X η h' o ob) : Inv X η (H.set n o) h' := by
  have ha : a ∈ η := List.mem_of_getElem? e
  have x : Step [] [] η h η h' := Step.put [] [] ha sb g
  refine ⟨fun b o e => (sb.2 b (fun q => by rw [q, i.fresh a ha] at e; cases e)).trans (i.keep b o e), by rw [List.length_set]; exact i.len, i.fresh, i.nodup, fun m b o' hb ho => ?_⟩
  by_cases hm : m = n
  · subst hm
    rw [e] at hb; cases hb
    have hlt : m < H.length := i.len ▸ (List.getElem?_eq_some_iff.mp e).1
    rw [List.getElem?_set_self hlt] at ho
    cases ho
    exact ⟨ob, g, r⟩
  · rw [List.getElem?_set_ne (Ne.symm hm)] at ho
    obtain ⟨ob', e', r'⟩ := i.objs m b o' hb ho
    have hba : b ≠ a := fun q => by
      subst q
      obtain ⟨h1, q1⟩ := List.getElem?_eq_some_iff.mp e
      obtain ⟨h2, q2⟩ := List.getElem?_eq_some_iff.mp hb
      exact hm (by
        have := (List.getElem_inj i.nodup (h₀ := h2) (h₁ := h1)).mp (q2.trans q1.symm)
        exact this)
    exact ⟨ob', (sb.2 b hba).trans e', r'.step x fun _ q => nomatch q⟩
end

section
variable {X : Cx} {n : Nat} {hd : Bool} {A : Around} {env : Env} {st : List Env} {ρ : Rho} {vs : List (V × Value)} {H : Hp}
theorem Tri.puts {m : Sem Value} {k : Nat} {o : O} {v : V}
    (h : ∀ (η : List Addr) (s : Shared) (Q : Value → Shared → Prop) (E : Value → Shared → Prop), At X n hd A env st η ρ H s → (∀ p ∈ vs, VR X η s.heap p.1 p.2) →
      (∀ a h' ob mv tk, η[k]? = some a → Heap.SameBut a s.heap h' → h'.get? a = some ob → (∀ {w mw}, VR X η s.heap w mw → VR X η h' w mw) → OR X η h' o ob → VR X η h' v mv → Q mv { s with heap := h', toks := tk }) → wpAny X.M A m Q E s) :
    Tri X n hd A env st ρ vs m H (.ok v (H.set k o)) rV := by
  intro _ η s a hv
  refine h η s _ _ a hv fun b h' ob mv tk e sb g up r rv => ⟨_, _, rfl, trivial, η, h', tk, rfl, a.inv.put e sb g r, Step.put _ _ (List.mem_of_getElem? e) sb g, fun p hp => ?_⟩
  rw [rV, List.mem_singleton] at hp; subst hp
  exact rv

theorem append_ok {k : Nat} {xs : List V} {v : V} {ov mv : Value} (hm : (V.ref k, ov) ∈ vs) (hx : (v, mv) ∈ vs) (hk : H[k]? = some (.list xs)) (hlt : xs.length < line) :
    Tri X n hd A env st ρ vs (PySem.call (.builtin "list.append") [ov, mv]) H (.ok .none (H.set k (.list (xs ++ [v])))) rV := by
  refine Tri.puts fun η s Q E at' hv hq => ?_
  have r := hv _ hm
  cases r with
  | ref e =>
    rename_i l
    obtain ⟨items, c, g, vr, le⟩ := list_of_H at'.inv e hk
    refine call_meets F.slot_list_append ⟨_, g, rfl⟩ F.entry_list_append (F.args_list_append_2 _ _) (PySem.AutoListH.list_append_list_val_0 l items c mv (by rw [vr.size]; unfold sizeLine; unfold line at le; omega)) ⟨g, ?_⟩
    have sb : Heap.SameBut l s.heap (s.heap.update l (Obj.mapSeq fun x => x.push mv)) := Heap.SameBut.update ..
    have g' : (s.heap.update l (Obj.mapSeq fun x => x.push mv)).get? l = some _ := Heap.get?_update_self _ g rfl
    have up : ∀ {w mw}, VR X η s.heap w mw → VR X η (s.heap.update l (Obj.mapSeq fun x => x.push mv)) w mw := fun r => r.step (fr := []) (own := []) (Step.put _ _ (List.mem_of_getElem? e) sb g') fun _ q => nomatch q
    refine hq l _ _ .none s.toks e sb g' up ?_ .none
    refine .list ?_ (by rw [List.length_append]; simp; omega)
    rw [Array.toList_push]
    refine VRs.append ?_ (.cons (up (hv _ hx)) .nil)
    exact vr.step (fr := []) (own := []) (Step.put _ _ (List.mem_of_getElem? e) sb g') fun _ q => nomatch q

theorem clear_ok {k : Nat} {xs : List V} {ov : Value} (hm : (V.ref k, ov) ∈ vs) (hk : H[k]? = some (.list xs)) : Tri X n hd A env st ρ vs (PySem.call (.builtin "list.clear") [ov]) H (.ok .none (H.set k (.list []))) rV := by
  refine Tri.puts fun η s Q E at' hv hq => ?_
  have r := hv _ hm
  cases r with
  | ref e =>
    rename_i l
    obtain ⟨items, c, g, vr, le⟩ := list_of_H at'.inv e hk
    refine call_meets F.slot_list_clear ⟨_, g, rfl⟩ F.entry_list_clear (F.args_list_clear_1 _) (PySem.AutoSeq1.list_clear_list_0 l items c (by rw [vr.size]; unfold sizeLine; unfold line at le; omega)) ⟨g, ?_⟩
    have sb : Heap.SameBut l s.heap (s.heap.update l (Obj.mapSeq fun _ => #[])) := Heap.SameBut.update ..
    have g' : (s.heap.update l (Obj.mapSeq fun _ => #[])).get? l = some _ := Heap.get?_update_self _ g rfl
    exact hq l _ _ .none s.toks e sb g' (fun r => r.step (fr := []) (own := []) (Step.put _ _ (List.mem_of_getElem? e) sb g') fun _ q => nomatch q) (.list .nil (by simp)) .none

theorem extend_ok {k j : Nat} {xs ys : List V} {ov mv : Value} (hm : (V.ref k, ov) ∈ vs) (hx : (V.ref j, mv) ∈ vs) (hk : H[k]? = some (.list xs)) (hj : H[j]? = some (.list ys)) (hlt : xs.length + ys.length ≤ line) :
    Tri X n hd A env st ρ vs (PySem.call (.builtin "list.extend") [ov, mv]) H (.ok .none (H.set k (.list (xs ++ ys)))) rV := by
  refine Tri.puts fun η s Q E at' hv hq => ?_
  have r := hv _ hm
  have r2 := hv _ hx
  cases r with
  | ref e =>
    cases r2 with
    | ref e2 =>
      rename_i l l2
      obtain ⟨items, c, g, vr, le⟩ := list_of_H at'.inv e hk
      obtain ⟨items2, c2, g2, vr2, le2⟩ := list_of_H at'.inv e2 hj
      have z : items.size + items2.size ≤ line := by rw [vr.size, vr2.size]; exact hlt
      have z1 : items.size ≤ sizeLine := by unfold sizeLine; unfold line at z; omega
      refine call_meets F.slot_list_extend ⟨_, g, rfl⟩ F.entry_list_extend (F.args_list_extend_2 _ _) (PySem.AutoSeq1.list_extend_list_list_0 l items c l2 items2 c2 ?_ z1 (by unfold sizeLine; unfold line at z; omega)) ⟨g, g2, ?_⟩
      · unfold Builtin.List.listTooLong
        unfold line at z
        simp only [Bool.and_eq_true, Bool.not_eq_true', decide_eq_true_eq, not_and]
        intro _
        unfold sizeLine
        omega
      · have sb : Heap.SameBut l s.heap (s.heap.update l (Obj.mapSeq fun x => x ++ items2)) := Heap.SameBut.update ..
        have g' : (s.heap.update l (Obj.mapSeq fun x => x ++ items2)).get? l = some _ := Heap.get?_update_self _ g rfl
        have up : ∀ {w mw}, VR X η s.heap w mw → VR X η (s.heap.update l (Obj.mapSeq fun x => x ++ items2)) w mw := fun r => r.step (fr := []) (own := []) (Step.put _ _ (List.mem_of_getElem? e) sb g') fun _ q => nomatch q
        refine hq l _ _ .none s.toks e sb g' up ?_ .none
        refine .list ?_ (by rw [List.length_append]; exact hlt)
        rw [Array.toList_append]
        have st' := Step.put [] [] (List.mem_of_getElem? e) sb g'
        exact VRs.append (vr.step st' fun _ q => nomatch q) (vr2.step st' fun _ q => nomatch q)
end
end Mine

/-! SimC -/
namespace Mine
open PySem PyProof.Rows PySem.W

theorem isStr_iff {v : Value} {x : Str} : v.isStr x = true ↔ ∃ t, v = .str x t := by
  cases v with
  | str s t =>
    constructor
    · intro h
      have : s = x := by simpa [Value.isStr] using h
      exact ⟨t, by rw [this]⟩
    · rintro ⟨t', e⟩
      cases e
      simp [Value.isStr]
  | _ => simp [Value.isStr]

section
variable {X : Cx} {η : List Addr} {h : Heap}
theorem NRs.find {a : String} {v : V} : ∀ {fs : List (String × V)} {ds : List DictEntry}, NRs X η h fs ds → fs.lookup a = some v → ∃ e, ds.find? (·.key.isStr (Str.ofString a)) = some e ∧ VR X η h v e.val
  | _, _, .nil, e => by cases e
  | (k, w) :: fs, e :: ds, .cons ek r rs, el => by
    rw [List.lookup_cons] at el
    by_cases hk : a = k
    · subst hk
      simp only [beq_self_eq_true] at el
      cases el
      refine ⟨e, ?_, r⟩
      rw [List.find?_cons, isStr_iff.mpr ⟨_, ek⟩]
    · have hb : (a == k) = false := by simpa using hk
      rw [hb] at el
      obtain ⟨e', h1, h2⟩ := NRs.find rs el
      refine ⟨e', ?_, h2⟩
      have : e.key.isStr (Str.ofString a) = false := Bool.eq_false_iff.mpr fun q => by
        obtain ⟨t, q⟩ := isStr_iff.mp q
        rw [ek] at q
        exact hk (ofString_inj (Value.str.inj q).1).symm
      rw [List.find?_cons, this]; exact h1
theorem NRs.noRef : ∀ {fs : List (String × V)} {ds : List DictEntry}, NRs X η h fs ds → ds.any (·.refKey) = false
  | _, _, .nil => rfl
  | _, e :: ds, .cons ek r rs => by
    rw [List.any_cons, NRs.noRef rs]
    unfold DictEntry.refKey
    rw [ek]; rfl
theorem NRs.len : ∀ {fs : List (String × V)} {ds : List DictEntry}, NRs X η h fs ds → fs.length = ds.length
  | _, _, .nil => rfl
  | _, e :: ds, .cons ek r rs => congrArg Nat.succ rs.len

theorem inst_of_H {H : Hp} {n d : Nat} {x : Addr} {c : String} {fs : List (String × V)} (i : Inv X η H h) (e : η[n]? = some x) (h1 : H[n]? = some (.inst c d)) (h2 : H[d]? = some (.ns fs)) :
    ∃ C dx fI ds k, X.mg (Str.ofString c) = some (.ref C) ∧ ClsOk X.K C fI ∧ η[d]? = some dx ∧ h.get? x = some { cls := .ref C, dict := some dx, data := .plain } ∧ h.get? dx = some { cls := .type "dict", data := .dict ds k } ∧ NRs X η h fs ds.toList ∧ fs.length ≤ 21 ∧ X.cl c = true := by
  obtain ⟨ob, g, r⟩ := i.objs n x _ e h1
  cases r with
  | inst hc hm hd =>
    rename_i C dx
    obtain ⟨od, g2, r2⟩ := i.objs d dx _ hd h2
    cases r2 with
    | ns nr le =>
      obtain ⟨C', fI, e1, ok⟩ := X.cls c hc
      rw [hm] at e1; cases e1
      exact ⟨_, _, fI, _, _, hm, ok, hd, g, g2, nr, le, hc⟩
end

section
variable {X : Cx} {n : Nat} {hd : Bool} {A : Around} {env : Env} {st : List Env} {ρ : Rho} {vs : List (V × Value)} {H : Hp}
theorem handed_vr {η : List Addr} {h : Heap} {v : V} {m : Value} (r : VR X η h v m) : handedIn m = true := by cases r <;> rfl

theorem attr_ok {o : V} {a : String} {m : Value} (hm : (o, m) ∈ vs) (ha : attrName a = true) : Tri X n hd A env st ρ vs (getAttr m (Str.ofString a) true) H (attrV o a H) rV := by
  unfold attrV
  split
  · rename_i k
    split
    · rename_i c d hk
      split
      · rename_i fs hd2
        cases hl : fs.lookup a with
        | none => exact Tri.stuck
        | some v =>
          refine Tri.plain fun η s Q E at' hv hq => ?_
          have r := hv _ hm
          cases r with
          | ref e =>
            rename_i x
            obtain ⟨C, dx, fI, ds, k2, hmg, ok, ed, g1, g2, nr, le, _⟩ := inst_of_H at'.inv e hk hd2
            obtain ⟨en, ef, rv⟩ := nr.find hl
            refine get_value (K := X.K) (C := C) (od := some _) (X.kin.keeps at'.inv.keep) ⟨g1, rfl, rfl, g2⟩ ok.get ?_ (handed_vr rv) (hq _ _ rv)
            obtain ⟨cd, hcd, hdd⟩ := any_some ok.dict
            have hlk : lookIn (Str.ofString a) { cls := .type "dict", data := .dict ds k2 } = some (some en.val) := by unfold lookIn; simp only [ef]
            unfold findObj
            rw [hcd, Option.bind_some, ok.names a ha]
            simp only [Option.bind_some, PySem.W.ownOf, hdd, if_true, hlk]
      · exact Tri.stuck
    · exact Tri.stuck
  · exact Tri.stuck

noncomputable def rU (_ : Unit) (_ : Unit) : Prop × List (V × Value) := (True, [])

theorem setK_ok {o i : V} {mo mi mv : Value} (ho : (o, mo) ∈ vs) (hi : (i, mi) ∈ vs) : Tri X n hd A env st ρ vs (setItem mo mi mv) H (setK o i H) rU := by
  unfold setK
  split
  · rename_i k
    cases hx : keysAt (.ref k) H with
    | none => exact Tri.stuck
    | some ks =>
      dsimp only
      cases hk : intAt i with
      | none => exact Tri.stuck
      | some z =>
        dsimp only
        split
        · rename_i hlen
          intro _ η s at' hvs
          obtain ⟨t, rfl⟩ := vr_int (hvs _ hi) hk
          obtain ⟨n, e0, hn⟩ := keysAt_inv hx
          cases e0
          have r := hvs _ ho
          cases r with
          | ref e =>
            rename_i x
            obtain ⟨kvs, hd, rfl, _, hs⟩ := keys_of_H at'.inv e hn
            refine wpAny_setItem_pairs (knd := intKind X.prog X.w) (intKind_is X.prog X.w z t) hd (fun h' hd' sb => ?_) ?_
            · obtain ⟨ob, g, dk⟩ := Heap.dictOf_iff.mp hd'
              refine ⟨(), _, rfl, trivial, η, h', _, rfl, at'.inv.put e sb g (.keys dk ?_ ?_), Step.put _ _ (List.mem_of_getElem? e) sb g, fun _ q => nomatch q⟩
              · unfold stored
                have ea : kvs.any (fun kv => decide (kv.1 = z)) = (kvs.map (·.1)).contains z := by
                  rw [List.contains_eq_any_beq, List.any_map]
                  exact congrArg kvs.any (funext fun p => decide_eq_decide.mpr ⟨Eq.symm, Eq.symm⟩)
                rw [ea]
                split
                · exact keys_map_store kvs z mv
                · rw [List.map_append]; rfl
              · split
                · exact Nat.le_of_lt hlen
                · rw [List.length_append]; exact hlen
            · rw [List.length_map] at hlen
              unfold line at hlen
              rw [sizeLine_eq]; omega
        · exact Tri.stuck
  · exact Tri.stuck

theorem NRs.put {η : List Addr} {h : Heap} {a : String} {v : V} {mv : Value} {hsh : Int} {t : Tok} (rv : VR X η h v mv) : ∀ {fs : List (String × V)} {ds : List DictEntry}, NRs X η h fs ds → NRs X η h (setL a v fs) (putL (Str.ofString a) hsh (.str (Str.ofString a) t) mv ds)
  | _, _, .nil => .cons rfl rv .nil
  | (k, w) :: fs, e :: ds, .cons ek r rs => by
    unfold setL putL
    by_cases hk : k = a
    · subst hk
      rw [if_pos rfl, if_pos (isStr_iff.mpr ⟨_, ek⟩)]
      exact .cons ek rv rs
    · have : ¬ e.key.isStr (Str.ofString a) = true := fun q => by
        obtain ⟨t, q⟩ := isStr_iff.mp q
        rw [ek] at q
        exact hk (ofString_inj (Value.str.inj q).1)
      rw [if_neg hk, if_neg this]
      exact .cons ek r (rs.put rv)
theorem setL_len (x : String) (v : V) : ∀ ρ : List (String × V), (setL x v ρ).length ≤ ρ.length + 1
  | [] => by simp [setL]
  | (y, w) :: r => by
    unfold setL
    split
    · simp
    · have := setL_len x v r
      simp; omega

theorem set_ok {o v : V} {a : String} {mo mv : Value} (ho : (o, mo) ∈ vs) (hv : (v, mv) ∈ vs) (ha : attrName a = true) : Tri X n hd A env st ρ vs (setAttr mo (Str.ofString a) mv) H (setA o a v H) rU := by
  unfold setA
  split
  · rename_i k
    split
    · rename_i c d hk
      split
      · rename_i fs hd2
        split
        · rename_i hlen
          intro _ η s at' hvs
          have r := hvs _ ho
          have rv : VR X η s.heap v mv := hvs _ hv
          cases r with
          | ref e =>
            rename_i x
            obtain ⟨C, dx, fI, ds, k2, hmg, ok, ed, g1, g2, nr, le, _⟩ := inst_of_H at'.inv e hk hd2
            have hK := X.kin.keeps at'.inv.keep
            have I : InstAt s.heap x { cls := .ref C, dict := some dx, data := .plain } C (some { cls := .type "dict", data := .dict ds k2 }) := ⟨g1, rfl, rfl, g2⟩
            refine set_plain (K := X.K) hK I ok.set ?_
            have ht : takerIn X.K C (Str.ofString a) = some Option.none := by unfold takerIn; rw [ok.names a ha]; rfl
            refine osa_open (s := { s with toks := s.toks + 1 }) hK I ok.over ht fun b => ?_
            obtain ⟨cd, hcd, hdd⟩ := any_some ok.dict
            have sz : ds.size ≤ 21 := by rw [← Array.length_toList, ← nr.len]; exact le
            have ep : ∀ hsh key, Obj.putName (Str.ofString a) hsh key mv { cls := .type "dict", data := .dict ds k2 } = { cls := .type "dict", data := .dict (putL (Str.ofString a) hsh key mv ds.toList).toArray (putN (Str.ofString a) ds.toList k2) } := fun hsh key => by
              have := putName_dict (Str.ofString a) hsh key mv ds.toList k2
              unfold dictOf at this
              rw [Array.toArray_toList] at this
              exact this
            have fin : ∀ hsh t tk, ∃ od', (s.heap.update dx (Obj.putName (Str.ofString a) hsh (.str (Str.ofString a) t) mv)).get? dx = some od' ∧ od'.data.pastItsLine = Option.none ∧
                OkAt X st rU η s (R.ok () (H.set d (O.ns (setL a v fs)))) () { s with heap := s.heap.update dx (Obj.putName (Str.ofString a) hsh (.str (Str.ofString a) t) mv), toks := tk } := fun hsh t tk => by
              have g3 : (s.heap.update dx (Obj.putName (Str.ofString a) hsh (.str (Str.ofString a) t) mv)).get? dx = some { cls := .type "dict", data := .dict (putL (Str.ofString a) hsh (.str (Str.ofString a) t) mv ds.toList).toArray (putN (Str.ofString a) ds.toList k2) } := by
                rw [Heap.get?_update_self _ g2 (by rw [ep]; rfl), ep]
              have sb : Heap.SameBut dx s.heap (s.heap.update dx (Obj.putName (Str.ofString a) hsh (.str (Str.ofString a) t) mv)) := Heap.SameBut.update ..
              have xs := Step.put (frs st) [] (List.mem_of_getElem? ed) sb g3
              have x0 := Step.put [] [] (List.mem_of_getElem? ed) sb g3
              have nr' := (nr.step x0 fun _ q => nomatch q).put (a := a) (hsh := hsh) (t := t) (rv.step x0 fun _ q => nomatch q)
              have ln := setL_len a v fs
              refine ⟨_, g3, pastItsLine_dict ?_, (), _, rfl, trivial, η, _, tk, rfl, at'.inv.put ed sb g3 (.ns (by simpa using nr') (by omega)), xs, fun _ q => nomatch q⟩
              rw [List.size_toArray, ← nr'.len, sizeLine_eq]; omega
            refine wpAny_bind (wpAny_pure (wpAny_bind (wpAny_bind (wpAny_loadPart g1 (wpAny_bind (looks_clsIn hK hcd _ _ _ _ (fun _ _ e => e) ?_))))))
            rw [hdd]
            refine wpAny_pure (a := some dx) (wpAny_bind (wpAny_pure (wpAny_bind ?_)))
            unfold nsSet
            refine wpAny_bind (wpAny_bind (wpAny_askSetting (wpAny_pure (wpAny_bind (wpAny_mkText (wpAny_bind (wpAny_loadPart g2 ?_)))))))
            dsimp only
            rw [aRefKeyMayBeTheName_at, show ds.any (·.refKey) = false by rw [← Array.any_toList]; exact nr.noRef, Bool.and_false]
            simp only [Bool.false_eq_true, if_false]
            obtain ⟨od', g3, hp, out⟩ := fin _ _ _
            exact wpAny_updatePart g2 (wpAny_bind (wpAny_lookBehind g3 hp (wpAny_pure out)))
        · exact Tri.stuck
      · exact Tri.stuck
    · exact Tri.stuck
  · exact Tri.stuck
end
end Mine

/-! SimD -/
namespace Mine
open PySem PyProof.Rows PySem.W

theorem bools_eq : ∀ {xs : List V} {bs : List Bool}, bools xs = some bs → xs = bs.map V.bool
  | [], bs, e => by
    unfold bools at e
    simp only [List.mapM_nil, Option.pure_def, Option.some.injEq] at e
    subst e; rfl
  | x :: xs, bs, e => by
    unfold bools at e
    simp only [List.mapM_cons, Option.pure_def, Option.bind_eq_bind, Option.bind_eq_some_iff, Option.some.injEq] at e
    obtain ⟨b, e1, cs, e2, rfl⟩ := e
    have ih := bools_eq (xs := xs) (bs := cs) e2
    cases x with
    | bool c => cases e1; rw [ih]; rfl
    | _ => cases e1
theorem snaps_bools (n : Nat) (H : Hp) : ∀ bs : List Bool, (bs.map V.bool).mapM (snap n H) = some (bs.map PyData.bool)
  | [] => rfl
  | b :: bs => by
    have ih := snaps_bools n H bs
    have e : snap n H (V.bool b) = some (.bool b) := by cases n <;> rfl
    rw [List.map_cons, List.mapM_cons, e, ih]; rfl

theorem countIn_bools (b : Bool) : ∀ bs : List Bool, PySem.Spec.countIn (.bool b) (bs.map PyData.bool) = ((bs.count b : Nat) : Int)
  | [] => rfl
  | c :: bs => by
    have ih := countIn_bools b bs
    rw [List.map_cons, PySem.Spec.countIn, ih, List.count_cons]
    simp only [PySem.Spec.same]
    rcases Bool.eq_false_or_eq_true (c == b) with hb | hb <;> simp only [hb, Bool.false_eq_true, if_true, if_false] <;> omega

section
variable {X : Cx} {n : Nat} {hd : Bool} {A : Around} {env : Env} {st : List Env} {ρ : Rho} {vs : List (V × Value)} {H : Hp}
theorem count_ok {k : Nat} {xs : List V} {bs : List Bool} {b : Bool} {ov mv : Value} (hm : (V.ref k, ov) ∈ vs) (hx : (V.bool b, mv) ∈ vs) (hk : H[k]? = some (.list xs)) (hb : bools xs = some bs) :
    Tri X n hd A env st ρ vs (PySem.call (.builtin "list.count") [ov, mv]) H (.ok (.int (bs.count b)) H) rV := by
  refine Tri.plain fun η s Q E at' hv hq => ?_
  have r := hv _ hm
  have r2 := hv _ hx
  cases r2
  cases r with
  | ref e =>
    obtain ⟨items, c, g, vr, le⟩ := list_of_H at'.inv e hk
    have := bools_eq hb
    subst this
    obtain ⟨⟨as, ra⟩, _, _⟩ := snaps_reads at'.inv 8 vr (snaps_bools 8 H bs)
    refine count_list_bools (vs := items.toList) ⟨_, g, rfl, c, rfl⟩ ra ?_ ?_
    · rw [List.all_eq_true]
      intro d hd
      obtain ⟨b', _, rfl⟩ := List.mem_map.mp hd
      rfl
    · rw [countIn_bools]
      exact hq _ _ (.int _ _)

theorem ints_eq : ∀ {xs : List V} {ns : List Int}, intsL xs = some ns → xs = ns.map V.int
  | [], ns, e => by cases e; rfl
  | x :: xs, ns, e => by
    unfold intsL at e
    simp only [List.mapM_cons, Option.pure_def, Option.bind_eq_bind, Option.bind_eq_some_iff, Option.some.injEq] at e
    obtain ⟨b, e1, cs, e2, rfl⟩ := e
    have ih := ints_eq (xs := xs) (ns := cs) e2
    cases x with
    | int c => cases e1; rw [ih]; rfl
    | _ => cases e1
theorem ints_are {η : List Addr} {h : Heap} : ∀ {ns : List Int} {ms : List Value}, VRs X η h (ns.map V.int) ms → IntsAre ms ns
  | [], _, .nil => .nil
  | n :: ns, _, .cons r rs => by cases r; exact .cons _ _ (ints_are rs)
theorem count_ints {k : Nat} {xs : List V} {ns : List Int} {i : Int} {ov mv : Value} (hm : (V.ref k, ov) ∈ vs) (hx : (V.int i, mv) ∈ vs) (hk : H[k]? = some (.list xs)) (hb : intsL xs = some ns) :
    Tri X n hd A env st ρ vs (PySem.call (.builtin "list.count") [ov, mv]) H (.ok (.int (ns.count i)) H) rV := by
  refine Tri.plain fun η s Q E at' hv hq => ?_
  have r := hv _ hm
  have r2 := hv _ hx
  cases r2
  cases r with
  | ref e =>
    obtain ⟨items, c, g, vr, le⟩ := list_of_H at'.inv e hk
    have := ints_eq hb
    subst this
    exact count_list_ints (vs := items.toList) ⟨_, g, rfl, c, rfl⟩ (ints_are vr) (hq _ _ (.int _ _))

theorem meth_ok {T m : String} {o : V} {ov : Value} {ws : List V} {ms : List Value} (hT : T = "list") (hmm : m = "append" ∨ m = "count" ∨ m = "clear" ∨ m = "extend") (ho : (o, ov) ∈ vs) (hl : ws.length = ms.length) (hw : ∀ p ∈ ws.zip ms, p ∈ vs) :
    Tri X n hd A env st ρ vs (PySem.call (.builtin ("list." ++ m)) (ov :: ms)) H (meth T o m ws H) rV := by
  subst hT
  rcases hmm with rfl | rfl | rfl | rfl
  · show Tri _ _ _ _ _ _ _ _ _ _ (mAppend o ws H) _
    cases o with
    | ref k =>
      unfold mAppend
      cases hx : listAt (.ref k) H with
      | none => dsimp only; rw [hx]; exact Tri.stuck
      | some xs =>
        dsimp only; rw [hx]; dsimp only
        split
        · obtain ⟨mv, rfl⟩ := one_of hl
          split
          · rename_i hlt
            obtain ⟨_, e, hk⟩ := listAt_inv hx
            cases e
            exact append_ok ho (hw _ (List.Mem.head _)) hk hlt
          · exact Tri.stuck
        · exact Tri.stuck
    | _ => exact Tri.stuck
  · show Tri _ _ _ _ _ _ _ _ _ _ (mCount o ws H) _
    unfold mCount
    cases hx : listAt o H with
    | none => exact Tri.stuck
    | some xs =>
      dsimp only
      split
      · rename_i v
        obtain ⟨mv, rfl⟩ := one_of hl
        obtain ⟨k, rfl, hk⟩ := listAt_inv hx
        cases v with
        | bool b =>
          show Tri _ _ _ _ _ _ _ _ _ _ (match bools xs with | some bs => R.ok (V.int (bs.count b)) H | Option.none => R.stuck) _
          cases hb : bools xs with
          | none => exact Tri.stuck
          | some bs => exact count_ok ho (hw _ (List.Mem.head _)) hk hb
        | int i =>
          show Tri _ _ _ _ _ _ _ _ _ _ (match intsL xs with | some ns => R.ok (V.int (ns.count i)) H | Option.none => R.stuck) _
          cases hb : intsL xs with
          | none => exact Tri.stuck
          | some bs => exact count_ints ho (hw _ (List.Mem.head _)) hk hb
        | _ => exact Tri.stuck
      · exact Tri.stuck
  · show Tri _ _ _ _ _ _ _ _ _ _ (mClear o ws H) _
    cases o with
    | ref k =>
      unfold mClear
      cases hx : listAt (.ref k) H with
      | none => dsimp only; rw [hx]; exact Tri.stuck
      | some xs =>
        dsimp only; rw [hx]; dsimp only
        cases ws with
        | nil =>
          cases ms with
          | cons => cases hl
          | nil =>
            obtain ⟨_, e, hk⟩ := listAt_inv hx
            cases e
            exact clear_ok ho hk
        | cons => exact Tri.stuck
    | _ => exact Tri.stuck
  · show Tri _ _ _ _ _ _ _ _ _ _ (mExtend o ws H) _
    cases o with
    | ref k =>
      unfold mExtend
      cases hx : listAt (.ref k) H with
      | none => dsimp only; rw [hx]; exact Tri.stuck
      | some xs =>
        dsimp only; rw [hx]; dsimp only
        split
        · rename_i v
          obtain ⟨mv, rfl⟩ := one_of hl
          cases hy : listAt v H with
          | none => exact Tri.stuck
          | some ys =>
            dsimp only
            split
            · rename_i hlt
              obtain ⟨_, e, hk⟩ := listAt_inv hx
              cases e
              obtain ⟨j, rfl, hj⟩ := listAt_inv hy
              exact extend_ok ho (hw _ (List.Mem.head _)) hk hj hlt
            · exact Tri.stuck
        · exact Tri.stuck
    | _ => exact Tri.stuck
end
end Mine

/-! SimE -/
set_option maxRecDepth 100000
namespace Mine
open PySem PyProof.Rows PySem.W PySem.Calls

section
variable {prog : Program} {w : World} {A : Around} {E : Value → Shared → Prop} {s : Shared} {K : Frag} {x C : Addr} {ox : Obj}
theorem exc_class {Q : Option Value → Shared → Prop} (X : K.In s.heap) (I : InstAt s.heap x ox C Option.none) (hga : findIn K (.ref C) "__getattribute__" = some (some (.builtin "BaseException.__getattribute__"))) (hn : findIn K (.ref C) "__getattr__" = some Option.none)
    (hf : findObj K C Option.none "__class__" = some (.bind (.builtin "getset_descriptor.__get__") (.builtin "object.__class__"))) (hm : mroIn K C (.type "object") = some true) (hb : mroIn K C (.type "BaseException") = some true)
    (h : Q (some (.ref C)) { s with toks := s.toks + 1 }) : wpAny (model prog w) A (getAttr? (.ref x) "__class__") Q E s := by
  obtain ⟨hh, g, d, t, os⟩ := s
  have L0 := I.type (M := model prog w)
  have L1 := looks_findIn (M := model prog w) X hga
  have L2 := looks_findIn (M := model prog w) X hn
  have LF := looks_find (M := model prog w) X I hf
  unfold getAttr? getAttrBy? getAttrBy
  refine wpAny_bind (wpAny_mkText (wpAny_bind (wpAny_attempt (wpAny_holding (wpAny_bind (L0.at (wpAny_bind (L1.at ?_))))))))
  have f3 := PySem.F.attrBase_ValueError.ga.bind (.ref x)
  have hx2 : (Value.builtin "BaseException.__getattribute__" == Value.builtin "object.__getattribute__") = false := by decide +kernel
  have hx1 : (onTheHeap (Value.ref C) && Value.builtin "BaseException.__getattribute__" == Value.builtin "object.__getattribute__") = false := by rw [hx2]; rfl
  dsimp only
  rw [hx1]
  simp only [Bool.false_eq_true, if_false]
  unfold getAttrByItsOwn hookBefore callGetattribute
  refine wpAny_bind ?_
  repeat (first | with_reducible refine L2.at ?_ | wp_step)
  have sub : Looks (model prog w) hh (isInstance (.ref x) (.type "BaseException")) true := L0.andThen (looks_mroIn X hb)
  show codeAny (model prog w) A (.call (.builtin "BaseException.__getattribute__") ⟨[.ref x, .str (Str.ofString "__class__") t], []⟩) _ ⟨hh, g, d, t + 1, os⟩
  refine codeAny_call_builtin PySem.F.attrBase_ValueError.ga.plain PySem.F.entry_bexc_ga ?_
  refine @check_slot (model prog w) _ _ ⟨hh, g, d, t + 1, os⟩ "BaseException.__getattribute__" "BaseException" "__getattribute__" (.ref x) [.str (Str.ofString "__class__") t] [] _ (by decide +kernel) (by decide +kernel) sub (PySem.F.args_bexc_ga (.ref x) (.str (Str.ofString "__class__") t)) ?_
  unfold Builtin.«object.__getattribute__»
  refine wpAny_bind (wpAny_pure (wpAny_bind (wpAny_pure (wpAny_bind (L0.at (wpAny_bind (LF.at ?_)))))))
  unfold Builtin.ObjectAttr.bindTo
  refine wpAny_bind (wpAny_holding (wpAny_call (class_get (s := ⟨hh, g, d, t + 1, os⟩) (ox := ox) (od := Option.none) X I hm ?_)))
  refine wpAny_pure ?_
  show wpAny _ _ (handedOut (.ref C)) _ _ _
  rw [handedOut_of rfl]
  exact wpAny_pure (wpAny_pure h)

theorem kitx_exc (G : ExcGet K C) : KitX K (.ref x) (.ref C) (fun h => InstAt h x ox C Option.none) where
  ty := fun _ _ _ I => I.type
  it := fun _ _ X _ => by
    obtain ⟨cd, hc⟩ := Option.isSome_iff_exists.mp G.cls
    unfold clsIn at hc
    split at hc
    · rename_i ho
      intro A' Q' E' s' k q
      unfold isType loadHead
      exact wpAny_bind (wpAny_loadPart (k _ _ (X _ _ ho)) (wpAny_pure q))
    · cases hc
  ne := fun h tp dd its n sl X htp => by
    obtain ⟨cd, hc⟩ := Option.isSome_iff_exists.mp G.cls
    refine Bool.eq_false_iff.mpr fun q => ?_
    have e : C = tp := Value.ref.inj (beq_iff_eq.mp q)
    subst e
    unfold clsIn at hc
    split at hc
    · rename_i ho
      have z := (X _ _ ho).symm.trans htp
      cases z
    · cases hc
  ca := fun X I k => exc_class X I G.ga G.nga G.find G.obj G.bexc k

theorem isi_same {c : Value} {xv : Value} {Q : Value → Shared → Prop} (LT : ∀ M, Looks M s.heap (typeOf xv) c) (hx : xv ≠ .builtin "__main__.__loader__#opaque") (hq : Q (.bool true) s) : wpAny (model prog w) A (PySem.call (.builtin "isinstance") [xv, c]) Q E s := by
  refine call_isinstance (S := fun _ R s' => (∀ b o, s.heap.get? b = some o → s'.heap.get? b = some o) ∧ R (.ok (.ret (.bool true))) s') (fun prog w A R s' hs => isinstance_outer ?_ hx) ⟨fun _ _ e => e, hq⟩
  obtain ⟨h0, g, d, tt, os⟩ := s'
  obtain ⟨kp, hq⟩ := hs
  unfold Builtin.«isinstance.nested»
  refine wpAny_bind (LT _ _ _ _ _ kp ?_)
  rw [if_pos (beq_self_eq_true c)]
  first
    | exact wpAny_bind (wpAny_rule hq)
    | exact wpAny_bind (wpAny_rule (wpAny_pure hq))
end

section
variable {X : Cx} {n : Nat} {hd : Bool} {A : Around} {env : Env} {st : List Env} {ρ : Rho} {vs : List (V × Value)} {H : Hp}
theorem isinst_own {v : V} {m tv : Value} {T : String} {b : Bool} (hm : (v, m) ∈ vs) (hT : ¬ bTypes.contains T = true) (hl : Loads X.mg X.mb T tv) (hk : X.kn T = true) (he : isinst v T H = some b) :
    Tri X n hd A env st ρ vs (PySem.call (.builtin "isinstance") [m, tv]) H (.ok (.bool b) H) rV := by
  unfold isinst at he
  rw [if_neg hT] at he
  refine Tri.plain fun η s Q E at' hv hq => ?_
  have r := hv _ hm
  cases v with
  | exc c =>
    simp only at he
    split at he
    · rename_i hex
      cases he
      cases r with
      | exc e oc dt ec hn =>
        rename_i x C o fs
        obtain ⟨G, k1⟩ := X.exk c T C tv ec.2 hex hk ec.1 hl
        refine kia_one (kitx_exc (ox := o) G) (X.kin.keeps at'.inv.keep) ⟨e, oc.1, by unfold notCls; rw [dt], by rw [oc.2]; trivial⟩ k1 (by intro q; cases q) fun tk => hq _ tk (.bool _)
    · cases he
  | ref k =>
    simp only at he
    split at he
    · rename_i c d hk2
      split at he
      · rename_i hcT
        cases he
        subst hcT
        cases r with
        | ref e =>
          rename_i x
          obtain ⟨ob, g, r2⟩ := at'.inv.objs k x _ e hk2
          cases r2 with
          | inst hc hmg hd2 =>
            have : tv = .ref _ := hl.det (.inl hmg)
            subst this
            exact isi_same (fun M => (Looks.ld g).andThen .now) (by intro q; cases q) (hq _ s.toks (.bool _))
      · cases he
    · cases he
  | _ => cases he
end
end Mine

/-! SimF -/
namespace Mine
open PySem PyProof.Rows PySem.W

noncomputable def relabelS (scope sc : Scope) : Scope :=
  { scope with names := scope.names.map fun (n, k) => if (k == .free && sc.kind == .function && sc.names.lookup n == some .cell) then (n, .cell) else (n, k) }

noncomputable def compName (sc scope : Scope) (x : Str) (p : Str × NameKind) : Bool := match p.2 with
  | .cell => false
  | .local => (p.1 == x || p.1 == (".0" : Str)) && scope.names.lookup p.1 == some .local
  | .free => sc.names.lookup p.1 == some .cell
  | _ => true
noncomputable def compOk (sc scope : Scope) (x : Str) : Bool := scope.kind == .function && sc.kind == .function && scope.names.lookup x == some .local && scope.names.all (compName sc scope x)

theorem forIn_cells {env : Env} : ∀ (names : List (Str × NameKind)) (cs : List (Str × Addr)), (∀ p ∈ names, p.2 = .free → ∃ c, env.cells.lookup p.1 = some c) → (∀ p ∈ cs, env.cells.lookup p.1 = some p.2) →
    ∃ cl, (forIn names cs (fun x __s => if (x.2 == NameKind.free) = true then do let __do_lift ← cellOf env x.1; pure (ForInStep.yield ((x.1, __do_lift) :: __s)) else pure (ForInStep.yield __s)) : Sem _) = pure cl ∧
      (∀ p ∈ cl, env.cells.lookup p.1 = some p.2) ∧ (∀ y, (∃ c, cs.lookup y = some c) ∨ (y, NameKind.free) ∈ names → ∃ c, cl.lookup y = some c)
  | [], cs, _, hc => ⟨cs, by simp, hc, fun y h => h.elim (fun h => h) (fun h => nomatch h)⟩
  | (n, k) :: names, cs, h, hc => by
    by_cases hk : k = .free
    · subst hk
      obtain ⟨c, e⟩ := h (n, .free) (List.Mem.head _) rfl
      obtain ⟨cl, e1, h1, h2⟩ := forIn_cells names ((n, c) :: cs) (fun p hp => h p (List.Mem.tail _ hp)) (fun p hp => by
        rcases List.mem_cons.mp hp with rfl | hp
        · exact e
        · exact hc p hp)
      refine ⟨cl, ?_, h1, fun y hy => h2 y ?_⟩
      · rw [List.forIn_cons]
        have : cellOf env n = pure c := by unfold cellOf; rw [e]
        simp only [beq_self_eq_true, if_true, this, pure_bind]
        exact e1
      · rcases hy with ⟨c', hy⟩ | hy
        · by_cases hyn : y = n
          · exact .inl ⟨c, by rw [hyn]; simp⟩
          · have hb : (y == n) = false := by simpa using hyn
            exact .inl ⟨c', by rw [List.lookup_cons, hb]; exact hy⟩
        · rcases List.mem_cons.mp hy with hy | hy
          · cases hy; exact .inl ⟨c, by simp⟩
          · exact .inr hy
    · obtain ⟨cl, e1, h1, h2⟩ := forIn_cells names cs (fun p hp => h p (List.Mem.tail _ hp)) hc
      refine ⟨cl, ?_, h1, fun y hy => h2 y ?_⟩
      · rw [List.forIn_cons]
        have : (k == NameKind.free) = false := by simpa using hk
        simp only [this, Bool.false_eq_true, if_false, pure_bind]
        exact e1
      · rcases hy with hy | hy
        · exact .inl hy
        · rcases List.mem_cons.mp hy with hy | hy
          · cases hy; exact absurd rfl hk
          · exact .inr hy

theorem relabel_lookup {sc : Scope} {y : Str} : ∀ {names : List (Str × NameKind)}, (∀ p ∈ names, p.2 = .free → sc.names.lookup p.1 = some .cell) → sc.kind = .function →
    (names.map fun (n, k) => if (k == NameKind.free && sc.kind == .function && sc.names.lookup n == some .cell) then (n, NameKind.cell) else (n, k)).lookup y = (names.lookup y).map fun k => if k = .free then .cell else k
  | [], _, _ => rfl
  | (n, k) :: names, h, hs => by
    have ih := relabel_lookup (sc := sc) (y := y) (names := names) (fun p hp => h p (List.Mem.tail _ hp)) hs
    show List.lookup y ((if (k == NameKind.free && sc.kind == .function && sc.names.lookup n == some .cell) = true then (n, NameKind.cell) else (n, k)) :: _) = _
    by_cases hk : k = .free
    · subst hk
      have := h (n, .free) (List.Mem.head _) rfl
      rw [if_pos (by rw [hs, this]; rfl), List.lookup_cons, List.lookup_cons]
      cases y == n
      · exact ih
      · rfl
    · have hb : (k == NameKind.free) = false := by simpa using hk
      rw [if_neg (by rw [hb]; simp), List.lookup_cons, List.lookup_cons]
      cases y == n
      · exact ih
      · simp [hk]

section
variable {X : Cx} {n : Nat} {hd : Bool} {A : Around} {env : Env} {st : List Env} {ρ : Rho} {H : Hp} {η : List Addr} {s : Shared}

theorem comp_at {scope : Scope} {x : String} {cl : List (Str × Addr)} {C : Addr} {m : Str → Option Value} {v : V} {mv : Value} (hc : compOk env.scope scope (Str.ofString x) = true) (a : At X n hd A env st η ρ H s) (hcl : ∀ p ∈ cl, env.cells.lookup p.1 = some p.2)
    (hfr : ∀ y, scope.names.lookup y = some .free → ∃ c, cl.lookup y = some c) (hC : s.heap.Ns C m) (hm : m (Str.ofString x) = some mv) (hv : VR X η s.heap v mv) (hCη : C ∉ η) (hCb : X.base.get? C = Option.none) :
    At X n hd A (compEnvC scope cl C env) st η ((x, v) :: ρ) H s := by
  unfold compOk at hc
  simp only [Bool.and_eq_true, beq_iff_eq] at hc
  obtain ⟨⟨⟨hk, hsk⟩, hx⟩, hall⟩ := hc
  have hfree : ∀ p ∈ scope.names, p.2 = .free → env.scope.names.lookup p.1 = some .cell := fun p hp e => by
    have := List.all_eq_true.mp hall p hp
    unfold compName at this
    rw [e] at this
    exact beq_iff_eq.mp this
  have kd : ∀ y, (compEnvC scope cl C env).kindOf y = (scope.names.lookup y).map fun k => if k = .free then .cell else k := fun y => relabel_lookup (sc := env.scope) hfree hsk
  have cell : ∀ y, (compEnvC scope cl C env).kindOf y = some .cell → scope.names.lookup y = some .free := fun y hy => by
    rw [kd] at hy
    obtain ⟨k, e, q⟩ := Option.map_eq_some_iff.mp hy
    by_cases hkf : k = .free
    · rw [e, hkf]
    · rw [if_neg hkf] at q
      have := List.all_eq_true.mp hall (y, k) (lookup_mem e)
      unfold compName at this
      rw [q] at this; cases this
  refine ⟨a.inv, ⟨?_, a.fok.glob, a.fok.blt, ⟨m, hC⟩, fun p hp => a.fok.cell p (lookup_mem (hcl p hp)), fun y hy => hfr y (cell y hy), fun y z c h1 h2 => ?_, fun b hb => ?_⟩, fun y w ey hy => ?_, a.stk, a.room, a.hand⟩
  · show (relabel scope env).kind = _
    exact hk
  · exact a.fok.inj y z c (hcl _ (lookup_mem h1)) (hcl _ (lookup_mem h2))
  · rcases List.mem_cons.mp hb with rfl | hb
    · exact ⟨hCη, hCb⟩
    · obtain ⟨p, hp, rfl⟩ := List.mem_map.mp hb
      exact a.fok.off _ (List.mem_cons.mpr (.inr (List.mem_map.mpr ⟨p, lookup_mem (hcl p hp), rfl⟩)))
  · by_cases hyx : y = x
    · subst hyx
      rw [List.lookup_cons, beq_self_eq_true] at ey
      cases ey
      exact ⟨mv, .inl ⟨by rw [kd, hx]; rfl, m, hC, hm⟩, hv⟩
    · have hb : (y == x) = false := by simpa using hyx
      rw [List.lookup_cons, hb] at ey
      unfold isVar at hy
      rw [Bool.and_eq_true, Bool.not_eq_true'] at hy
      obtain ⟨hy0, hy⟩ := hy
      have hkd : (compEnvC scope cl C env).scope.names.lookup (Str.ofString y) = _ := kd (Str.ofString y)
      rw [hkd] at hy
      have : scope.names.lookup (Str.ofString y) = some .free := by
        cases e : scope.names.lookup (Str.ofString y) with
        | none => rw [e] at hy; cases hy
        | some k =>
          rw [e] at hy
          have q := List.all_eq_true.mp hall (Str.ofString y, k) (lookup_mem e)
          unfold compName at q
          cases k with
          | free => rfl
          | «local» =>
            simp only [Bool.and_eq_true, Bool.or_eq_true, beq_iff_eq] at q
            rcases q.1 with q | q
            · exact absurd (ofString_inj q) hyx
            · rw [q] at hy0; cases hy0
          | cell => cases q
          | _ => cases hy
      have hoc := hfree _ (lookup_mem this) rfl
      obtain ⟨mw, hh, rw'⟩ := a.rho y w ey (by unfold isVar; rw [hy0, hoc]; rfl)
      obtain ⟨c, hcc⟩ := hfr _ this
      refine ⟨mw, .inr ⟨.inl (by rw [kd, this]; rfl), c, ?_⟩, rw'⟩
      rcases hh with ⟨hk', _⟩ | ⟨_, c', o, hc', g, d⟩
      · unfold Env.kindOf at hk'; rw [hoc] at hk'; cases hk'
      · have e1 := hcl _ (lookup_mem hcc)
        rw [hc'] at e1; cases e1
        exact ⟨o, hcc, g, d⟩

theorem iter_self {it : Addr} {src : V} {xs : List V} {i : Nat} {Q : Value → Shared → Prop} {E : Value → Shared → Prop} (r : ItR X η s.heap it src xs i) (h : Q (.ref it) s) : wpAny X.M A (pyIter (.ref it)) Q E s := by
  cases r with
  | list _ q => exact wpAny_pyIter_listiter q h
  | tup _ _ _ q => exact wpAny_pyIter_tupleiter q h
  | rng _ q => exact wpAny_pyIter_rangeiter q h

inductive CompEnd (X : Cx) (st : List Env) (η0 : List Addr) (s0 : Shared) (k : Nat) (D C : Addr) (H' : Hp) (s' : Shared) : Prop
  | mk (η' : List Addr) (h' : Heap) (tk : Nat) (e : s' = { s0 with heap := h', toks := tk }) (i : Inv X η' H' h') (x : Step (frs st) [] η0 s0.heap η' h') (d : η'[k]? = some D) (c : C ∉ η') (n : s0.heap.get? C = Option.none) (m : Str → Option Value) (ns : h'.Ns C m) : CompEnd X st η0 s0 k D C H' s'

inductive CompI (X : Cx) (st : List Env) (η0 : List Addr) (s0 : Shared) (it D C : Addr) (src : V) (xs : List V) (k : Nat) (F : Nat → Hp → Prop) (mm : Nat) (s : Shared) : Prop
  | mk (i : Nat) (H : Hp) (η : List Addr) (m : Str → Option Value) (e : mm = xs.length - i) (iv : Inv X η H s.heap) (es : s = { s0 with heap := s.heap, toks := s.toks }) (x : Step (frs st) [] η0 s0.heap η s.heap) (r : ItR X η s.heap it src xs i) (ni : it ∉ η) (dk : η[k]? = some D) (cn : C ∉ η) (ns : s.heap.Ns C m) (hf : F i H) : CompI X st η0 s0 it D C src xs k F mm s
theorem comp_loop {elt iter : Expr} {x : String} {px pos : Pos} {scope : Scope} {cl : List (Str × Addr)} {f : V → Hp → R V} {src : V} {xs : List V} {chk : Hp → Bool} {k : Nat} {it D C : Addr} {RR : Result → Shared → Prop} {η0 : List Addr} {s0 : Shared} {ρ : Rho}
    (hc : compOk env.scope scope (Str.ofString x) = true) (hh : A.handled = Option.none) (hcl : ∀ p ∈ cl, env.cells.lookup p.1 = some p.2) (hfr : ∀ y, scope.names.lookup y = some .free → ∃ c, cl.lookup y = some c)
    (helt : ∀ v C' H', Tri X n hd A (compEnvC scope cl C' env) st ((x, v) :: ρ) [] (eval elt (compEnvC scope cl C' env)) H' (f v H') rV)
    (hchk : ∀ H, chk H = true → ∀ n, src = .ref n → H[n]? = some (.list xs)) (h0C : s0.heap.get? C = Option.none) (h0D : s0.heap.get? D = Option.none) (h0I : s0.heap.get? it = Option.none) (hDC : D ≠ C)
    (hb0 : ∀ b o, X.base.get? b = some o → ∃ o', s0.heap.get? b = some o')
    {H1 : Hp} {η1 : List Addr} {s1 : Shared} {m1 : Str → Option Value} (a0 : At X n hd A env st η0 ρ H s0) (i1 : Inv X η1 H1 s1.heap) (e1 : s1 = { s0 with heap := s1.heap, toks := s1.toks }) (x1 : Step (frs st) [] η0 s0.heap η1 s1.heap) (r1 : ItR X η1 s1.heap it src xs 0) (n1 : it ∉ η1) (d1 : η1[k]? = some D) (c1 : C ∉ η1) (ns1 : s1.heap.Ns C m1)
    (hne : turns (fun y H2 => (f y H2).bind fun r H4 => .ok (some r) H4) chk k xs H1 ≠ .stuck)
    (hR : ∀ H' s', turns (fun y H2 => (f y H2).bind fun r H4 => .ok (some r) H4) chk k xs H1 = .ok () H' → CompEnd X st η0 s0 k D C H' s' → RR (.ok .next) s') :
    codeAny X.M A (.compLoop (.ListComp elt [⟨.Name (Str.ofString x) px, iter, [], 0⟩] scope pos) 0 (.ref it) (.ref D) (compEnvC scope cl C env)) RR s1 := by
  generalize hres : turns (fun y H2 => (f y H2).bind fun r H4 => .ok (some r) H4) chk k xs H1 = res at hne hR
  have bn : ∀ b, s0.heap.get? b = Option.none → X.base.get? b = Option.none := fun b q => by
    cases g : X.base.get? b with
    | none => rfl
    | some o => obtain ⟨o', g'⟩ := hb0 b o g; rw [q] at g'; cases g'
  have hx : (compEnvC scope cl C env).kindOf (Str.ofString x) = some .local := by
    have hc' := hc
    unfold compOk at hc'
    simp only [Bool.and_eq_true, beq_iff_eq] at hc'
    exact lookup_relabel_local hc'.1.2
  have hkind : (relabel scope env).kind = .function := by
    unfold compOk at hc
    simp only [Bool.and_eq_true, beq_iff_eq] at hc
    exact hc.1.1.1
  refine codeAny_compLoop_tests (env := compEnvC scope cl C env) (CompI X st η0 s0 it D C src xs k (fun i H => turns (fun y H2 => (f y H2).bind fun r H4 => .ok (some r) H4) chk k (xs.drop i) H = res))
    (fun mm s hI => ?_) xs.length ⟨0, H1, η1, m1, rfl, i1, e1, x1, r1, n1, d1, c1, ns1, hres⟩
  obtain ⟨i, H', η, m, rfl, iv, es, xx, r, ni, dk, cn, ns, hf⟩ := hI
  have ck : chk H' = true := by
    cases hd : xs.drop i with
    | nil => rw [hd, turns] at hf; exact Classical.byContradiction fun q => (by rw [if_neg q] at hf; exact hne hf.symm)
    | cons v vs => rw [hd, turns] at hf; exact Classical.byContradiction fun q => (by rw [if_neg q] at hf; exact hne hf.symm)
  have nCit : C ≠ it := fun q => by
    obtain ⟨o, es', ep, g, d, _⟩ := ns
    obtain ⟨o', fs, g', d'⟩ := r.rec'
    rw [q, g'] at g; cases g; rw [d'] at d; cases d
  refine next_ok r iv ni hh (hchk H' ck) (fun v mv h' tk hv t rv r' => ?_) (fun h' hv t => ?_)
  · have hlt : i < xs.length := (List.getElem?_eq_some_iff.mp hv).1
    have hdr : xs.drop i = v :: xs.drop (i + 1) := by
      rw [List.drop_eq_getElem_cons hlt, (List.getElem?_eq_some_iff.mp hv).2]
    rw [hdr, turns, if_pos ck] at hf
    have iv2 : Inv X η H' h' := t.inv iv ni (bn it h0I)
    have xx2 : Step (frs st) [] η0 s0.heap η h' := t.step xx h0I
    have ns2 : h'.Ns C m := by
      obtain ⟨o, es', ep, g, d, q⟩ := ns
      exact ⟨o, es', ep, t.keep C o nCit g, d, q⟩
    show wpAny _ A (assign (.Name (Str.ofString x) px) (compEnvC scope cl C env) mv) _ _ _
    refine wpAny_assign_Name (wpAny_storeName_local hx ns2 (fun h2 hn2 hs2 => ?_) ?_)
    rotate_left
    · show ((relabel scope env).kind == .class || ((relabel scope env).kind == .module && _)) = false
      rw [hkind]; rfl
    have t2 : Turn C h' h2 := ⟨fun b o hb e => (hs2.2 b hb).trans e, by obtain ⟨o, es', ep, g, d, _⟩ := ns2; exact ⟨o, g, .inr ⟨es', ep, d⟩⟩⟩
    have iv3 : Inv X η H' h2 := t2.inv iv2 cn (bn C h0C)
    have xx3 : Step (frs st) [] η0 s0.heap η h2 := t2.step xx2 h0C
    refine wpAny_pure ?_
    simp only [if_true]
    have out : At X n hd A env st η ρ H' { s0 with heap := h2, toks := tk + 1 } := a0.step xx3 iv3 (tk + 1)
    have inn := comp_at (s := { s0 with heap := h2, toks := tk + 1 }) hc out hcl hfr hn2 (by simp) (t2.vr rv) cn (bn C h0C)
    have hfv : f v H' ≠ .stuck := fun q => by rw [q] at hf; exact hne hf.symm
    have es' : (⟨h2, s.gens, s.drawn, tk + 1, s.os⟩ : Shared) = { s0 with heap := h2, toks := tk + 1 } := by rw [es]
    show wpAny _ A (eval elt (compEnvC scope cl C env)) _ _ (⟨h2, s.gens, s.drawn, tk + 1, s.os⟩ : Shared)
    rw [es']
    refine wpAny_mono (helt v C H' hfv η _ inn fun _ q => nomatch q) (fun mw s4 hx4 => ?_) fun ev s4 hx4 => ?_
    · obtain ⟨w, H4, e4, _, η4, h4, tk4, rfl, iv4, xx4, pv⟩ := hx4
      rw [e4] at hf
      simp only [R.bind_ok] at hf
      have xx5 := xx3.trans xx4
      have out4 : At X n hd A env st η4 ρ H4 { s0 with heap := h4, toks := tk4 } := a0.step xx5 iv4 tk4
      have d4 : η4[k]? = some D := by obtain ⟨l, rfl, _⟩ := xx4.pre; exact getElem?_pre dk
      have rv4 : VR X η4 h4 w mw := pv (w, mw) (List.Mem.head _)
      obtain ⟨oC, esC, epC, gC, dC, qC⟩ := hn2
      have nC4 : C ∉ η4 := xx4.mem gC cn
      have gC4 : ∃ sl, h4.get? C = some { oC with slots := sl } := xx4.data gC cn (fun q => nomatch q)
      have nI4 : it ∉ η4 := by
        obtain ⟨o', fs, g', d'⟩ := r'.rec'
        exact xx4.mem (t2.keep it o' nCit.symm g') ni
      cases hk : H4[k]? with
      | none => rw [hk] at hf; exact absurd hf.symm hne
      | some o =>
        cases o with
        | list ys =>
          rw [hk] at hf
          simp only at hf
          split at hf
          · rename_i hlen
            have ap := append_ok (X := X) (n := n) (hd := hd) (A := A) (env := env) (st := st) (ρ := ρ) (vs := [(.ref k, .ref D), (w, mw)]) (v := w) (ov := .ref D) (mv := mw) (List.Mem.head _) (List.Mem.tail _ (List.Mem.head _)) hk hlen
            refine wpAny_mono (ap (by intro q; cases q) η4 _ out4 (fun p hp => ?_)) (fun y s5 hy => ?_) fun ev s5 hy => ?_
            · rcases List.mem_cons.mp hp with rfl | hp
              · exact .ref d4
              · rw [List.mem_singleton] at hp; subst hp; exact rv4
            · obtain ⟨_, H5, e5, _, η5, h5, tk5, rfl, iv5, xx6, _⟩ := hy
              cases e5
              have mm' : ∃ m, h5.Ns C m := by
                obtain ⟨sl, g4⟩ := gC4
                obtain ⟨sl2, g5⟩ := xx6.data g4 nC4 (fun q => nomatch q)
                exact ⟨_, _, _, _, g5, dC, qC⟩
              obtain ⟨m5, ns5⟩ := mm'
              have r2 : ItR X η h2 it src xs (i + 1) := by
                cases r' with
                | list e1' q1 => obtain ⟨o, a, b, c⟩ := q1; exact .list e1' ⟨o, t2.keep it o nCit.symm a, b, c⟩
                | tup e1' e2' e3' q1 =>
                  obtain ⟨o, a, b, c⟩ := q1
                  exact .tup (t2.keep _ _ (t2.ne_seq e1' (fun fs q => (by cases q)) fun _ _ q => (by cases q)) e1') e2' (t2.vrs e3') ⟨o, t2.keep it o nCit.symm a, b, c⟩
                | rng e1' q1 => exact .rng e1' (t2.keep it _ nCit.symm q1)
              have r4 : ItR X η4 h4 it src xs (i + 1) := r2.keep (fr := frs st) (own := []) xx4 inn.stk.frm ni
              have r5 : ItR X η5 h5 it src xs (i + 1) := r4.keep (fr := frs st) (own := []) xx6 out4.stk.frm nI4
              have d5 : η5[k]? = some D := by obtain ⟨l, rfl, _⟩ := xx6.pre; exact getElem?_pre d4
              obtain ⟨sl, g4⟩ := gC4
              obtain ⟨o', fs, g', d'⟩ := r4.rec'
              exact ⟨xs.length - (i + 1), by omega, i + 1, _, η5, m5, rfl, iv5, rfl, xx5.trans xx6, r5, xx6.mem g' nI4, d5, xx6.mem g4 nC4, ns5, hf⟩
            · obtain ⟨c, H5, e5, _⟩ := hy
              cases e5
          · exact absurd hf.symm hne
        | _ => rw [hk] at hf; exact absurd hf.symm hne
    · obtain ⟨c, H4, e4, _⟩ := hx4
      rw [e4] at hf
      exact absurd hf.symm hne
  · have hdr : xs.drop i = [] := by rw [List.getElem?_eq_none_iff] at hv; exact List.drop_eq_nil_of_le hv
    rw [hdr, turns, if_pos ck] at hf
    refine hR H' _ hf.symm ⟨η, h', s.toks, by rw [es], t.inv iv ni (bn it h0I), t.step xx h0I, dk, cn, h0C, m, ?_⟩
    obtain ⟨o, es', ep, g, d, q⟩ := ns
    exact ⟨o, es', ep, t.keep C o nCit g, d, q⟩
end
end Mine

/-! SimG -/
namespace Mine
open PySem PyProof.Rows PySem.W

theorem items_not {H : Hp} {v : V} {xs : List V} (h : items H v = some xs) : (∀ x, v ≠ .str x) ∧ ∀ n, v = .ref n → H[n]? = some (.list xs) := by
  refine ⟨fun x q => (by subst q; cases h), fun n q => ?_⟩
  subst q
  simp only [items] at h
  split at h
  · rename_i e; cases h; exact e
  · cases h
theorem same_list {H H' : Hp} {n : Nat} {xs : List V} (h : items H (.ref n) = some xs) (hs : sameO (.ref n) H H' = true) : H'[n]? = some (.list xs) := by
  have e := (items_not h).2 n rfl
  simp only [sameO, e] at hs
  split at hs
  · rename_i q1 q2; cases q1; rw [q2, of_decide_eq_true hs]
  · cases hs
noncomputable def noSet : Expr → Bool
  | .Set .. => false
  | _ => true
theorem folded_no {e : Expr} {env : Env} (h : noSet e = true) (x : Value) : foldedSetIterable e env x = pure x := by
  cases e <;> first | rfl | cases h

section
variable {X : Cx} {n : Nat} {hd : Bool} {A : Around} {env : Env} {st : List Env} {ρ : Rho} {H : Hp} {η : List Addr} {s : Shared} {vs : List (V × Value)}

theorem comp_run {elt iter : Expr} {x : String} {px pos cpos : Pos} {scope : Scope} {f : V → Hp → R V} {r1 : R V} {use : Option (Value → Sem Unit)} {Q : Value → Shared → Prop} {E : Value → Shared → Prop} (hc : compOk env.scope scope (Str.ofString x) = true) (hn : noSet iter = true) (hh : A.handled = Option.none)
    (h1 : Tri X n hd A env st ρ [] (eval iter env) H r1 rV) (helt : ∀ cl v C' H', Tri X n hd A (compEnvC scope cl C' env) st ((x, v) :: ρ) [] (eval elt (compEnvC scope cl C' env)) H' (f v H') rV) (a : At X n hd A env st η ρ H s)
    (hne : (r1.bind fun v H1 => match items H1 v with
      | some xs => (turns (fun y H2 => (f y H2).bind fun r H4 => .ok (some r) H4) (sameO v H1) H1.length xs (H1 ++ [.list []])).bind fun _ H5 => .ok (V.ref H1.length) H5
      | Option.none => .stuck) ≠ .stuck)
    (hE : ∀ ev s' c H', r1 = .raise c H' → Post X (frs st) [] η s H' (fun η' h' => ExcAt X st s.heap ev c η' h') s' → E ev s')
    (hK : ∀ v H1 xs H' s' D C, r1 = .ok v H1 → items H1 v = some xs → turns (fun y H2 => (f y H2).bind fun r H4 => .ok (some r) H4) (sameO v H1) H1.length xs (H1 ++ [.list []]) = .ok () H' → CompEnd X st η s H1.length D C H' s' → compPost X.M A E use Q (.ref D) C (.ok .next) s') :
    wpAny X.M A (comprehension (.ListComp elt [⟨.Name (Str.ofString x) px, iter, [], 0⟩] scope pos) scope env cpos (newList []) false (eval iter env) use) Q E s := by
  have hc' := hc
  unfold compOk at hc'
  simp only [Bool.and_eq_true, beq_iff_eq] at hc'
  obtain ⟨⟨⟨hk, hsk⟩, hx⟩, hall⟩ := hc'
  have hnm : ∀ p ∈ scope.names, compName env.scope scope (Str.ofString x) p = true := fun p hp => List.all_eq_true.mp hall p hp
  obtain ⟨cl, ecl, hcl, hfr0⟩ := forIn_cells (env := env) scope.names [] (fun p hp e => by
    have := hnm p hp
    unfold compName at this
    rw [e] at this
    exact a.fok.cells _ (beq_iff_eq.mp this)) (fun _ q => nomatch q)
  have hclos : closureFor scope env = pure cl := by
    unfold closureFor
    dsimp only
    rw [ecl]; rfl
  have hfr : ∀ y, scope.names.lookup y = some .free → ∃ c, cl.lookup y = some c := fun y hy => hfr0 y (.inr (lookup_mem hy))
  have hcell : ∀ p ∈ scope.names, p.2 ≠ .cell := fun p hp q => by
    have := hnm p hp
    unfold compName at this
    rw [q] at this; cases this
  have hnames : ∀ p ∈ scope.names, p.2 = .local → scope.names.lookup p.1 = some .local := fun p hp q => by
    have := hnm p hp
    unfold compName at this
    rw [q] at this
    simp only [Bool.and_eq_true, beq_iff_eq] at this
    exact this.2
  refine wpAny_comprehension_free (use := use) rfl (fun x => folded_no hn x) hclos hk hnames ?_
  have hr : r1 ≠ .stuck := by rintro rfl; exact hne rfl
  refine wpAny_mono (h1 hr η s a fun _ q => nomatch q) (fun mv s1 hx1 => ?_) fun ev s1 hx1 => ?_
  · obtain ⟨v, H1, rfl, _, η1, h1', tk1, rfl, iv1, st1, p1⟩ := hx1
    simp only [R.bind_ok] at hne
    cases hi : items H1 v with
    | none => rw [hi] at hne; exact absurd rfl hne
    | some xs =>
      rw [hi] at hne
      simp only at hne
      have ni := items_not hi
      refine iter_ok (s := { s with heap := h1', toks := tk1 }) iv1 (p1 (v, mv) (List.Mem.head _)) hi ni.1 ni.2 fun ob rI => ?_
      obtain ⟨h2, eh2⟩ : ∃ h2, h2 = h1'.push ob := ⟨_, rfl⟩
      obtain ⟨it, eit⟩ : ∃ it, it = h1'.objs.size := ⟨_, rfl⟩
      have k2 : ∀ b o, h1'.get? b = some o → h2.get? b = some o := fun b o e => by rw [eh2]; exact push_keeps _ _ _ _ e
      show wpAny _ A (newList []) _ _ { s with heap := h1'.push ob, toks := tk1 }
      have rI' : ItR X η1 h2 it v xs 0 := by rw [eh2, eit]; exact rI
      rw [← eh2]
      show wpAny _ A (newList []) (fun acc s3 => wpAny _ A (newFunctionEnv scope env.globals cl [] env.qual Option.none .none (some env)) (fun cenv s4 => codeAny _ A (.compStart _ 0 (.ref h1'.objs.size) acc _) _ s4) E s3) E _
      rw [← eit]
      refine wpAny_newObj_type (wpAny_newFunctionEnv hcell (by intro y hy; simp at hy) (fun h4 hn4 hs4 => ?_) hk)
      dsimp only at hn4 hs4 ⊢
      obtain ⟨h3, eh3⟩ : ∃ h3, h3 = h2.push { cls := .type "list", data := .seq ([] : List Value).toArray } := ⟨_, rfl⟩
      have hn4' : h4.Ns h3.objs.size (fun x => ([] : List (Str × Value)).reverse.lookup x) := by rw [eh3]; exact hn4
      have hs4' : Heap.SameBut h3.objs.size (h3.push { cls := .type (if (some env).isSome then "dict" else "frame"), data := .dict #[] }) h4 := by rw [eh3]; exact hs4
      have sz3 : h3.objs.size = h2.objs.size + 1 := by rw [eh3, Heap.size_push]
      have k3 : ∀ b o, h2.get? b = some o → h3.get? b = some o := fun b o e => by rw [eh3]; exact push_keeps _ _ _ _ e
      have k4 : ∀ b o, h3.get? b = some o → h4.get? b = some o := fun b o e => (hs4'.2 b (Nat.ne_of_lt (Heap.lt_size e))).trans (push_keeps _ _ _ _ e)
      have kk : ∀ b o, h1'.get? b = some o → h4.get? b = some o := fun b o e => k4 b o (k3 b o (k2 b o e))
      have nD : h2.get? h2.objs.size = Option.none := size_none h2
      have gD : h4.get? h2.objs.size = some { cls := .type "list", data := .seq ([] : List Value).toArray } := k4 _ _ (by rw [eh3]; exact Heap.get?_push_size _ rfl)
      have back : ∀ b, h2.objs.size ≤ b → h1'.get? b = Option.none := fun b hb => by
        cases e : h1'.get? b with
        | none => rfl
        | some o => exact absurd (Heap.lt_size (k2 b o e)) (Nat.not_lt.mpr hb)
      have back0 : ∀ b, h1'.get? b = Option.none → s.heap.get? b = Option.none := fun b hb => by
        cases e : s.heap.get? b with
        | none => rfl
        | some o => obtain ⟨o', e'⟩ := st1.alive b o e; rw [hb] at e'; cases e'
      have nI : h1'.get? it = Option.none := by rw [eit]; exact size_none h1'
      have offη : ∀ b, h1'.get? b = Option.none → b ∉ η1 := fun b hb q => by obtain ⟨ob, e⟩ := iv1.alive q; rw [hb] at e; cases e
      have iv2 : Inv X (η1 ++ [h2.objs.size]) (H1 ++ [.list []]) h4 := iv1.make kk (back _ (Nat.le_refl _)) gD (.list .nil (by simp [line]))
      have ltI : it < h2.objs.size := by obtain ⟨o, fs, e, _⟩ := rI'.rec'; exact Heap.lt_size e
      have neID : it ≠ h2.objs.size := Nat.ne_of_lt ltI
      have st2 : Step (frs st) [] η1 h1' (η1 ++ [h2.objs.size]) h4 := Step.make _ _ _ kk (back _ (Nat.le_refl _))
      have rI4 : ItR X (η1 ++ [h2.objs.size]) h4 it v xs 0 := rI'.keep (fr := []) (own := []) (Step.make _ _ _ (fun b o e => k4 b o (k3 b o e)) nD) (fun _ q => nomatch q) (offη it nI)
      have neDC : h2.objs.size ≠ h3.objs.size := by rw [sz3]; exact Nat.ne_of_lt (Nat.lt_succ_self _)
      have nC : h1'.get? h3.objs.size = Option.none := back _ (by omega)
      have key : codeAny X.M A (.compLoop (.ListComp elt [⟨.Name (Str.ofString x) px, iter, [], 0⟩] scope pos) 0 (.ref it) (.ref h2.objs.size) (compEnvC scope cl h3.objs.size env)) (compPost X.M A E use Q (.ref h2.objs.size) h3.objs.size) { s with heap := h4, toks := tk1 + ([] : List (Str × Value)).length } := by
        refine comp_loop (η0 := η) (s0 := s) (k := H1.length) (chk := sameO v H1) (f := f) (src := v) (xs := xs) (H1 := H1 ++ [.list []]) (η1 := η1 ++ [h2.objs.size]) hc hh hcl hfr (helt cl) (fun H' hck n hv => ?_) (back0 _ nC) (back0 _ (back _ (Nat.le_refl _))) (back0 _ nI) neDC (fun b o e => ⟨o, a.inv.keep b o e⟩) a iv2 rfl (st1.trans st2) rI4 ?_ ?_ ?_ hn4' (fun q => hne (by rw [q]; rfl)) fun H' s' et ce => hK v H1 xs H' s' _ _ rfl hi et ce
        · subst hv; exact same_list hi hck
        · intro q
          rcases List.mem_append.mp q with q | q
          · exact offη it nI q
          · rw [List.mem_singleton] at q; exact neID q
        · rw [← iv1.len]; simp
        · intro q
          rcases List.mem_append.mp q with q | q
          · exact offη _ nC q
          · rw [List.mem_singleton] at q; exact neDC q.symm
      have fin := codeAny_compStart_list key (iter_self (s := { s with heap := h4, toks := tk1 + ([] : List (Str × Value)).length }) rI4 key)
      rw [eh3] at fin
      exact fin
  · obtain ⟨c, H1, e, hP⟩ := hx1
    exact hE ev s1 c H1 e hP

theorem CompEnd.let_go {k : Nat} {D C : Addr} {H' : Hp} {s' : Shared} (hb0 : ∀ b o, X.base.get? b = some o → s.heap.get? b = some o) (c : CompEnd X st η s k D C H' s') : ∃ m, s'.heap.Ns C m ∧ ∀ h'', Heap.SameBut C s'.heap h'' → Post X (frs st) [] η s H' (fun η' h' => VR X η' h' (.ref k) (.ref D)) { s' with heap := h'' } := by
  obtain ⟨η', h', tk, rfl, iv, stp, dk, cn, c0, m, ns⟩ := c
  refine ⟨m, ns, fun h'' sb => ?_⟩
  have t : Turn C h' h'' := ⟨fun b o hb e => (sb.2 b hb).trans e, by obtain ⟨o, es', ep, g, d, _⟩ := ns; exact ⟨o, g, .inr ⟨es', ep, d⟩⟩⟩
  have cb : X.base.get? C = Option.none := by
    cases g : X.base.get? C with
    | none => rfl
    | some o => have := hb0 C o g; rw [c0] at this; cases this
  exact ⟨η', h'', tk, rfl, t.inv iv cn cb, t.step stp c0, .ref dk⟩

theorem comp_ok {elt iter : Expr} {x : String} {px pos : Pos} {scope : Scope} {f : V → Hp → R V} {r1 : R V} (hc : compOk env.scope scope (Str.ofString x) = true) (hn : noSet iter = true) (hhd : hd = false)
    (h1 : Tri X n hd A env st ρ [] (eval iter env) H r1 rV) (helt : ∀ cl v C' H', Tri X n hd A (compEnvC scope cl C' env) st ((x, v) :: ρ) [] (eval elt (compEnvC scope cl C' env)) H' (f v H') rV) :
    Tri X n hd A env st ρ [] (eval (.ListComp elt [⟨.Name (Str.ofString x) px, iter, [], 0⟩] scope pos) env) H (r1.bind fun v H1 => match items H1 v with
      | some xs => (turns (fun y H2 => (f y H2).bind fun r H4 => .ok (some r) H4) (sameO v H1) H1.length xs (H1 ++ [.list []])).bind fun _ H5 => .ok (V.ref H1.length) H5
      | Option.none => .stuck) rV := by
  intro hs η s a _
  rw [eval_ListComp]
  refine comp_run (use := Option.none) hc hn (a.hand hhd) h1 helt a hs (fun ev s' c H' e hP => ⟨c, H', by rw [e]; rfl, hP⟩) fun v H1 xs H' s' D C e hi et ce => ?_
  obtain ⟨m, ns, q⟩ := ce.let_go a.inv.keep
  refine ⟨m, ns, fun h'' sb => ⟨.ref H1.length, H', by rw [e, R.bind_ok, hi]; simp only [et, R.bind_ok], trivial, ?_⟩⟩
  obtain ⟨η', h', tk, e1, e2, e3, e4⟩ := q h'' sb
  exact ⟨η', h', tk, e1, e2, e3, fun p hp => by rw [rV, List.mem_singleton] at hp; subst hp; exact e4⟩
end
end Mine

/-! Sim8 -/
namespace Mine
open PySem PyProof.Rows PySem.W
section
variable {X : Cx} {n : Nat} {hd : Bool} {A : Around} {env : Env} {st : List Env} {ρ : Rho} {vs : List (V × Value)} {H : Hp}
theorem isinst_ok {v : V} {m : Value} {T : String} {b : Bool} (hm : (v, m) ∈ vs) (hT : bTypes.contains T = true) (he : isinst v T H = some b) :
    Tri X n hd A env st ρ vs (PySem.call (.builtin "isinstance") [m, .type T]) H (.ok (.bool b) H) rV := by
  unfold isinst at he
  rw [if_pos hT] at he
  obtain ⟨k, hk2, rfl⟩ := Option.map_eq_some_iff.mp he
  clear he
  refine Tri.plain fun η s Q E at' hv hq => ?_
  have r := hv _ hm
  have hT' : T = "int" ∨ T = "bool" ∨ T = "tuple" ∨ T = "list" := by simpa [bTypes] using hT
  have lst : (match listAt v H with | some _ => some "list" | Option.none => Option.none) = some k → wpAny X.M A (PySem.call (.builtin "isinstance") [m, .type T]) Q E s := fun hk => by
    cases hx : listAt v H with
    | none => rw [hx] at hk; cases hk
    | some xs =>
      rw [hx] at hk
      cases hk
      obtain ⟨a, items, c, rfl, g, r, l⟩ := vr_list at'.inv r hx
      rcases hT' with rfl | rfl | rfl | rfl
      · exact IsiPair.list_int g rfl (hq _ _ (.bool _))
      · exact IsiPair.list_bool g rfl (hq _ _ (.bool _))
      · exact IsiPair.list_tuple g rfl (hq _ _ (.bool _))
      · exact IsiPair.list_list g rfl (hq _ s.toks (.bool _))
  cases v with
  | bool c =>
    cases hk2
    cases r
    rcases hT' with rfl | rfl | rfl | rfl
    · exact IsiPair.bool_int (hq _ s.toks (.bool _))
    · exact IsiPair.bool_bool (hq _ s.toks (.bool _))
    · exact IsiPair.bool_tuple (hq _ _ (.bool _))
    · exact IsiPair.bool_list (hq _ _ (.bool _))
  | int c =>
    cases hk2
    cases r
    rcases hT' with rfl | rfl | rfl | rfl
    · exact IsiPair.int_int (hq _ s.toks (.bool _))
    · exact IsiPair.int_bool (hq _ _ (.bool _))
    · exact IsiPair.int_tuple (hq _ _ (.bool _))
    · exact IsiPair.int_list (hq _ _ (.bool _))
  | tup ws =>
    cases hk2
    cases r with
    | tup g nn r l =>
      rcases hT' with rfl | rfl | rfl | rfl
      · exact IsiPair.tuple_int g rfl (hq _ _ (.bool _))
      · exact IsiPair.tuple_bool g rfl (hq _ _ (.bool _))
      · exact IsiPair.tuple_tuple g rfl (hq _ s.toks (.bool _))
      · exact IsiPair.tuple_list g rfl (hq _ _ (.bool _))
  | _ => exact lst hk2
end

/-! the compact terms against the text's trees -/
noncomputable def vName (sc : Scope) (x : String) (id : Str) : Bool := id == Str.ofString x && isVar sc id && !(id == ("__debug__" : Str)) && !(id == ("__classdict__" : Str))
noncomputable def plainE : Expr → Bool
  | .Starred .. => false
  | .Set .. => false
  | .Slice .. => false
  | _ => true
theorem ff {P : Prop} (h : false = true) : P := nomatch h
noncomputable def onName (e : Expr) (f : Str → Pos → Bool) : Bool := match e with
  | .Name id p => f id p
  | _ => false
theorem onName_inv {e : Expr} {f : Str → Pos → Bool} (h : onName e f = true) : ∃ id p, e = .Name id p ∧ f id p = true := by
  cases e with
  | Name id p => exact ⟨id, p, rfl, h⟩
  | _ => exact ff h
noncomputable def onConstant (e : Expr) (f : Const → Nat → Pos → Bool) : Bool := match e with
  | .Constant c k p => f c k p
  | _ => false
theorem onConstant_inv {e : Expr} {f : Const → Nat → Pos → Bool} (h : onConstant e f = true) : ∃ c k p, e = .Constant c k p ∧ f c k p = true := by
  cases e with
  | Constant c k p => exact ⟨c, k, p, rfl, h⟩
  | _ => exact ff h
noncomputable def onBinOp (e : Expr) (f : Expr → Operator → Expr → Pos → Bool) : Bool := match e with
  | .BinOp l op r p => f l op r p
  | _ => false
theorem onBinOp_inv {e : Expr} {f : Expr → Operator → Expr → Pos → Bool} (h : onBinOp e f = true) : ∃ l op r p, e = .BinOp l op r p ∧ f l op r p = true := by
  cases e with
  | BinOp l op r p => exact ⟨l, op, r, p, rfl, h⟩
  | _ => exact ff h
noncomputable def onUnaryOp (e : Expr) (f : UnaryOp → Expr → Pos → Bool) : Bool := match e with
  | .UnaryOp op a p => f op a p
  | _ => false
theorem onUnaryOp_inv {e : Expr} {f : UnaryOp → Expr → Pos → Bool} (h : onUnaryOp e f = true) : ∃ op a p, e = .UnaryOp op a p ∧ f op a p = true := by
  cases e with
  | UnaryOp op a p => exact ⟨op, a, p, rfl, h⟩
  | _ => exact ff h
noncomputable def onBoolOp (e : Expr) (f : BoolOp → List Expr → Pos → Bool) : Bool := match e with
  | .BoolOp op es p => f op es p
  | _ => false
theorem onBoolOp_inv {e : Expr} {f : BoolOp → List Expr → Pos → Bool} (h : onBoolOp e f = true) : ∃ op es p, e = .BoolOp op es p ∧ f op es p = true := by
  cases e with
  | BoolOp op es p => exact ⟨op, es, p, rfl, h⟩
  | _ => exact ff h
noncomputable def onCompare (e : Expr) (f : Expr → List CmpOp → List Expr → Pos → Bool) : Bool := match e with
  | .Compare l ops rs p => f l ops rs p
  | _ => false
theorem onCompare_inv {e : Expr} {f : Expr → List CmpOp → List Expr → Pos → Bool} (h : onCompare e f = true) : ∃ l ops rs p, e = .Compare l ops rs p ∧ f l ops rs p = true := by
  cases e with
  | Compare l ops rs p => exact ⟨l, ops, rs, p, rfl, h⟩
  | _ => exact ff h
noncomputable def onCall (e : Expr) (f : Expr → List Expr → List Keyword → Pos → Bool) : Bool := match e with
  | .Call fn args kws p => f fn args kws p
  | _ => false
theorem onCall_inv {e : Expr} {f : Expr → List Expr → List Keyword → Pos → Bool} (h : onCall e f = true) : ∃ fn args kws p, e = .Call fn args kws p ∧ f fn args kws p = true := by
  cases e with
  | Call fn args kws p => exact ⟨fn, args, kws, p, rfl, h⟩
  | _ => exact ff h
noncomputable def onAttribute (e : Expr) (f : Expr → Str → Pos → Bool) : Bool := match e with
  | .Attribute o nm p => f o nm p
  | _ => false
theorem onAttribute_inv {e : Expr} {f : Expr → Str → Pos → Bool} (h : onAttribute e f = true) : ∃ o nm p, e = .Attribute o nm p ∧ f o nm p = true := by
  cases e with
  | Attribute o nm p => exact ⟨o, nm, p, rfl, h⟩
  | _ => exact ff h
noncomputable def onSubscript (e : Expr) (f : Expr → Expr → Pos → Bool) : Bool := match e with
  | .Subscript o i p => f o i p
  | _ => false
theorem onSubscript_inv {e : Expr} {f : Expr → Expr → Pos → Bool} (h : onSubscript e f = true) : ∃ o i p, e = .Subscript o i p ∧ f o i p = true := by
  cases e with
  | Subscript o i p => exact ⟨o, i, p, rfl, h⟩
  | _ => exact ff h
noncomputable def onList (e : Expr) (f : List Expr → Pos → Bool) : Bool := match e with
  | .List es p => f es p
  | _ => false
theorem onList_inv {e : Expr} {f : List Expr → Pos → Bool} (h : onList e f = true) : ∃ es p, e = .List es p ∧ f es p = true := by
  cases e with
  | List es p => exact ⟨es, p, rfl, h⟩
  | _ => exact ff h
noncomputable def onTuple (e : Expr) (f : List Expr → Nat → Pos → Bool) : Bool := match e with
  | .Tuple es k p => f es k p
  | _ => false
theorem onTuple_inv {e : Expr} {f : List Expr → Nat → Pos → Bool} (h : onTuple e f = true) : ∃ es k p, e = .Tuple es k p ∧ f es k p = true := by
  cases e with
  | Tuple es k p => exact ⟨es, k, p, rfl, h⟩
  | _ => exact ff h
noncomputable def onListComp (e : Expr) (f : Expr → List Comprehension → Scope → Pos → Bool) : Bool := match e with
  | .ListComp elt gs scope p => f elt gs scope p
  | _ => false
theorem onListComp_inv {e : Expr} {f : Expr → List Comprehension → Scope → Pos → Bool} (h : onListComp e f = true) : ∃ elt gs scope p, e = .ListComp elt gs scope p ∧ f elt gs scope p = true := by
  cases e with
  | ListComp elt gs scope p => exact ⟨elt, gs, scope, p, rfl, h⟩
  | _ => exact ff h
noncomputable def onDict (e : Expr) (f : List (Option Expr) → List Expr → Pos → Bool) : Bool := match e with
  | .Dict ks vs p => f ks vs p
  | _ => false
theorem onDict_inv {e : Expr} {f : List (Option Expr) → List Expr → Pos → Bool} (h : onDict e f = true) : ∃ ks vs p, e = .Dict ks vs p ∧ f ks vs p = true := by
  cases e with
  | Dict ks vs p => exact ⟨ks, vs, p, rfl, h⟩
  | _ => exact ff h
noncomputable def onSlice (e : Expr) (f : Option Expr → Option Expr → Option Expr → Pos → Bool) : Bool := match e with
  | .Slice l u st p => f l u st p
  | _ => false
theorem onSlice_inv {e : Expr} {f : Option Expr → Option Expr → Option Expr → Pos → Bool} (h : onSlice e f = true) : ∃ l u st p, e = .Slice l u st p ∧ f l u st p = true := by
  cases e with
  | Slice l u st p => exact ⟨l, u, st, p, rfl, h⟩
  | _ => exact ff h
noncomputable def gName (kn : String → Bool) (sc : Scope) (f : String) (e : Expr) : Bool := onName e fun id _ => id == Str.ofString f && isGlob sc id && !(id == ("__debug__" : Str)) && kn f
noncomputable def isName (e : Expr) : Bool := onName e fun _ _ => true
theorem isName_inv {e : Expr} (h : isName e = true) : ∃ id p, e = .Name id p := let ⟨id, p, e, _⟩ := onName_inv h; ⟨id, p, e⟩
noncomputable def one {α : Type} (l : List α) (f : α → Bool) : Bool := match l with
  | [] => false
  | a :: r => r.isEmpty && f a
noncomputable def two {α : Type} (l : List α) (f g : α → Bool) : Bool := match l with
  | [] => false
  | a :: r => f a && one r g
theorem one_inv {α : Type} {l : List α} {f : α → Bool} (h : one l f = true) : ∃ a, l = [a] ∧ f a = true := by
  cases l with
  | nil => cases h
  | cons a r =>
    have h : (r.isEmpty && f a) = true := h
    rw [Bool.and_eq_true, List.isEmpty_iff] at h
    exact ⟨a, by rw [h.1], h.2⟩
theorem two_inv {α : Type} {l : List α} {f g : α → Bool} (h : two l f g = true) : ∃ a b, l = [a, b] ∧ f a = true ∧ g b = true := by
  cases l with
  | nil => cases h
  | cons a r =>
    have h : (f a && one r g) = true := h
    rw [Bool.and_eq_true] at h
    obtain ⟨b, rfl, h2⟩ := one_inv h.2
    exact ⟨a, b, rfl, h.1, h2⟩
theorem and_inv {a b : Bool} (h : (a && b) = true) : a = true ∧ b = true := by rwa [Bool.and_eq_true] at h
noncomputable def genName (x : Str) (g : Comprehension) : Bool := onName g.target (fun id _ => id == x) && (noSet g.iter && (g.ifs.isEmpty && g.is_async == 0))
theorem genName_inv {x : Str} {t iter : Expr} {ifs : List Expr} {as : Int} (h : genName x ⟨t, iter, ifs, as⟩ = true) : ∃ p, t = .Name x p ∧ noSet iter = true ∧ ifs = [] ∧ as = 0 := by
  obtain ⟨h1, h2⟩ := and_inv h
  obtain ⟨h2, h3⟩ := and_inv h2
  obtain ⟨h3, h4⟩ := and_inv h3
  obtain ⟨id, p, e, h5⟩ := onName_inv h1
  have e1 := beq_iff_eq.mp h5
  subst e1
  exact ⟨p, e, h2, List.isEmpty_iff.mp h3, beq_iff_eq.mp h4⟩
noncomputable def isNone : E → Bool
  | .none => true
  | _ => false
noncomputable def part (l : Option Expr) (c : E) (f : Expr → Bool) : Bool := match l with
  | some e => f e
  | Option.none => isNone c
mutual
noncomputable def isE (kn : String → Bool) (sc : Scope) : E → Expr → Bool
  | .var x, e => onName e fun id _ => vName sc x id
  | .glob x, e => gName kn sc x e
  | .none, e => onConstant e fun c _ _ => c == .none
  | .bool b, e => onConstant e fun c _ _ => c == .bool b
  | .int i, e => onConstant e fun c _ _ => c == .int i
  | .str s, e => onConstant e fun c _ _ => c == .str (Str.ofString s) && PyData.strOk (Str.ofString s)
  | .bin op l r, e => onBinOp e fun l' op' r' _ => op' == opOf op && (isE kn sc l l' && isE kn sc r r')
  | .neg a, e => onUnaryOp e fun op a' _ => op == .USub && isE kn sc a a'
  | .not a, e => onUnaryOp e fun op a' _ => op == .Not && isE kn sc a a'
  | .and es, e => onBoolOp e fun op es' _ => op == .And && isEs kn sc es es'
  | .or es, e => onBoolOp e fun op es' _ => op == .Or && isEs kn sc es es'
  | .cmp l op r, e => onCompare e fun l' ops rs _ => ops == [cmOf op] && (isE kn sc l l' && one rs (isE kn sc r))
  | .cmp2 l o1 m o2 r, e => onCompare e fun l' ops rs _ => ops == [cmOf o1, cmOf o2] && (isE kn sc l l' && two rs (isE kn sc m) (isE kn sc r))
  | .call f args, e => onCall e fun fn args' kws _ => kws.isEmpty && (gName kn sc f fn && isEs kn sc args args')
  | .isinst a T, e => onCall e fun fn args' kws _ => kws.isEmpty && (gName kn sc "isinstance" fn && two args' (isE kn sc a) (gName kn sc T))
  | .meth o m args, e => onCall e fun fn args' kws p => kws.isEmpty && (onAttribute fn (fun o' nm ap => nm == Str.ofString m && (isE kn sc o o' && (isName o' && ap.endLine == p.line))) && (isEs kn sc args args' && (decide (args'.length < 30) && mName m)))
  | .attr o a, e => onAttribute e fun o' nm _ => isName o' && (nm == Str.ofString a && (isE kn sc o o' && attrName a))
  | .idx o i, e => onSubscript e fun o' i' _ => isE kn sc o o' && isE kn sc i i'
  | .slice o lo hi, e => onSubscript e fun o' i' _ => isName o' && (isE kn sc o o' && onSlice i' fun l u st _ => st.isNone && (part l lo (isE kn sc lo) && part u hi (isE kn sc hi)))
  | .list es, e => onList e fun es' _ => isEs kn sc es es' && decide (es.length < 100)
  | .tup es, e => onTuple e fun es' _ _ => isEs kn sc es es' && decide (es.length < 100)
  | .menu es i, e => onSubscript e fun o' i' _ => onList o' (fun es' _ => isEs kn sc es es' && decide (es.length < 100)) && isE kn sc i i'
  | .comp elt x it, e => onListComp e fun elt' gs scope _ => one gs (fun g => genName (Str.ofString x) g && isE kn sc it g.iter) && (compOk sc scope (Str.ofString x) && isE kn (relabelS scope sc) elt elt')
  | .dict0, e => onDict e fun ks vs _ => ks.isEmpty && vs.isEmpty
noncomputable def isEs (kn : String → Bool) (sc : Scope) : List E → List Expr → Bool
  | [], es => match es with | [] => true | _ => false
  | c :: cs, es => match es with | e :: es => isE kn sc c e && isEs kn sc cs es | [] => false
end
section
variable {kn : String → Bool} {sc : Scope} {e : Expr}
theorem isE_dict0 (h : isE kn sc .dict0 e = true) : ∃ p, e = .Dict [] [] p := by
  obtain ⟨ks, vs, p, rfl, h⟩ := onDict_inv h
  exact ⟨p, by rw [List.isEmpty_iff.mp (and_inv h).1, List.isEmpty_iff.mp (and_inv h).2]⟩
theorem isE_var {x : String} (h : isE kn sc (.var x) e = true) : ∃ id p, e = .Name id p ∧ vName sc x id = true := onName_inv h
theorem isE_none (h : isE kn sc .none e = true) : ∃ k p, e = .Constant .none k p :=
  let ⟨_, k, p, e1, e2⟩ := onConstant_inv h; ⟨k, p, beq_iff_eq.mp e2 ▸ e1⟩
theorem isE_bool {b : Bool} (h : isE kn sc (.bool b) e = true) : ∃ k p, e = .Constant (.bool b) k p :=
  let ⟨_, k, p, e1, e2⟩ := onConstant_inv h; ⟨k, p, beq_iff_eq.mp e2 ▸ e1⟩
theorem isE_int {i : Int} (h : isE kn sc (.int i) e = true) : ∃ k p, e = .Constant (.int i) k p :=
  let ⟨_, k, p, e1, e2⟩ := onConstant_inv h; ⟨k, p, beq_iff_eq.mp e2 ▸ e1⟩
theorem isE_str {x : String} (h : isE kn sc (.str x) e = true) : ∃ k p, e = .Constant (.str (Str.ofString x)) k p ∧ PyData.strOk (Str.ofString x) = true :=
  let ⟨_, k, p, e1, e2⟩ := onConstant_inv h; ⟨k, p, beq_iff_eq.mp (and_inv e2).1 ▸ e1, (and_inv e2).2⟩
theorem isE_bin {op : Op} {l r : E} (h : isE kn sc (.bin op l r) e = true) : ∃ l' r' p, e = .BinOp l' (opOf op) r' p ∧ isE kn sc l l' = true ∧ isE kn sc r r' = true :=
  let ⟨l', _, r', p, e1, e2⟩ := onBinOp_inv h; ⟨l', r', p, beq_iff_eq.mp (and_inv e2).1 ▸ e1, and_inv (and_inv e2).2⟩
theorem isE_neg {a : E} (h : isE kn sc (.neg a) e = true) : ∃ a' p, e = .UnaryOp .USub a' p ∧ isE kn sc a a' = true :=
  let ⟨_, a', p, e1, e2⟩ := onUnaryOp_inv h; ⟨a', p, beq_iff_eq.mp (and_inv e2).1 ▸ e1, (and_inv e2).2⟩
theorem isE_not {a : E} (h : isE kn sc (.not a) e = true) : ∃ a' p, e = .UnaryOp .Not a' p ∧ isE kn sc a a' = true :=
  let ⟨_, a', p, e1, e2⟩ := onUnaryOp_inv h; ⟨a', p, beq_iff_eq.mp (and_inv e2).1 ▸ e1, (and_inv e2).2⟩
theorem isE_and {es : List E} (h : isE kn sc (.and es) e = true) : ∃ es' p, e = .BoolOp .And es' p ∧ isEs kn sc es es' = true :=
  let ⟨_, a', p, e1, e2⟩ := onBoolOp_inv h; ⟨a', p, beq_iff_eq.mp (and_inv e2).1 ▸ e1, (and_inv e2).2⟩
theorem isE_or {es : List E} (h : isE kn sc (.or es) e = true) : ∃ es' p, e = .BoolOp .Or es' p ∧ isEs kn sc es es' = true :=
  let ⟨_, a', p, e1, e2⟩ := onBoolOp_inv h; ⟨a', p, beq_iff_eq.mp (and_inv e2).1 ▸ e1, (and_inv e2).2⟩
theorem isE_cmp {l r : E} {op : Cm} (h : isE kn sc (.cmp l op r) e = true) : ∃ l' r' p, e = .Compare l' [cmOf op] [r'] p ∧ isE kn sc l l' = true ∧ isE kn sc r r' = true := by
  obtain ⟨l', ops, rs, p, rfl, e2⟩ := onCompare_inv h
  obtain ⟨r', rfl, h3⟩ := one_inv (and_inv (and_inv e2).2).2
  exact ⟨l', r', p, by rw [beq_iff_eq.mp (and_inv e2).1], (and_inv (and_inv e2).2).1, h3⟩
theorem isE_cmp2 {l m r : E} {o1 o2 : Cm} (h : isE kn sc (.cmp2 l o1 m o2 r) e = true) : ∃ l' m' r' p, e = .Compare l' [cmOf o1, cmOf o2] [m', r'] p ∧ isE kn sc l l' = true ∧ isE kn sc m m' = true ∧ isE kn sc r r' = true := by
  obtain ⟨l', ops, rs, p, rfl, e2⟩ := onCompare_inv h
  obtain ⟨m', r', rfl, h3, h4⟩ := two_inv (and_inv (and_inv e2).2).2
  exact ⟨l', m', r', p, by rw [beq_iff_eq.mp (and_inv e2).1], (and_inv (and_inv e2).2).1, h3, h4⟩
theorem isE_call {f : String} {args : List E} (h : isE kn sc (.call f args) e = true) : ∃ fn args' p, e = .Call fn args' [] p ∧ gName kn sc f fn = true ∧ isEs kn sc args args' = true := by
  obtain ⟨fn, args', kws, p, rfl, e2⟩ := onCall_inv h
  exact ⟨fn, args', p, by rw [List.isEmpty_iff.mp (and_inv e2).1], and_inv (and_inv e2).2⟩
theorem isE_isinst {a : E} {T : String} (h : isE kn sc (.isinst a T) e = true) : ∃ fn a' t' p, e = .Call fn [a', t'] [] p ∧ gName kn sc "isinstance" fn = true ∧ isE kn sc a a' = true ∧ gName kn sc T t' = true := by
  obtain ⟨fn, args', kws, p, rfl, e2⟩ := onCall_inv h
  obtain ⟨a', t', rfl, h3, h4⟩ := two_inv (and_inv (and_inv e2).2).2
  exact ⟨fn, a', t', p, by rw [List.isEmpty_iff.mp (and_inv e2).1], (and_inv (and_inv e2).2).1, h3, h4⟩
theorem isE_meth {o : E} {m : String} {args : List E} (h : isE kn sc (.meth o m args) e = true) : ∃ o' ap args' p, e = .Call (.Attribute o' (Str.ofString m) ap) args' [] p ∧ isE kn sc o o' = true ∧ isName o' = true ∧ (ap.endLine == p.line) = true ∧ isEs kn sc args args' = true ∧ args'.length < 30 ∧ (m = "append" ∨ m = "count" ∨ m = "clear" ∨ m = "extend") := by
  obtain ⟨fn, args', kws, p, rfl, e2⟩ := onCall_inv h
  obtain ⟨h1, e2⟩ := and_inv e2
  obtain ⟨h2, e2⟩ := and_inv e2
  obtain ⟨h3, e2⟩ := and_inv e2
  obtain ⟨h4, h5⟩ := and_inv e2
  obtain ⟨o', nm, ap, rfl, e3⟩ := onAttribute_inv h2
  obtain ⟨h6, e3⟩ := and_inv e3
  obtain ⟨h7, e3⟩ := and_inv e3
  have h5 : m = "append" ∨ m = "count" ∨ m = "clear" ∨ m = "extend" := by
    unfold mName at h5
    simp only [Bool.or_eq_true, beq_iff_eq] at h5
    rcases h5 with ((h | h) | h) | h
    · exact .inl h
    · exact .inr (.inl h)
    · exact .inr (.inr (.inl h))
    · exact .inr (.inr (.inr h))
  exact ⟨o', ap, args', p, by rw [List.isEmpty_iff.mp h1, beq_iff_eq.mp h6], h7, (and_inv e3).1, (and_inv e3).2, h3, of_decide_eq_true h4, h5⟩
theorem isE_attr {o : E} {a : String} (h : isE kn sc (.attr o a) e = true) : ∃ o' p, e = .Attribute o' (Str.ofString a) p ∧ isName o' = true ∧ isE kn sc o o' = true ∧ attrName a = true := by
  obtain ⟨o', nm, p, rfl, e2⟩ := onAttribute_inv h
  obtain ⟨h1, e2⟩ := and_inv e2
  obtain ⟨h2, e2⟩ := and_inv e2
  exact ⟨o', p, by rw [beq_iff_eq.mp h2], h1, and_inv e2⟩
theorem isE_idx {o i : E} (h : isE kn sc (.idx o i) e = true) : ∃ o' i' p, e = .Subscript o' i' p ∧ isE kn sc o o' = true ∧ isE kn sc i i' = true :=
  let ⟨o', i', p, e1, e2⟩ := onSubscript_inv h; ⟨o', i', p, e1, and_inv e2⟩
theorem isE_slice {o lo hi : E} (h : isE kn sc (.slice o lo hi) e = true) : ∃ o' l u q p, e = .Subscript o' (.Slice l u Option.none q) p ∧ isName o' = true ∧ isE kn sc o o' = true ∧ part l lo (isE kn sc lo) = true ∧ part u hi (isE kn sc hi) = true := by
  obtain ⟨o', i', p, rfl, e2⟩ := onSubscript_inv h
  obtain ⟨h1, e2⟩ := and_inv e2
  obtain ⟨h2, e2⟩ := and_inv e2
  obtain ⟨l, u, st, q, rfl, e3⟩ := onSlice_inv e2
  obtain ⟨h3, e3⟩ := and_inv e3
  exact ⟨o', l, u, q, p, by rw [Option.isNone_iff_eq_none.mp h3], h1, h2, and_inv e3⟩
theorem isE_list {es : List E} (h : isE kn sc (.list es) e = true) : ∃ es' p, e = .List es' p ∧ isEs kn sc es es' = true ∧ es.length < 100 :=
  let ⟨es', p, e1, e2⟩ := onList_inv h; ⟨es', p, e1, (and_inv e2).1, of_decide_eq_true (and_inv e2).2⟩
theorem isE_tup {es : List E} (h : isE kn sc (.tup es) e = true) : ∃ es' k p, e = .Tuple es' k p ∧ isEs kn sc es es' = true ∧ es.length < 100 :=
  let ⟨es', k, p, e1, e2⟩ := onTuple_inv h; ⟨es', k, p, e1, (and_inv e2).1, of_decide_eq_true (and_inv e2).2⟩
theorem isE_menu {es : List E} {i : E} (h : isE kn sc (.menu es i) e = true) : ∃ es' q i' p, e = .Subscript (.List es' q) i' p ∧ isEs kn sc es es' = true ∧ es.length < 100 ∧ isE kn sc i i' = true := by
  obtain ⟨o', i', p, rfl, e2⟩ := onSubscript_inv h
  obtain ⟨es', q, rfl, e3⟩ := onList_inv (and_inv e2).1
  exact ⟨es', q, i', p, rfl, (and_inv e3).1, of_decide_eq_true (and_inv e3).2, (and_inv e2).2⟩
theorem isE_comp {el it : E} {x : String} (h : isE kn sc (.comp el x it) e = true) : ∃ elt px iter scope p, e = .ListComp elt [⟨.Name (Str.ofString x) px, iter, [], 0⟩] scope p ∧ isE kn sc it iter = true ∧ noSet iter = true ∧ compOk sc scope (Str.ofString x) = true ∧ isE kn (relabelS scope sc) el elt = true := by
  obtain ⟨elt, gs, scope, p, rfl, e2⟩ := onListComp_inv h
  obtain ⟨h1, e3⟩ := and_inv e2
  obtain ⟨g, rfl, h4⟩ := one_inv h1
  obtain ⟨h4, h5⟩ := and_inv h4
  obtain ⟨t, iter, ifs, as⟩ := g
  obtain ⟨px, rfl, h6, rfl, rfl⟩ := genName_inv h4
  exact ⟨elt, px, iter, scope, p, rfl, h5, h6, and_inv e3⟩
end
theorem isE_plain {kn : String → Bool} {sc : Scope} {c : E} {e : Expr} (h : isE kn sc c e = true) : plainE e = true := by
  cases e with
  | Starred => cases c <;> exact ff h
  | Set => cases c <;> exact ff h
  | Slice => cases c <;> exact ff h
  | _ => rfl

theorem star_plain {e : Expr} {rest : List Expr} {env : Env} (h : plainE e = true) : starEach (e :: rest) env = (false, eval e env) :: starEach rest env := by
  cases e <;> first | rfl | cases h
theorem marks_plain {op : CmpOp} {e : Expr} (h : plainE e = true) : behindInMarks op e = false := by
  cases e <;> first | rfl | cases h
theorem subscripted_plain {e : Expr} (h : plainE e = true) (a b : Value) : subscripted e false a b = operate [a, b] (getItem a b) := by
  cases e <;> first | rfl | cases h
end Mine

/-! Sim9 -/
namespace Mine
open PySem PyProof.Rows PySem.W

noncomputable def CallOK (X : Cx) (n : Nat) (f : String) (ws : List V) (H : Hp) (r : R V) : Prop :=
  ∃ fv, X.mg (Str.ofString f) = some fv ∧ Keepable X fv ∧ ∀ (A : Around) (st : List Env) (η : List Addr) (s : Shared) (ms : List Value), Room n A → A.handled = Option.none → Inv X η H s.heap → Stk X η A st s.heap →
    ws.length = ms.length → (∀ p ∈ ws.zip ms, VR X η s.heap p.1 p.2) →
    codeAny X.M A (.call fv ⟨ms, []⟩) (fun res s' => match res with
      | .ok (.ret mv) => RetAt X st η s r mv s'
      | .ok _ => False
      | .error ev => RaiseAt X st η s r ev s') s

structure SoundFn (X : Cx) (n : Nat) (Γ : Fn) : Prop where
  const : ∀ x v, Γ.const x = some v → ∃ mv, Loads X.mg X.mb x mv ∧ ∀ η h, VR X η h v mv
  call : ∀ f ws H, Γ.call f ws H ≠ .stuck → CallOK X n f ws H (Γ.call f ws H)

theorem R.bind_assoc {α β γ : Type} (x : R α) (f : α → Hp → R β) (g : β → Hp → R γ) : (x.bind f).bind g = x.bind fun a H => (f a H).bind g := by cases x <;> rfl
theorem R.bind_ok_self {α : Type} (x : R α) : (x.bind fun a H => .ok a H) = x := by cases x <;> rfl
theorem truthR_bind {α : Type} (x : R α) (f : α → Hp → R V) : truthR (x.bind f) = x.bind fun a H => truthR (f a H) := R.bind_assoc _ _ _

section
variable {X : Cx} {n : Nat} {hd : Bool} {A : Around} {env : Env} {st : List Env} {ρ : Rho} {vs : List (V × Value)} {H : Hp}

theorem Tri.callF {f : String} {fv : Value} {ws : List V} {ms : List Value} {r : R V} (hh : hd = false) (C : CallOK X n f ws H r) (hf : X.mg (Str.ofString f) = some fv) (hl : ws.length = ms.length) (hw : ∀ p ∈ ws.zip ms, p ∈ vs) :
    Tri X n hd A env st ρ vs (PySem.call fv ms) H r rV := by
  intro hs η s a hv
  obtain ⟨fv', e, _, C⟩ := C
  rw [hf] at e; cases e
  refine wpAny_call (codeAny_mono (C A st η s ms a.room (a.hand hh) a.inv a.stk hl fun p hp => hv p (hw p hp)) fun res s' q => ?_)
  cases res with
  | error ev => exact q
  | ok fl =>
    cases fl with
    | ret mv =>
      obtain ⟨v, H', e, P⟩ := q
      refine ⟨v, H', e, trivial, ?_⟩
      obtain ⟨η', h', tk, q1, q2, q3, q4⟩ := P
      exact ⟨η', h', tk, q1, q2, q3, fun p hp => by rw [rV, List.mem_singleton] at hp; subst hp; exact q4⟩
    | _ => exact q

theorem Tri.rel_of {α β : Type} {m : Sem α} {r r' : R β} {rel : β → α → Prop × List (V × Value)} (h : Tri X n hd A env st ρ vs m H r rel) (e : r = r') : Tri X n hd A env st ρ vs m H r' rel := e ▸ h
end

theorem isEs_cons {kn : String → Bool} {sc : Scope} {c : E} {cs : List E} {e : Expr} {es : List Expr} : isEs kn sc (c :: cs) (e :: es) = (isE kn sc c e && isEs kn sc cs es) := rfl
theorem isEs_nil {kn : String → Bool} {sc : Scope} {c : E} {cs : List E} : isEs kn sc (c :: cs) [] = false := rfl

theorem gName_inv {kn : String → Bool} {sc : Scope} {f : String} {e : Expr} (h : gName kn sc f e = true) : ∃ pos, e = .Name (Str.ofString f) pos ∧ isGlob sc (Str.ofString f) = true ∧ (Str.ofString f == ("__debug__" : Str)) = false ∧ kn f = true := by
  obtain ⟨id, p, rfl, h0⟩ := onName_inv h
  simp only [Bool.and_eq_true, beq_iff_eq, Bool.not_eq_true'] at h0
  obtain ⟨⟨⟨rfl, h1⟩, h2⟩, h3⟩ := h0
  exact ⟨_, rfl, h1, h2, h3⟩

section
variable {X : Cx} {n : Nat} {A : Around} {st : List Env} {Γ : Fn}

theorem any_plain {kn : String → Bool} {env : Env} {pos : Pos} : ∀ {cs : List E} {es : List Expr}, isEs kn env.scope cs es = true → (backTo pos (starEach es env)).any (·.1) = false
  | [], [], _ => rfl
  | [], _ :: _, h => by cases h
  | _ :: _, [], h => by rw [isEs_nil] at h; cases h
  | c :: cs, e :: es, h => by
    rw [isEs_cons, Bool.and_eq_true] at h
    rw [star_plain (isE_plain h.1), backTo_cons, List.any_cons, any_plain h.2]; rfl

theorem builtin_name {f : String} {ws : List V} {H : Hp} (h : builtin f ws H ≠ .stuck) : ∃ v, biVal f = some v := by
  unfold builtin at h
  by_cases h1 : f = "len"
  · subst h1; exact ⟨_, rfl⟩
  by_cases h2 : f = "abs"
  · subst h2; exact ⟨_, rfl⟩
  by_cases h3 : f = "min"
  · subst h3; exact ⟨_, rfl⟩
  by_cases h4 : f = "max"
  · subst h4; exact ⟨_, rfl⟩
  by_cases h5 : f = "range"
  · subst h5; exact ⟨_, rfl⟩
  by_cases h6 : f = "list"
  · subst h6; exact ⟨_, rfl⟩
  by_cases h7 : f = "int"
  · subst h7; exact ⟨_, rfl⟩
  rw [if_neg h1, if_neg h2, if_neg h3, if_neg h4, if_neg h5, if_neg h6, if_neg h7] at h
  exact absurd rfl h

theorem evEs_length {ρ : Rho} : ∀ {cs : List E} {H H1 : Hp} {ws : List V}, evEs Γ ρ cs H = .ok ws H1 → ws.length = cs.length
  | [], H, H1, ws, e => by rw [evEs_nil] at e; cases e; rfl
  | c :: cs, H, H1, ws, e => by
    rw [evEs_cons] at e
    cases h1 : evE Γ ρ c H with
    | ok v H2 =>
      rw [h1] at e
      simp only [R.bind_ok] at e
      cases h2 : evEs Γ ρ cs H2 with
      | ok vs H3 =>
        rw [h2] at e
        cases e
        rw [List.length_cons, List.length_cons, evEs_length h2]
      | raise => rw [h2] at e; cases e
      | stuck => rw [h2] at e; cases e
    | raise => rw [h1] at e; cases e
    | stuck => rw [h1] at e; cases e

theorem isinst_tail {hd : Bool} {env : Env} {ρ : Rho} {vs : List (V × Value)} {H : Hp} {kn : String → Bool} {a : E} {a' : Expr} {T : String} {pt : Pos} {tv : Value} {r : R V} (S : SoundFn X n Γ) (h1 : isE kn env.scope a a' = true) (hgt : isGlob env.scope (Str.ofString T) = true)
    (hdt : (Str.ofString T == ("__debug__" : Str)) = false) (hlt : Loads X.mg X.mb T tv) (hkt : X.kn T = true) (pos : Pos) (ih : Tri X n hd A env st ρ vs (eval a' env) H r rV) :
    Tri X n hd A env st ρ vs (PySem.callWith pos (.builtin "isinstance") [] (backTo pos ((false, eval a' env) :: starEach [.Name (Str.ofString T) pt] env)) []) H
      (R.bind (r.bind fun v H1 => .ok [v] H1) fun ws H1 => match ws with | [v] => ofO H1 ((isinst v T H1).map .bool) | _ => .stuck) rV := by
  intro hs η s a0 hv
  refine PySem.Calls.callWith_builtin rfl (PySem.Calls.evalArgs_plain (PySem.Calls.spliced_cons ?_))
  have hr : r ≠ .stuck := by rintro rfl; exact hs rfl
  refine wpAny_mono (ih hr η s a0 hv) (fun m s1 hx => ?_) fun ev s1 hx => ?_
  · obtain ⟨v, H1, rfl, _, η1, h', tk, rfl, i, stp, hp⟩ := hx
    have a1 := a0.step stp i tk
    refine PySem.Calls.spliced_cons (wpAny_glob a1 rfl hgt hdt hlt (PySem.Calls.spliced_nil ?_))
    have rv := hp (v, m) (List.Mem.head _)
    simp only [R.bind_ok] at hs ⊢
    cases hq : isinst v T H1 with
    | none => rw [hq] at hs; exact absurd rfl hs
    | some b =>
      rw [hq] at hs
      have key : Tri X n hd A env st ρ [(v, m)] (PySem.call (.builtin "isinstance") [m, tv]) H1 (.ok (.bool b) H1) rV := by
        by_cases hT : bTypes.contains T = true
        · have hb : biVal T = some (.type T) := by
            have hT' : T = "int" ∨ T = "bool" ∨ T = "tuple" ∨ T = "list" := by simpa [bTypes] using hT
            rcases hT' with rfl | rfl | rfl | rfl <;> rfl
          have : tv = .type T := hlt.det (.inr (X.bi T _ hb hkt))
          subst this
          exact isinst_ok (List.Mem.head _) hT hq
        · exact isinst_own (List.Mem.head _) hT hlt hkt hq
      refine wpAny_mono (key (by intro q; cases q) η1 _ a1 (fun p hp' => by rw [List.mem_singleton] at hp'; subst hp'; exact rv)) (fun y s2 hy => ?_) fun ev s2 hy => ?_
      · obtain ⟨d, H2, e, hrel', hP⟩ := hy
        exact ⟨d, H2, e, hrel', hP.trans stp fun _ _ q => q⟩
      · obtain ⟨c, H2, e, hP⟩ := hy
        cases e
  · obtain ⟨c, H1, rfl, hP⟩ := hx
    exact ⟨c, H1, rfl, hP⟩

theorem Tri.truthy' {hd : Bool} {env : Env} {ρ : Rho} {vs : List (V × Value)} {H : Hp} {r : R V} {m : Sem Value} (h : Tri X n hd A env st ρ vs m H r rV) :
    Tri X n hd A env st ρ vs (m >>= fun c => PySem.holding [c] (PySem.truthy c)) H (truthR r) rB :=
  Tri.bind h fun v H1 mv _ _ => Tri.holding (Tri.truthy (List.mem_append.mpr (.inr (List.Mem.head _))))

theorem isNone_inv {e : E} (h : isNone e = true) : e = .none := by cases e <;> first | rfl | cases h
theorem kind_list {v : V} {mv : Value} {H : Hp} {η : List Addr} {s : Shared} (i : Inv X η H s.heap) (r : VR X η s.heap v mv) (e : kindV v H = some "list") : s.TypeIs mv "list" ∧ ∀ a, mv = .ref a → ∃ ob, s.heap.get? a = some ob ∧ ob.dict = Option.none := by
  have key : (match listAt v H with | some _ => some "list" | Option.none => Option.none) = some "list" → s.TypeIs mv "list" ∧ ∀ a, mv = .ref a → ∃ ob, s.heap.get? a = some ob ∧ ob.dict = Option.none := fun e => by
    cases hx : listAt v H with
    | none => rw [hx] at e; cases e
    | some xs =>
      obtain ⟨a, items, c, rfl, g, r, l⟩ := vr_list i r hx
      exact ⟨⟨_, g, rfl⟩, fun a q => by cases q; exact ⟨_, g, rfl⟩⟩
  cases v with
  | bool => simp [kindV] at e
  | int => simp [kindV] at e
  | tup => simp [kindV] at e
  | _ => exact key e

theorem meth_tail {hd : Bool} {env : Env} {ρ : Rho} {H : Hp} {o' : Expr} {m : String} {ap p : Pos} {args' : List Expr} {r1 : R V} {f : Hp → R (List V)} (hn : isName o' = true) (hline : (ap.endLine == p.line) = true) (hp : (backTo p (starEach args' env)).any (·.1) = false) (hlen : args'.length < 30)
    (hm : m = "append" ∨ m = "count" ∨ m = "clear" ∨ m = "extend") (h1 : Tri X n hd A env st ρ [] (eval o' env) H r1 rV) (h2 : ∀ H1, Tri X n hd A env st ρ [] (spliced (backTo p (starEach args' env))) H1 (f H1) rL) :
    Tri X n hd A env st ρ [] (eval (.Call (.Attribute o' (Str.ofString m) ap) args' [] p) env) H (r1.bind fun v H1 => match kindV v H1 with
      | some T => if methKnown T m then (f H1).bind fun vs H2 => meth T v m vs H2 else .stuck
      | Option.none => .stuck) rV := by
  intro hs η s a hv
  obtain ⟨id, pn, rfl⟩ := isName_inv hn
  have hall : (backTo p (starEach args' env)).all (fun x => !x.1) = true := by
    rw [List.all_eq_true]
    intro y hy
    have := List.any_eq_false.mp hp y hy
    simpa using this
  have slot : Slot "list" (Str.ofString m) ("list." ++ m) ∧ typeOf (.builtin ("list." ++ m)) = pure (.type "method_descriptor") := by
    rcases hm with rfl | rfl | rfl | rfl
    · exact ⟨F.slot_list_append, F.type_list_append⟩
    · exact ⟨F.slot_list_count, F.type_list_count⟩
    · exact ⟨F.slot_list_clear, F.type_list_clear⟩
    · exact ⟨F.slot_list_extend, F.type_list_extend⟩
  refine wpAny_Call_method (T := "list") (id := "list." ++ m) rfl ?_ hline F.plainAttrs_list slot.1 slot.2 ?_
  · rw [hall, show backToKw p (keywordEach [] env) = [] from rfl]
    simpa using hlen
  have hr : r1 ≠ .stuck := by rintro rfl; exact hs rfl
  refine wpAny_mono (h1 hr η s a hv) (fun mo s1 hx => ?_) fun ev s1 hx => ?_
  · obtain ⟨v, H1, rfl, _, η1, h', tk, rfl, i, stp, pv⟩ := hx
    have a1 := a.step stp i tk
    have rv : VR X η1 h' v mo := pv (v, mo) (List.Mem.head _)
    simp only [R.bind_ok] at hs ⊢
    cases hkv : kindV v H1 with
    | none => rw [hkv] at hs; exact absurd rfl hs
    | some T =>
      rw [hkv] at hs
      simp only at hs ⊢
      by_cases hmk : methKnown T m = true
      · rw [if_pos hmk] at hs ⊢
        have hT : T = "list" := by
          unfold methKnown at hmk
          simp only [Bool.and_eq_true, beq_iff_eq] at hmk
          exact hmk.1
        subst hT
        obtain ⟨k1, k2⟩ := kind_list (s := { s with heap := h', toks := tk }) i rv hkv
        refine ⟨k1, k2, ?_⟩
        have key : Tri X n hd A env st ρ [(v, mo)] (PySem.callWith p (.builtin ("list." ++ m)) [mo] (backTo p (starEach args' env)) []) H1 ((f H1).bind fun vs H2 => meth "list" v m vs H2) rV := by
          refine Tri.callWith (keepable_builtin X _) hp ((h2 H1).fewer (fun _ q => nomatch q)) fun ws H2 ms _ hl => ?_
          exact meth_ok rfl hm (List.mem_append.mpr (.inl (List.Mem.head _))) hl fun q hq => List.mem_append.mpr (.inr hq)
        refine wpAny_mono (key hs η1 _ a1 (fun q hq => by rw [List.mem_singleton] at hq; subst hq; exact rv)) (fun y s2 hy => ?_) fun ev s2 hy => ?_
        · obtain ⟨d, H2, e, hrel', hP⟩ := hy
          exact ⟨d, H2, e, hrel', hP.trans stp fun _ _ q => q⟩
        · obtain ⟨c, H2, e, hP⟩ := hy
          exact ⟨c, H2, e, hP.trans stp fun _ _ q => q.older stp.alive⟩
      · rw [if_neg hmk] at hs; exact absurd rfl hs
  · obtain ⟨c, H1, rfl, hP⟩ := hx
    exact ⟨c, H1, rfl, hP⟩

mutual
theorem evE_ok (S : SoundFn X n Γ) : ∀ (c : E) (e : Expr) (env : Env) (ρ : Rho) (H : Hp), isE X.kn env.scope c e = true → Tri X n Γ.hd A env st ρ [] (eval e env) H (evE Γ ρ c H) rV
  | .var x, e, env, ρ, H, h => by
    obtain ⟨id, p, rfl, hv⟩ := isE_var h
    unfold vName at hv
    simp only [Bool.and_eq_true, beq_iff_eq, Bool.not_eq_true'] at hv
    rw [evE_var]
    exact Tri.name hv.1.1.1 hv.1.1.2 hv.1.2 hv.2
  | .glob x, e, env, ρ, H, h => by
    obtain ⟨pos, rfl, hg, hd1, hk⟩ := gName_inv h
    rw [evE_glob]
    cases ec : Γ.const x with
    | none => exact Tri.stuck
    | some v =>
      obtain ⟨mv, hl, hr⟩ := S.const x v ec
      refine Tri.reads fun η s Q E at' hv hq => wpAny_glob at' rfl hg hd1 hl (hq mv s.heap s.toks (fun _ _ e => e) trivial fun p hp => ?_)
      rw [rV, List.mem_singleton] at hp; subst hp; exact hr _ _
  | .none, e, env, ρ, H, h => by
    obtain ⟨k, p, rfl⟩ := isE_none h
    exact Tri.const_none
  | .bool b, e, env, ρ, H, h => by
    obtain ⟨k, p, rfl⟩ := isE_bool h
    exact Tri.const_bool
  | .int i, e, env, ρ, H, h => by
    obtain ⟨k, p, rfl⟩ := isE_int h
    exact Tri.const_int
  | .str x, e, env, ρ, H, h => by
    obtain ⟨k, p, rfl, h2⟩ := isE_str h
    exact Tri.const_str h2
  | .bin op l r, e, env, ρ, H, h => by
    obtain ⟨l', r', pos, rfl, h1, h2⟩ := isE_bin h
    rw [evE_bin]
    show Tri _ _ _ _ _ _ _ _ (eval l' env >>= fun a => PySem.holding [a] (eval r' env) >>= fun b => standAt pos >>= fun _ => PySem.operate [a, b] (binaryOp (opOf op) a b)) _ _ _
    refine Tri.bind (evE_ok S l l' env ρ H h1) fun a H1 ma _ _ => ?_
    refine Tri.bind (Tri.holding ((evE_ok S r r' env ρ H1 h2).fewer (fun _ q => nomatch q))) fun b H2 mb _ _ => ?_
    exact Tri.stand (Tri.operate (bin_ok (List.mem_append.mpr (.inl (List.mem_append.mpr (.inr (List.Mem.head _))))) (List.mem_append.mpr (.inr (List.Mem.head _)))))
  | .neg a, e, env, ρ, H, h => by
    obtain ⟨a', pos, rfl, h1⟩ := isE_neg h
    rw [evE_neg]
    show Tri _ _ _ _ _ _ _ _ (eval a' env >>= fun v => standAt pos >>= fun _ => PySem.holding [v] (unaryOp .USub v)) _ _ _
    refine Tri.bind (evE_ok S a a' env ρ H h1) fun v H1 mv _ _ => Tri.stand (Tri.holding ?_)
    cases v with
    | int i =>
      refine Tri.plain fun η s Q E at' hv hq => ?_
      have r := hv _ (List.mem_append.mpr (.inr (List.Mem.head _)))
      cases r
      exact PyProof.Rows.neg_int (hq _ _ (.int _ _))
    | _ => exact Tri.stuck
  | .not a, e, env, ρ, H, h => by
    obtain ⟨a', pos, rfl, h1⟩ := isE_not h
    rw [evE_not]; simp only [truthR, R.bind_assoc]
    show Tri _ _ _ _ _ _ _ _ (eval a' env >>= fun v => standAt pos >>= fun _ => PySem.holding [v] (unaryOp .Not v)) _ _ _
    refine Tri.bind (evE_ok S a a' env ρ H h1) fun v H1 mv _ _ => Tri.stand (Tri.holding ?_)
    show Tri _ _ _ _ _ _ _ _ (PySem.holding [mv] (PySem.truthy mv >>= fun b => Pure.pure (Value.bool (!b)))) _ _ _
    refine Tri.holding (Tri.bind (Tri.truthy (List.mem_append.mpr (.inr (List.Mem.head _)))) fun b H2 b' _ hb => ?_)
    have hb' : b' = b := hb
    subst hb'
    refine Tri.plain fun η s Q E at' hv hq => wpAny_pure (hq _ s.toks (.bool _))
  | .and es, e, env, ρ, H, h => by
    obtain ⟨es', pos, rfl, h1⟩ := isE_and h
    rw [evE_and]
    exact evAnd_ok S es es' env ρ H pos h1
  | .or es, e, env, ρ, H, h => by
    obtain ⟨es', pos, rfl, h1⟩ := isE_or h
    rw [evE_or]
    exact evOr_ok S es es' env ρ H pos h1
  | .cmp l op r, e, env, ρ, H, h => by
    obtain ⟨l', r', pos, rfl, h1, h2⟩ := isE_cmp h
    rw [evE_cmp]
    rw [eval_Compare1, markedBehindIn_of_false (marks_plain (isE_plain h2))]
    refine Tri.bind (evE_ok S l l' env ρ H h1) fun a H1 ma _ _ => ?_
    refine Tri.bind (Tri.holding ((evE_ok S r r' env ρ H1 h2).fewer (fun _ q => nomatch q))) fun b H2 mb _ _ => ?_
    refine Tri.stand (Tri.operate ?_)
    cases ec : cmp op a b H2 with
    | none => exact Tri.stuck
    | some t => exact cmp_ok (List.mem_append.mpr (.inl (List.mem_append.mpr (.inr (List.Mem.head _))))) (List.mem_append.mpr (.inr (List.Mem.head _))) ec
  | .cmp2 l o1 m o2 r, e, env, ρ, H, h => by
    obtain ⟨l', m', r', pos, rfl, h1, h2, h3⟩ := isE_cmp2 h
    rw [evE_cmp2]
    show Tri _ _ _ _ _ _ _ _ (eval l' env >>= fun a => PySem.holding [a] (eval m' env) >>= fun b => standAt pos >>= fun _ => PySem.holding [a, b] (compareOp (cmOf o1) a b) >>= fun c =>
      release [a, b] [c] >>= fun _ => PySem.holding [c, b] (PySem.truthy c) >>= fun t => if t = true then compareChain pos b [cmOf o2] [markedBehindIn (cmOf o2) r' (eval r' env)] else Pure.pure c) _ _ _
    refine Tri.bind (evE_ok S l l' env ρ H h1) fun a H1 ma _ _ => ?_
    refine Tri.bind (Tri.holding ((evE_ok S m m' env ρ H1 h2).fewer (fun _ q => nomatch q))) fun b H2 mb _ _ => ?_
    refine Tri.stand ?_
    cases ec : cmp o1 a b H2 with
    | none => exact Tri.stuck
    | some t =>
      have step := fun (vs : List (V × Value)) (ha : (a, ma) ∈ vs) (hb : (b, mb) ∈ vs) => Tri.holding (l := [ma, mb]) (cmp_ok (X := X) (n := n) (hd := Γ.hd) (A := A) (env := env) (st := st) (ρ := ρ) (H := H2) (vs := vs) ha hb ec)
      show Tri _ _ _ _ _ _ _ _ _ _ (R.bind (.ok (.bool t) H2) fun v H3 => truthR (.ok v H3) |>.bind fun t H3 => if t = true then (evE Γ ρ r H3).bind fun c H4 => ofO H4 ((cmp o2 b c H4).map V.bool) else .ok (.bool false) H3) _
      refine Tri.bind (step _ (List.mem_append.mpr (.inl (List.mem_append.mpr (.inr (List.Mem.head _))))) (List.mem_append.mpr (.inr (List.Mem.head _)))) fun v H3 mv ev _ => ?_
      refine Tri.skip (a₀ := ()) (fun Q E s q Γ' p _ => by show Sem.wp _ _ (release _ _) _ _ _ _; unfold release; rw [Sem.wp_release_go]; exact q) ?_
      refine Tri.bind (Tri.holding (Tri.truthy (List.mem_append.mpr (.inr (List.Mem.head _))))) fun t2 H4 t2' et ht => ?_
      have ht' : t2' = t2 := ht
      subst ht'
      cases t2' with
      | false =>
        cases ev
        have et2 : R.ok t H2 = R.ok false H4 := et
        cases et2
        refine Tri.pure (a := mv) trivial fun p hp => ?_
        rw [rV, List.mem_singleton] at hp; subst hp
        exact List.mem_append.mpr (.inl (List.mem_append.mpr (.inr (List.Mem.head _))))
      | true =>
        show Tri _ _ _ _ _ _ _ _ (PySem.holding [mb] (markedBehindIn (cmOf o2) r' (eval r' env)) >>= fun c => standAt pos >>= fun _ => PySem.operate [mb, c] (compareOp (cmOf o2) mb c)) _ _ _
        rw [markedBehindIn_of_false (marks_plain (isE_plain h3))]
        refine Tri.bind (Tri.holding ((evE_ok S r r' env ρ H4 h3).fewer (fun _ q => nomatch q))) fun c H5 mc _ _ => ?_
        refine Tri.stand (Tri.operate ?_)
        cases ec2 : cmp o2 b c H5 with
        | none => exact Tri.stuck
        | some t => exact cmp_ok (List.mem_append.mpr (.inl (List.mem_append.mpr (.inl (List.mem_append.mpr (.inl (List.mem_append.mpr (.inr (List.Mem.head _))))))))) (List.mem_append.mpr (.inr (List.Mem.head _))) ec2
  | .call f args, e, env, ρ, H, h => by
    obtain ⟨fn, args', pos, rfl, h0, h2⟩ := isE_call h
    obtain ⟨pf, rfl, hg, hd1, hk⟩ := gName_inv h0
    obtain ⟨fv, hl⟩ := X.known f hk
    rw [evE_call]
    show Tri _ _ _ _ _ _ _ _ (eval (.Name (Str.ofString f) pf) env >>= fun g => PySem.callWith pos g [] (backTo pos (starEach args' env)) []) _ _ _
    refine Tri.rel_of (r := R.bind (.ok fv H) fun _ H1 => R.bind (evEs Γ ρ args H1) fun ws H1 => if mayCall Γ.hd f = true then match builtin f ws H1 with | .stuck => if Γ.hd = true then .stuck else Γ.call f ws H1 | r => r else .stuck) ?_ rfl
    refine Tri.bind (Tri.glob rfl hg hd1 hl) fun g H1 mg eg hg' => ?_
    have hg2 : mg = g := hg'
    cases eg
    subst hg2
    refine Tri.callWith (X.kp f mg hk hl) (any_plain h2) ((evEs_ok S args args' env ρ H pos h2).fewer (fun _ q => nomatch q)) fun ws H2 ms _ hlen => ?_
    rw [List.nil_append]
    split
    · rename_i hmay
      have hw : ∀ p ∈ ws.zip ms, p ∈ [] ++ (rEq mg mg).2 ++ ws.zip ms := fun p hp => List.mem_append.mpr (.inr hp)
      cases hb : builtin f ws H2 with
      | stuck =>
        dsimp only
        split
        · exact Tri.stuck
        · rename_i hh
          by_cases hs : Γ.call f ws H2 = .stuck
          · rw [hs]; exact Tri.stuck
          · have C := S.call f ws H2 hs
            obtain ⟨fv', e', _⟩ := id C
            have : mg = fv' := hl.det (.inl e')
            subst this
            exact Tri.callF (Bool.eq_false_iff.mpr hh) C e' hlen hw
      | ok v H3 =>
        dsimp only
        obtain ⟨bv, hbv⟩ := builtin_name (f := f) (ws := ws) (H := H2) (by rw [hb]; intro q; cases q)
        have : mg = bv := hl.det (.inr (X.bi f bv hbv hk))
        subst this
        rw [← hb]
        exact builtin_ok hbv hmay hlen hw
      | raise c H3 =>
        dsimp only
        obtain ⟨bv, hbv⟩ := builtin_name (f := f) (ws := ws) (H := H2) (by rw [hb]; intro q; cases q)
        have : mg = bv := hl.det (.inr (X.bi f bv hbv hk))
        subst this
        rw [← hb]
        exact builtin_ok hbv hmay hlen hw
    · exact Tri.stuck
  | .isinst a T, e, env, ρ, H, h => by
    obtain ⟨fn, a', t', pos, rfl, h0, h1, h2⟩ := isE_isinst h
    obtain ⟨pf, rfl, hg, hd1, hk⟩ := gName_inv h0
    obtain ⟨pt, rfl, hgt, hdt, hkt⟩ := gName_inv h2
    have hl : Loads X.mg X.mb "isinstance" (.builtin "isinstance") := .inr (X.bi _ _ rfl hk)
    obtain ⟨tv, hlt⟩ := X.known T hkt
    rw [evE_isinst]
    show Tri _ _ _ _ _ _ _ _ (eval (.Name (Str.ofString "isinstance") pf) env >>= fun g => PySem.callWith pos g [] (backTo pos (starEach [a', .Name (Str.ofString T) pt] env)) []) _ _ _
    refine Tri.rel_of (r := R.bind (.ok (Value.builtin "isinstance") H) fun _ H1 => R.bind ((evE Γ ρ a H1).bind fun v H1 => .ok [v] H1) fun ws H1 => match ws with | [v] => ofO H1 ((isinst v T H1).map .bool) | _ => .stuck) ?_ (by simp only [R.bind_ok, R.bind_assoc])
    refine Tri.bind (Tri.glob rfl hg hd1 hl) fun g H1 mg eg hg' => ?_
    have hg2 : mg = g := hg'
    cases eg
    subst hg2
    rw [star_plain (isE_plain h1)]
    refine isinst_tail S h1 hgt hdt hlt hkt pos ?_
    exact (evE_ok S a a' env ρ H h1).fewer (fun _ q => nomatch q)
  | .idx o i, e, env, ρ, H, h => by
    obtain ⟨o', i', pos, rfl, h1, h2⟩ := isE_idx h
    rw [evE_idx]
    show Tri _ _ _ _ _ _ _ _ (eval o' env >>= fun a => PySem.holding [a] (eval i' env) >>= fun b => standAt pos >>= fun _ => subscriptTail o' i' a b) _ _ _
    refine Tri.bind (evE_ok S o o' env ρ H h1) fun a H1 ma _ _ => ?_
    refine Tri.bind (Tri.holding ((evE_ok S i i' env ρ H1 h2).fewer (fun _ q => nomatch q))) fun b H2 mb _ _ => ?_
    exact Tri.stand (index_ok (List.mem_append.mpr (.inl (List.mem_append.mpr (.inr (List.Mem.head _))))) (List.mem_append.mpr (.inr (List.Mem.head _))) (subscripted_plain (isE_plain h2)))
  | .tup es, e, env, ρ, H, h => by
    obtain ⟨es', k, pos, rfl, h1, h2⟩ := isE_tup h
    rw [evE_tup]
    show Tri _ _ _ _ _ _ _ _ (standAt pos >>= fun _ => spliced (backTo pos (starEach es' env)) >>= fun ms => PySem.newTuple ms) _ _ _
    refine Tri.stand (Tri.bind (evEs_ok S es es' env ρ H pos h1) fun ws H1 ms ew hl => ?_)
    exact Tri.newTuple hl (fun p hp => List.mem_append.mpr (.inr hp)) (by rw [evEs_length ew]; unfold line; omega)
  | .list es, e, env, ρ, H, h => by
    obtain ⟨es', pos, rfl, h1, h2⟩ := isE_list h
    rw [evE_list]
    show Tri _ _ _ _ _ _ _ _ (standAt pos >>= fun _ => spliced (backTo pos (starEach es' env)) >>= fun ms => PySem.newList ms) _ _ _
    refine Tri.stand (Tri.bind (evEs_ok S es es' env ρ H pos h1) fun ws H1 ms ew hl => ?_)
    exact Tri.newList hl (fun p hp => List.mem_append.mpr (.inr hp)) (by rw [evEs_length ew]; unfold line; omega)
  | .menu es i, e, env, ρ, H, h => by
    obtain ⟨es', lpos, i', pos, rfl, h1, h2, h3⟩ := isE_menu h
    rw [evE_menu]
    show Tri _ _ _ _ _ _ _ _ ((standAt lpos >>= fun _ => spliced (backTo lpos (starEach es' env)) >>= fun ms => PySem.newList ms) >>= fun a => PySem.holding [a] (eval i' env) >>= fun b => standAt pos >>= fun _ => subscriptTail (.List es' lpos) i' a b) _ _ _
    refine Tri.rel_of (r := ((evEs Γ ρ es H).bind fun ws H1 => .ok (V.lst ws) H1).bind fun o H1 => (evE Γ ρ i H1).bind fun k H2 => index o k H2) ?_ (by simp only [R.bind_assoc, R.bind_ok])
    refine Tri.bind (Tri.stand (Tri.bind (evEs_ok S es es' env ρ H lpos h1) fun ws H1 ms ew hl => Tri.hidden hl (fun p hp => List.mem_append.mpr (.inr hp)) (by rw [evEs_length ew]; unfold line; omega))) fun a H1 ma _ _ => ?_
    refine Tri.bind (Tri.holding ((evE_ok S i i' env ρ H1 h3).fewer (fun _ q => nomatch q))) fun b H2 mb _ _ => ?_
    exact Tri.stand (index_ok (List.mem_append.mpr (.inl (List.mem_append.mpr (.inr (List.Mem.head _))))) (List.mem_append.mpr (.inr (List.Mem.head _))) (subscripted_plain (isE_plain h3)))
  | .meth o m args, e, env, ρ, H, h => by
    obtain ⟨o', ap, args', p, rfl, h1, h2, h3, h4, h5, h6⟩ := isE_meth h
    rw [evE_meth]
    exact meth_tail h2 (by simpa using h3) (any_plain h4) h5 h6 (evE_ok S o o' env ρ H h1) fun H1 => evEs_ok S args args' env ρ H1 p h4
  | .attr o a, e, env, ρ, H, h => by
    obtain ⟨o', pos, rfl, h1, h2, h3⟩ := isE_attr h
    obtain ⟨id, p, rfl⟩ := isName_inv h1
    rw [evE_attr]
    show Tri _ _ _ _ _ _ _ _ (eval (.Name id p) env >>= fun v => standAt pos.atName >>= fun _ => PySem.holding [v] (getAttr v (Str.ofString a) true) >>= fun r => Pure.pure () >>= fun _ => Pure.pure r) _ _ _
    refine Tri.bind (evE_ok S o _ env ρ H h2) fun v H1 mv _ _ => Tri.stand ?_
    refine Tri.rel_of (r := (attrV v a H1).bind fun w H2 => .ok w H2) ?_ (R.bind_ok_self _)
    refine Tri.bind (Tri.holding (attr_ok (List.mem_append.mpr (.inr (List.Mem.head _))) h3)) fun w H2 mw _ _ => ?_
    refine Tri.skip (a₀ := ()) (fun _ _ _ q => wpAny_pure q) (Tri.pure trivial fun p hp => List.mem_append.mpr (.inr hp))
  | .slice o lo hi, e, env, ρ, H, h => by
    obtain ⟨o', l, u, p, pos, rfl, h1, h2, h3, h4⟩ := isE_slice h
    obtain ⟨id, pn, rfl⟩ := isName_inv h1
    rw [evE_slice]
    refine slice_ok (evE_ok S o _ env ρ H h2) (fun H1 => ?_) (fun H1 => ?_) (fun _ _ => rfl)
    · cases l with
      | none => rw [isNone_inv h3, evalPart_none]; rw [evE_none]; exact Tri.plain fun _ s _ _ _ _ hq => wpAny_pure (hq _ s.toks .none)
      | some e => rw [evalPart_some]; exact evE_ok S lo e env ρ H1 h3
    · cases u with
      | none => rw [isNone_inv h4, evalPart_none]; rw [evE_none]; exact Tri.plain fun _ s _ _ _ _ hq => wpAny_pure (hq _ s.toks .none)
      | some e => rw [evalPart_some]; exact evE_ok S hi e env ρ H1 h4
  | .comp elt x it, e, env, ρ, H, h => by
    obtain ⟨elt', px, iter, scope, pos, rfl, h1, h2, h3, h4⟩ := isE_comp h
    rw [evE_comp]
    split
    · exact Tri.stuck
    · rename_i hh
      exact comp_ok (f := fun v H' => evE Γ ((x, v) :: ρ) elt H') h3 h2 (Bool.eq_false_iff.mpr hh) (evE_ok S it iter env ρ H h1) fun cl v C' H' => evE_ok S elt elt' (compEnvC scope cl C' env) ((x, v) :: ρ) H' h4
  | .dict0, e, env, ρ, H, h => by
    obtain ⟨p, rfl⟩ := isE_dict0 h
    rw [evE_dict0]
    refine Tri.fresh fun η s Q E at' hv => ?_
    obtain ⟨o, es, ep, ho, r⟩ := Heap.DictOf.new (knd := intKind X.prog X.w) s.heap
    rw [Heap.get?_push_size _ rfl] at ho
    cases ho
    exact ⟨_, rfl, .keys ⟨es, ep, r⟩ rfl (by simp), fun hq => wpAny_Dict_empty (hq s.toks)⟩
theorem evAnd_ok (S : SoundFn X n Γ) : ∀ (cs : List E) (es : List Expr) (env : Env) (ρ : Rho) (H : Hp) (pos : Pos), isEs X.kn env.scope cs es = true → Tri X n Γ.hd A env st ρ [] (boolOp pos .And (evalEach es env)) H (evAnd Γ ρ cs H) rV
  | [], _, _, _, _, _, _ => Tri.stuck
  | [c], es, env, ρ, H, pos, h => by
    cases es with
    | nil => exact ff h
    | cons e es' =>
      rw [isEs_cons, Bool.and_eq_true] at h
      cases es' with
      | nil => exact evE_ok S c e env ρ H h.1
      | cons => exact ff h.2
  | c :: c2 :: cs, es, env, ρ, H, pos, h => by
    cases es with
    | nil => rw [isEs_nil] at h; cases h
    | cons e es' =>
      rw [isEs_cons, Bool.and_eq_true] at h
      obtain ⟨h1, h2⟩ := h
      cases es' with
      | nil => exact ff h2
      | cons e2 es2 =>
        rw [evAnd_cons]; simp only [truthR, R.bind_assoc]
        show Tri _ _ _ _ _ _ _ _ (eval e env >>= fun v => standAt pos >>= fun _ => PySem.holding [v] (PySem.truthy v) >>= fun t => match BoolOp.And, t with
          | .And, false | .Or, true => Pure.pure v
          | _, _ => boolOp pos .And (evalEach (e2 :: es2) env)) _ _ _
        refine Tri.bind (evE_ok S c e env ρ H h1) fun v H1 mv _ _ => Tri.stand ?_
        cases v with
        | bool b =>
          refine Tri.bind (Tri.holding (Tri.truthy (List.mem_append.mpr (.inr (List.Mem.head _))))) fun t H2 t' et ht => ?_
          have ht' : t' = t := ht
          subst ht'
          simp only [truth, ofO] at et
          cases et
          cases b with
          | false =>
            simp only [Bool.false_eq_true, if_false]
            refine Tri.pure trivial fun p hp => ?_
            rw [rV, List.mem_singleton] at hp; subst hp
            exact List.mem_append.mpr (.inl (List.mem_append.mpr (.inr (List.Mem.head _))))
          | true =>
            simp only [if_true]
            exact (evAnd_ok S (c2 :: cs) (e2 :: es2) env ρ _ pos h2).fewer (fun _ q => nomatch q)
        | _ => exact Tri.stuck
theorem evOr_ok (S : SoundFn X n Γ) : ∀ (cs : List E) (es : List Expr) (env : Env) (ρ : Rho) (H : Hp) (pos : Pos), isEs X.kn env.scope cs es = true → Tri X n Γ.hd A env st ρ [] (boolOp pos .Or (evalEach es env)) H (evOr Γ ρ cs H) rV
  | [], _, _, _, _, _, _ => Tri.stuck
  | [c], es, env, ρ, H, pos, h => by
    cases es with
    | nil => exact ff h
    | cons e es' =>
      rw [isEs_cons, Bool.and_eq_true] at h
      cases es' with
      | nil => exact evE_ok S c e env ρ H h.1
      | cons => exact ff h.2
  | c :: c2 :: cs, es, env, ρ, H, pos, h => by
    cases es with
    | nil => rw [isEs_nil] at h; cases h
    | cons e es' =>
      rw [isEs_cons, Bool.and_eq_true] at h
      obtain ⟨h1, h2⟩ := h
      cases es' with
      | nil => exact ff h2
      | cons e2 es2 =>
        rw [evOr_cons]; simp only [truthR, R.bind_assoc]
        show Tri _ _ _ _ _ _ _ _ (eval e env >>= fun v => standAt pos >>= fun _ => PySem.holding [v] (PySem.truthy v) >>= fun t => match BoolOp.Or, t with
          | .And, false | .Or, true => Pure.pure v
          | _, _ => boolOp pos .Or (evalEach (e2 :: es2) env)) _ _ _
        refine Tri.bind (evE_ok S c e env ρ H h1) fun v H1 mv _ _ => Tri.stand ?_
        cases v with
        | bool b =>
          refine Tri.bind (Tri.holding (Tri.truthy (List.mem_append.mpr (.inr (List.Mem.head _))))) fun t H2 t' et ht => ?_
          have ht' : t' = t := ht
          subst ht'
          simp only [truth, ofO] at et
          cases et
          cases b with
          | true =>
            simp only [if_true]
            refine Tri.pure trivial fun p hp => ?_
            rw [rV, List.mem_singleton] at hp; subst hp
            exact List.mem_append.mpr (.inl (List.mem_append.mpr (.inr (List.Mem.head _))))
          | false =>
            simp only [Bool.false_eq_true, if_false]
            exact (evOr_ok S (c2 :: cs) (e2 :: es2) env ρ _ pos h2).fewer (fun _ q => nomatch q)
        | _ => exact Tri.stuck
theorem evEs_ok (S : SoundFn X n Γ) : ∀ (cs : List E) (es : List Expr) (env : Env) (ρ : Rho) (H : Hp) (pos : Pos), isEs X.kn env.scope cs es = true → Tri X n Γ.hd A env st ρ [] (spliced (backTo pos (starEach es env))) H (evEs Γ ρ cs H) rL
  | [], es, env, ρ, H, pos, h => by
    cases es with
    | nil => exact Tri.spliced_nil
    | cons => cases h
  | c :: cs, es, env, ρ, H, pos, h => by
    cases es with
    | nil => rw [isEs_nil] at h; cases h
    | cons e es' =>
      rw [isEs_cons, Bool.and_eq_true] at h
      rw [star_plain (isE_plain h.1)]
      exact Tri.spliced_cons (evE_ok S c e env ρ H h.1) fun v H1 m _ => (evEs_ok S cs es' env ρ H1 pos h.2).fewer (fun _ q => nomatch q)
end
end
end Mine

/-! Sim10 -/
namespace Mine
open PySem PyProof.Rows PySem.W

/-! tests -/
section
variable {X : Cx} {n : Nat} {A : Around} {st : List Env} {Γ : Fn}

noncomputable def plainT : E → Bool
  | .not _ | .and _ | .or _ | .cmp .. | .cmp2 .. => false
  | _ => true

theorem plain_test {kn : String → Bool} {sc : Scope} {c : E} {e : Expr} {env : Env} (h : isE kn sc c e = true)
    (hc : plainT c = true) (w : Sem Value) : isTrue e env w = (w >>= fun v => standAt e.pos >>= fun _ => PySem.holding [v] (truthy v)) := by
  cases e with
  | UnaryOp op x pos =>
    cases op with
    | Not => cases c <;> first | exact ff h | exact ff hc
    | _ => rfl
  | BoolOp op xs pos => cases c <;> first | exact ff h | exact ff hc
  | IfExp => cases c <;> first | exact ff h | exact ff hc
  | Compare l ops rs pos => cases c <;> first | exact ff h | exact ff hc
  | _ => rfl

theorem plainTest_ok {env : Env} {ρ : Rho} {H : Hp} {c : E} {e : Expr} (h : isE X.kn env.scope c e = true) (hc : plainT c = true)
    (ih : Tri X n Γ.hd A env st ρ [] (eval e env) H (evE Γ ρ c H) rV) : Tri X n Γ.hd A env st ρ [] (isTrue e env (eval e env)) H (truthR (evE Γ ρ c H)) rB := by
  rw [plain_test h hc]
  exact Tri.bind ih fun v H1 mv _ _ => Tri.stand (Tri.holding (Tri.truthy (List.mem_append.mpr (.inr (List.Mem.head _)))))

mutual
theorem testE_ok (S : SoundFn X n Γ) : ∀ (c : E) (e : Expr) (env : Env) (ρ : Rho) (H : Hp), isE X.kn env.scope c e = true → Tri X n Γ.hd A env st ρ [] (isTrue e env (eval e env)) H (truthR (evE Γ ρ c H)) rB
  | .not a, e, env, ρ, H, h => by
    obtain ⟨a', pos, rfl, h1⟩ := isE_not h
    show Tri _ _ _ _ _ _ _ _ (isTrue a' env (eval a' env) >>= fun b => Pure.pure (!b)) _ _ _
    refine Tri.rel_of (r := (truthR (evE Γ ρ a H)).bind fun b H1 => .ok (!b) H1) ?_ (by rw [evE_not, truthR_bind]; rfl)
    refine Tri.bind (testE_ok S a a' env ρ H h1) fun b H1 b' _ hb => ?_
    have hb' : b' = b := hb
    subst hb'
    exact Tri.pure rfl fun _ q => nomatch q
  | .and es, e, env, ρ, H, h => by
    obtain ⟨es', pos, rfl, h1⟩ := isE_and h
    rw [evE_and]
    exact testAnd_ok S es es' env ρ H h1
  | .or es, e, env, ρ, H, h => by
    obtain ⟨es', pos, rfl, h1⟩ := isE_or h
    rw [evE_or]
    exact testOr_ok S es es' env ρ H h1
  | .cmp l op r, e, env, ρ, H, h => by
    obtain ⟨l', r', pos, rfl, h1, h2⟩ := isE_cmp h
    rw [isTrue_Compare1, markedBehindIn_of_false (marks_plain (isE_plain h2))]
    rw [evE_cmp]; simp only [truthR_bind]
    refine Tri.bind (evE_ok S l l' env ρ H h1) fun a H1 ma _ _ => ?_
    refine Tri.bind (Tri.holding ((evE_ok S r r' env ρ H1 h2).fewer (fun _ q => nomatch q))) fun b H2 mb _ _ => ?_
    refine Tri.stand (Tri.truthy' (Tri.operate ?_))
    cases ec : cmp op a b H2 with
    | none => exact Tri.stuck
    | some t => exact cmp_ok (List.mem_append.mpr (.inl (List.mem_append.mpr (.inr (List.Mem.head _))))) (List.mem_append.mpr (.inr (List.Mem.head _))) ec
  | .cmp2 l o1 m o2 r, e, env, ρ, H, h => by
    obtain ⟨l', m', r', pos, rfl, h1, h2, h3⟩ := isE_cmp2 h
    rw [evE_cmp2]; simp only [truthR_bind]
    show Tri _ _ _ _ _ _ _ _ (eval l' env >>= fun a => PySem.holding [a] (eval m' env) >>= fun b => standAt pos >>= fun _ => PySem.holding [a, b] (compareOp (cmOf o1) a b) >>= fun c =>
      release [a, b] [c] >>= fun _ => PySem.holding [c, b] (PySem.truthy c) >>= fun t => if t = true then testChain pos b [cmOf o2] [markedBehindIn (cmOf o2) r' (eval r' env)] else Pure.pure false) _ _ _
    refine Tri.bind (evE_ok S l l' env ρ H h1) fun a H1 ma _ _ => ?_
    refine Tri.bind (Tri.holding ((evE_ok S m m' env ρ H1 h2).fewer (fun _ q => nomatch q))) fun b H2 mb _ _ => ?_
    refine Tri.stand ?_
    cases ec : cmp o1 a b H2 with
    | none => exact Tri.stuck
    | some t =>
      have step := fun (vs : List (V × Value)) (ha : (a, ma) ∈ vs) (hb : (b, mb) ∈ vs) => Tri.holding (l := [ma, mb]) (cmp_ok (X := X) (n := n) (hd := Γ.hd) (A := A) (env := env) (st := st) (ρ := ρ) (H := H2) (vs := vs) ha hb ec)
      show Tri _ _ _ _ _ _ _ _ _ _ (R.bind (.ok (.bool t) H2) fun v H3 => truthR (.ok v H3) |>.bind fun t H3 => truthR (if t = true then (evE Γ ρ r H3).bind fun c H4 => ofO H4 ((cmp o2 b c H4).map V.bool) else .ok (.bool false) H3)) _
      refine Tri.bind (step _ (List.mem_append.mpr (.inl (List.mem_append.mpr (.inr (List.Mem.head _))))) (List.mem_append.mpr (.inr (List.Mem.head _)))) fun v H3 mv ev _ => ?_
      refine Tri.skip (a₀ := ()) (fun Q E s q Γ' p _ => by show Sem.wp _ _ (release _ _) _ _ _ _; unfold release; rw [Sem.wp_release_go]; exact q) ?_
      refine Tri.bind (Tri.holding (Tri.truthy (List.mem_append.mpr (.inr (List.Mem.head _))))) fun t2 H4 t2' et ht => ?_
      have ht' : t2' = t2 := ht
      subst ht'
      cases t2' with
      | false => exact Tri.pure (a := false) (b := false) rfl fun _ q => nomatch q
      | true =>
        show Tri _ _ _ _ _ _ _ _ (PySem.holding [mb] (markedBehindIn (cmOf o2) r' (eval r' env)) >>= fun c => standAt pos >>= fun _ => PySem.operate [mb, c] (compareOp (cmOf o2) mb c) >>= fun c => PySem.holding [c] (PySem.truthy c)) _ (truthR ((evE Γ ρ r H4).bind fun c H4 => ofO H4 ((cmp o2 b c H4).map V.bool))) _
        rw [markedBehindIn_of_false (marks_plain (isE_plain h3)), truthR_bind]
        refine Tri.bind (Tri.holding ((evE_ok S r r' env ρ H4 h3).fewer (fun _ q => nomatch q))) fun c H5 mc _ _ => ?_
        refine Tri.stand (Tri.truthy' (Tri.operate ?_))
        cases ec2 : cmp o2 b c H5 with
        | none => exact Tri.stuck
        | some t => exact cmp_ok (List.mem_append.mpr (.inl (List.mem_append.mpr (.inl (List.mem_append.mpr (.inl (List.mem_append.mpr (.inr (List.Mem.head _))))))))) (List.mem_append.mpr (.inr (List.Mem.head _))) ec2
  | .var x, e, env, ρ, H, h => plainTest_ok h rfl (evE_ok S _ e env ρ H h)
  | .glob x, e, env, ρ, H, h => plainTest_ok h rfl (evE_ok S _ e env ρ H h)
  | .none, e, env, ρ, H, h => plainTest_ok h rfl (evE_ok S _ e env ρ H h)
  | .bool x, e, env, ρ, H, h => plainTest_ok h rfl (evE_ok S _ e env ρ H h)
  | .int x, e, env, ρ, H, h => plainTest_ok h rfl (evE_ok S _ e env ρ H h)
  | .str x, e, env, ρ, H, h => plainTest_ok h rfl (evE_ok S _ e env ρ H h)
  | .bin _ _ _, e, env, ρ, H, h => plainTest_ok h rfl (evE_ok S _ e env ρ H h)
  | .neg _, e, env, ρ, H, h => plainTest_ok h rfl (evE_ok S _ e env ρ H h)
  | .call _ _, e, env, ρ, H, h => plainTest_ok h rfl (evE_ok S _ e env ρ H h)
  | .isinst _ _, e, env, ρ, H, h => plainTest_ok h rfl (evE_ok S _ e env ρ H h)
  | .meth _ _ _, e, env, ρ, H, h => plainTest_ok h rfl (evE_ok S _ e env ρ H h)
  | .attr _ _, e, env, ρ, H, h => plainTest_ok h rfl (evE_ok S _ e env ρ H h)
  | .idx _ _, e, env, ρ, H, h => plainTest_ok h rfl (evE_ok S _ e env ρ H h)
  | .slice _ _ _, e, env, ρ, H, h => plainTest_ok h rfl (evE_ok S _ e env ρ H h)
  | .list _, e, env, ρ, H, h => plainTest_ok h rfl (evE_ok S _ e env ρ H h)
  | .tup _, e, env, ρ, H, h => plainTest_ok h rfl (evE_ok S _ e env ρ H h)
  | .menu _ _, e, env, ρ, H, h => plainTest_ok h rfl (evE_ok S _ e env ρ H h)
  | .comp _ _ _, e, env, ρ, H, h => plainTest_ok h rfl (evE_ok S _ e env ρ H h)
  | .dict0, e, env, ρ, H, h => plainTest_ok h rfl (evE_ok S _ e env ρ H h)
theorem testAnd_ok (S : SoundFn X n Γ) : ∀ (cs : List E) (es : List Expr) (env : Env) (ρ : Rho) (H : Hp), isEs X.kn env.scope cs es = true → Tri X n Γ.hd A env st ρ [] (allTrue .And es env) H (truthR (evAnd Γ ρ cs H)) rB
  | [], _, _, _, _, _ => Tri.stuck
  | [c], es, env, ρ, H, h => by
    cases es with
    | nil => rw [isEs_nil] at h; cases h
    | cons e es' =>
      rw [isEs_cons, Bool.and_eq_true] at h
      cases es' with
      | cons => cases h.2
      | nil =>
        show Tri _ _ _ _ _ _ _ _ (isTrue e env (eval e env) >>= fun t => match BoolOp.And, t with | .And, false => Pure.pure false | .Or, true => Pure.pure true | _, _ => allTrue .And [] env) _ _ _
        refine Tri.rel_of (r := (truthR (evE Γ ρ c H)).bind fun b H1 => .ok b H1) ?_ (by rw [evAnd_one, R.bind_ok_self])
        refine Tri.bind (testE_ok S c e env ρ H h.1) fun b H1 b' _ hb => ?_
        have hb' : b' = b := hb
        subst hb'
        cases b' <;> exact Tri.pure rfl fun _ q => nomatch q
  | c :: c2 :: cs, es, env, ρ, H, h => by
    cases es with
    | nil => rw [isEs_nil] at h; cases h
    | cons e es' =>
      rw [isEs_cons, Bool.and_eq_true] at h
      show Tri _ _ _ _ _ _ _ _ (isTrue e env (eval e env) >>= fun t => match BoolOp.And, t with | .And, false => Pure.pure false | .Or, true => Pure.pure true | _, _ => allTrue .And es' env) _ _ _
      rw [evAnd_cons]; simp only [truthR_bind]
      refine Tri.bind (testE_ok S c e env ρ H h.1) fun b H1 b' _ hb => ?_
      have hb' : b' = b := hb
      subst hb'
      cases b' with
      | false => exact Tri.pure (b := false) rfl fun _ q => nomatch q
      | true => exact (testAnd_ok S (c2 :: cs) es' env ρ H1 h.2).fewer (fun _ q => nomatch q)
theorem testOr_ok (S : SoundFn X n Γ) : ∀ (cs : List E) (es : List Expr) (env : Env) (ρ : Rho) (H : Hp), isEs X.kn env.scope cs es = true → Tri X n Γ.hd A env st ρ [] (allTrue .Or es env) H (truthR (evOr Γ ρ cs H)) rB
  | [], _, _, _, _, _ => Tri.stuck
  | [c], es, env, ρ, H, h => by
    cases es with
    | nil => rw [isEs_nil] at h; cases h
    | cons e es' =>
      rw [isEs_cons, Bool.and_eq_true] at h
      cases es' with
      | cons => cases h.2
      | nil =>
        show Tri _ _ _ _ _ _ _ _ (isTrue e env (eval e env) >>= fun t => match BoolOp.Or, t with | .And, false => Pure.pure false | .Or, true => Pure.pure true | _, _ => allTrue .Or [] env) _ _ _
        refine Tri.rel_of (r := (truthR (evE Γ ρ c H)).bind fun b H1 => .ok b H1) ?_ (by rw [evOr_one, R.bind_ok_self])
        refine Tri.bind (testE_ok S c e env ρ H h.1) fun b H1 b' _ hb => ?_
        have hb' : b' = b := hb
        subst hb'
        cases b' <;> exact Tri.pure rfl fun _ q => nomatch q
  | c :: c2 :: cs, es, env, ρ, H, h => by
    cases es with
    | nil => rw [isEs_nil] at h; cases h
    | cons e es' =>
      rw [isEs_cons, Bool.and_eq_true] at h
      show Tri _ _ _ _ _ _ _ _ (isTrue e env (eval e env) >>= fun t => match BoolOp.Or, t with | .And, false => Pure.pure false | .Or, true => Pure.pure true | _, _ => allTrue .Or es' env) _ _ _
      rw [evOr_cons]; simp only [truthR_bind]
      refine Tri.bind (testE_ok S c e env ρ H h.1) fun b H1 b' _ hb => ?_
      have hb' : b' = b := hb
      subst hb'
      cases b' with
      | true => exact Tri.pure (b := true) rfl fun _ q => nomatch q
      | false => exact (testOr_ok S (c2 :: cs) es' env ρ H1 h.2).fewer (fun _ q => nomatch q)
end
end
end Mine

/-! Sim11 -/
namespace Mine
open PySem PyProof.Rows PySem.W

theorem lookup_setL (x : String) (v : V) : ∀ (ρ : Rho) (y : String), (setL x v ρ).lookup y = if y = x then some v else ρ.lookup y
  | [], y => by
    simp only [setL, List.lookup_cons, List.lookup_nil]
    by_cases h : y = x
    · subst h; simp
    · have : (y == x) = false := by simpa using h
      simp [this, h]
  | (z, w) :: r, y => by
    simp only [setL]
    split
    · rename_i hz
      subst hz
      simp only [List.lookup_cons]
      by_cases h : y = z
      · subst h; simp
      · have : (y == z) = false := by simpa using h
        simp [this, h]
    · rename_i hz
      simp only [List.lookup_cons, lookup_setL x v r y]
      by_cases h : y = z
      · subst h; simp [hz]
      · have : (y == z) = false := by simpa using h
        simp [this]

inductive NextS (X : Cx) (st : List Env) (env : Env) (η : List Addr) (s : Shared) (r : RS) (k : Rho → Hp → RS) (s' : Shared) : Prop
  | mk (ρ' : Rho) (H' : Hp) (e : r = k ρ' H') (p : Post X (frs st) (ownOf env) η s H' (Ends X env ρ') s') : NextS X st env η s r k s'
inductive RetS (X : Cx) (st : List Env) (env : Env) (η : List Addr) (s : Shared) (r : RS) (mv : Value) (s' : Shared) : Prop
  | mk (v : V) (H' : Hp) (e : r = .ret v H') (p : Post X (frs st) (ownOf env) η s H' (fun η' h' => FrameOK X η' h' env ∧ VR X η' h' v mv) s') : RetS X st env η s r mv s'
noncomputable def OutS (X : Cx) (st : List Env) (env : Env) (η : List Addr) (s : Shared) (r : RS) (f : Flow) (s' : Shared) : Prop :=
  match f with
  | .next => NextS X st env η s r .next s'
  | .cont => NextS X st env η s r .cont s'
  | .brk => False
  | .ret mv => RetS X st env η s r mv s'

inductive ExcS (X : Cx) (st : List Env) (env : Env) (η : List Addr) (s : Shared) (r : RS) (ev : Value) (s' : Shared) : Prop
  | mk (c : String) (ρ' : Rho) (H' : Hp) (e : r = .raise c ρ' H') (p : Post X (frs st) (ownOf env) η s H' (fun η' h' => Ends X env ρ' η' h' ∧ ExcAt X st s.heap ev c η' h') s') : ExcS X st env η s r ev s'

noncomputable def TriS (X : Cx) (n : Nat) (hd : Bool) (A : Around) (env : Env) (st : List Env) (vs : List (V × Value)) (m : Sem Flow) (ρ : Rho) (H : Hp) (r : RS) : Prop :=
  r ≠ .stuck → ∀ η s, At X n hd A env st η ρ H s → (∀ p ∈ vs, VR X η s.heap p.1 p.2) → wpAny X.M A m (OutS X st env η s r) (ExcS X st env η s r) s

section
variable {X : Cx} {n : Nat} {hd : Bool} {A : Around} {env : Env} {st : List Env} {η η' : List Addr} {ρ ρ' : Rho} {H H' : Hp} {s : Shared} {h' : Heap} {vs : List (V × Value)}

theorem At.frm (a : At X n hd A env st η ρ H s) : Frm s.heap (ownOf env ++ frs st) := fun b hb => (List.mem_append.mp hb).elim (a.fok.frm b) (a.stk.frm b)
theorem At.off (a : At X n hd A env st η ρ H s) : ∀ b ∈ ownOf env ++ frs st, X.base.get? b = Option.none := fun b hb => (List.mem_append.mp hb).elim (fun h => (a.fok.off b h).2) (a.stk.fresh b)

theorem At.stepS (a : At X n hd A env st η ρ H s) (x : Step (frs st) (ownOf env) η s.heap η' h') (i : Inv X η' H' h') (e : Ends X env ρ' η' h') (tk : Nat) : At X n hd A env st η' ρ' H' { s with heap := h', toks := tk } :=
  ⟨i, e.1, e.2, a.stk.step x, a.room, a.hand⟩

theorem At.ends (a : At X n hd A env st η ρ H s) (x : Step (frs st) [] η s.heap η' h') : Ends X env ρ η' h' :=
  ⟨a.fok.step x, fun y v e hv => let ⟨mv, hh, r⟩ := a.rho y v e hv; ⟨mv, hh.step x a.fok, r.step x a.stk.frm⟩⟩

theorem Step.up {fr own η η' : List Addr} {h h' : Heap} (x : Step fr [] η h η' h') : Step fr own η h η' h' := x.weak fun _ q => nomatch q

theorem TriS.expr {α β : Type} {m : Sem α} {k : α → Sem Flow} {r : R β} {rel : β → α → Prop × List (V × Value)} {f : β → Hp → RS} (h1 : Tri X n hd A env st ρ vs m H r rel)
    (h2 : ∀ b H1 a, r = .ok b H1 → (rel b a).1 → TriS X n hd A env st (vs ++ (rel b a).2) (k a) ρ H1 (f b H1)) : TriS X n hd A env st vs (m >>= k) ρ H (ofR ρ r f) := by
  intro hs η s a hv
  have hr : r ≠ .stuck := by rintro rfl; exact hs rfl
  refine wpAny_bind (wpAny_mono (h1 hr η s a hv) (fun x s1 hx => ?_) fun ev s1 hx => ?_)
  · obtain ⟨b, H1, rfl, hrel, η1, h', tk, rfl, i, stp, hp⟩ := hx
    have a1 := a.step stp i tk
    refine wpAny_mono (h2 b H1 x rfl hrel hs η1 _ a1 (fun p hm => ?_)) (fun y s2 hy => ?_) fun ev s2 hy => ?_
    · rcases List.mem_append.mp hm with hm | hm
      · exact (hv p hm).step stp a.stk.frm
      · exact hp p hm
    · unfold OutS at hy ⊢
      cases y with
      | next => obtain ⟨ρ', H', e, P⟩ := hy; exact ⟨ρ', H', e, P.trans stp.up fun _ _ q => q⟩
      | cont => obtain ⟨ρ', H', e, P⟩ := hy; exact ⟨ρ', H', e, P.trans stp.up fun _ _ q => q⟩
      | brk => exact hy
      | ret mv => obtain ⟨v, H', e, P⟩ := hy; exact ⟨v, H', e, P.trans stp.up fun _ _ q => q⟩
    · obtain ⟨c, ρ', H', e, P⟩ := hy
      exact ⟨c, ρ', H', e, P.trans stp.up fun _ _ q => ⟨q.1, q.2.older stp.alive⟩⟩
  · obtain ⟨c, H1, rfl, η1, h', tk, rfl, i, stp, hp⟩ := hx
    exact ⟨c, ρ, H1, rfl, η1, h', tk, rfl, i, stp.up, a.ends stp, hp⟩

theorem TriS.stuck {m : Sem Flow} : TriS X n hd A env st vs m ρ H .stuck := fun h => absurd rfl h
theorem TriS.skip {α : Type} {m : Sem α} {k : α → Sem Flow} {r : RS} {a₀ : α} (hm : ∀ (Q : α → Shared → Prop) (E : Value → Shared → Prop) (s : Shared), Q a₀ s → wpAny X.M A m Q E s)
    (h : TriS X n hd A env st vs (k a₀) ρ H r) : TriS X n hd A env st vs (m >>= k) ρ H r := fun hs η s a hv => wpAny_bind (hm _ _ _ (h hs η s a hv))
theorem TriS.stand {pos : Pos} {k : Unit → Sem Flow} {r : RS} (h : TriS X n hd A env st vs (k ()) ρ H r) : TriS X n hd A env st vs (standAt pos >>= k) ρ H r := TriS.skip (a₀ := ()) (fun _ _ _ q => wpAny_standAt q) h
theorem TriS.next : TriS X n hd A env st vs (Pure.pure .next) ρ H (.next ρ H) := fun _ η s a _ => wpAny_pure ⟨ρ, H, rfl, η, s.heap, s.toks, rfl, a.inv, Step.refl _ _ _ _, a.fok, a.rho⟩
theorem TriS.ret {v : V} {m : Value} (hm : (v, m) ∈ vs) : TriS X n hd A env st vs (Pure.pure (.ret m)) ρ H (.ret v H) := fun _ η s a hv => wpAny_pure ⟨v, H, rfl, η, s.heap, s.toks, rfl, a.inv, Step.refl _ _ _ _, a.fok, hv _ hm⟩
theorem TriS.fewer {m : Sem Flow} {r : RS} {vs' : List (V × Value)} (h : TriS X n hd A env st vs' m ρ H r) (h1 : ∀ p ∈ vs', p ∈ vs) : TriS X n hd A env st vs m ρ H r := fun hs η s a hv => h hs η s a fun p hp => hv p (h1 p hp)
theorem TriS.of_eq {m : Sem Flow} {r r' : RS} (h : TriS X n hd A env st vs m ρ H r) (e : r = r') : TriS X n hd A env st vs m ρ H r' := e ▸ h

noncomputable def isSt (sc : Scope) (x : Str) : Bool := match sc.names.lookup x with
  | some .local | some .cell => true
  | _ => false

theorem wpAny_store {x : String} {v : V} {mv : Value} {Q : Unit → Shared → Prop} {E : Value → Shared → Prop} (a : At X n hd A env st η ρ H s) (hx : isSt env.scope (Str.ofString x) = true) (hv : VR X η s.heap v mv)
    (hq : ∀ h' tk, Step (frs st) (ownOf env) η s.heap η h' → Inv X η H h' → Ends X env (setL x v ρ) η h' → Q () { s with heap := h', toks := tk }) : wpAny X.M A (storeName env (Str.ofString x) mv) Q E s := by
  have kind : env.kindOf (Str.ofString x) = some .local ∨ env.kindOf (Str.ofString x) = some .cell := by
    unfold isSt at hx
    unfold Env.kindOf
    split at hx
    · exact .inl ‹_›
    · exact .inr ‹_›
    · cases hx
  have stp : ∀ {c : Addr} {h' : Heap}, c ∈ ownOf env → Heap.SameBut c s.heap h' → (∀ o, s.heap.get? c = some o → ∀ es n, o.data = .dict es n → ∃ o' es' n', h'.get? c = some o' ∧ o'.data = .dict es' n') →
      (∀ o, s.heap.get? c = some o → ∀ v, o.data = .cell v → ∃ o' v', h'.get? c = some o' ∧ o'.data = .cell v') → Step (frs st) (ownOf env) η s.heap η h' := by
    intro c h' hc hsb hd1 hc1
    have alive : ∀ b o, s.heap.get? b = some o → ∃ o', h'.get? b = some o' := by
      intro b o e
      by_cases hb : b = c
      · subst hb
        obtain ⟨o2, e2, q⟩ := a.fok.frm b hc
        rw [e] at e2; cases e2
        rcases q with ⟨es, k, d⟩ | ⟨w, d⟩
        · obtain ⟨o', _, _, e', _⟩ := hd1 o e es k d; exact ⟨o', e'⟩
        · obtain ⟨o', _, e', _⟩ := hc1 o e w d; exact ⟨o', e'⟩
      · exact ⟨o, (hsb.2 b hb).trans e⟩
    refine ⟨⟨[], by simp, fun _ q => nomatch q⟩, alive, fun b o e _ ho _ => (hsb.2 b (fun q => ho (q ▸ hc))).trans e, fun b o e _ ho _ => ⟨o.slots, (hsb.2 b (fun q => ho (q ▸ hc))).trans e⟩, fun b o e _ es k d => ?_, fun b o e _ w d => ?_⟩
    · by_cases hb : b = c
      · subst hb; exact hd1 o e es k d
      · exact ⟨o, es, k, (hsb.2 b hb).trans e, d⟩
    · by_cases hb : b = c
      · subst hb; exact hc1 o e w d
      · exact ⟨o, w, (hsb.2 b hb).trans e, d⟩
  have inv : ∀ {c : Addr} {h' : Heap}, c ∈ ownOf env → Heap.SameBut c s.heap h' → Step (frs st) (ownOf env) η s.heap η h' → Inv X η H h' := fun hc hsb x =>
    a.inv.still x a.frm (fun b hb o e => (hsb.2 b (fun q => (a.fok.off _ hc).1 (q ▸ hb))).trans e) a.off
  rcases kind with hk | hk
  · obtain ⟨m, hn⟩ := a.fok.ns
    refine wpAny_storeName_local hk hn (fun h' hn' hsb => ?_) (by rw [a.fok.kind]; rfl)
    have hc : env.locals ∈ ownOf env := List.Mem.head _
    have x1 := stp hc hsb (fun o e es k d => by
        obtain ⟨o', es', k', e', d', _⟩ := hn'
        exact ⟨o', es', k', e', d'⟩) (fun o e w d => by
        obtain ⟨o', es', k', e', d', _⟩ := hn
        rw [e] at e'; cases e'; rw [d] at d'; cases d')
    have cel : ∀ p ∈ env.cells, p.2 ≠ env.locals := fun p hp q => by
      obtain ⟨o, w, e, d⟩ := a.fok.cell p hp
      obtain ⟨o', es', k', e', d', _⟩ := hn
      rw [q, e'] at e; cases e; rw [d'] at d; cases d
    refine hq h' _ x1 (inv hc hsb x1) ⟨⟨a.fok.kind, a.fok.glob, a.fok.blt, ⟨_, hn'⟩, fun p hp => ?_, a.fok.cells, a.fok.inj, a.fok.off⟩, fun y u e hy => ?_⟩
    · obtain ⟨o, w, e, d⟩ := a.fok.cell p hp
      exact ⟨o, w, (hsb.2 _ (cel p hp)).trans e, d⟩
    · rw [lookup_setL] at e
      by_cases hyx : y = x
      · subst hyx
        rw [if_pos rfl] at e; cases e
        exact ⟨mv, .inl ⟨hk, _, hn', by simp⟩, hv.step x1 a.frm⟩
      · rw [if_neg hyx] at e
        obtain ⟨mu, hh, ru⟩ := a.rho y u e hy
        refine ⟨mu, ?_, ru.step x1 a.frm⟩
        rcases hh with ⟨hk2, m2, hn2, hm2⟩ | ⟨hk2, c, o, hc2, g, d⟩
        · refine .inl ⟨hk2, _, hn', ?_⟩
          have : Str.ofString y ≠ Str.ofString x := fun q => hyx (ofString_inj q)
          rw [if_neg this]
          obtain ⟨o1, es1, k1, e1, d1, _, f1⟩ := hn
          obtain ⟨o2, es2, k2, e2, d2, _, f2⟩ := hn2
          rw [e1] at e2; cases e2; rw [d1] at d2; cases d2
          rw [← f1, f2]; exact hm2
        · exact .inr ⟨hk2, c, o, hc2, (hsb.2 _ (cel (_, c) (lookup_mem hc2))).trans g, d⟩
  · obtain ⟨c, hc⟩ := a.fok.cells _ hk
    obtain ⟨o0, w0, e0, d0⟩ := a.fok.cell _ (lookup_mem hc)
    have hco : c ∈ ownOf env := List.mem_cons.mpr (.inr (List.mem_map.mpr ⟨(Str.ofString x, c), lookup_mem hc, rfl⟩))
    refine wpAny_storeName_cell a.fok.kind hk hc ⟨o0, e0, d0⟩ fun h' hcl hsb => ?_
    have x1 := stp hco hsb (fun o e es k d => by rw [e] at e0; cases e0; rw [d] at d0; cases d0) (fun o e w d => by
      obtain ⟨o', e', d'⟩ := hcl
      exact ⟨o', _, e', d'⟩)
    have loc : env.locals ≠ c := fun q => by
      obtain ⟨m, o', es', k', e', d', _⟩ := a.fok.ns
      rw [q, e0] at e'; cases e'; rw [d0] at d'; cases d'
    refine hq h' s.toks x1 (inv hco hsb x1) ⟨⟨a.fok.kind, a.fok.glob, a.fok.blt, ?_, fun p hp => ?_, a.fok.cells, a.fok.inj, a.fok.off⟩, fun y u e hy => ?_⟩
    · obtain ⟨m, hn⟩ := a.fok.ns
      exact ⟨m, hn.sameBut hsb loc⟩
    · by_cases hp2 : p.2 = c
      · obtain ⟨o', e', d'⟩ := hcl
        exact ⟨o', _, hp2 ▸ e', d'⟩
      · obtain ⟨o, w, e, d⟩ := a.fok.cell p hp
        exact ⟨o, w, (hsb.2 _ hp2).trans e, d⟩
    · rw [lookup_setL] at e
      by_cases hyx : y = x
      · subst hyx
        rw [if_pos rfl] at e; cases e
        obtain ⟨o', e', d'⟩ := hcl
        exact ⟨mv, .inr ⟨.inl hk, c, o', hc, e', d'⟩, hv.step x1 a.frm⟩
      · rw [if_neg hyx] at e
        obtain ⟨mu, hh, ru⟩ := a.rho y u e hy
        refine ⟨mu, ?_, ru.step x1 a.frm⟩
        rcases hh with ⟨hk2, m2, hn2, hm2⟩ | ⟨hk2, c2, o, hc2, g, d⟩
        · exact .inl ⟨hk2, m2, hn2.sameBut hsb loc, hm2⟩
        · have : c2 ≠ c := fun q => hyx (ofString_inj (a.fok.inj _ _ c (q ▸ hc2) hc))
          exact .inr ⟨hk2, c2, o, hc2, (hsb.2 _ this).trans g, d⟩

theorem locals_turn {fr : List Addr} {h : Heap} {m' : Str → Option Value} (fok : FrameOK X η h env) (hn' : h'.Ns env.locals m') (hsb : Heap.SameBut env.locals h h') : Step fr (ownOf env) η h η h' := by
  have hc : env.locals ∈ ownOf env := List.Mem.head _
  obtain ⟨m, o0, es0, k0, e0, d0, _⟩ := fok.ns
  obtain ⟨o1, es1, k1, e1, d1, _⟩ := hn'
  have alive : ∀ b o, h.get? b = some o → ∃ o', h'.get? b = some o' := by
    intro b o e
    by_cases hb : b = env.locals
    · subst hb; exact ⟨o1, e1⟩
    · exact ⟨o, (hsb.2 b hb).trans e⟩
  refine ⟨⟨[], by simp, fun _ q => nomatch q⟩, alive, fun b o e _ ho _ => (hsb.2 b (fun q => ho (q ▸ hc))).trans e, fun b o e _ ho _ => ⟨o.slots, (hsb.2 b (fun q => ho (q ▸ hc))).trans e⟩, fun b o e _ es k d => ?_, fun b o e _ w d => ?_⟩
  · by_cases hb : b = env.locals
    · subst hb; exact ⟨o1, es1, k1, e1, d1⟩
    · exact ⟨o, es, k, (hsb.2 b hb).trans e, d⟩
  · by_cases hb : b = env.locals
    · subst hb; rw [e] at e0; cases e0; rw [d] at d0; cases d0
    · exact ⟨o, w, (hsb.2 b hb).trans e, d⟩

theorem TriS.store {x : String} {v : V} {mv : Value} {k : Unit → Sem Flow} {r : RS} (hm : (v, mv) ∈ vs) (hx : isSt env.scope (Str.ofString x) = true)
    (h : TriS X n hd A env st vs (k ()) (setL x v ρ) H r) : TriS X n hd A env st vs (bindName env (Str.ofString x) mv >>= k) ρ H r := by
  intro hs η s a hv
  refine wpAny_bind (wpAny_bindName (wpAny_store a hx (hv _ hm) fun h' tk x1 i e => ?_))
  have a1 := a.stepS x1 i e tk
  refine wpAny_mono (h hs η _ a1 fun p hp => (hv p hp).step x1 a.frm) (fun y s2 hy => ?_) fun ev s2 hy => ?_
  · unfold OutS at hy ⊢
    cases y with
    | next => obtain ⟨ρ', H', e, P⟩ := hy; exact ⟨ρ', H', e, P.trans x1 fun _ _ q => q⟩
    | cont => obtain ⟨ρ', H', e, P⟩ := hy; exact ⟨ρ', H', e, P.trans x1 fun _ _ q => q⟩
    | brk => exact hy
    | ret mv => obtain ⟨v, H', e, P⟩ := hy; exact ⟨v, H', e, P.trans x1 fun _ _ q => q⟩
  · obtain ⟨c, ρ', H', e, P⟩ := hy
    exact ⟨c, ρ', H', e, P.trans x1 fun _ _ q => ⟨q.1, q.2.older x1.alive⟩⟩

theorem TriS.seq {st1 : Stmt} {rest : List Stmt} {r1 : RS} {r : RS} (h1 : TriS X n hd A env st vs (exec st1 env) ρ H r1)
    (h2 : ∀ ρ1 H1, r1 = .next ρ1 H1 → TriS X n hd A env st vs (execs rest env) ρ1 H1 r) (hr : r1 = .stuck → r = .stuck) (hc : ∀ q, (∀ ρ1 H1, q ≠ .next ρ1 H1) → r1 = q → r = q) : TriS X n hd A env st vs (execs (st1 :: rest) env) ρ H r := by
  intro hs η s a hv
  have hs1 : r1 ≠ .stuck := fun q => hs (hr q)
  refine wpAny_execs_cons (wpAny_mono (h1 hs1 η s a hv) (fun f s1 hf => ?_) fun ev s1 hx => ?_)
  · cases f with
    | next =>
      obtain ⟨ρ1, H1, e1, η1, h', tk, rfl, i, x1, en⟩ := hf
      have a1 := a.stepS x1 i en tk
      refine wpAny_mono (h2 ρ1 H1 e1 hs η1 _ a1 fun p hp => (hv p hp).step x1 a.frm) (fun y s2 hy => ?_) fun ev s2 hy => ?_
      · unfold OutS at hy ⊢
        cases y with
        | next => obtain ⟨ρ', H', e, P⟩ := hy; exact ⟨ρ', H', e, P.trans x1 fun _ _ q => q⟩
        | cont => obtain ⟨ρ', H', e, P⟩ := hy; exact ⟨ρ', H', e, P.trans x1 fun _ _ q => q⟩
        | brk => exact hy
        | ret mv => obtain ⟨v, H', e, P⟩ := hy; exact ⟨v, H', e, P.trans x1 fun _ _ q => q⟩
      · obtain ⟨c, ρ', H', e, P⟩ := hy
        exact ⟨c, ρ', H', e, P.trans x1 fun _ _ q => ⟨q.1, q.2.older x1.alive⟩⟩
    | cont => obtain ⟨ρ1, H1, e1, P⟩ := hf; exact ⟨ρ1, H1, hc _ (fun _ _ q => nomatch q) e1, P⟩
    | brk => exact hf
    | ret mv => obtain ⟨v, H1, e1, P⟩ := hf; exact ⟨v, H1, hc _ (fun _ _ q => nomatch q) e1, P⟩
  · obtain ⟨c, ρ1, H1, e1, P⟩ := hx
    exact ⟨c, ρ1, H1, hc _ (fun _ _ q => nomatch q) e1, P⟩
end
end Mine

/-! Sim13 -/
namespace Mine
open PySem PyProof.Rows PySem.W

structure Soft (fr es : List Addr) (h h' : Heap) : Prop where
  same : ∀ b o, h.get? b = some o → b ∉ es → b ∉ fr → h'.get? b = some o
  slots : ∀ b o, h.get? b = some o → b ∉ es → b ∈ fr → ∃ sl, h'.get? b = some { o with slots := sl }
  exc : ∀ b ∈ es, ∃ o fs, h.get? b = some o ∧ o.data = .fields fs ∧ o.cls ≠ .type "range" ∧ ∃ fs', h'.get? b = some { o with data := .fields fs' }

theorem Soft.refl (fr : List Addr) (h : Heap) : Soft fr [] h h := ⟨fun _ _ e _ _ => e, fun _ o e _ _ => ⟨o.slots, e⟩, fun _ q => nomatch q⟩

theorem Soft.more {fr es es' : List Addr} {h h' : Heap} (x : Soft fr es h h') (he : ∀ b ∈ es, b ∈ es') (hf : ∀ b ∈ es', b ∉ fr ∧ ∃ o fs, h.get? b = some o ∧ o.data = .fields fs ∧ o.cls ≠ .type "range") : Soft fr es' h h' := by
  refine ⟨fun b o e hb hf' => x.same b o e (fun q => hb (he b q)) hf', fun b o e hb hf' => x.slots b o e (fun q => hb (he b q)) hf', fun b hb => ?_⟩
  by_cases q : b ∈ es
  · exact x.exc b q
  · obtain ⟨hn, o, fs, e, d, c⟩ := hf b hb
    exact ⟨o, fs, e, d, c, fs, by rw [x.same b o e q hn]; cases o; simp only at d; subst d; rfl⟩

theorem Soft.trans {fr es : List Addr} {h h1 h2 : Heap} (x : Soft fr es h h1) (y : Soft fr es h1 h2) : Soft fr es h h2 := by
  refine ⟨fun b o e hb hf => y.same b o (x.same b o e hb hf) hb hf, fun b o e hb hf => ?_, fun b hb => ?_⟩
  · obtain ⟨sl, e1⟩ := x.slots b o e hb hf
    obtain ⟨sl2, e2⟩ := y.slots b _ e1 hb hf
    exact ⟨sl2, e2⟩
  · obtain ⟨o, fs, e, d, c, fs', e1⟩ := x.exc b hb
    obtain ⟨o1, fs1, e2, d2, c2, fs2, e3⟩ := y.exc b hb
    rw [e1] at e2; cases e2
    exact ⟨o, fs, e, d, c, fs2, e3⟩

theorem Soft.of_slots {fr : List Addr} {h h' : Heap} (x : Heap.SlotsOnly fr h h') : Soft fr [] h h' :=
  ⟨fun b o e _ hf => (x.2.1 b hf).trans e, fun b o e _ _ => x.2.2 b o e, fun _ q => nomatch q⟩
theorem Soft.push (fr : List Addr) (h : Heap) (o : Obj) : Soft fr [] h (h.push o) := ⟨fun b o' e _ _ => push_keeps h o b o' e, fun b o' e _ _ => ⟨o'.slots, push_keeps h o b o' e⟩, fun _ q => nomatch q⟩
theorem Soft.field {fr : List Addr} {h : Heap} {a : Addr} {o : Obj} {fs : Array Value} (e : h.get? a = some o) (d : o.data = .fields fs) (c : o.cls ≠ .type "range") (f : Array Value → Array Value) : Soft fr [a] h (h.update a (Obj.mapFields f)) := by
  have ne : ∀ b, b ∉ [a] → (h.update a (Obj.mapFields f)).get? b = h.get? b := fun b hb => Heap.get?_update_other _ _ (fun q => hb (by rw [q]; exact List.Mem.head _))
  refine ⟨fun b o' e' hb _ => (ne b hb).trans e', fun b o' e' hb _ => ⟨o'.slots, (ne b hb).trans e'⟩, fun b hb => ?_⟩
  rw [List.mem_singleton] at hb; subst hb
  refine ⟨o, fs, e, d, c, f fs, ?_⟩
  rw [Heap.get?_update_self _ e (Obj.isFreed_of_fields (Obj.data_mapFields d f))]
  obtain ⟨oc, od, dt, sl⟩ := o
  simp only at d; subst d; rfl

section
variable {X : Cx} {fr es η : List Addr} {h h' : Heap} {H : Hp}

theorem Soft.alive (x : Soft fr es h h') : ∀ b o, h.get? b = some o → ∃ o', h'.get? b = some o' := fun b o e => by
  by_cases h1 : b ∈ es
  · obtain ⟨_, _, _, _, _, _, q⟩ := x.exc b h1; exact ⟨_, q⟩
  · by_cases h2 : b ∈ fr
    · obtain ⟨_, q⟩ := x.slots b o e h1 h2; exact ⟨_, q⟩
    · exact ⟨o, x.same b o e h1 h2⟩

theorem Soft.not_es (x : Soft fr es h h') {b : Addr} {o : Obj} (e : h.get? b = some o) (hd : ∀ fs, o.data ≠ .fields fs) : b ∉ es := fun q => by
  obtain ⟨o', fs, e', d, _⟩ := x.exc b q
  rw [e] at e'; cases e'; exact hd fs d

mutual
theorem Soft.vr (x : Soft fr es h h') (f : Frm h fr) : ∀ {v : V} {m : Value}, VR X η h v m → VR X η h' v m
  | _, _, .none => .none
  | _, _, .bool b => .bool b
  | _, _, .int i t => .int i t
  | _, _, .str s t q => .str s t q
  | _, _, .tup e hn r l => .tup (x.same _ _ e (x.not_es e fun fs q => (by cases q)) (f.not e ⟨(fun es n q => (by cases q)), fun v q => (by cases q)⟩)) hn (Soft.vrs x f r) l
  | _, _, .lst e hn r l => .lst (x.same _ _ e (x.not_es e fun fs q => (by cases q)) (f.not e ⟨(fun es n q => (by cases q)), fun v q => (by cases q)⟩)) hn (Soft.vrs x f r) l
  | _, _, .ref e => .ref e
  | _, .ref a, .exc (a := _) e c dt hm hn => by
    by_cases h1 : a ∈ es
    · obtain ⟨o', fs, e', d, _, fs', g⟩ := x.exc a h1
      rw [e] at e'; cases e'
      exact .exc g c rfl hm hn
    · exact .exc (x.same _ _ e h1 (f.not e ⟨fun es n q => (by rw [dt] at q; cases q), fun v q => (by rw [dt] at q; cases q)⟩)) c dt hm hn
  | _, .ref r, .rng e hn => by
    refine .rng (x.same _ _ e (fun h1 => ?_) (f.not e ⟨(fun es n q => (by cases q)), fun v q => (by cases q)⟩)) hn
    obtain ⟨o', fs, e', d, c, _⟩ := x.exc r h1
    have e2 : h.get? r = _ := e
    rw [e2] at e'; cases e'; exact c rfl
  | _, _, .scr e i l => .scr e i l
theorem Soft.vrs (x : Soft fr es h h') (f : Frm h fr) : ∀ {v : List V} {m : List Value}, VRs X η h v m → VRs X η h' v m
  | _, _, .nil => .nil
  | _, _, .cons a b => .cons (Soft.vr x f a) (Soft.vrs x f b)
end

theorem Soft.nrs (x : Soft fr es h h') (f : Frm h fr) {l : List (String × V)} {ds : List DictEntry} (d : NRs X η h l ds) : NRs X η h' l ds := by
  induction d with
  | nil => exact .nil
  | cons a b _ ih => exact .cons a (x.vr f b) ih

theorem Soft.ors (x : Soft fr es h h') (f : Frm h fr) {o : O} {ob : Obj} (r : OR X η h o ob) : OR X η h' o ob := by
  cases r with
  | list d e => exact .list (x.vrs f d) e
  | inst a a' b => exact .inst a a' b
  | ns d e => exact .ns (x.nrs f d) e
  | keys d e l => exact .keys d e l

theorem Soft.inv (x : Soft fr es h h') (f : Frm h fr) (i : Inv X η H h) (hb : ∀ b ∈ es, X.base.get? b = Option.none) (hfb : ∀ b ∈ fr, X.base.get? b = Option.none) (hη : ∀ b ∈ fr, b ∉ η) : Inv X η H h' := by
  refine ⟨fun b o e => x.same b o (i.keep b o e) (fun q => by rw [hb b q] at e; cases e) (fun q => by rw [hfb b q] at e; cases e), i.len, i.fresh, i.nodup, fun n a o ha ho => ?_⟩
  obtain ⟨ob, e, r⟩ := i.objs n a o ha ho
  refine ⟨ob, x.same a ob e (x.not_es e fun fs q => ?_) (fun q => hη a q (List.mem_of_getElem? ha)), x.ors f r⟩
  cases r with
  | keys d _ _ => obtain ⟨es, ep, _, hd, _⟩ := d; rw [hd] at q; cases q
  | _ => cases q

theorem Soft.step {own η0 : List Addr} {h0 : Heap} (x : Soft fr es h h') (f : Frm h fr) (s : Step fr own η0 h0 η h) (hes : ∀ b ∈ es, h0.get? b = Option.none) : Step fr own η0 h0 η h' := by
  have ne : ∀ b o, h0.get? b = some o → b ∉ es := fun b o e q => by rw [hes b q] at e; cases e
  have kd : ∀ b o, h.get? b = some o → b ∉ es → ∃ sl, h'.get? b = some { o with slots := sl } := fun b o e hb => by
    by_cases h2 : b ∈ fr
    · exact x.slots b o e hb h2
    · exact ⟨o.slots, x.same b o e hb h2⟩
  refine ⟨s.pre, fun b o e => let ⟨o1, e1⟩ := s.alive b o e; x.alive b o1 e1, fun b o e hb ho hf => x.same b o (s.same b o e hb ho hf) (ne b o e) hf, fun b o e hb ho hf => ?_, fun b o e hb es' k d => ?_, fun b o e hb v d => ?_⟩
  · obtain ⟨sl, e1⟩ := s.slots b o e hb ho hf
    obtain ⟨sl2, e2⟩ := x.slots b _ e1 (ne b o e) hf
    exact ⟨sl2, e2⟩
  · obtain ⟨o1, es1, k1, e1, d1⟩ := s.dicts b o e hb es' k d
    obtain ⟨sl, e2⟩ := kd b o1 e1 (ne b o e)
    exact ⟨_, es1, k1, e2, d1⟩
  · obtain ⟨o1, v1, e1, d1⟩ := s.cells b o e hb v d
    obtain ⟨sl, e2⟩ := kd b o1 e1 (ne b o e)
    exact ⟨_, v1, e2, d1⟩

theorem Soft.frm {l : List Addr} (x : Soft fr es h h') (f : Frm h l) : Frm h' l := by
  intro b hb
  obtain ⟨o, e, q⟩ := f b hb
  have hn : b ∉ es := x.not_es e fun fs z => by rcases q with ⟨_, _, q⟩ | ⟨_, q⟩ <;> (rw [z] at q; cases q)
  by_cases h2 : b ∈ fr
  · obtain ⟨sl, e2⟩ := x.slots b o e hn h2
    exact ⟨_, e2, q⟩
  · exact ⟨o, x.same b o e hn h2, q⟩

theorem Soft.data (x : Soft fr es h h') {b : Addr} {o : Obj} (e : h.get? b = some o) (hn : ∀ fs, o.data ≠ .fields fs) : ∃ sl, h'.get? b = some { o with slots := sl } := by
  have hb := x.not_es e hn
  by_cases h2 : b ∈ fr
  · exact x.slots b o e hb h2
  · exact ⟨o.slots, x.same b o e hb h2⟩

theorem Soft.ends {env : Env} {ρ : Rho} (x : Soft fr es h h') (f : Frm h fr) (e : Ends X env ρ η h) : Ends X env ρ η h' := by
  have ns : ∀ {m : Str → Option Value}, h.Ns env.locals m → h'.Ns env.locals m := fun {m} ⟨o, es, ep, e, d, r⟩ => by
    obtain ⟨sl, e'⟩ := x.data e (fun fs q => by rw [d] at q; cases q)
    exact ⟨_, es, ep, e', d, r⟩
  have cl : ∀ {c : Addr} {o : Obj} {v : Option Value}, h.get? c = some o → o.data = .cell v → ∃ o', h'.get? c = some o' ∧ o'.data = .cell v := fun {c o v} e d => by
    obtain ⟨sl, e'⟩ := x.data e (fun fs q => by rw [d] at q; cases q)
    exact ⟨_, e', d⟩
  obtain ⟨fo, ro⟩ := e
  refine ⟨⟨fo.kind, fo.glob, fo.blt, let ⟨m, hn⟩ := fo.ns; ⟨m, ns hn⟩, fun p hp => let ⟨o, v, e, d⟩ := fo.cell p hp; let ⟨o', e', d'⟩ := cl e d; ⟨o', v, e', d'⟩, fo.cells, fo.inj, fo.off⟩, fun y v ey hy => ?_⟩
  obtain ⟨mv, hh, r⟩ := ro y v ey hy
  refine ⟨mv, ?_, x.vr f r⟩
  rcases hh with ⟨hk, m, hn, hm⟩ | ⟨hk, c, o, hc, g, d⟩
  · exact .inl ⟨hk, m, ns hn, hm⟩
  · obtain ⟨o', e', d'⟩ := cl g d
    exact .inr ⟨hk, c, o', hc, e', d'⟩

theorem Soft.stk {A : Around} {st : List Env} (x : Soft (frs st) es h h') (k : Stk X η A st h) : Stk X η A st h' :=
  ⟨k.frames, k.ok.of_keeps fun b o e hn => let ⟨sl, e'⟩ := x.data e hn; ⟨_, e', rfl⟩, k.off, x.frm k.frm⟩
end

theorem dict_mapFields (f : Array Value → Array Value) (o : Obj) : (Obj.mapFields f o).dict = o.dict := by
  unfold Obj.mapFields; split <;> rfl

inductive TracedX (X : Cx) (h0 : Heap) (e : Addr) (c : String) (T : Addr) (fl : Value) (η : List Addr) (h : Heap) : Prop
  | mk (oe : Obj) (vs : Array Value) (C : Addr) (oT : Obj) (ts : Array Value) (q1 : h.get? e = some oe) (q2 : ExCls X c C) (q3 : ObjCls oe C) (q4 : oe.data = .fields vs) (q5 : e ∉ η) (q6 : h0.get? e = Option.none) (q7 : 4 < vs.size)
    (q8 : vs[1]? = some (.ref T)) (q9 : T ≠ e) (q10 : h.get? T = some oT) (q11 : oT.cls = .type "traceback") (q12 : oT.data = .fields ts) (q13 : T ∉ η) (q14 : h0.get? T = Option.none) (q15 : ts[3]? = some fl) : TracedX X h0 e c T fl η h

theorem TracedX.exc {X : Cx} {st : List Env} {h0 h : Heap} {e T : Addr} {c : String} {fl : Value} {η : List Addr} (x : TracedX X h0 e c T fl η h) (hf : fl = .none ∨ ∃ L, (frs st).head? = some L ∧ fl = rawInt L) : ExcAt X st h0 (.ref e) c η h := by
  obtain ⟨oe, vs, C, oT, ts, q1, q2, q3, q4, q5, q6, q7, q8, q9, q10, q11, q12, q13, q14, q15⟩ := x
  exact ⟨e, oe, vs, C, rfl, q1, q2, q3, q4, q5, q6, q7, .inr ⟨T, oT, ts, fl, q8, q9, q10, q11, q12, q13, q14, q15, hf⟩⟩

section
variable {X : Cx} {A : Around} {env : Env} {outer : List Env} {η : List Addr} {s : Shared} {h0 : Heap} {ev : Value} {c : String} {L : Addr}

theorem wpAny_note {E : Value → Shared → Prop} {Q : Unit → Shared → Prop} (hf : env.frame = some L) (k : Stk X η A (env :: outer) s.heap) (hη : ∀ a ∈ η, ∃ o, s.heap.get? a = some o) (x : ExcAt X (env :: outer) h0 ev c η s.heap)
    (h0k : ∀ b o, h0.get? b = some o → ∃ o', s.heap.get? b = some o')
    (hq : ∀ h' e T es, ev = .ref e → Soft (frs (env :: outer)) es s.heap h' → (∀ b ∈ es, h0.get? b = Option.none) → TracedX X h0 e c T (rawInt L) η h' → Q () { s with heap := h' }) : wpAny X.M A (noteFrame ev env) Q E s := by
  obtain ⟨e, oe, vs, C, rfl, ge, hC, ce, de, ne, fe, sz, hx⟩ := x
  have hL : (frs (env :: outer)).head? = some L := by unfold frs; rw [List.filterMap_cons, hf]; rfl
  have efr : e ∉ frs (env :: outer) := k.frm.not ge ⟨fun es n q => (by rw [de] at q; cases q), fun v q => (by rw [de] at q; cases q)⟩
  have cer : oe.cls ≠ .type "range" := by rw [ce.1]; intro q; cases q
  -- a new entry
  have entry : ∀ (s1 : Shared) (head : Value) (hadNext : Bool) (es : List Addr) (oe1 : Obj) (vs1 : Array Value), s1 = { s with heap := s1.heap } → Soft (frs (env :: outer)) es s.heap s1.heap → (∀ b ∈ es, h0.get? b = Option.none ∧ b ∉ frs (env :: outer)) → s1.heap.get? e = some oe1 → oe1.cls = oe.cls ∧ oe1.dict = oe.dict → oe1.data = .fields vs1 → vs1.size = vs.size →
      wpAny X.M A (do let a ← frameOf env; let pl ← entryPlaceOf L hadNext; let b ← EntryCells.newEntry head a .none (rawInt L) .none pl; setField (.ref e) 1 b) Q E s1 := by
    intro s1 head hadNext es oe1 vs1 hs1 sf hes ge1 ce1 de1 sz1
    have k1 := sf.stk k
    refine wpAny_bind (wpAny_frameOf_fun k1.frames k1.ok hf fun h₁ hs₁ => ?_)
    refine wpAny_bind (wpAny_entryPlaceOf fun pl hpl => ?_)
    unfold EntryCells.newEntry newFields
    refine wpAny_bind (wpAny_newObj_type ?_ (hpl.sizeOk5 _ _ _ _ _))
    have he₁ : h₁.get? e = some oe1 := (hs₁.2.1 e efr).trans ge1
    generalize hob : ({ cls := .type "traceback", dict := none, data := .fields ([head, .ref L, .none, rawInt L, .none] ++ (if pl.isEmpty then List.replicate 6 Value.none else pl)).toArray } : Obj) = ob
    have he₂ := Heap.get?_push_of_some (h := h₁) ob he₁
    refine wpAny_setField he₂ de1 (by omega) ?_
    have hTe : h₁.objs.size ≠ e := Nat.ne_of_gt (Heap.lt_size he₁)
    have free : ob.isFreed = false := by subst hob; rfl
    have sf2 : Soft (frs (env :: outer)) [e] s1.heap ((h₁.push ob).update e (Obj.mapFields (·.setIfInBounds 1 (.ref h₁.objs.size)))) := by
      have a1 := (Soft.of_slots hs₁).more (es' := [e]) (fun _ q => nomatch q) (fun b hb => by rw [List.mem_singleton] at hb; subst hb; exact ⟨efr, oe1, vs1, ge1, de1, by rw [ce1.1]; exact cer⟩)
      have a2 := (Soft.push (frs (env :: outer)) h₁ ob).more (es' := [e]) (fun _ q => nomatch q) (fun b hb => by rw [List.mem_singleton] at hb; subst hb; exact ⟨efr, oe1, vs1, he₁, de1, by rw [ce1.1]; exact cer⟩)
      exact (a1.trans a2).trans (Soft.field he₂ de1 (by rw [ce1.1]; exact cer) _)
    have alive1 : ∀ b o, s.heap.get? b = some o → ∃ o', h₁.get? b = some o' := fun b o q => by
      obtain ⟨o1, q1⟩ := sf.alive b o q
      obtain ⟨sl, q2⟩ := hs₁.2.2 b o1 q1
      exact ⟨_, q2⟩
    have Tnew : ∀ b o, s.heap.get? b = some o → h₁.objs.size ≠ b := fun b o q => by
      obtain ⟨o', q'⟩ := alive1 b o q
      exact Nat.ne_of_gt (Heap.lt_size q')
    have comb : Soft (frs (env :: outer)) (e :: es) s.heap ((h₁.push ob).update e (Obj.mapFields (·.setIfInBounds 1 (.ref h₁.objs.size)))) := by
      have q0 : ∀ b ∈ e :: es, b ∉ frs (env :: outer) ∧ ∃ o fs, s.heap.get? b = some o ∧ o.data = .fields fs ∧ o.cls ≠ .type "range" := fun b hb => by
        rcases List.mem_cons.mp hb with rfl | hb
        · exact ⟨efr, oe, vs, ge, de, cer⟩
        · obtain ⟨o, fs, g, d, cc, _⟩ := sf.exc b hb
          exact ⟨(hes b hb).2, o, fs, g, d, cc⟩
      have q1 : ∀ b ∈ e :: es, b ∉ frs (env :: outer) ∧ ∃ o fs, s1.heap.get? b = some o ∧ o.data = .fields fs ∧ o.cls ≠ .type "range" := fun b hb => by
        rcases List.mem_cons.mp hb with rfl | hb
        · exact ⟨efr, oe1, vs1, ge1, de1, by rw [ce1.1]; exact cer⟩
        · obtain ⟨o, fs, g, d, cc, fs', g'⟩ := sf.exc b hb
          exact ⟨(hes b hb).2, _, fs', g', rfl, cc⟩
      exact (sf.more (fun b hb => List.mem_cons.mpr (.inr hb)) q0).trans (sf2.more (fun b hb => by rw [List.mem_singleton] at hb; subst hb; exact List.Mem.head _) q1)
    rw [hs1]
    refine hq _ e h₁.objs.size (e :: es) rfl comb (fun b hb => ?_) ?_
    · rcases List.mem_cons.mp hb with rfl | hb
      · exact fe
      · exact (hes b hb).1
    · refine ⟨_, _, C, ob, _, Heap.get?_update_self _ he₂ (Obj.isFreed_of_fields (Obj.data_mapFields de1 _)), hC, ⟨(Obj.cls_mapFields _ _).trans (ce1.1.trans ce.1), (dict_mapFields _ _).trans (ce1.2.trans ce.2)⟩, Obj.data_mapFields de1 _, ne, fe, ?_, ?_, hTe, ?_, by subst hob; rfl, by subst hob; rfl, ?_, ?_, rfl⟩
      · rw [Array.size_setIfInBounds, sz1]; exact sz
      · rw [Array.getElem?_setIfInBounds_self_of_lt (by omega)]
      · exact (Heap.get?_update_other _ _ (Ne.symm hTe)).trans (Heap.get?_push_size _ free)
      · intro q
        obtain ⟨o, g⟩ := hη _ q
        exact Tnew _ o g rfl
      · cases g : h0.get? h₁.objs.size with
        | none => rfl
        | some o => obtain ⟨o', g'⟩ := h0k _ o g; exact absurd rfl (Tnew _ o' g')
  unfold noteFrame
  simp only [hf]
  rcases hx with h1 | ⟨T, oT, ts, fl, h1, hTe, gT, cT, dT, nT, fT, h3, hfl⟩
  · refine wpAny_bind (wpAny_field ge de h1 ?_)
    rw [if_neg (by decide)]
    exact entry s .none false [] oe vs rfl ((Soft.refl _ _)) (fun _ q => nomatch q) ge ⟨rfl, rfl⟩ de rfl
  · refine wpAny_bind (wpAny_field ge de h1 ?_)
    rw [if_pos (show (Value.ref T != Value.none) = true from by simp)]
    refine wpAny_bind (wpAny_field gT dT h3 ?_)
    rcases hfl with rfl | ⟨L', hL', rfl⟩
    · rw [if_neg (show ¬ ((Value.none == rawInt L) = true) from by simp [rawInt])]
      have tfr : T ∉ frs (env :: outer) := k.frm.not gT ⟨fun es n q => (by rw [dT] at q; cases q), fun v q => (by rw [dT] at q; cases q)⟩
      have cTr : oT.cls ≠ .type "range" := by rw [cT]; decide
      refine wpAny_bind (wpAny_setField gT dT (Array.getElem?_eq_some_iff.mp h3).1 ?_)
      refine entry { s with heap := s.heap.update T (Obj.mapFields (·.setIfInBounds 3 .none)) } (.ref T) true [T] oe vs rfl (Soft.field gT dT cTr _) (fun b hb => ?_) ((Heap.get?_update_other _ _ hTe).trans ge) ⟨rfl, rfl⟩ de rfl
      rw [List.mem_singleton] at hb; subst hb
      exact ⟨fT, tfr⟩
    · rw [hL] at hL'; cases hL'
      rw [if_pos (show (rawInt L == rawInt L) = true from by first | (simp; done) | exact beq_self_eq_true _)]
      refine wpAny_pure ?_
      have := hq s.heap e T [] rfl (Soft.refl _ _) (fun _ q => nomatch q) ⟨oe, vs, C, oT, ts, ge, hC, ce, de, ne, fe, sz, h1, hTe, gT, cT, dT, nT, fT, h3⟩
      exact this
end
section
variable {X : Cx}
theorem wpAny_land {A : Around} {env : Env} {outer : List Env} {η : List Addr} {s : Shared} {h0 : Heap} {ev : Value} {c : String} {L : Addr} {H : Hp} {E : Value → Shared → Prop} {Q : Unit → Shared → Prop} (hf : env.frame = some L)
    (k : Stk X η A (env :: outer) s.heap) (i : Inv X η H s.heap) (x : ExcAt X (env :: outer) h0 ev c η s.heap) (h0k : ∀ b o, h0.get? b = some o → ∃ o', s.heap.get? b = some o') (hb0 : ∀ b o, X.base.get? b = some o → ∃ o', h0.get? b = some o')
    (hq : ∀ h' es e T, ev = .ref e → Soft (frs (env :: outer)) es s.heap h' → (∀ b ∈ es, h0.get? b = Option.none) → Inv X η H h' → TracedX X h0 e c T .none η h' → Q () { s with heap := h' }) : wpAny X.M A (noteFrame ev env) (fun _ s₂ => wpAny X.M A (setFlight ev Option.none) Q E s₂) E s := by
  refine (wpAny_note hf k (fun a ha => i.alive ha) x h0k fun h' e T es hev sf hes tr => ?_)
  subst hev
  obtain ⟨oe, vs, C, oT, ts, q1, q2, q3, q4, q5, q6, q7, q8, q9, q10, q11, q12, q13, q14, q15⟩ := tr
  have hb : ∀ b, h0.get? b = Option.none → X.base.get? b = Option.none := fun b q => by
    cases g : X.base.get? b with
    | none => rfl
    | some o => obtain ⟨o', g'⟩ := hb0 b o g; rw [q] at g'; cases g'
  have k1 := sf.stk k
  have i1 := sf.inv k.frm i (fun b q => hb b (hes b q)) k.fresh k.off
  have szT := (Array.getElem?_eq_some_iff.mp q15).1
  refine wpAny_setFlight_none (s := { s with heap := h' }) q1 q4 q8 q10 q12 szT ?_
  have sf2 : Soft (frs (env :: outer)) [T] h' (h'.update T (Obj.mapFields (·.setIfInBounds 3 .none))) := Soft.field q10 q12 (by rw [q11]; decide) _
  have i2 := sf2.inv k1.frm i1 (fun b q => by rw [List.mem_singleton] at q; subst q; exact hb _ q14) (Stk.fresh (s := { s with heap := h' }) k1) k1.off
  have tfr : T ∉ frs (env :: outer) := k1.frm.not q10 ⟨fun es n q => (by rw [q12] at q; cases q), fun v q => (by rw [q12] at q; cases q)⟩
  -- T may be new since s: the two together
  refine hq _ (es.filter (fun b => b != T) ++ (if (s.heap.get? T).isSome then [T] else [])) e T rfl ?_ (fun b hb' => ?_) i2 ?_
  · have other : ∀ b, b ≠ T → (h'.update T (Obj.mapFields (·.setIfInBounds 3 .none))).get? b = h'.get? b := fun b hbT => Heap.get?_update_other _ _ (Ne.symm hbT)
    have memT : ∀ o, s.heap.get? T = some o → T ∈ (es.filter (fun b => b != T) ++ (if (s.heap.get? T).isSome then [T] else [])) := fun o g => by rw [g]; exact List.mem_append.mpr (.inr (List.Mem.head _))
    have mem : ∀ b, b ≠ T → (b ∈ (es.filter (fun b => b != T) ++ (if (s.heap.get? T).isSome then [T] else [])) ↔ b ∈ es) := fun b hbT => by
      rw [List.mem_append, List.mem_filter]
      constructor
      · rintro (⟨h1, _⟩ | h1)
        · exact h1
        · split at h1
          · rw [List.mem_singleton] at h1; exact absurd h1 hbT
          · cases h1
      · exact fun h1 => .inl ⟨h1, by simpa using hbT⟩
    refine ⟨fun b o g hb1 hb2 => ?_, fun b o g hb1 hb2 => ?_, fun b hb1 => ?_⟩
    · have hbT : b ≠ T := fun q => hb1 (q ▸ memT o (q ▸ g))
      rw [other b hbT]
      exact sf.same b o g (fun q => hb1 ((mem b hbT).mpr q)) hb2
    · have hbT : b ≠ T := fun q => hb1 (q ▸ memT o (q ▸ g))
      rw [other b hbT]
      exact sf.slots b o g (fun q => hb1 ((mem b hbT).mpr q)) hb2
    · by_cases hbT : b = T
      · subst hbT
        have sT : (s.heap.get? b).isSome = true := by
          rw [List.mem_append, List.mem_filter] at hb1
          rcases hb1 with ⟨_, h1⟩ | h1
          · simp at h1
          · split at h1
            · assumption
            · cases h1
        obtain ⟨o, g⟩ := Option.isSome_iff_exists.mp sT
        by_cases hbe : b ∈ es
        · obtain ⟨o1, fs, g1, d1, c1, fs', g2⟩ := sf.exc b hbe
          refine ⟨o1, fs, g1, d1, c1, fs'.setIfInBounds 3 .none, ?_⟩
          rw [Heap.get?_update_self _ g2 rfl]; rfl
        · have g2 := sf.same b o g hbe tfr
          rw [q10] at g2; cases g2
          refine ⟨oT, ts, g, q12, by rw [q11]; decide, ts.setIfInBounds 3 .none, ?_⟩
          rw [Heap.get?_update_self _ q10 (Obj.isFreed_of_fields (Obj.data_mapFields q12 _))]
          obtain ⟨oc, od, dt, sl⟩ := oT
          simp only at q12; subst q12; rfl
      · rw [other b hbT]
        exact sf.exc b ((mem b hbT).mp hb1)
  · rw [List.mem_append, List.mem_filter] at hb'
    rcases hb' with ⟨h1, _⟩ | h1
    · exact hes b h1
    · split at h1
      · rw [List.mem_singleton] at h1; subst h1; exact q14
      · cases h1
  · refine ⟨oe, vs, C, oT.mapFields (·.setIfInBounds 3 .none), ts.setIfInBounds 3 .none, (Heap.get?_update_other _ _ q9).trans q1, q2, q3, q4, q5, q6, q7, q8, q9, Heap.get?_update_self _ q10 (Obj.isFreed_of_fields (Obj.data_mapFields q12 _)),
      (Obj.cls_mapFields _ _).trans q11, Obj.data_mapFields q12 _, q13, q14, ?_⟩
    rw [Array.getElem?_setIfInBounds_self_of_lt szT]


theorem wpAny_land2 {A : Around} {η : List Addr} {s : Shared} {h0 : Heap} {e T : Addr} {c : String} {E : Value → Shared → Prop} {Q : Unit → Shared → Prop} (tr : TracedX X h0 e c T .none η s.heap)
    (hq : ∀ h', (∀ b, h'.get? b = s.heap.get? b) → Q () { s with heap := h' }) : wpAny X.M A (setFlight (.ref e) Option.none) Q E s := by
  obtain ⟨oe, vs, C, oT, ts, q1, q2, q3, q4, q5, q6, q7, q8, q9, q10, q11, q12, q13, q14, q15⟩ := tr
  have szT := (Array.getElem?_eq_some_iff.mp q15).1
  refine wpAny_setFlight_none q1 q4 q8 q10 q12 szT (hq _ fun b => ?_)
  by_cases hb : b = T
  · subst hb
    rw [Heap.get?_update_self _ q10 (Obj.isFreed_of_fields (Obj.data_mapFields q12 _)), q10]
    obtain ⟨oc, od, dt, sl⟩ := oT
    simp only at q12; subst q12
    have : ts.setIfInBounds 3 .none = ts := by
      apply Array.ext
      · simp
      · intro i h1 h2
        rw [Array.getElem_setIfInBounds]
        split
        · rename_i h; subst h; exact (Array.getElem?_eq_some_iff.mp q15).2.symm
        · rfl
    simp only [Obj.mapFields, this]
  · exact Heap.get?_update_other _ _ (Ne.symm hb)

theorem wpAny_passOn {α : Type} {A : Around} {env : Env} {outer : List Env} {η : List Addr} {s : Shared} {h0 : Heap} {e T L : Addr} {c : String} {H : Hp} {what : String} {E : Value → Shared → Prop} {Q : α → Shared → Prop} (hf : env.frame = some L) (tr : TracedX X h0 e c T .none η s.heap)
    (hq : ∀ h', Soft (frs (env :: outer)) [T] s.heap h' → h0.get? T = Option.none → ExcAt X (env :: outer) h0 (.ref e) c η h' → E (.ref e) { s with heap := h' }) : wpAny X.M A (PySem.passOn what (.ref e) env) Q E s := by
  obtain ⟨oe, vs, C, oT, ts, q1, q2, q3, q4, q5, q6, q7, q8, q9, q10, q11, q12, q13, q14, q15⟩ := tr
  have szT := (Array.getElem?_eq_some_iff.mp q15).1
  have hL : (frs (env :: outer)).head? = some L := by unfold frs; rw [List.filterMap_cons, hf]; rfl
  unfold PySem.passOn
  refine wpAny_bind (wpAny_field q1 q4 q8 ?_)
  rw [if_neg (show ¬ ((Value.ref T == Value.none) = true) from by simp)]
  unfold setFlight
  refine wpAny_bind (wpAny_bind (wpAny_field q1 q4 q8 ?_))
  rw [if_pos (show (Value.ref T != Value.none) = true from by simp), hf]
  refine wpAny_setField q10 q12 szT (wpAny_throw ?_)
  refine hq _ (Soft.field q10 q12 (by rw [q11]; decide) _) q14 ?_
  refine TracedX.exc (T := T) (fl := rawInt L) ⟨oe, vs, C, oT.mapFields (·.setIfInBounds 3 (rawInt L)), ts.setIfInBounds 3 (rawInt L), (Heap.get?_update_other _ _ q9).trans q1, q2, q3, q4, q5, q6, q7, q8, q9, Heap.get?_update_self _ q10 (Obj.isFreed_of_fields (Obj.data_mapFields q12 _)),
      (Obj.cls_mapFields _ _).trans q11, Obj.data_mapFields q12 _, q13, q14, ?_⟩ (.inr ⟨L, hL, rfl⟩)
  rw [Array.getElem?_setIfInBounds_self_of_lt szT]
end
end Mine

/-! Sim19 -/
namespace Mine
open PySem PyProof.Rows PySem.W

theorem Soft.alike {fr es : List Addr} {h h1 h2 : Heap} (x : Soft fr es h h1) (e : ∀ b, h2.get? b = h1.get? b) : Soft fr es h h2 :=
  ⟨fun b o g hb hf => (e b).trans (x.same b o g hb hf), fun b o g hb hf => let ⟨sl, q⟩ := x.slots b o g hb hf; ⟨sl, (e b).trans q⟩,
    fun b hb => let ⟨o, fs, g, d, c, fs', q⟩ := x.exc b hb; ⟨o, fs, g, d, c, fs', (e b).trans q⟩⟩

section
variable {X : Cx} {n : Nat} {hd : Bool} {A : Around} {env : Env} {st outer : List Env} {L : Addr}

theorem noted_back {η : List Addr} {s : Shared} {h0 : Heap} {ev : Value} {c : String} {H : Hp} {E : Value → Shared → Prop} (hf : env.frame = some L) (k : Stk X η A (env :: outer) s.heap) (i : Inv X η H s.heap) (x : ExcAt X (env :: outer) h0 ev c η s.heap)
    (h0k : ∀ b o, h0.get? b = some o → ∃ o', s.heap.get? b = some o') (hb0 : ∀ b o, X.base.get? b = some o → ∃ o', h0.get? b = some o')
    (hq : ∀ h' es, Soft (frs (env :: outer)) es s.heap h' → (∀ b ∈ es, h0.get? b = Option.none) → Inv X η H h' → ExcAt X (env :: outer) h0 ev c η h' → E ev { s with heap := h' }) : notedBy X.M A env (cameBackBy X.M A env E) ev s := by
  unfold notedBy
  refine wpAny_note hf k (fun a ha => i.alive ha) x h0k fun h' e T es hev sf hes tr => ?_
  subst hev
  have tr0 := tr
  obtain ⟨oe, vs, C, oT, ts, q1, q2, q3, q4, q5, q6, q7, q8, q9, q10, q11, q12, q13, q14, q15⟩ := tr
  have szT := (Array.getElem?_eq_some_iff.mp q15).1
  have hL : (frs (env :: outer)).head? = some L := by unfold frs; rw [List.filterMap_cons, hf]; rfl
  have hb : ∀ b, h0.get? b = Option.none → X.base.get? b = Option.none := fun b q => by
    cases g : X.base.get? b with
    | none => rfl
    | some o => obtain ⟨o', g'⟩ := hb0 b o g; rw [q] at g'; cases g'
  unfold cameBackBy
  refine wpAny_bind (wpAny_field q1 q4 q8 ?_)
  rw [if_neg (show ¬ ((Value.ref T == Value.none) = true) from by simp)]
  unfold setFlight
  refine wpAny_bind (wpAny_field q1 q4 q8 ?_)
  rw [if_pos (show (Value.ref T != Value.none) = true from by simp), hf]
  have same : ∀ b, (h'.update T (Obj.mapFields (·.setIfInBounds 3 (rawInt L)))).get? b = h'.get? b := fun b => by
    by_cases hb : b = T
    · subst hb
      rw [Heap.get?_update_self _ q10 (Obj.isFreed_of_fields (Obj.data_mapFields q12 _)), q10]
      obtain ⟨oc, od, dt, sl⟩ := oT
      simp only at q12; subst q12
      have : ts.setIfInBounds 3 (rawInt L) = ts := by
        apply Array.ext
        · simp
        · intro i h1 h2
          rw [Array.getElem_setIfInBounds]
          split
          · rename_i h; subst h; exact (Array.getElem?_eq_some_iff.mp q15).2.symm
          · rfl
      simp only [Obj.mapFields, this]
    · exact Heap.get?_update_other _ _ (Ne.symm hb)
  refine wpAny_setField q10 q12 szT (hq _ es (sf.alike same) hes ?_ ?_)
  · exact (sf.alike same).inv k.frm i (fun b q => hb b (hes b q)) k.fresh k.off
  · refine TracedX.exc (T := T) (fl := rawInt L) ⟨oe, vs, C, oT, ts, (same e).trans q1, q2, q3, q4, q5, q6, q7, q8, q9, (same T).trans q10, q11, q12, q13, q14, q15⟩ (.inr ⟨L, hL, rfl⟩)

inductive ForI (X : Cx) (n : Nat) (hd : Bool) (A : Around) (env : Env) (st : List Env) (η0 : List Addr) (s0 : Shared) (it : Addr) (src : V) (xs : List V) (F : Nat → Rho → Hp → Prop) (m : Nat) (s : Shared) : Prop
  | mk (i : Nat) (ρ : Rho) (H : Hp) (η : List Addr) (e : m = xs.length - i) (a : At X n hd A env st η ρ H s) (es : s = { s0 with heap := s.heap, toks := s.toks }) (x : Step (frs st) (ownOf env) η0 s0.heap η s.heap) (r : ItR X η s.heap it src xs i) (ni : it ∉ η) (hf : F i ρ H) : ForI X n hd A env st η0 s0 it src xs F m s
theorem for_core {it : Addr} {src : V} {xs : List V} {target : Expr} {body' : List Stmt} {bodyF : V → Rho → Hp → RS} {chk : Hp → Bool} {η0 : List Addr} {s0 : Shared} (hst : st = env :: outer) (hfr : env.frame = some L) (hh : A.handled = Option.none)
    (turnOK : ∀ v mv ρ H, bodyF v ρ H ≠ .stuck → ∀ η s, At X n hd A env st η ρ H s → VR X η s.heap v mv → wpAny X.M A (assign target env mv) (fun _ s2 => wpAny X.M A (execs body' env) (OutS X st env η s (bodyF v ρ H)) (ExcS X st env η s (bodyF v ρ H)) s2) (fun _ _ => False) s)
    (hchk : ∀ H, chk H = true → ∀ n, src = .ref n → H[n]? = some (.list xs)) (hlet : ∀ v, letOwnedTupleGo target (.ref it) v = pure ()) (h0n : s0.heap.get? it = Option.none) (hb0 : ∀ b o, X.base.get? b = some o → ∃ o', s0.heap.get? b = some o')
    {ρ0 : Rho} {H0 : Hp} {η1 : List Addr} {s1 : Shared} (a1 : At X n hd A env st η1 ρ0 H0 s1) (e1 : s1 = { s0 with heap := s1.heap, toks := s1.toks }) (x1 : Step (frs st) (ownOf env) η0 s0.heap η1 s1.heap) (r1 : ItR X η1 s1.heap it src xs 0) (n1 : it ∉ η1)
    (hne : forL bodyF chk xs ρ0 H0 ≠ .stuck) :
    codeAny X.M A (.forLoop target (.ref it) body' [] env) (fun r s' => match r with | .ok f => OutS X st env η0 s0 (forL bodyF chk xs ρ0 H0) f s' | .error e => cameBackBy X.M A env (ExcS X st env η0 s0 (forL bodyF chk xs ρ0 H0)) e s') s1 := by
  generalize hres : forL bodyF chk xs ρ0 H0 = res at hne ⊢
  have itb : X.base.get? it = Option.none := by
    cases g : X.base.get? it with
    | none => rfl
    | some o => obtain ⟨o', g'⟩ := hb0 it o g; rw [h0n] at g'; cases g'
  refine codeAny_forLoop (I := ForI X n hd A env st η0 s0 it src xs (fun i ρ H => forL bodyF chk (xs.drop i) ρ H = res))
    (fun m s hI => ?_) xs.length ⟨0, ρ0, H0, η1, rfl, a1, e1, x1, r1, n1, hres⟩ hlet
  obtain ⟨i, ρ, H, η, rfl, a, es, x, r, ni, hf⟩ := hI
  have ck : chk H = true := by
    cases hd : xs.drop i with
    | nil => rw [hd, forL] at hf; exact Classical.byContradiction fun q => (by rw [if_neg q] at hf; exact hne hf.symm)
    | cons v vs => rw [hd, forL] at hf; exact Classical.byContradiction fun q => (by rw [if_neg q] at hf; exact hne hf.symm)
  refine next_ok r a.inv ni hh (hchk H ck) (fun v mv h' tk hv t rv r' => ?_) (fun h' hv t => ?_)
  · have hlt : i < xs.length := (List.getElem?_eq_some_iff.mp hv).1
    have hdr : xs.drop i = v :: xs.drop (i + 1) := by
      rw [List.drop_eq_getElem_cons hlt, (List.getElem?_eq_some_iff.mp hv).2]
    rw [hdr, forL, if_pos ck] at hf
    have a2 : At X n hd A env st η ρ H { s with heap := h', toks := tk } := t.at a ni itb r.rec'
    have x2 : Step (frs st) (ownOf env) η0 s0.heap η h' := t.step x h0n
    have hb : bodyF v ρ H ≠ .stuck := fun q => by rw [q] at hf; exact hne hf.symm
    refine wpAny_mono (turnOK v mv ρ H hb η _ a2 rv) (fun _ s2 hs2 => wpAny_mono hs2 (fun f s3 h3 => ?_) fun ev s3 h3 => ?_) fun _ _ q => q.elim
    · rw [es] at h3
      have go : ∀ ρ1 H1, Post X (frs st) (ownOf env) η { s0 with heap := h', toks := tk } H1 (Ends X env ρ1) s3 → forL bodyF chk (xs.drop (i + 1)) ρ1 H1 = res →
          ∃ m, m < xs.length - i ∧ ForI X n hd A env st η0 s0 it src xs (fun i ρ H => forL bodyF chk (xs.drop i) ρ H = res) m s3 := by
        intro ρ1 H1 P hf1
        obtain ⟨η3, h3', tk3, rfl, i3, x3, en3⟩ := P
        have a3 : At X n hd A env st η3 ρ1 H1 { s0 with heap := h3', toks := tk3 } := by
          have := a2.stepS x3 i3 en3 tk3
          rw [es] at this
          exact this
        obtain ⟨o0, _, _, g0, _⟩ := r'.obj
        exact ⟨xs.length - (i + 1), by omega, i + 1, ρ1, H1, η3, rfl, a3, rfl, x2.trans x3, r'.keep x3 a2.frm ni, x3.mem g0 ni, hf1⟩
      cases f with
      | next => obtain ⟨ρ1, H1, e, P⟩ := h3; rw [e] at hf; exact go ρ1 H1 P hf
      | cont => obtain ⟨ρ1, H1, e, P⟩ := h3; rw [e] at hf; exact go ρ1 H1 P hf
      | brk => exact h3.elim
      | ret mv =>
        obtain ⟨v', H1, e, P⟩ := h3
        rw [e] at hf
        exact ⟨v', H1, hf.symm, P.trans (s := s0) x2 fun _ _ q => q⟩
    · rw [es] at h3
      obtain ⟨c, ρ1, H1, e, η3, h3', tk3, rfl, i3, x3, en3, ex3⟩ := h3
      rw [e] at hf
      have stk3 : Stk X η3 A st h3' := a2.stk.step x3
      rw [hst] at stk3 ex3
      refine noted_back (s := { s0 with heap := h3', toks := tk3 }) (h0 := s0.heap) hfr stk3 i3 (ex3.older x2.alive) (x2.trans x3).alive hb0 fun h4 es4 sf hes i4 ex4 => ?_
      rw [← hst] at sf ex4 stk3
      exact ⟨c, ρ1, H1, hf.symm, η3, h4, tk3, rfl, i4, sf.step stk3.frm (x2.trans x3) hes, sf.ends stk3.frm en3, ex4⟩
  · have hdr : xs.drop i = [] := by rw [List.getElem?_eq_none_iff] at hv; exact List.drop_eq_nil_of_le hv
    rw [hdr, forL, if_pos ck] at hf
    have en := t.ends ⟨a.fok, a.rho⟩ (a.fok.frm.norec r.rec')
    rw [es]
    exact wpAny_pure ⟨ρ, H, hf.symm, η, h', s.toks, rfl, t.inv a.inv ni itb, t.step x h0n, en⟩
end
end Mine

/-! Ev2 -/
namespace Mine
open PySem

/-! equations for reckoning -/
@[simp] theorem lk_hd' {defs : List Def} {cls : List (String × Def)} {const : String → Option V} (n : Nat) : (lk defs cls const n).hd = false := by cases n <;> rfl
@[simp] theorem lk_const {defs : List Def} {cls : List (String × Def)} {const : String → Option V} (n : Nat) : (lk defs cls const n).const = const := by cases n <;> rfl
@[simp] theorem lookup_here {β : Type} (x : String) (v : β) (r : List (String × β)) : List.lookup x ((x, v) :: r) = some v := by simp [List.lookup]
@[simp] theorem lookup_next {β : Type} {x y : String} (h : x ≠ y) (v : β) (r : List (String × β)) : List.lookup x ((y, v) :: r) = List.lookup x r := by
  have : (x == y) = false := by simpa using h
  simp [List.lookup, this]
theorem lk_call {defs : List Def} {cls : List (String × Def)} {const : String → Option V} {f : String} {d : Def} (h : defs.find? (fun d => d.name == f) = some d) (n : Nat) (vs : List V) (H : Hp) :
    (lk defs cls const (n + 1)).call f vs H = runDef (lk defs cls const n) d vs H := by
  show (match defs.find? (fun d => d.name == f) with | some d => runDef (lk defs cls const n) d vs H | Option.none => _) = _
  rw [h]
@[simp] theorem mayCall_false (f : String) : mayCall false f = true := rfl
@[simp] theorem ofO_some {α : Type} (H : Hp) (a : α) : ofO H (some a) = .ok a H := rfl
@[simp] theorem ofO_none {α : Type} (H : Hp) : ofO H (Option.none : Option α) = .stuck := rfl
@[simp] theorem truthR_ok (b : Bool) (H : Hp) : truthR (.ok (.bool b) H) = .ok b H := rfl
@[simp] theorem truthR_raise (c : String) (H : Hp) : truthR (.raise c H) = .raise c H := rfl
@[simp] theorem ofR_ok {α : Type} (ρ : Rho) (a : α) (H : Hp) (k : α → Hp → RS) : ofR ρ (.ok a H) k = k a H := rfl
@[simp] theorem ofR_raise {α : Type} (ρ : Rho) (c : String) (H : Hp) (k : α → Hp → RS) : ofR ρ (.raise c H) k = .raise c ρ H := rfl
@[simp] theorem bi_len_scr (ns : List Int) (H : Hp) : builtin "len" [.scr ns] H = .ok (.int ns.length) H := rfl
@[simp] theorem bi_min (a b : Int) (H : Hp) : builtin "min" [.int a, .int b] H = .ok (.int (if b < a then b else a)) H := rfl
@[simp] theorem bi_max (a b : Int) (H : Hp) : builtin "max" [.int a, .int b] H = .ok (.int (if a < b then b else a)) H := rfl

@[simp] theorem idx_2_0 (a b : V) (H : Hp) : index (.tup [a, b]) (.int 0) H = .ok a H := rfl
@[simp] theorem idx_2_1 (a b : V) (H : Hp) : index (.tup [a, b]) (.int 1) H = .ok b H := rfl
@[simp] theorem bin_add (a b : Int) (H : Hp) : bin .add (.int a) (.int b) H = .ok (.int (a + b)) H := rfl
@[simp] theorem bin_sub (a b : Int) (H : Hp) : bin .sub (.int a) (.int b) H = .ok (.int (a - b)) H := rfl
theorem bin_of {op : Op} {a b z : Int} (H : Hp) (h : intOp op a b = some z) : bin op (.int a) (.int b) H = .ok (.int z) H := by
  have q : bin op (.int a) (.int b) H = (match intOp op a b with | some z => .ok (.int z) H | Option.none => .stuck) := rfl
  rw [q, h]
theorem bin_mul_r {a b : Int} (H : Hp) (h : b.natAbs < 2 ^ 64) : bin .mul (.int a) (.int b) H = .ok (.int (a * b)) H := bin_of H (if_pos (Or.inr h))
theorem bin_mul_l {a b : Int} (H : Hp) (h : a.natAbs < 2 ^ 64) : bin .mul (.int a) (.int b) H = .ok (.int (a * b)) H := bin_of H (if_pos (Or.inl h))
theorem bin_mod {a b : Int} (H : Hp) (h : b ≠ 0) : bin .mod (.int a) (.int b) H = .ok (.int (a.fmod b)) H := bin_of H (if_pos h)
theorem bin_fdiv {a b : Int} (H : Hp) (h : b ≠ 0) (h2 : b.natAbs < 1073741824) : bin .fdiv (.int a) (.int b) H = .ok (.int (a.fdiv b)) H := bin_of H (if_pos ⟨h, h2⟩)
theorem bin_pow {a b : Int} (H : Hp) (h : 0 ≤ a ∧ a ≤ 10 ∧ 0 ≤ b ∧ b ≤ 100) : bin .pow (.int a) (.int b) H = .ok (.int (a ^ b.toNat)) H := bin_of H (if_pos h)
theorem cmp_eq_int (a b : Int) (H : Hp) : cmp .eq (.int a) (.int b) H = some (a == b) := rfl
theorem cmp_ne_int (a b : Int) (H : Hp) : cmp .ne (.int a) (.int b) H = some (!(a == b)) := rfl
theorem cmp_eq_str (a b : Str) (H : Hp) : cmp .eq (.str a) (.str b) H = some (a == b) := rfl
theorem cmp_ne_str (a b : Str) (H : Hp) : cmp .ne (.str a) (.str b) H = some (!(a == b)) := rfl
theorem cmp_lt (a b : Int) (H : Hp) : cmp .lt (.int a) (.int b) H = some (decide (a < b)) := rfl
theorem cmp_le (a b : Int) (H : Hp) : cmp .le (.int a) (.int b) H = some (decide (a ≤ b)) := rfl
theorem cmp_gt (a b : Int) (H : Hp) : cmp .gt (.int a) (.int b) H = some (decide (b < a)) := rfl
@[simp] theorem isinst_int (i : Int) (H : Hp) : isinst (.int i) "int" H = some true := rfl
@[simp] theorem isinst_int_bool (i : Int) (H : Hp) : isinst (.int i) "bool" H = some false := rfl
end Mine

/-! Sim21 -/
namespace Mine
open PySem PyProof.Rows PySem.W

noncomputable def noComp : Expr → Bool
  | .ListComp .. => false
  | .SetComp .. => false
  | .DictComp .. => false
  | _ => true
theorem swaps_no {e : Expr} {t : Option Expr} {l : Nat} {env : Env} (h : noComp e = true) : swapsWith e t l env = pure false := by
  cases e <;> first | rfl | cases h

noncomputable def sName (sc : Scope) (x : String) (e : Expr) : Bool := match e with
  | .Name id _ => id == Str.ofString x && isSt sc id
  | _ => false
noncomputable def sNames (sc : Scope) : List String → List Expr → Bool
  | [], es => es.isEmpty
  | x :: xs, es => match es with
    | e :: es => sName sc x e && sNames sc xs es
    | [] => false
theorem sName_inv {sc : Scope} {x : String} {e : Expr} (h : sName sc x e = true) : ∃ pos, e = .Name (Str.ofString x) pos ∧ isSt sc (Str.ofString x) = true := by
  unfold sName at h
  split at h
  · rw [Bool.and_eq_true, beq_iff_eq] at h
    obtain ⟨rfl, h⟩ := h
    exact ⟨_, rfl, h⟩
  · cases h

section
variable {X : Cx} {n : Nat} {hd : Bool} {A : Around} {env : Env} {st : List Env} {η η1 : List Addr} {ρ ρ' : Rho} {H : Hp} {s s' : Shared} {h1 : Heap} {tk : Nat} {r : RS}
theorem OutS.after {f : Flow} (x : Step (frs st) (ownOf env) η s.heap η1 h1) (o : OutS X st env η1 { s with heap := h1, toks := tk } r f s') : OutS X st env η s r f s' := by
  unfold OutS at o ⊢
  cases f with
  | next => obtain ⟨ρ', H', e, P⟩ := o; exact ⟨ρ', H', e, P.trans x fun _ _ q => q⟩
  | cont => obtain ⟨ρ', H', e, P⟩ := o; exact ⟨ρ', H', e, P.trans x fun _ _ q => q⟩
  | brk => exact o
  | ret mv => obtain ⟨v, H', e, P⟩ := o; exact ⟨v, H', e, P.trans x fun _ _ q => q⟩
theorem ExcS.after {ev : Value} (x : Step (frs st) (ownOf env) η s.heap η1 h1) (o : ExcS X st env η1 { s with heap := h1, toks := tk } r ev s') : ExcS X st env η s r ev s' := by
  obtain ⟨c, ρ', H', e, P⟩ := o
  exact ⟨c, ρ', H', e, P.trans x fun _ _ q => ⟨q.1, q.2.older x.alive⟩⟩

theorem stores_ok {Q : Unit → Shared → Prop} {E : Value → Shared → Prop} : ∀ (xs : List String) (es : List Expr) (ws : List V) (ms : List Value) (ρ : Rho) (s : Shared), sNames env.scope xs es = true → setAll xs ws ρ = some ρ' → VRs X η s.heap ws ms → At X n hd A env st η ρ H s →
    (∀ h' tk, Step (frs st) (ownOf env) η s.heap η h' → Inv X η H h' → Ends X env ρ' η h' → Q () { s with heap := h', toks := tk }) → wpAny X.M A (assignInOrder ((assignEach es env).map (·.2)) ms) Q E s
  | [], es, ws, ms, ρ, s, h1, h2, h3, a, hq => by
    cases es with
    | cons => cases h1
    | nil =>
      cases ws with
      | cons => cases h2
      | nil => cases h2; exact wpAny_pure (hq s.heap s.toks (Step.refl _ _ _ _) a.inv ⟨a.fok, a.rho⟩)
  | x :: xs, es, ws, ms, ρ, s, h1, h2, h3, a, hq => by
    cases es with
    | nil => cases h1
    | cons e es =>
      simp only [sNames, Bool.and_eq_true] at h1
      obtain ⟨pos, rfl, hx⟩ := sName_inv h1.1
      cases h3 with
      | nil => cases h2
      | cons r rs =>
        rename_i v vs m ms
        show wpAny X.M A (PySem.holding ms (assign (.Name (Str.ofString x) pos) env m) >>= fun _ => assignInOrder ((assignEach es env).map (·.2)) ms) Q E s
        refine wpAny_bind (wpAny_holding (wpAny_assign_Name (wpAny_store a hx r fun h' tk x1 i en => ?_)))
        refine stores_ok xs es vs ms (setL x v ρ) _ h1.2 h2 (rs.step x1 a.frm) (a.stepS x1 i en tk) fun h2 tk2 x2 i2 en2 => hq h2 tk2 (x1.trans x2) i2 en2

theorem each_length : ∀ {xs : List String} {es : List Expr}, sNames env.scope xs es = true → (assignEach es env).length = xs.length ∧ (assignEach es env).findIdx? (·.1) = Option.none
  | [], es, h => by cases es with | nil => exact ⟨rfl, rfl⟩ | cons => cases h
  | x :: xs, es, h => by
    cases es with
    | nil => cases h
    | cons e es =>
      simp only [sNames, Bool.and_eq_true] at h
      obtain ⟨pos, rfl, hx⟩ := sName_inv h.1
      obtain ⟨h1, h2⟩ := each_length h.2
      refine ⟨congrArg Nat.succ h1, ?_⟩
      show ((false, assign (.Name (Str.ofString x) pos) env) :: assignEach es env).findIdx? (·.1) = _
      rw [List.findIdx?_cons, h2]; rfl

theorem setAll_length : ∀ {xs : List String} {ws : List V} {ρ ρ' : Rho}, setAll xs ws ρ = some ρ' → xs.length = ws.length
  | [], [], _, _, _ => rfl
  | [], _ :: _, _, _, h => by cases h
  | _ :: _, [], _, _, h => by cases h
  | _ :: xs, _ :: ws, _, _, h => congrArg Nat.succ (setAll_length (xs := xs) (ws := ws) h)

theorem unpack_tup {xs : List String} {es : List Expr} {ws : List V} {mv : Value} {k : Nat} {pos : Pos} {Q : Unit → Shared → Prop} {E : Value → Shared → Prop} (hh : A.handled = Option.none) (hx : sNames env.scope xs es = true) (hset : setAll xs ws ρ = some ρ') (rv : VR X η s.heap (.tup ws) mv) (a : At X n hd A env st η ρ H s)
    (hq : ∀ h' tk, Step (frs st) (ownOf env) η s.heap η h' → Inv X η H h' → Ends X env ρ' η h' → Q () { s with heap := h', toks := tk }) : wpAny X.M A (assign (.Tuple es k pos) env mv) Q E s := by
  cases rv with
  | tup g hn r l =>
    rename_i t items kk
    obtain ⟨l1, l2⟩ := each_length (env := env) hx
    have hlen : xs.length = ws.length := setAll_length hset
    refine wpAny_assign_Tuple hh ⟨_, g, rfl, _, rfl⟩ ?_ l2 fun h' eb => ?_
    · rw [l1, hlen, r.length, Array.length_toList]
    · have k0 : ∀ b o, s.heap.get? b = some o → h'.get? b = some o := fun b o e => eb b o (Nat.ne_of_lt (Heap.lt_size e)) e
      have a1 := a.step (Step.ext _ _ _ k0) (a.inv.ext k0) s.toks
      exact stores_ok xs es ws items.toList ρ _ hx hset (r.step (Step.ext (frs st) [] _ k0) a.stk.frm) a1 fun h2 tk2 x2 i2 en2 => hq h2 tk2 ((Step.ext _ _ _ k0).trans x2) i2 en2
end
end Mine

/-! SimH -/
namespace Mine
open PySem PyProof.Rows PySem.W

noncomputable def swapOk (sc : Scope) (t v : Expr) : Bool := match v, t with
  | .ListComp _ _ scope vp, .Name id tp => sc.kind == .function && sc.names.lookup id == some .local && tp.line == vp.line && !(scope.names.any fun (n, k) => n == id && (k == .local || k == .cell))
  | _, _ => false

theorem isE_lcomp {kn : String → Bool} {sc : Scope} {c : E} {elt : Expr} {gs : List Comprehension} {scope : Scope} {pos : Pos} (h : isE kn sc c (.ListComp elt gs scope pos) = true) :
    ∃ el x it px iter, c = .comp el x it ∧ gs = [⟨.Name (Str.ofString x) px, iter, [], 0⟩] ∧ isE kn sc it iter = true ∧ noSet iter = true ∧ compOk sc scope (Str.ofString x) = true ∧ isE kn (relabelS scope sc) el elt = true := by
  cases c with
  | comp el x it =>
    obtain ⟨elt', px, iter, scope', p, e, h1, h2, h3, h4⟩ := isE_comp h
    cases e
    exact ⟨el, x, it, px, iter, rfl, rfl, h1, h2, h3, h4⟩
  | _ => exact ff h

section
variable {X : Cx} {n : Nat} {A : Around} {env : Env} {st : List Env} {ρ : Rho} {H : Hp} {Γ : Fn}
theorem asg_comp {c : E} {x : String} {v : Expr} {pt pos : Pos} (S : SoundFn X n Γ) (h2 : isE X.kn env.scope c v = true) (hx : isSt env.scope (Str.ofString x) = true) (hw : swapOk env.scope (.Name (Str.ofString x) pt) v = true) :
    TriS X n Γ.hd A env st [] (exec (.Assign [.Name (Str.ofString x) pt] v pos) env) ρ H (ofR ρ (evE Γ ρ c H) fun v H1 => .next (setL x v ρ) H1) := by
  unfold swapOk at hw
  split at hw
  · rename_i elt gs scope vp id tp e
    cases e
    simp only [Bool.and_eq_true, beq_iff_eq, Bool.not_eq_true'] at hw
    obtain ⟨⟨⟨w1, w2⟩, w3⟩, w4⟩ := hw
    obtain ⟨el, y, it, px, iter, rfl, rfl, q1, q2, q3, q4⟩ := isE_lcomp h2
    have hsw : swapsWith (.ListComp elt [⟨.Name (Str.ofString y) px, iter, [], 0⟩] scope vp) (some (.Name (Str.ofString x) pt)) pos.line env = pure true := by
      show (pure (env.blockKind == .function && env.kindOf (Str.ofString x) == some .local && pt.line == vp.line && !(scope.names.any fun (n, k) => n == Str.ofString x && (k == .local || k == .cell))) : Sem Bool) = _
      have b1 : env.blockKind = .function := by unfold Env.blockKind; rw [w1]; rfl
      have b2 : env.kindOf (Str.ofString x) = some .local := w2
      rw [b1, b2, w3, w4]
      simp
    rw [evE_comp, exec_Assign_Name_used _ _ _ _ hsw]
    refine TriS.stand ?_
    by_cases hh : Γ.hd = true
    · rw [if_pos hh]; exact TriS.stuck
    · rw [if_neg hh]
      intro hs η s a _
      refine wpAny_bind ?_
      show wpAny _ A (do let _ ← comprehension (.ListComp elt [⟨.Name (Str.ofString y) px, iter, [], 0⟩] scope vp) scope env _ (newList []) false (eval iter env) (some (assign (.Name (Str.ofString x) pt) env))) _ _ s
      refine wpAny_bind (wpAny_mono (comp_run (f := fun v H' => evE Γ ((y, v) :: ρ) el H') (use := some (assign (.Name (Str.ofString x) pt) env)) (Q := fun _ s' => OutS X st env η s (ofR ρ ((evE Γ ρ it H).bind fun v H1 => match items H1 v with
        | some xs => (turns (fun y' H2 => (evE Γ ((y, y') :: ρ) el H2).bind fun r H4 => .ok (some r) H4) (sameO v H1) H1.length xs (H1 ++ [.list []])).bind fun _ H5 => .ok (V.ref H1.length) H5
        | Option.none => .stuck) fun v H1 => .next (setL x v ρ) H1) .next s') (E := ExcS X st env η s (ofR ρ ((evE Γ ρ it H).bind fun v H1 => match items H1 v with
        | some xs => (turns (fun y' H2 => (evE Γ ((y, y') :: ρ) el H2).bind fun r H4 => .ok (some r) H4) (sameO v H1) H1.length xs (H1 ++ [.list []])).bind fun _ H5 => .ok (V.ref H1.length) H5
        | Option.none => .stuck) fun v H1 => .next (setL x v ρ) H1)) q3 q2 (a.hand (Bool.eq_false_iff.mpr hh)) (evE_ok S it iter env ρ H q1) (fun cl v C' H' => evE_ok S el elt (compEnvC scope cl C' env) ((y, v) :: ρ) H' q4) a (fun q => hs (congrArg (fun z => ofR ρ z fun v H1 => RS.next (setL x v ρ) H1) q)) ?_ ?_) (fun _ s' hq => wpAny_pure (wpAny_pure hq)) fun _ _ e => e)
      · intro ev s' c H' e P
        obtain ⟨η1, h', tk, rfl, i, stp, hp⟩ := P
        rw [e]
        exact ⟨c, ρ, H', rfl, η1, h', tk, rfl, i, stp.up, a.ends stp, hp⟩
      · intro v H1 xs H' s' D C e hi et ce
        obtain ⟨η', h', tk, rfl, iv, stp, dk, cn, c0, m, ns⟩ := ce
        have a1 : At X n Γ.hd A env st η' ρ H' { s with heap := h', toks := tk } := a.step stp iv tk
        have own : C ∉ ownOf env := fun q => by obtain ⟨o, g, _⟩ := a.fok.frm C q; rw [c0] at g; cases g
        have cb : X.base.get? C = Option.none := by
          cases g : X.base.get? C with
          | none => rfl
          | some o => have := a.inv.keep C o g; rw [c0] at this; cases this
        show wpAny _ A (assign (.Name (Str.ofString x) pt) env (.ref D)) _ _ _
        refine wpAny_bind (wpAny_standAt (wpAny_bindName (wpAny_store a1 hx (.ref dk) fun h2 tk2 x2 i2 en2 => ?_)))
        have nsC : ∃ m, h2.Ns C m := by
          obtain ⟨o, es', ep, g, d, q⟩ := ns
          obtain ⟨sl, g2⟩ := x2.data g cn own
          exact ⟨m, _, es', ep, g2, d, q⟩
        obtain ⟨m2, ns2⟩ := nsC
        refine ⟨m2, ns2, fun h3 sb => ?_⟩
        have t : Turn C h2 h3 := ⟨fun b o hb e => (sb.2 b hb).trans e, by obtain ⟨o, es', ep, g, d, _⟩ := ns2; exact ⟨o, g, .inr ⟨es', ep, d⟩⟩⟩
        refine ⟨setL x (.ref H1.length) ρ, H', by rw [e, R.bind_ok, hi]; simp only [et, R.bind_ok]; rfl, η', h3, tk2, rfl, t.inv i2 cn cb, t.step (stp.up.trans x2) c0, t.ends en2 own⟩
  · cases hw
end
end Mine

/-! Sim12 -/
namespace Mine
open PySem PyProof.Rows PySem.W

noncomputable def noTup : Expr → Bool
  | .Tuple .. => false
  | _ => true
theorem swapped_no {es : List Expr} {k : Nat} {p : Pos} {e : Expr} {env : Env} (h : noTup e = true) : swappedStores [.Tuple es k p] e env = pure Option.none := by
  cases e <;> first | rfl | cases h

noncomputable def onSAssign (e : Stmt) (f : List Expr → Expr → Pos → Bool) : Bool := match e with
  | .Assign ts v p => f ts v p
  | _ => false
theorem onSAssign_inv {e : Stmt} {f : List Expr → Expr → Pos → Bool} (h : onSAssign e f = true) : ∃ ts v p, e = .Assign ts v p ∧ f ts v p = true := by
  cases e with
  | Assign ts v p => exact ⟨ts, v, p, rfl, h⟩
  | _ => exact ff h
noncomputable def onSReturn (e : Stmt) (f : Option Expr → Pos → Bool) : Bool := match e with
  | .Return x p => f x p
  | _ => false
theorem onSReturn_inv {e : Stmt} {f : Option Expr → Pos → Bool} (h : onSReturn e f = true) : ∃ x p, e = .Return x p ∧ f x p = true := by
  cases e with
  | Return x p => exact ⟨x, p, rfl, h⟩
  | _ => exact ff h
noncomputable def onSIf (e : Stmt) (f : Expr → List Stmt → List Stmt → Pos → Bool) : Bool := match e with
  | .If t a b p => f t a b p
  | _ => false
theorem onSIf_inv {e : Stmt} {f : Expr → List Stmt → List Stmt → Pos → Bool} (h : onSIf e f = true) : ∃ t a b p, e = .If t a b p ∧ f t a b p = true := by
  cases e with
  | If t a b p => exact ⟨t, a, b, p, rfl, h⟩
  | _ => exact ff h
noncomputable def onSFor (e : Stmt) (f : Expr → Expr → List Stmt → List Stmt → Pos → Bool) : Bool := match e with
  | .For t i b els p => f t i b els p
  | _ => false
theorem onSFor_inv {e : Stmt} {f : Expr → Expr → List Stmt → List Stmt → Pos → Bool} (h : onSFor e f = true) : ∃ t i b els p, e = .For t i b els p ∧ f t i b els p = true := by
  cases e with
  | For t i b els p => exact ⟨t, i, b, els, p, rfl, h⟩
  | _ => exact ff h
noncomputable def onSExpr (e : Stmt) (f : Expr → Pos → Bool) : Bool := match e with
  | .Expr v p => f v p
  | _ => false
theorem onSExpr_inv {e : Stmt} {f : Expr → Pos → Bool} (h : onSExpr e f = true) : ∃ v p, e = .Expr v p ∧ f v p = true := by
  cases e with
  | Expr v p => exact ⟨v, p, rfl, h⟩
  | _ => exact ff h
noncomputable def onSRaise (e : Stmt) (f : Option Expr → Option Expr → Pos → Bool) : Bool := match e with
  | .Raise x cause p => f x cause p
  | _ => false
theorem onSRaise_inv {e : Stmt} {f : Option Expr → Option Expr → Pos → Bool} (h : onSRaise e f = true) : ∃ x cause p, e = .Raise x cause p ∧ f x cause p = true := by
  cases e with
  | Raise x cause p => exact ⟨x, cause, p, rfl, h⟩
  | _ => exact ff h
noncomputable def onSTry (e : Stmt) (f : List Stmt → List ExceptHandler → List Stmt → List Stmt → Pos → Bool) : Bool := match e with
  | .Try b hs els fin p => f b hs els fin p
  | _ => false
theorem onSTry_inv {e : Stmt} {f : List Stmt → List ExceptHandler → List Stmt → List Stmt → Pos → Bool} (h : onSTry e f = true) : ∃ b hs els fin p, e = .Try b hs els fin p ∧ f b hs els fin p = true := by
  cases e with
  | Try b hs els fin p => exact ⟨b, hs, els, fin, p, rfl, h⟩
  | _ => exact ff h
noncomputable def strC (e : Expr) : Bool := onConstant e fun c _ _ => match c with | .str m => PyData.strOk m | _ => false
theorem strC_inv {e : Expr} (h : strC e = true) : ∃ m k p, e = .Constant (.str m) k p ∧ PyData.strOk m = true := by
  obtain ⟨c, k, p, rfl, h1⟩ := onConstant_inv h
  cases c with
  | str m => exact ⟨m, k, p, rfl, h1⟩
  | _ => exact ff h1
noncomputable def someE (e : Option Expr) (f : Expr → Bool) : Bool := match e with
  | some e => f e
  | Option.none => false
noncomputable def nameOk (sc : Scope) (n : Option String) (nm : Option Str) : Bool := match n with
  | Option.none => nm.isNone
  | some x => (match nm with | some y => y == Str.ofString x && sc.names.lookup y == some .local | Option.none => false)
mutual
noncomputable def isS (kn ex : String → Bool) (sc : Scope) : S → Stmt → Bool
  | .asg x c, s => onSAssign s fun ts v _ => one ts (fun t => sName sc x t && (isE kn sc c v && (noComp v || swapOk sc t v)))
  | .unpack xs c, s => onSAssign s fun ts v _ => one ts (fun t => onTuple t fun es _ _ => sNames sc xs es) && (isE kn sc c v && (noComp v && noTup v))
  | .setattr o a c, s => onSAssign s fun ts v _ => one ts (fun t => onAttribute t fun o' nm _ => nm == Str.ofString a && isE kn sc o o') && (isE kn sc c v && (noComp v && attrName a))
  | .setidx o i c, s => onSAssign s fun ts v _ => one ts (fun t => onSubscript t fun o' i' _ => isE kn sc o o' && isE kn sc i i') && (isE kn sc c v && noComp v)
  | .ret c, s => onSReturn s fun e _ => someE e (isE kn sc c)
  | .ret0, s => onSReturn s fun e _ => e.isNone
  | .iff t a b, s => onSIf s fun t' a' b' _ => isE kn sc t t' && (isSs kn ex sc a a' && isSs kn ex sc b b')
  | .for1 x (.e c) b, s => onSFor s fun t e b' els _ => els.isEmpty && (sName sc x t && (isE kn sc c e && (noSet e && isSs kn ex sc b b')))
  | .expr c, s => onSExpr s fun e _ => isE kn sc c e && noComp e
  | .raise c _, s => onSRaise s fun e cause _ => cause.isNone && (ex c && someE e fun e => onCall e fun fn args kws _ => kws.isEmpty && (gName kn sc c fn && one args strC))
  | .tryE b hs, s => onSTry s fun b' hs' els fin _ => els.isEmpty && (fin.isEmpty && (!hs'.isEmpty && (isSs kn ex sc b b' && isHs kn ex sc hs hs')))
  | .cont, s => match s with | .Continue _ => true | _ => false
noncomputable def isSs (kn ex : String → Bool) (sc : Scope) : List S → List Stmt → Bool
  | [], l => match l with | [] => true | _ => false
  | c :: cs, l => match l with | s :: ss => isS kn ex sc c s && isSs kn ex sc cs ss | [] => false
noncomputable def isHs (kn ex : String → Bool) (sc : Scope) : List (String × Option String × List S) → List ExceptHandler → Bool
  | [], l => match l with | [] => true | _ => false
  | (T, n, b) :: r, l => match l with
    | h :: r' => (match h with | .ExceptHandler t nm b' _ => someE t (gName kn sc T) && (ex T && (nameOk sc n nm && (!b'.isEmpty && isSs kn ex sc b b')))) && isHs kn ex sc r r'
    | [] => false
end
section
variable {kn ex : String → Bool} {sc : Scope} {s : Stmt}
theorem someE_inv {e : Option Expr} {f : Expr → Bool} (h : someE e f = true) : ∃ a, e = some a ∧ f a = true := by
  cases e with
  | none => exact ff h
  | some a => exact ⟨a, rfl, h⟩
theorem isS_asg {x : String} {c : E} (h : isS kn ex sc (.asg x c) s = true) : ∃ t v p, s = .Assign [t] v p ∧ sName sc x t = true ∧ isE kn sc c v = true ∧ (noComp v || swapOk sc t v) = true := by
  obtain ⟨ts, v, p, rfl, g1⟩ := onSAssign_inv h
  obtain ⟨t, rfl, g2⟩ := one_inv g1
  exact ⟨t, v, p, rfl, (and_inv g2).1, and_inv (and_inv g2).2⟩
theorem isS_unpack {xs : List String} {c : E} (h : isS kn ex sc (.unpack xs c) s = true) : ∃ es k q v p, s = .Assign [.Tuple es k q] v p ∧ sNames sc xs es = true ∧ isE kn sc c v = true ∧ noComp v = true ∧ noTup v = true := by
  obtain ⟨ts, v, p, rfl, g1⟩ := onSAssign_inv h
  obtain ⟨t, rfl, h1⟩ := one_inv (and_inv g1).1
  obtain ⟨es, k, q, rfl, h2⟩ := onTuple_inv h1
  exact ⟨es, k, q, v, p, rfl, h2, (and_inv (and_inv g1).2).1, and_inv (and_inv (and_inv g1).2).2⟩
theorem isS_setattr {o c : E} {a : String} (h : isS kn ex sc (.setattr o a c) s = true) : ∃ o' q v p, s = .Assign [.Attribute o' (Str.ofString a) q] v p ∧ isE kn sc c v = true ∧ noComp v = true ∧ isE kn sc o o' = true ∧ attrName a = true := by
  obtain ⟨ts, v, p, rfl, g1⟩ := onSAssign_inv h
  obtain ⟨t, rfl, h1⟩ := one_inv (and_inv g1).1
  obtain ⟨o', nm, q, rfl, h2⟩ := onAttribute_inv h1
  have h3 := and_inv (and_inv (and_inv g1).2).2
  exact ⟨o', q, v, p, by rw [beq_iff_eq.mp (and_inv h2).1], (and_inv (and_inv g1).2).1, h3.1, (and_inv h2).2, h3.2⟩
theorem isS_setidx {o i c : E} (h : isS kn ex sc (.setidx o i c) s = true) : ∃ o' i' q v p, s = .Assign [.Subscript o' i' q] v p ∧ isE kn sc c v = true ∧ noComp v = true ∧ isE kn sc o o' = true ∧ isE kn sc i i' = true := by
  obtain ⟨ts, v, p, rfl, g1⟩ := onSAssign_inv h
  obtain ⟨t, rfl, h1⟩ := one_inv (and_inv g1).1
  obtain ⟨o', i', q, rfl, h2⟩ := onSubscript_inv h1
  exact ⟨o', i', q, v, p, rfl, (and_inv (and_inv g1).2).1, (and_inv (and_inv g1).2).2, and_inv h2⟩
theorem isS_ret {c : E} (h : isS kn ex sc (.ret c) s = true) : ∃ e p, s = .Return (some e) p ∧ isE kn sc c e = true := by
  obtain ⟨e, p, rfl, g1⟩ := onSReturn_inv h
  obtain ⟨a, rfl, g2⟩ := someE_inv g1
  exact ⟨a, p, rfl, g2⟩
theorem isS_ret0 (h : isS kn ex sc .ret0 s = true) : ∃ p, s = .Return Option.none p := by
  obtain ⟨e, p, rfl, g1⟩ := onSReturn_inv h
  exact ⟨p, by rw [Option.isNone_iff_eq_none.mp g1]⟩
theorem isS_iff {t : E} {a b : List S} (h : isS kn ex sc (.iff t a b) s = true) : ∃ t' a' b' p, s = .If t' a' b' p ∧ isE kn sc t t' = true ∧ isSs kn ex sc a a' = true ∧ isSs kn ex sc b b' = true := by
  obtain ⟨t', a', b', p, rfl, g1⟩ := onSIf_inv h
  exact ⟨t', a', b', p, rfl, (and_inv g1).1, and_inv (and_inv g1).2⟩
theorem isS_for1 {x : String} {c : E} {b : List S} (h : isS kn ex sc (.for1 x (.e c) b) s = true) : ∃ t e b' p, s = .For t e b' [] p ∧ sName sc x t = true ∧ isE kn sc c e = true ∧ noSet e = true ∧ isSs kn ex sc b b' = true := by
  obtain ⟨t, e, b', els, p, rfl, g1⟩ := onSFor_inv h
  obtain ⟨h1, g2⟩ := and_inv g1
  obtain ⟨h2, g3⟩ := and_inv g2
  obtain ⟨h3, g4⟩ := and_inv g3
  exact ⟨t, e, b', p, by rw [List.isEmpty_iff.mp h1], h2, h3, and_inv g4⟩
theorem isS_expr {c : E} (h : isS kn ex sc (.expr c) s = true) : ∃ e p, s = .Expr e p ∧ isE kn sc c e = true ∧ noComp e = true :=
  let ⟨e, p, e1, h⟩ := onSExpr_inv h; ⟨e, p, e1, and_inv h⟩
theorem isS_raise {c m : String} (h : isS kn ex sc (.raise c m) s = true) : ∃ fn ms k q cp p, s = .Raise (some (.Call fn [.Constant (.str ms) k q] [] cp)) Option.none p ∧ gName kn sc c fn = true ∧ ex c = true ∧ PyData.strOk ms = true := by
  obtain ⟨e, cause, p, rfl, g1⟩ := onSRaise_inv h
  obtain ⟨h1, g2⟩ := and_inv g1
  obtain ⟨h2, g3⟩ := and_inv g2
  obtain ⟨a, rfl, g4⟩ := someE_inv g3
  obtain ⟨fn, args, kws, cp, rfl, g5⟩ := onCall_inv g4
  obtain ⟨h3, g6⟩ := and_inv g5
  obtain ⟨h4, g7⟩ := and_inv g6
  obtain ⟨a, rfl, g8⟩ := one_inv g7
  obtain ⟨ms, k, q, rfl, h5⟩ := strC_inv g8
  exact ⟨fn, ms, k, q, cp, p, by rw [Option.isNone_iff_eq_none.mp h1, List.isEmpty_iff.mp h3], h4, h2, h5⟩
theorem isS_tryE {b : List S} {hs : List (String × Option String × List S)} (h : isS kn ex sc (.tryE b hs) s = true) : ∃ b' h' hs' p, s = .Try b' (h' :: hs') [] [] p ∧ isSs kn ex sc b b' = true ∧ isHs kn ex sc hs (h' :: hs') = true := by
  obtain ⟨b', hs', els, fin, p, rfl, g1⟩ := onSTry_inv h
  obtain ⟨h1, g2⟩ := and_inv g1
  obtain ⟨h2, g3⟩ := and_inv g2
  obtain ⟨h3, g4⟩ := and_inv g3
  cases hs' with
  | nil => exact ff h3
  | cons h' hs' => exact ⟨b', h', hs', p, by rw [List.isEmpty_iff.mp h1, List.isEmpty_iff.mp h2], and_inv g4⟩
theorem isS_cont (h : isS kn ex sc .cont s = true) : ∃ p, s = .Continue p := by
  cases s with
  | Continue p => exact ⟨p, rfl⟩
  | _ => exact ff h
theorem isHs_inv {T : String} {n : Option String} {b : List S} {r : List (String × Option String × List S)} {l : List ExceptHandler} (h : isHs kn ex sc ((T, n, b) :: r) l = true) :
    ∃ t nm b0 b' p r', l = .ExceptHandler (some t) nm (b0 :: b') p :: r' ∧ gName kn sc T t = true ∧ ex T = true ∧ nameOk sc n nm = true ∧ isSs kn ex sc b (b0 :: b') = true ∧ isHs kn ex sc r r' = true := by
  cases l with
  | nil => exact ff h
  | cons hd r' =>
    cases hd with
    | ExceptHandler t nm b' p =>
      obtain ⟨g1, h6⟩ := and_inv h
      obtain ⟨h1, g2⟩ := and_inv g1
      obtain ⟨h2, g3⟩ := and_inv g2
      obtain ⟨h3, g4⟩ := and_inv g3
      obtain ⟨h4, h5⟩ := and_inv g4
      obtain ⟨a, rfl, h1⟩ := someE_inv h1
      cases b' with
      | nil => exact ff h4
      | cons b0 b' => exact ⟨a, nm, b0, b', p, r', rfl, h1, h2, h3, h5, h6⟩
end
theorem isSs_cons {kn ex : String → Bool} {sc : Scope} {c : S} {cs : List S} {e : Stmt} {es : List Stmt} : isSs kn ex sc (c :: cs) (e :: es) = (isS kn ex sc c e && isSs kn ex sc cs es) := rfl
theorem isSs_nil {kn ex : String → Bool} {sc : Scope} {c : S} {cs : List S} : isSs kn ex sc (c :: cs) [] = false := rfl

section
variable {M : Model} {A : Around} {E : Value → Shared → Prop}
theorem wpAny_excMatches_own {h : Heap} {g : Array GenState} {d : Drawn} {t : Nat} {os : OsState} {e : Addr} {oe : Obj} {Q : Bool → Shared → Prop} {b : Bool}
    {nm q : Str} {C N : Addr} {bs bm : List Value} {hdct : Bool} {sn : List Str} {sub : List Value} {ab : Bool} {col : Option Bool} {dd : Option Addr} {k0 k1 k2 k3 k5 : Option Value} {newId : String}
    {nm' q' : Str} {D N' : Addr} {bs' bm' : List Value} {hdct' : Bool} {sn' : List Str} {sub' : List Value} {ab' : Bool} {col' : Option Bool} {dd' : Option Addr} {k0' k1' k2' k3' k5' : Option Value} {newId' : String}
    (hC : h.get? C = some (excClassObj nm q C N bs bm hdct sn sub ab col dd k0 k1 k2 k3 k5 newId)) (hD : h.get? D = some (excClassObj nm' q' D N' bs' bm' hdct' sn' sub' ab' col' dd' k0' k1' k2' k3' k5' newId'))
    (he : h.get? e = some oe) (hcls : oe.cls = .ref C) (hbase : bm'.contains (.type "BaseException") = true) (hb : (Value.ref C :: bm).contains (.ref D) = b)
    (hq : Q b ⟨h, g, d, t, os⟩) : wpAny M A (excMatches (.ref e) (.ref D)) Q E ⟨h, g, d, t, os⟩ := by
  have hcB : (Value.ref D :: bm').contains (.type "BaseException") = true := by rw [List.contains_cons, hbase, Bool.or_true]
  have f := tc_notTuple
  unfold excMatches
  repeat (first | (with_reducible refine wpAny_loadPart_at he ?_; rw [hcls]) | with_reducible refine wpAny_loadPart_at hD ?_ | (with_reducible refine wpAny_isSubtype_exc hD ?_; rw [hcB]) | (with_reducible refine wpAny_isSubtype_exc hC ?_; rw [hb]) | wp_step)
  cases b <;> (wp_walk; exact hq)
end

section
variable {X : Cx} {n : Nat} {st outer : List Env} {env : Env} {L : Addr}

theorem exSs_other {Γ : Fn} {c : S} {cs : List S} {ρ : Rho} {H : Hp} : ∀ q : RS, (∀ ρ1 H1, q ≠ .next ρ1 H1) → exS Γ c ρ H = q → exSs Γ (c :: cs) ρ H = q := by
  intro q hq e
  show (match exS Γ c ρ H with | .next ρ1 H1 => exSs Γ cs ρ1 H1 | r => r) = q
  rw [e]
  cases q with
  | next ρ1 H1 => exact absurd rfl (hq ρ1 H1)
  | _ => rfl

mutual
theorem exS_ok (hst : st = env :: outer) (hfr : env.frame = some L) : ∀ (c : S) (sm : Stmt) (Γ : Fn) (A : Around) (ρ : Rho) (H : Hp), SoundFn X n Γ → isS X.kn X.ex env.scope c sm = true → TriS X n Γ.hd A env st [] (exec sm env) ρ H (exS Γ c ρ H)
  | .asg x c, sm, Γ, A, ρ, H, S0, h => by
    obtain ⟨t, v, pos, rfl, h1, h2, h3⟩ := isS_asg h
    obtain ⟨pt, rfl, hx⟩ := sName_inv h1
    rw [exS_asg]
    rw [Bool.or_eq_true] at h3
    rcases h3 with h3 | h3
    rotate_left
    · exact asg_comp S0 h2 hx h3
    rw [exec_Assign_Name env _ _ _ _ (swaps_no h3)]
    refine TriS.stand (TriS.expr (evE_ok S0 c v env ρ H h2) fun w H1 mw _ _ => TriS.stand ?_)
    exact TriS.store (List.mem_append.mpr (.inr (List.Mem.head _))) hx TriS.next
  | .ret c, sm, Γ, A, ρ, H, S0, h => by
    obtain ⟨e, pos, rfl, h1⟩ := isS_ret h
    rw [exec_Return_some]
    rw [exS_ret]
    exact TriS.stand (TriS.expr (evE_ok S0 c e env ρ H h1) fun w H1 mw _ _ => TriS.ret (List.mem_append.mpr (.inr (List.Mem.head _))))
  | .ret0, sm, Γ, A, ρ, H, S0, h => by
    obtain ⟨pos, rfl⟩ := isS_ret0 h
    rw [exec_Return_none]
    rw [exS_ret0]
    refine TriS.stand fun _ η s a _ => wpAny_pure ⟨.none, H, rfl, η, s.heap, s.toks, rfl, a.inv, Step.refl _ _ _ _, a.fok, .none⟩
  | .iff t a b, sm, Γ, A, ρ, H, S0, h => by
    obtain ⟨t', a', b', pos, rfl, h1, h2, h3⟩ := isS_iff h
    rw [exec_If]
    rw [exS_iff]; unfold evT
    refine TriS.stand (TriS.expr (testE_ok S0 t t' env ρ H h1) fun c H1 c' _ hc => ?_)
    have hc' : c' = c := hc
    subst hc'
    cases c' with
    | true => exact (exSs_ok hst hfr a a' Γ A ρ H1 S0 h2).fewer (fun _ q => nomatch q)
    | false => exact (exSs_ok hst hfr b b' Γ A ρ H1 S0 h3).fewer (fun _ q => nomatch q)
  | .cont, sm, Γ, A, ρ, H, S0, h => by
    obtain ⟨pos, rfl⟩ := isS_cont h
    rw [exS_cont]
    show TriS _ _ _ _ _ _ _ (standAt pos >>= fun _ => Pure.pure Flow.cont) _ _ _
    refine TriS.stand fun _ η s a _ => wpAny_pure ⟨ρ, H, rfl, η, s.heap, s.toks, rfl, a.inv, Step.refl _ _ _ _, a.fok, a.rho⟩
  | .unpack xs c, sm, Γ, A, ρ, H, S0, h => by
    obtain ⟨es, k, tp, v, pos, rfl, h1, h2, h3, h4⟩ := isS_unpack h
    rw [exS_unpack]
    by_cases hh : Γ.hd = true
    · rw [if_pos hh]; exact TriS.stuck
    · rw [if_neg hh]
      intro hne η s a hv
      refine Assign_Tuple (wpAny_mono (evE_ok S0 c v env ρ H h2 (fun q => hne (by rw [q]; rfl)) η s a hv) (fun mv s1 hx => ?_) fun ev s1 hx => ?_) (by unfold swapsWithSole; exact swaps_no h3) (swapped_no h4)
      · obtain ⟨w, H1, e, _, η1, h', tk, rfl, i, stp, hp⟩ := hx
        rw [e, ofR_ok] at hne ⊢
        cases w with
        | tup ws =>
          cases hset : setAll xs ws ρ with
          | none => simp only [tupItems, hset] at hne; exact absurd rfl hne
          | some ρ' =>
            simp only [tupItems, hset] at hne ⊢
            refine unpack_tup (a.hand (by simpa using hh)) h1 hset (hp _ (List.Mem.head _)) (a.step stp i tk) fun h2 tk2 x2 i2 en2 => ?_
            exact OutS.after (f := .next) stp.up ⟨ρ', H1, rfl, η1, h2, tk2, rfl, i2, x2, en2⟩
        | _ => exact absurd rfl hne
      · obtain ⟨c', H1, e, η1, h', tk, rfl, i, stp, hp⟩ := hx
        rw [e, ofR_raise]
        exact ⟨c', ρ, H1, rfl, η1, h', tk, rfl, i, stp.up, a.ends stp, hp⟩
  | .setattr o a c, sm, Γ, A, ρ, H, S0, h => by
    obtain ⟨o', pa, v, pos, rfl, h1, h2, h3, h4⟩ := isS_setattr h
    rw [exS_setattr]
    rw [plainObj_exec_Assign_Attribute _ _ _ _ _ (swaps_no h2)]
    refine TriS.stand (TriS.expr (evE_ok S0 c v env ρ H h1) fun w H1 mw _ _ => ?_)
    rw [assign_Attribute]
    simp only [bind_assoc]
    refine TriS.expr (Tri.holding ((evE_ok S0 o o' env ρ H1 h3).fewer (fun _ q => nomatch q))) fun u H2 mu _ _ => TriS.stand ?_
    refine TriS.expr (Tri.holding (set_ok (List.mem_append.mpr (.inr (List.Mem.head _))) (List.mem_append.mpr (.inl (List.mem_append.mpr (.inr (List.Mem.head _))))) h4)) fun _ H3 _ _ _ => ?_
    exact TriS.skip (a₀ := ()) (fun Q E s q Γ' p _ => by show Sem.wp _ _ (release _ _) _ _ _ _; unfold release; rw [Sem.wp_release_go]; exact q) TriS.next
  | .setidx o i c, sm, Γ, A, ρ, H, S0, h => by
    obtain ⟨o', i', pa, v, pos, rfl, h1, h2, h3, h4⟩ := isS_setidx h
    rw [exS_setidx]
    rw [exec_Assign_Subscript _ _ _ _ _ (swaps_no h2)]
    refine TriS.stand (TriS.expr (evE_ok S0 c v env ρ H h1) fun w H1 mw _ _ => ?_)
    rw [assign_Subscript]
    simp only [bind_assoc]
    refine TriS.expr (Tri.holding ((evE_ok S0 o o' env ρ H1 h3).fewer (fun _ q => nomatch q))) fun u H2 mu _ _ => ?_
    refine TriS.expr (Tri.holding ((evE_ok S0 i i' env ρ H2 h4).fewer (fun _ q => nomatch q))) fun z H3 mz _ _ => TriS.stand ?_
    refine TriS.expr (Tri.holding (setK_ok (List.mem_append.mpr (.inl (List.mem_append.mpr (.inr (List.Mem.head _))))) (List.mem_append.mpr (.inr (List.Mem.head _))))) fun _ H4 _ _ _ => ?_
    exact TriS.skip (a₀ := ()) (fun Q E s q Γ' p _ => by show Sem.wp _ _ (release _ _) _ _ _ _; unfold release; rw [Sem.wp_release_go]; exact q) TriS.next
  | .for1 x (.e c) b, sm, Γ, A, ρ, H, S0, h => by
    obtain ⟨t, e, b', pos, rfl, h1, h2, h3, h4⟩ := isS_for1 h
    obtain ⟨pt, rfl, hx⟩ := sName_inv h1
    rw [exS_for1]
    by_cases hh : Γ.hd = true
    · rw [if_pos hh]; exact TriS.stuck
    · rw [if_neg hh]
      intro hne η s a hv
      have hA := a.hand (by simpa using hh)
      simp only [evIt] at hne ⊢
      refine wpAny_For (wpAny_mono (evE_ok S0 c e env ρ H h2 (fun q => hne (by rw [q]; rfl)) η s a hv) (fun mv s1 hx1 => ?_) fun ev s1 hx1 => ?_) (folded_no h3)
      · obtain ⟨v, H1, ee, _, η1, h', tk, rfl, i, stp, hp⟩ := hx1
        rw [ee] at hne ⊢
        simp only [R.bind_ok] at hne ⊢
        cases hi : items H1 v with
        | none => rw [hi] at hne; exact absurd rfl hne
        | some xs =>
          rw [hi] at hne
          simp only [ofO_some, R.bind_ok, ofR_ok] at hne ⊢
          have a1 := a.step stp i tk
          have new : s.heap.get? h'.objs.size = Option.none := by
            cases g : s.heap.get? h'.objs.size with
            | none => rfl
            | some o => obtain ⟨o', g'⟩ := stp.alive _ o g; rw [size_none] at g'; cases g'
          refine iter_ok (s := { s with heap := h', toks := tk }) i (hp _ (List.Mem.head _)) hi (items_not hi).1 (items_not hi).2 fun ob r => ?_
          have kp := push_keeps h' ob
          have a2 := a1.step (Step.ext _ _ _ kp) (i.ext kp) tk
          refine for_core (s0 := s) (η0 := η) hst hfr hA (fun v mv ρ H hb η s a rv => ?_) (fun H hck n hn => ?_) (fun _ => rfl) new (fun b o g => ⟨o, a.inv.keep b o g⟩) a2 rfl (stp.up.trans (Step.ext _ _ _ kp)) r i.size_off hne
          · refine wpAny_assign_Name (wpAny_store a hx rv fun h2 tk2 x2 i2 en2 => ?_)
            refine wpAny_mono (exSs_ok hst hfr b b' Γ A (setL x v ρ) H S0 h4 hb η _ (a.stepS x2 i2 en2 tk2) (fun _ q => nomatch q)) (fun f s3 h3 => OutS.after x2 h3) fun ev s3 h3 => ExcS.after x2 h3
          · subst hn
            exact same_list hi hck
      · obtain ⟨c', H1, ee, η1, h', tk, rfl, i, stp, hp⟩ := hx1
        rw [ee]
        exact ⟨c', ρ, H1, rfl, η1, h', tk, rfl, i, stp.up, a.ends stp, hp⟩
  | .expr c, sm, Γ, A, ρ, H, S0, h => by
    obtain ⟨e, pos, rfl, h1, h2⟩ := isS_expr h
    rw [exS_expr]
    intro hne η s a hv
    refine wpAny_Expr_any (wpAny_mono (evE_ok S0 c e env ρ H h1 (fun q => hne (by rw [q]; rfl)) η s a hv) (fun mv s1 hx => ?_) fun ev s1 hx => ?_) (by unfold interactive; rw [a.fok.kind]; rfl) (swaps_no h2)
    · obtain ⟨w, H1, e, _, η1, h', tk, rfl, i, stp, hp⟩ := hx
      rw [e, ofR_ok]
      exact ⟨ρ, H1, rfl, η1, h', tk, rfl, i, stp.up, a.ends stp⟩
    · obtain ⟨c', H1, e, η1, h', tk, rfl, i, stp, hp⟩ := hx
      rw [e, ofR_raise]
      exact ⟨c', ρ, H1, rfl, η1, h', tk, rfl, i, stp.up, a.ends stp, hp⟩
  | .raise c msg, sm, Γ, A, ρ, H, S0, h => by
    obtain ⟨fn, m, kk, pp, cpos, pos, rfl, h1, h2, h3⟩ := isS_raise h
    obtain ⟨np, rfl, hg, hd1, hk⟩ := gName_inv h1
    rw [exS_raise]
    by_cases hh : Γ.hd = true
    · rw [if_pos hh]; exact TriS.stuck
    · rw [if_neg hh]
      intro _ η s a _
      obtain ⟨C, bm, N, nm, q, bs, hdct, sn, sub, ab, col, dd, k0, k1, k2, k3, k5, mN, e1, hC, hN, hni, TL, _⟩ := X.own c h2
      refine wpAny_Raise_call_subT (C := C) (nm := nm) (q := q) (N := N) (bs := bs) (bm := bm) (hdct := hdct) (sn := sn) (sub := sub) (ab := ab) (col := col) (dd := dd) (k0 := k0) (k1 := k1) (k2 := k2) (k3 := k3) (k5 := k5)
        F.excBase_ValueError (mN := mN) (TL.hasType F.excBase_ValueError.hasBase) (a.hand (by simpa using hh)) rfl hni (wpAny_glob a rfl hg hd1 (.inl e1) ⟨rfl, ?_⟩)
      refine PySem.Calls.evalArgs_plain (PySem.Calls.spliced_cons (PySem.Calls.Constant_str (k := kk) (pos := pp) (PySem.Calls.spliced_nil ?_)))
      have kp := a.inv.keep
      refine ⟨rfl, (show (1 : Nat) ≤ sizeLine by decide), kp _ _ hC, hN.keeps kp, TL.keeps kp, fun h' e mk => ?_⟩
      obtain ⟨t, g1, g2, g3⟩ := mk.there
      have ne : e ∉ η := fun q => by obtain ⟨o, z⟩ := a.inv.alive q; have := mk.new; rw [z] at this; cases this
      refine ⟨c, ρ, H, rfl, η, h', _, rfl, a.inv.ext mk.keeps, Step.ext _ _ _ mk.keeps, a.ends (Step.ext _ _ _ mk.keeps), e, _, _, C, rfl, g1, ⟨e1, h2⟩, ⟨rfl, rfl⟩, rfl, ne, mk.new, (show 4 < 6 by decide), .inl rfl⟩
  | .tryE b hs, sm, Γ, A, ρ, H, S0, h => by
    obtain ⟨b', h0', hs', pos, rfl, h1, hHs⟩ := isS_tryE h
    rw [exS_tryE]
    by_cases hh : Γ.hd = true
    · rw [if_pos hh]; exact TriS.stuck
    · rw [if_neg hh]
      intro hne η s a hv
      refine wpAny_Try_except (wpAny_mono (exSs_ok hst hfr b b' Γ A ρ H S0 h1 (fun q => hne (by rw [q])) η s a hv) (fun f s1 hf => ?_) fun ev s1 hx => ?_)
      · cases f with
        | next => obtain ⟨ρ', H', e, P⟩ := hf; exact wpAny_pure ⟨ρ', H', by rw [e], P⟩
        | cont => obtain ⟨ρ', H', e, P⟩ := hf; exact ⟨ρ', H', by rw [e], P⟩
        | brk => exact hf
        | ret mv => obtain ⟨v, H', e, P⟩ := hf; exact ⟨v, H', by rw [e], P⟩
      · obtain ⟨c, ρ1, H1, e, η1, h', tk, rfl, i, x1, en, ex⟩ := hx
        rw [e] at hne ⊢
        have stk1 : Stk X η1 A st h' := a.stk.step x1
        rw [hst] at ex
        refine wpAny_land (s := { s with heap := h', toks := tk }) hfr (hst ▸ stk1) i ex x1.alive (fun b o g => ⟨o, a.inv.keep b o g⟩) fun h2 es e T hev sf hes i2 tr => ?_
        rw [← hst] at sf
        have en2 := sf.ends stk1.frm en
        subst hev
        exact exH_ok hst hfr hs (h0' :: hs') { Γ with hd := true } A ρ1 H1 c ⟨S0.const, S0.call⟩ hHs rfl hne η s η1 { s with heap := h2, toks := tk } e T (sf.step stk1.frm x1 hes) rfl ⟨i2, en2.1, en2.2, sf.stk stk1, a.room, fun _ => a.hand (by simpa using hh)⟩ tr (fun b o g => ⟨o, a.inv.keep b o g⟩)
theorem exSs_ok (hst : st = env :: outer) (hfr : env.frame = some L) : ∀ (cs : List S) (sms : List Stmt) (Γ : Fn) (A : Around) (ρ : Rho) (H : Hp), SoundFn X n Γ → isSs X.kn X.ex env.scope cs sms = true → TriS X n Γ.hd A env st [] (execs sms env) ρ H (exSs Γ cs ρ H)
  | [], sms, Γ, A, ρ, H, S0, h => by
    cases sms with
    | nil => exact TriS.next
    | cons => cases h
  | c :: cs, sms, Γ, A, ρ, H, S0, h => by
    cases sms with
    | nil => rw [isSs_nil] at h; cases h
    | cons sm sms =>
      rw [isSs_cons, Bool.and_eq_true] at h
      refine TriS.seq (exS_ok hst hfr c sm Γ A ρ H S0 h.1) (fun ρ1 H1 e => TriS.of_eq (exSs_ok hst hfr cs sms Γ A ρ1 H1 S0 h.2) (by rw [exSs_cons, e])) (fun e => by rw [exSs_cons, e]) (exSs_other (cs := cs))
theorem exH_ok (hst : st = env :: outer) (hfr : env.frame = some L) : ∀ (hs : List (String × Option String × List S)) (hms : List ExceptHandler) (Γ : Fn) (A : Around) (ρ : Rho) (H : Hp) (c : String), SoundFn X n Γ → isHs X.kn X.ex env.scope hs hms = true → Γ.hd = true → exH Γ c hs ρ H ≠ .stuck →
    ∀ (η0 : List Addr) (s0 : Shared) (η : List Addr) (s : Shared) (e T : Addr), Step (frs st) (ownOf env) η0 s0.heap η s.heap → s = { s0 with heap := s.heap, toks := s.toks } → At X n false A env st η ρ H s → TracedX X s0.heap e c T .none η s.heap → (∀ b o, X.base.get? b = some o → ∃ o', s0.heap.get? b = some o') →
      wpAny X.M A (handleBy (.ref e) env hms) (OutS X st env η0 s0 (exH Γ c hs ρ H)) (ExcS X st env η0 s0 (exH Γ c hs ρ H)) s
  | [], hms, Γ, A, ρ, H, c, S0, h, hΓ, hne, η0, s0, η, s, e, T, x, hs0, a, tr, hb0 => by
    cases hms with
    | cons => simp [isHs] at h
    | nil =>
      refine wpAny_handleBy_nil (wpAny_passOn (H := H) (outer := outer) hfr tr fun h' sf fT ex => ?_)
      rw [← hst] at sf ex
      have fT' : ∀ b ∈ [T], s0.heap.get? b = Option.none := fun b hb => by rw [List.mem_singleton] at hb; subst hb; exact fT
      have fB : ∀ b ∈ [T], X.base.get? b = Option.none := fun b hb => by
        rw [List.mem_singleton] at hb; subst hb
        obtain ⟨oe, vs, C, oT, ts, q1, q2, q3, q4, q5, q6, q7, q8, q9, q10, q11, q12, q13, q14, q15⟩ := tr
        cases g : X.base.get? b with
        | none => rfl
        | some o =>
          obtain ⟨o', g'⟩ := hb0 b o g
          rw [q14] at g'; cases g'
      rw [hs0]
      exact ⟨c, ρ, H, by rw [exH_nil], η, h', s.toks, rfl, sf.inv a.stk.frm a.inv fB a.stk.fresh a.stk.off, sf.step a.stk.frm x fT', sf.ends a.stk.frm ⟨a.fok, a.rho⟩, ex⟩
  | (K, nm, b) :: r, hms, Γ, A, ρ, H, c, S0, h, hΓ, hne, η0, s0, η, s, e, T, x, hs0, a, tr, hb0 => by
    obtain ⟨t, nm', b0, b', pos, r', rfl, h1, h2, h3, h4, h5⟩ := isHs_inv h
    obtain ⟨np, rfl, hg, hd1, hk⟩ := gName_inv h1
    obtain ⟨oe, vs, C, oT, ts, q1, q2, q3, q4, q5, q6, q7, q8, q9, q10, q11, q12, q13, q14, q15⟩ := id tr
    obtain ⟨C', bm, N, nn, q, bs, hdct, sn, sub, ab, col, dd, k0, k1, k2, k3, k5, mN, e1, hC, hN, hni, TL, hsub⟩ := X.own c q2.2
    have eC : C' = C := by rw [q2.1] at e1; cases e1; rfl
    subst eC
    obtain ⟨D, bm', N', nn', q', bs', hdct', sn', sub', ab', col', dd', k0', k1', k2', k3', k5', mN', e1', hD, hN', hni', TL', _⟩ := X.own K h2
    have hb := hsub K D h2 e1'
    have aM : At X n true (A.mark (some (.ref e))) env st η ρ H s := ⟨a.inv, a.fok, a.rho, ⟨a.stk.frames, a.stk.ok, a.stk.off, a.stk.frm⟩, ⟨a.room.depth, a.room.units⟩, fun q => nomatch q⟩
    refine wpAny_handleBy_cons (codeAny_handlers_test (wpAny_glob aM rfl hg hd1 (.inl e1') ?_)) (by intro q; cases q)
    have keyed : ∀ {Q : Bool → Shared → Prop} {E : Value → Shared → Prop}, Q (excIs c K) s → wpAny X.M (A.mark (some (.ref e))) (excMatches (.ref e) (.ref D)) Q E s := fun hq => by
      obtain ⟨hp, g, d, tk, os⟩ := s
      exact wpAny_excMatches_own (a.inv.keep _ _ hC) (a.inv.keep _ _ hD) q1 q3.1 (TL'.hasType F.excBase_ValueError.hasBase) hb hq
    refine keyed ?_
    by_cases hx : excIs c K = true
    · rw [hx]
      show codeAny _ _ (.handlers _ _ _) _ _
      rw [exH_cons, if_pos hx] at hne ⊢
      cases nm with
      | none =>
        cases nm' with
        | some => exact ff h3
        | none =>
          refine codeAny_handlers_suite (wpAny_land2 tr fun h' same => ?_)
          have k : ∀ b o, s.heap.get? b = some o → h'.get? b = some o := fun b o g => (same b).trans g
          have a3 := aM.step (Step.ext _ _ _ k) (a.inv.ext k) s.toks
          have x3 : Step (frs st) (ownOf env) η0 s0.heap η h' := x.trans (Step.ext _ _ _ k)
          refine wpAny_mono (exSs_ok hst hfr b (b0 :: b') Γ (A.mark (some (.ref e))) ρ H S0 h4 (fun q => hne (by simp only [q])) η _ (hΓ.symm ▸ a3) (fun _ q => nomatch q)) (fun f s1 hf => ?_) fun ev s1 hx => ?_
          · rw [hs0] at hf
            cases f with
            | next => obtain ⟨ρ', H', e, P⟩ := hf; exact ⟨ρ', H', by simp only [e], P.trans (s := s0) x3 fun _ _ q => q⟩
            | cont => obtain ⟨ρ', H', e, P⟩ := hf; exact ⟨ρ', H', by simp only [e], P.trans (s := s0) x3 fun _ _ q => q⟩
            | brk => exact hf
            | ret mv => obtain ⟨v, H', e, P⟩ := hf; exact ⟨v, H', by simp only [e], P.trans (s := s0) x3 fun _ _ q => q⟩
          · obtain ⟨c', ρ', H', e', _⟩ := hx
            exact absurd (by simp only [e']) hne
      | some y =>
        cases nm' with
        | none => cases h3
        | some y' =>
          have h3 : (y' == Str.ofString y && env.scope.names.lookup y' == some .local) = true := h3
          simp only [Bool.and_eq_true, beq_iff_eq] at h3
          obtain ⟨rfl, hl⟩ := h3
          have hst' : isSt env.scope (Str.ofString y) = true := by unfold isSt; rw [hl]
          refine codeAny_handlers_suite_as (wpAny_land2 tr fun h' same => ?_)
          have k : ∀ b o, s.heap.get? b = some o → h'.get? b = some o := fun b o g => (same b).trans g
          have a3 := aM.step (Step.ext _ _ _ k) (a.inv.ext k) s.toks
          have x3 : Step (frs st) (ownOf env) η0 s0.heap η h' := x.trans (Step.ext _ _ _ k)
          have ve : VR X η h' (.exc c) (.ref e) := .exc (k _ _ q1) q3 q4 q2 q5
          refine wpAny_store a3 hst' ve fun h2 tk2 x4 i4 en4 => ?_
          have a4 := a3.stepS x4 i4 en4 tk2
          refine wpAny_mono (exSs_ok hst hfr b (b0 :: b') Γ (A.mark (some (.ref e))) (setL y (.exc c) ρ) H S0 h4 (fun q => hne (by simp only [q])) η _ (hΓ.symm ▸ a4) (fun _ q => nomatch q)) (fun f s1 hf => ?_) fun ev s1 hx => ?_
          · rw [hs0] at hf
            cases f with
            | next => obtain ⟨ρ', H', e, P⟩ := hf; exact absurd (by simp only [e]) hne
            | cont => obtain ⟨ρ', H', e, P⟩ := hf; exact absurd (by simp only [e]) hne
            | brk => exact hf.elim
            | ret mv =>
              obtain ⟨v, H', eR, η5, h5, tk5, rfl, i5, x5, fo5, r5⟩ := hf
              obtain ⟨m5, hn5⟩ := fo5.ns
              refine wpAny_nameGoes (env := env) hl hn5 (by rw [a.fok.kind]; rfl) fun h6 m6 hn6 hsb => ?_
              have x6 : Step (frs st) (ownOf env) η5 h5 η5 h6 := locals_turn fo5 hn6 hsb
              have x05 := (x3.trans x4).trans x5
              have stk5 : Stk X η5 (A.mark (some (.ref e))) st h5 := Stk.step (s := { s with heap := h2, toks := tk2 }) x5 a4.stk
              have frm5 : Frm h5 (ownOf env ++ frs st) := fun b hb => (List.mem_append.mp hb).elim (FrameOK.frm (s := { s with heap := h5 }) fo5 b) (stk5.frm b)
              have off5 : ∀ b ∈ ownOf env ++ frs st, X.base.get? b = Option.none := fun b hb => (List.mem_append.mp hb).elim (fun h => (fo5.off b h).2) (Stk.fresh (s := { s with heap := h5 }) stk5 b)
              have cel : ∀ p ∈ env.cells, p.2 ≠ env.locals := fun p hp q => by
                obtain ⟨o, w, e, d⟩ := fo5.cell p hp
                obtain ⟨o', es', k', e', d', _⟩ := hn5
                rw [q, e'] at e; cases e; rw [d'] at d; cases d
              refine ⟨v, H', by simp only [eR], η5, h6, _, rfl, i5.still x6 frm5 (fun b hb o g => (hsb.2 b (fun q => (fo5.off _ (List.Mem.head _)).1 (q ▸ hb))).trans g) off5, x05.trans x6, ?_, r5.step x6 frm5⟩
              exact ⟨fo5.kind, fo5.glob, fo5.blt, ⟨_, hn6⟩, fun p hp => let ⟨o, w, e, d⟩ := fo5.cell p hp; ⟨o, w, (hsb.2 _ (cel p hp)).trans e, d⟩, fo5.cells, fo5.inj, fo5.off⟩
          · obtain ⟨c', ρ', H', e', _⟩ := hx
            exact absurd (by simp only [e']) hne
    · have hx' : excIs c K = false := by simpa using hx
      rw [hx']
      show wpAny _ _ (handleBy _ _ _) _ _ _
      rw [exH_cons, hx', if_neg Bool.false_ne_true] at hne ⊢
      exact exH_ok hst hfr r r' Γ A ρ H c S0 h5 hΓ hne η0 s0 η s e T x hs0 a tr hb0
end
end
end Mine

/-! Sim14 -/
namespace Mine
open PySem PyProof.Rows PySem.W

theorem bindL_at (kd : Str → Option NameKind) : ∀ (bs : List (Str × Value)) (m : Str → Option Value) (x : Str), (bs.map (·.1)).Nodup → kd x = some .local →
    bindL kd bs m x = match bs.lookup x with | some v => some v | none => m x
  | [], m, x, _, _ => rfl
  | (n, v) :: r, m, x, hn, hk => by
    rw [List.map_cons, List.nodup_cons] at hn
    rw [bindL, bindL_at kd r _ x hn.2 hk, List.lookup_cons]
    by_cases hx : x = n
    · subst hx
      have : r.lookup x = none := by
        cases e : r.lookup x with
        | none => rfl
        | some w => exact absurd (List.mem_map.mpr ⟨(x, w), lookup_mem e, rfl⟩) hn.1
      rw [this, if_pos hk]; simp
    · have hb : (x == n) = false := by simpa using hx
      rw [hb]
      have e : (if kd n = some NameKind.local then fun y => if y = n then some v else m y else m) x = m x := by split <;> simp [hx]
      rw [e]

theorem bindC_at (kd : Str → Option NameKind) : ∀ (bs : List (Str × Value)) (m : Str → Option Value) (x : Str), (bs.map (·.1)).Nodup → kd x = some .cell →
    bindC kd bs m x = match bs.lookup x with | some v => some v | none => m x
  | [], m, x, _, _ => rfl
  | (n, v) :: r, m, x, hn, hk => by
    rw [List.map_cons, List.nodup_cons] at hn
    rw [bindC, bindC_at kd r _ x hn.2 hk, List.lookup_cons]
    by_cases hx : x = n
    · subst hx
      have : r.lookup x = none := by
        cases e : r.lookup x with
        | none => rfl
        | some w => exact absurd (List.mem_map.mpr ⟨(x, w), lookup_mem e, rfl⟩) hn.1
      rw [this, if_neg (by rw [hk]; intro q; cases q)]; simp
    · have hb : (x == n) = false := by simpa using hx
      rw [hb]
      have e : (if kd n = some NameKind.local then m else fun y => if y = n then some v else m y) x = m x := by split <;> simp [hx]
      rw [e]

theorem setAll_lookup : ∀ (xs : List String) (ws : List V) (ρ ρ' : Rho), setAll xs ws ρ = some ρ' → xs.Nodup → xs.length = ws.length ∧ ∀ y v, ρ'.lookup y = some v → (∃ j : Nat, xs[j]? = some y ∧ ws[j]? = some v) ∨ ρ.lookup y = some v
  | [], [], ρ, ρ', e, _ => by cases e; exact ⟨rfl, fun y v h => .inr h⟩
  | [], _ :: _, _, _, e, _ => by cases e
  | _ :: _, [], _, _, e, _ => by cases e
  | x :: xs, w :: ws, ρ, ρ', e, hn => by
    rw [List.nodup_cons] at hn
    obtain ⟨hl, h⟩ := setAll_lookup xs ws (setL x w ρ) ρ' e hn.2
    refine ⟨by rw [List.length_cons, List.length_cons, hl], fun y v hy => ?_⟩
    rcases h y v hy with ⟨j, h1, h2⟩ | h1
    · exact .inl ⟨j + 1, h1, h2⟩
    · rw [lookup_setL] at h1
      split at h1
      · rename_i hyx
        cases h1
        exact .inl ⟨0, by rw [hyx]; rfl, rfl⟩
      · exact .inr h1

theorem zip_lookup {xs : List String} {ms : List Value} (hn : xs.Nodup) : ∀ {j : Nat} {y : String} {m : Value}, xs[j]? = some y → ms[j]? = some m → ((xs.map Str.ofString).zip ms).lookup (Str.ofString y) = some m := by
  induction xs generalizing ms with
  | nil => intro j y m h; simp at h
  | cons x xs ih =>
    intro j y m h1 h2
    rw [List.nodup_cons] at hn
    cases ms with
    | nil => simp at h2
    | cons m0 ms =>
      rw [List.map_cons, List.zip_cons_cons, List.lookup_cons]
      cases j with
      | zero => cases h1; cases h2; simp
      | succ j =>
        have hyx : Str.ofString y ≠ Str.ofString x := fun q => hn.1 (ofString_inj q ▸ List.mem_of_getElem? h1)
        have hb : (Str.ofString y == Str.ofString x) = false := by simpa using hyx
        rw [hb]
        exact ih hn.2 h1 h2

theorem VRs.get' {X : Cx} {η : List Addr} {h : Heap} : ∀ {vs : List V} {ms : List Value} (_ : VRs X η h vs ms) {j : Nat} {v : V}, vs[j]? = some v → ∃ m, ms[j]? = some m ∧ VR X η h v m := VRs.get

theorem Step.leave {fr own η η' : List Addr} {h h1 h' : Heap} {L : Addr} (k : ∀ b o, h.get? b = some o → h1.get? b = some o) (x : Step (L :: fr) own η h1 η' h') (hL : h.get? L = Option.none) (ho : ∀ b ∈ own, h.get? b = Option.none) : Step fr [] η h η' h' := by
  have no : ∀ b o, h.get? b = some o → b ∉ own := fun b o e q => by rw [ho b q] at e; cases e
  have nl : ∀ b o, h.get? b = some o → b ≠ L := fun b o e q => by rw [q, hL] at e; cases e
  refine ⟨?_, fun b o e => x.alive b o (k b o e), fun b o e hb _ hf => x.same b o (k b o e) hb (no b o e) (fun q => (List.mem_cons.mp q).elim (nl b o e) hf), fun b o e hb _ hf => x.slots b o (k b o e) hb (no b o e) (List.mem_cons.mpr (.inr hf)),
    fun b o e hb => x.dicts b o (k b o e) hb, fun b o e hb => x.cells b o (k b o e) hb⟩
  obtain ⟨l, e, hl⟩ := x.pre
  refine ⟨l, e, fun a ha => ?_⟩
  cases q : h.get? a with
  | none => rfl
  | some o => have := k a o q; rw [hl a ha] at this; cases this

structure DefAt (X : Cx) (d : Def) (a : Addr) (body : List Stmt) (scope : Scope) : Prop where
  obj : ∃ o fd, X.base.get? a = some o ∧ o.data = .func fd ∧ fd.body = .stmts body ∧ fd.scope = scope ∧ fd.globals = mainGlobals ∧ fd.closure = [] ∧ fd.builtins = builtinsNs ∧ X.base.CodeRec fd.code fd.qualname ∧
    ∀ ms : List Value, ms.length = d.params.length → bindArgs fd ⟨ms, []⟩ = pure ((d.params.map Str.ofString).zip ms)
  bodyOk : isSs X.kn X.ex scope d.body body = true
  kind : scope.kind = .function
  gen : scope.isGenerator = false
  co : scope.isCoroutine = false
  st : (d.params.all fun x => isSt scope (Str.ofString x)) = true
  nodup : d.params.Nodup
  cells : ((cellsFrom 0 scope.names []).map (·.1)).Nodup

noncomputable def RunOK (X : Cx) (n : Nat) (fv : Value) (ws : List V) (H : Hp) (r : R V) : Prop :=
  ∀ (A : Around) (st : List Env) (η : List Addr) (s : Shared) (ms : List Value), A.depth + 1 + 2 * n < recursionLimit → A.units + 3 + 8 * n + 300 < cLine → A.handled = Option.none → Inv X η H s.heap → Stk X η A st s.heap →
    ws.length = ms.length → (∀ p ∈ ws.zip ms, VR X η s.heap p.1 p.2) →
    codeAny X.M A (.call fv ⟨ms, []⟩) (fun res s' => match res with
      | .ok (.ret mv) => RetAt X st η s r mv s'
      | .ok _ => False
      | .error ev => RaiseAt X st η s r ev s') s

theorem pairwise_snd {l : List (Str × Addr)} (h : l.Pairwise fun x y => x.2 ≠ y.2) {a b : Str} {c d : Addr} (ha : (a, c) ∈ l) (hb : (b, d) ∈ l) (hab : a ≠ b) : c ≠ d := by
  induction l with
  | nil => cases ha
  | cons p l ih =>
    rw [List.pairwise_cons] at h
    rcases List.mem_cons.mp ha with e | ha2
    · subst e
      rcases List.mem_cons.mp hb with hb | hb
      · injection hb with h1 h2; exact absurd h1.symm hab
      · exact h.1 _ hb
    · rcases List.mem_cons.mp hb with e | hb2
      · subst e; exact (h.1 _ ha2).symm
      · exact ih h.2 ha2 hb2
theorem nodup_map_inj {α β : Type} {f : α → β} (hf : ∀ a b, f a = f b → a = b) : ∀ {l : List α}, l.Nodup → (l.map f).Nodup
  | [], _ => List.nodup_nil
  | a :: l, h => by
    rw [List.nodup_cons] at h
    rw [List.map_cons, List.nodup_cons]
    refine ⟨fun q => ?_, nodup_map_inj hf h.2⟩
    obtain ⟨b, hb, e⟩ := List.mem_map.mp q
    exact h.1 (hf _ _ e ▸ hb)

theorem head_frs {env : Env} {outer : List Env} {L : Addr} (h : env.frame = some L) : frs (env :: outer) = L :: frs outer := by unfold frs; rw [List.filterMap_cons, h]

section
variable {X : Cx} {n : Nat} {Γ : Fn}

theorem wpAny_leave {A : Around} {env : Env} {outer : List Env} {η : List Addr} {s : Shared} {h0 : Heap} {ev : Value} {c : String} {L : Addr} {H : Hp} {E : Value → Shared → Prop} {Q : Unit → Shared → Prop} (hf : env.frame = some L)
    (k : Stk X η A (env :: outer) s.heap) (i : Inv X η H s.heap) (x : ExcAt X (env :: outer) h0 ev c η s.heap) (h0k : ∀ b o, h0.get? b = some o → ∃ o', s.heap.get? b = some o') (hb0 : ∀ b o, X.base.get? b = some o → ∃ o', h0.get? b = some o')
    (hq : ∀ h' es, Soft (frs (env :: outer)) es s.heap h' → (∀ b ∈ es, h0.get? b = Option.none) → Inv X η H h' → ExcAt X outer h0 ev c η h' → Q () { s with heap := h' }) : wpAny X.M A (leaving env ev) Q E s := by
  unfold leaving
  exact wpAny_bind (wpAny_land hf k i x h0k hb0 fun h' es e T hev sf hes i2 tr => hq h' es sf hes i2 (hev ▸ tr.exc (.inl rfl)))

theorem run_of_def {d : Def} {a : Addr} {body : List Stmt} {scope : Scope} {ws : List V} {H : Hp} (D : DefAt X d a body scope) (S : SoundFn X n Γ) (hΓ : Γ.hd = false)
    (hs : runDef Γ d ws H ≠ .stuck) : RunOK X n (.ref a) ws H (runDef Γ d ws H) := by
  obtain ⟨o, fd, ho, hdat, hbody, hscope, hglob, hclos, hblt, hcd, hbind⟩ := D.obj
  intro A st η s ms rdep runi hh inv stk hl hv
  cases hρ : setAll d.params ws [] with
  | none => unfold runDef at hs; rw [hρ] at hs; exact absurd rfl hs
  | some ρ =>
    obtain ⟨hlen, hlook⟩ := setAll_lookup _ _ _ _ hρ D.nodup
    have hrun : runDef Γ d ws H = match exSs Γ d.body ρ H with | .next _ H1 => .ok .none H1 | .ret v H1 => .ok v H1 | .raise c _ H1 => .raise c H1 | _ => .stuck := by unfold runDef; rw [hρ]; try rfl
    have hkind : ∀ n, ∀ x ∈ (d.params.map Str.ofString).zip ms, scope.names.lookup x.1 = some .local ∨ (scope.names.lookup x.1 = some .cell ∧ ((cellsFrom n scope.names []).lookup x.1).isSome = true) := by
      intro n x hx
      obtain ⟨y, hy, hyx⟩ := List.mem_map.mp (List.of_mem_zip (show (x.1, x.2) ∈ _ from hx)).1
      have := List.all_eq_true.mp D.st y hy
      rw [hyx] at this
      unfold isSt at this
      split at this
      · exact .inl ‹_›
      · exact .inr ⟨‹_›, cellsFrom_some _ _ _ (.inl ‹_›)⟩
      · cases this
    refine codeAny_call_function (by omega) (inv.keep _ _ ho) hdat (hscope ▸ D.co) (hscope ▸ D.gen) hbody (hcd.keeps inv.keep) ?_
    rw [hbind ms (by rw [← hl, hlen]), hscope, hglob, hclos, hblt]
    refine wpAny_pure (wpAny_newFunctionEnv_cells D.kind (hkind _) fun env he s1 x => ?_)
    have keep := x.toInCall.keep
    obtain ⟨h1, tk, hs1⟩ := x.toInCall.same
    have hsz : env.locals = s.heap.objs.size := by rw [he]; rfl
    refine ⟨((X.nolimit.keeps inv.keep)).keeps keep, codeAny_func ?_⟩
    have hfr : env.frame = some s.heap.objs.size := by rw [he]; rfl
    have hcs : env.cells = cellsFrom (s.heap.objs.size + 1) scope.names [] := by rw [he]; rfl
    have hsc : env.scope = scope := by rw [he]; rfl
    have hko : ∀ y, env.kindOf y = scope.names.lookup y := fun y => by unfold Env.kindOf; rw [hsc]
    have ndc : (env.cells.map (·.1)).Nodup := by rw [hcs]; exact cellsFrom_names scope.names 0 (s.heap.objs.size + 1) [] [] rfl ▸ D.cells
    have look : ∀ p ∈ env.cells, env.cells.lookup p.1 = some p.2 := fun p hp => lookup_of_mem_nodup ndc hp
    have newAddr : ∀ b ∈ ownOf env, s.heap.objs.size ≤ b := fun b hb => by
      rcases List.mem_cons.mp hb with rfl | hb
      · exact Nat.le_of_eq hsz.symm
      · obtain ⟨p, hp, rfl⟩ := List.mem_map.mp hb
        have := x.above p.1 p.2 hp
        rw [hsz] at this
        exact Nat.le_of_lt this
    have ownNone : ∀ b ∈ ownOf env, s.heap.get? b = Option.none := fun b hb => by
      cases e : s.heap.get? b with
      | none => rfl
      | some o => exact absurd (Heap.lt_size e) (Nat.not_lt.mpr (newAddr b hb))
    have ownOff : ∀ b ∈ ownOf env, b ∉ η ∧ X.base.get? b = Option.none := fun b hb => by
      refine ⟨fun q => ?_, ?_⟩
      · obtain ⟨ob, e⟩ := inv.alive q
        rw [ownNone b hb] at e; cases e
      · cases e : X.base.get? b with
        | none => rfl
        | some o => have := inv.keep _ _ e; rw [ownNone b hb] at this; cases this
    have i1 : Inv X η H s1.heap := inv.ext keep
    have fok : FrameOK X η s1.heap env := by
      refine ⟨by rw [hsc]; exact D.kind, by rw [he]; rfl, by rw [he]; rfl, ⟨_, x.toInCall.ns⟩, fun p hp => ?_, fun y hy => ?_, fun y z c h1 h2 => ?_, ownOff⟩
      · obtain ⟨o, e, dd⟩ := x.cell p.1 p.2 (look p hp)
        exact ⟨o, _, e, dd⟩
      · rw [hko] at hy
        have := cellsFrom_some (x := y) scope.names (s.heap.objs.size + 1) [] (.inl hy)
        rw [← hcs] at this
        exact Option.isSome_iff_exists.mp this
      · have m1 := lookup_mem h1
        have m2 := lookup_mem h2
        have hp := x.apart
        by_cases hyz : y = z
        · exact hyz
        · exact absurd rfl (pairwise_snd hp m1 m2 hyz)
    have rho : RhoR X η s1.heap env ρ := by
      intro y v hy hvar
      rcases hlook y v hy with ⟨j, h1', h2'⟩ | h1'
      · obtain ⟨m, hm, rv⟩ := (VRs.of_zip hl hv).get h2'
        have rv' : VR X η s1.heap v m := rv.step (Step.ext [] [] η keep) fun _ q => nomatch q
        have hb := zip_lookup D.nodup h1' hm
        have nd : (((d.params.map Str.ofString).zip ms).map (·.1)).Nodup := by
          rw [List.map_fst_zip (by rw [List.length_map, hlen, hl]; exact Nat.le_refl _)]
          exact nodup_map_inj (fun _ _ q => ofString_inj q) D.nodup
        refine ⟨m, ?_, rv'⟩
        have hst := List.all_eq_true.mp D.st y (List.mem_of_getElem? h1')
        unfold isSt at hst
        split at hst
        · rename_i hk
          refine .inl ⟨(hko _).trans hk, _, x.toInCall.ns, ?_⟩
          rw [bindL_at _ _ _ _ nd ((hko _).trans hk), hb]
        · rename_i hk
          have hkc : env.kindOf (Str.ofString y) = some .cell := (hko _).trans hk
          obtain ⟨c, hc⟩ := fok.cells _ hkc
          obtain ⟨o, e, dd⟩ := x.cell _ c hc
          refine .inr ⟨.inl hkc, c, o, hc, e, ?_⟩
          rw [dd, bindC_at _ _ _ _ nd hkc, hb]
        · cases hst
      · cases h1'
    have stk1 : Stk X η (A.deeper env) (env :: st) s1.heap := by
      have kf : Frm s1.heap (frs st) := fun b hb => let ⟨o, e, q⟩ := stk.frm b hb; ⟨o, keep _ _ e, q⟩
      refine ⟨Around.frames_deeper stk.frames, ?_, fun b hb => ?_, fun b hb => ?_⟩
      · exact Heap.FunFrames.cons (by rw [hsc, D.kind]; decide) hfr (hsz ▸ x.toInCall.ns) (hsz ▸ (ownOff _ (List.Mem.head _)).2) (stk.ok.of_keeps fun b o e _ => ⟨o, keep _ _ e, rfl⟩)
      · rw [head_frs hfr] at hb
        rcases List.mem_cons.mp hb with rfl | hb
        · exact hsz ▸ (ownOff _ (List.Mem.head _)).1
        · exact stk.off b hb
      · rw [head_frs hfr] at hb
        rcases List.mem_cons.mp hb with rfl | hb
        · exact hsz ▸ fok.frm _ (List.Mem.head _)
        · exact kf b hb
    have room1 : Room n (A.deeper env) := ⟨by show A.depth + 1 + 2 * n < _; omega, by show A.units + 3 + 8 * n + 300 < _; omega⟩
    have at1 : At X n Γ.hd (A.deeper env) env (env :: st) η ρ H s1 := ⟨i1, fok, rho, stk1, room1, fun _ => hh⟩
    have hns : exSs Γ d.body ρ H ≠ .stuck := fun q => by rw [hrun, q] at hs; exact hs rfl
    have leaveStep : ∀ {η' h'}, Step (frs (env :: st)) (ownOf env) η s1.heap η' h' → Step (frs st) [] η s.heap η' h' := fun {η' h'} y => by
      rw [head_frs hfr] at y
      exact Step.leave keep y (hsz ▸ ownNone _ (List.Mem.head _)) ownNone
    refine wpAny_mono (exSs_ok rfl hfr d.body body Γ (A.deeper env) ρ H S (by rw [hsc]; exact D.bodyOk) hns η s1 at1 (fun _ q => nomatch q)) (fun fl s2 hfl => ?_) fun ev s2 hx => ?_
    · cases fl with
      | next =>
        obtain ⟨ρ', H', e, η', h', tk', rfl, i2, stp, _⟩ := hfl
        refine ⟨.none, H', by rw [hrun, e], η', h', tk', by rw [hs1], i2, leaveStep stp, .none⟩
      | cont =>
        obtain ⟨ρ', H', e, _⟩ := hfl
        rw [hrun, e] at hs
        exact absurd rfl hs
      | brk => exact hfl.elim
      | ret mv =>
        obtain ⟨v, H', e, η', h', tk', rfl, i2, stp, _, r⟩ := hfl
        exact ⟨v, H', by rw [hrun, e], η', h', tk', by rw [hs1], i2, leaveStep stp, r⟩
    · obtain ⟨c, ρ', H', e, η', h', tk', rfl, i2, stp, en, ex⟩ := hx
      have stk2 : Stk X η' (A.deeper env) (env :: st) h' := stk1.step (s := s1) stp
      refine wpAny_leave (s := { s1 with heap := h', toks := tk' }) (h0 := s1.heap) hfr stk2 i2 ex stp.alive (fun b o g => ⟨o, i1.keep b o g⟩) fun h2 es sf hes i3 ex3 => ?_
      refine ⟨c, H', by rw [hrun, e], η', h2, tk', by rw [hs1], i3, leaveStep (sf.step stk2.frm stp hes), ?_⟩
      exact (ExcAt.older ex3 fun b o g => ⟨o, keep b o g⟩)

theorem callOK_of_def {d : Def} {f : String} {a : Addr} {body : List Stmt} {scope : Scope} {ws : List V} {H : Hp} (hf : X.mg (Str.ofString f) = some (.ref a)) (D : DefAt X d a body scope) (S : SoundFn X n Γ) (hΓ : Γ.hd = false)
    (hs : runDef Γ d ws H ≠ .stuck) : CallOK X (n + 1) f ws H (runDef Γ d ws H) := by
  obtain ⟨o, fd, ho, hdat, _⟩ := id D.obj
  refine ⟨.ref a, hf, keepable_func ho hdat, fun A st η s ms room hh inv stk hl hv => ?_⟩
  exact run_of_def D S hΓ hs A st η s ms (by have := room.depth; omega) (by have := room.units; omega) hh inv stk hl hv

theorem under_new (A : Around) (C : Addr) (ms : List Value) : (A.under (.builtin "type.__call__" ⟨.ref C :: ms, []⟩)).frames = A.frames ∧ (A.under (.builtin "type.__call__" ⟨.ref C :: ms, []⟩)).depth ≤ A.depth + 1 ∧
    (A.under (.builtin "type.__call__" ⟨.ref C :: ms, []⟩)).units = A.units + 1 ∧ (A.under (.builtin "type.__call__" ⟨.ref C :: ms, []⟩)).handled = A.handled := ⟨rfl, by show A.depth + 1 ≤ _ ; omega, rfl, rfl⟩

theorem callOK_of_class {d : Def} {c : String} {C fI : Addr} {body : List Stmt} {scope : Scope} {ws : List V} {H : Hp} (hcl : X.cl c = true) (hk : X.kn c = true) (hf : X.mg (Str.ofString c) = some (.ref C)) (ok : ClsOk X.K C fI) (D : DefAt X d fI body scope) (S : SoundFn X n Γ) (hΓ : Γ.hd = false)
    (hs : runClass Γ c d ws H ≠ .stuck) : CallOK X (n + 1) c ws H (runClass Γ c d ws H) := by
  refine ⟨.ref C, hf, X.kp c (.ref C) hk (.inl hf), fun A st η s ms room hh inv stk hl hv => ?_⟩
  have hrc : runClass Γ c d ws H = (runDef Γ d (.ref (H.length + 1) :: ws) (H ++ [.ns [], .inst c H.length])).bind fun v H1 => match v with | .none => .ok (.ref (H.length + 1)) H1 | _ => .stuck := rfl
  have hK := X.kin.keeps inv.keep
  obtain ⟨h, g, dr, t, os⟩ := s
  refine make_core (makes_of hK ok.makes) (looks_findIn hK ok.init) (fun self => bind_fn hK self ok.fn) (.inl rfl) ?_
  obtain ⟨u1, u2, u3, u4⟩ := under_new A C ms
  have i1 : Inv X (η ++ [h.objs.size]) (H ++ [.ns []]) (h.push emptyDict) := inv.alloc (.ns .nil (by simp)) rfl
  have sz : (h.push emptyDict).objs.size = h.objs.size + 1 := Heap.size_push ..
  have i2 : Inv X (η ++ [h.objs.size] ++ [(h.push emptyDict).objs.size]) (H ++ [.ns []] ++ [.inst c H.length]) ((h.push emptyDict).push (instObj C h.objs.size)) := i1.alloc (.inst hcl hf (by rw [← inv.len]; simp)) rfl
  have st2 : Step (frs st) [] η h (η ++ [h.objs.size] ++ [(h.push emptyDict).objs.size]) ((h.push emptyDict).push (instObj C h.objs.size)) := (Step.push _ _ _ _ _).trans (Step.push _ _ _ _ _)
  have hne : runDef Γ d (.ref (H.length + 1) :: ws) (H ++ [.ns [], .inst c H.length]) ≠ .stuck := fun q => hs (by rw [hrc, q]; rfl)
  rw [show H ++ [O.ns []] ++ [O.inst c H.length] = H ++ [.ns [], .inst c H.length] by simp] at i2
  have run := run_of_def (ws := .ref (H.length + 1) :: ws) D S hΓ hne (A.under (.builtin "type.__call__" ⟨.ref C :: ms, []⟩)) st _ ⟨(h.push emptyDict).push (instObj C h.objs.size), g, dr, t, os⟩ (.ref (h.objs.size + 1) :: ms) (by have := room.depth; omega) (by have := room.units; rw [u3]; omega) (u4.trans hh) i2
    ⟨u1.trans stk.frames, (stk.step (s := ⟨h, g, dr, t, os⟩) st2).ok, (stk.step (s := ⟨h, g, dr, t, os⟩) st2).off, (stk.step (s := ⟨h, g, dr, t, os⟩) st2).frm⟩ (by rw [List.length_cons, List.length_cons, hl]) (fun p hp => ?_)
  · refine codeAny_mono run fun res s' q => ?_
    cases res with
    | error ev =>
      obtain ⟨c', H', e, P⟩ := q
      refine ⟨c', H', by rw [hrc, e]; rfl, ?_⟩
      exact P.trans (s := ⟨h, g, dr, t, os⟩) st2 fun _ _ q => q.older st2.alive
    | ok fl =>
      cases fl with
      | ret mv =>
        obtain ⟨v, H', e, P⟩ := q
        cases v with
        | none =>
          obtain ⟨η', h', tk, es, iv, stp, r⟩ := P
          cases r
          refine ⟨rfl, .ref (H.length + 1), H', by rw [hrc, e]; rfl, η', h', tk, es, iv, st2.trans stp, .ref ?_⟩
          obtain ⟨l, rfl, _⟩ := stp.pre
          refine getElem?_pre ?_
          rw [← inv.len, sz]; simp
        | _ => exact absurd (by rw [hrc, e]; rfl) hs
      | _ => exact q.elim
  · rw [List.zip_cons_cons] at hp
    rcases List.mem_cons.mp hp with rfl | hp
    · refine .ref ?_
      rw [← inv.len, sz]; simp
    · exact (hv p hp).step (fr := frs st) (own := []) st2 stk.frm
end
end Mine

/-! Sim15 -/
namespace Mine
open PySem PyProof.Rows PySem.W

theorem lookup_zip_some : ∀ {ns : List Str} {ms : List Value} {x : Str}, ms.length = ns.length → x ∈ ns → ((ns.zip ms).lookup x).isSome = true
  | [], _, _, _, h => nomatch h
  | n :: ns, [], _, h, _ => by cases h
  | n :: ns, m :: ms, x, h, hx => by
    rw [List.zip_cons_cons, List.lookup_cons]
    cases hb : x == n with
    | true => rfl
    | false =>
      have : x ≠ n := by simpa using hb
      exact lookup_zip_some (Nat.succ.inj h) ((List.mem_cons.mp hx).resolve_left this)

theorem filterMap_zip : ∀ {ns : List Str} {ms : List Value} (l : List (Str × Value)), ms.length = ns.length → ns.Nodup → (∀ n ∈ ns, l.lookup n = Option.none) → ns.filterMap (fun n => ((l ++ ns.zip ms).lookup n).map (n, ·)) = ns.zip ms
  | [], _, _, _, _, _ => rfl
  | n :: ns, [], _, h, _, _ => by cases h
  | n :: ns, m :: ms, l, h, hn, hl => by
    rw [List.nodup_cons] at hn
    have e1 : (l ++ (n, m) :: ns.zip ms).lookup n = some m := by
      rw [List.lookup_append, hl n (List.Mem.head _)]; simp
    rw [List.zip_cons_cons, List.filterMap_cons, e1]
    simp only [Option.map_some, List.cons.injEq, true_and]
    have e2 : l ++ (n, m) :: ns.zip ms = (l ++ [(n, m)]) ++ ns.zip ms := by simp
    rw [e2]
    refine filterMap_zip (l ++ [(n, m)]) (Nat.succ.inj h) hn.2 fun k hk => ?_
    rw [List.lookup_append, hl k (List.Mem.tail _ hk)]
    have : k ≠ n := fun q => hn.1 (q ▸ hk)
    have hb : (k == n) = false := by simpa using this
    simp [List.lookup_cons, hb]

theorem bindArgs_plain {fd : FuncData} {ms : List Value} (h1 : fd.params.posonlyargs = []) (h2 : fd.params.kwonlyargs = []) (h3 : fd.params.vararg = Option.none) (h4 : fd.params.kwarg = Option.none) (h5 : fd.defaults = .none)
    (hl : ms.length = (fd.params.args.map (·.arg)).length) (nd : (fd.params.args.map (·.arg)).Nodup) : bindArgs fd ⟨ms, []⟩ = pure ((fd.params.args.map (·.arg)).zip ms) := by
  have hsq : seqItems? Value.none = pure Option.none := rfl
  unfold bindArgs
  simp only [h1, h2, h3, h4, h5, List.map_nil, List.nil_append, List.forIn_nil, pure_bind, hsq, Option.getD_none, Array.toList_empty, List.length_nil, Nat.sub_zero, List.drop_nil, List.zip_nil_right, List.append_nil]
  generalize hns : fd.params.args.map (·.arg) = ns at *
  have hgt : ¬ (ms.length > ns.length) := by omega
  simp only [hgt, decide_false, Bool.false_and, Bool.false_eq_true, if_false, pure_bind]
  have hmiss : (List.take ns.length ns).filter (fun n => ((ns.zip ms).lookup n).isNone) = [] := by
    rw [List.take_length, List.filter_eq_nil_iff]
    intro x hx
    have := lookup_zip_some hl hx
    rw [Option.isSome_iff_ne_none] at this
    simpa using this
  simp only [hmiss, List.isEmpty_nil, Bool.not_true, Bool.false_eq_true, if_false, pure_bind]
  have := filterMap_zip (ns := ns) (ms := ms) [] hl nd (fun _ _ => rfl)
  rw [List.nil_append] at this
  rw [this]

noncomputable def okDef (kn ex : String → Bool) (d : Def) (r : DefRec) : Bool :=
  r.name == Str.ofString d.name && r.params.posonlyargs.isEmpty && r.params.kwonlyargs.isEmpty && r.params.vararg.isNone && r.params.kwarg.isNone && (r.params.args.map (·.arg) == d.params.map Str.ofString) && isSs kn ex r.scope d.body r.body
    && r.scope.kind == .function && !r.scope.isGenerator && !r.scope.isCoroutine && (d.params.all fun x => isSt r.scope (Str.ofString x)) && decide d.params.Nodup && decide (((cellsFrom 0 r.scope.names []).map (·.1)).Nodup)

section
variable {X : Cx} {p : Program} {loose : List Str} {mean : ExcName → Option Value}

theorem defAt_of (T : Top p loose mean X.mg X.mb X.base) {d : Def} (h : (recsOf p).any (okDef X.kn X.ex d) = true) : ∃ a body scope, X.mg (Str.ofString d.name) = some (.ref a) ∧ DefAt X d a body scope := by
  obtain ⟨r, hr, ok⟩ := List.any_eq_true.mp h
  simp only [okDef, Bool.and_eq_true, beq_iff_eq, List.isEmpty_iff, Option.isNone_iff_eq_none, Bool.not_eq_true', decide_eq_true_eq] at ok
  obtain ⟨⟨⟨⟨⟨⟨⟨⟨⟨⟨⟨⟨h1, h2⟩, h3⟩, h4⟩, h5⟩, h6⟩, h7⟩, h8⟩, h9⟩, h10⟩, h11⟩, h12⟩, h13⟩ := ok
  obtain ⟨a, o, pm, code, doc, e1, e2, e3, e4⟩ := T.fn r hr
  refine ⟨a, r.body, r.scope, h1 ▸ e1, ⟨⟨o, _, e2, e3, rfl, rfl, rfl, rfl, rfl, e4, fun ms hm => ?_⟩, h7, h8, h9, h10, h11, h12, h13⟩⟩
  rw [← h6]
  refine bindArgs_plain h2 h3 h4 h5 rfl ?_ ?_
  · show ms.length = (r.params.args.map (·.arg)).length
    rw [h6, List.length_map, hm]
  · show (r.params.args.map (·.arg)).Nodup
    rw [h6]
    exact nodup_map_inj (fun _ _ q => ofString_inj q) h12

noncomputable def okInit (kn ex : String → Bool) (K : Frag) (d : Def) (fI : Addr) : Bool := match K.lookup fI with
  | some ⟨_, _, .func fd, _⟩ => (match fd.body with | .stmts body => isSs kn ex fd.scope d.body body | _ => false) && fd.globals == mainGlobals && fd.closure.isEmpty && fd.builtins == builtinsNs && codeIn K fd.code fd.qualname && fd.defaults == .none
      && fd.params.posonlyargs.isEmpty && fd.params.kwonlyargs.isEmpty && fd.params.vararg.isNone && fd.params.kwarg.isNone && (fd.params.args.map (·.arg) == d.params.map Str.ofString)
      && fd.scope.kind == .function && !fd.scope.isGenerator && !fd.scope.isCoroutine && (d.params.all fun x => isSt fd.scope (Str.ofString x)) && decide d.params.Nodup && decide (((cellsFrom 0 fd.scope.names []).map (·.1)).Nodup)
  | _ => false
theorem initAt_of {d : Def} {fI : Addr} (h : okInit X.kn X.ex X.K d fI = true) : ∃ body scope, DefAt X d fI body scope := by
  unfold okInit at h
  split at h
  · rename_i c dd fd sl ho
    simp only [Bool.and_eq_true, beq_iff_eq, List.isEmpty_iff, Option.isNone_iff_eq_none, Bool.not_eq_true', decide_eq_true_eq] at h
    obtain ⟨⟨⟨⟨⟨⟨⟨⟨⟨⟨⟨⟨⟨⟨⟨⟨h1, h2⟩, h3⟩, h4⟩, h5⟩, h6⟩, h7⟩, h8⟩, h9⟩, h10⟩, h11⟩, h12⟩, h13⟩, h14⟩, h15⟩, h16⟩, h17⟩ := h
    split at h1
    · rename_i body hbody
      refine ⟨body, fd.scope, ⟨⟨_, fd, X.kin _ _ ho, rfl, hbody, rfl, h2, h3, h4, codeRec_of X.kin h5, fun ms hm => ?_⟩, h1, h12, h13, h14, h15, h16, h17⟩⟩
      rw [← h11]
      refine bindArgs_plain h7 h8 h9 h10 h6 ?_ ?_
      · rw [h11, List.length_map, hm]
      · rw [h11]
        exact nodup_map_inj (fun _ _ q => ofString_inj q) h16
    · cases h1
  · cases h

theorem lk_hd {defs : List Def} {cls : List (String × Def)} {const : String → Option V} (n : Nat) : (lk defs cls const n).hd = false := by cases n <;> rfl

theorem lk_sound {defs : List Def} {cls : List (String × Def)} {const : String → Option V} (T : Top p loose mean X.mg X.mb X.base) (hc : ∀ x v, const x = some v → ∃ mv, Loads X.mg X.mb x mv ∧ ∀ η h, VR X η h v mv)
    (hd : (defs.all fun d => (recsOf p).any (okDef X.kn X.ex d)) = true)
    (hcls : ∀ c d, cls.lookup c = some d → X.cl c = true ∧ X.kn c = true ∧ ∃ C fI, X.mg (Str.ofString c) = some (.ref C) ∧ ClsOk X.K C fI ∧ okInit X.kn X.ex X.K d fI = true) : ∀ n, SoundFn X n (lk defs cls const n)
  | 0 => ⟨hc, fun f ws H hs => absurd rfl hs⟩
  | n + 1 => by
    refine ⟨hc, fun f ws H hs => ?_⟩
    cases e : defs.find? (fun d => d.name == f) with
    | none =>
      have hc2 : (lk defs cls const (n + 1)).call f ws H = match cls.lookup f with | some d => runClass (lk defs cls const n) f d ws H | Option.none => .stuck := by
        show (match defs.find? (fun d => d.name == f) with | some d => runDef (lk defs cls const n) d ws H | Option.none => _) = _
        rw [e]; try rfl
      cases e2 : cls.lookup f with
      | none => rw [hc2, e2] at hs; exact absurd rfl hs
      | some d =>
        rw [hc2, e2] at hs ⊢
        obtain ⟨k1, k2, C, fI, k3, k4, k5⟩ := hcls f d e2
        obtain ⟨body, scope, D⟩ := initAt_of k5
        exact callOK_of_class k1 k2 k3 k4 D (lk_sound T hc hd hcls n) (lk_hd n) hs
    | some d =>
      have hc2 : (lk defs cls const (n + 1)).call f ws H = runDef (lk defs cls const n) d ws H := by
        show (match defs.find? (fun d => d.name == f) with | some d => runDef (lk defs cls const n) d ws H | Option.none => _) = _
        rw [e]
      rw [hc2] at hs ⊢
      have hn : d.name = f := by have := List.find?_some e; simpa using this
      obtain ⟨a, body, scope, hf, D⟩ := defAt_of T (List.all_eq_true.mp hd d (List.mem_of_find?_eq_some e))
      exact callOK_of_def (hn ▸ hf) D (lk_sound T hc hd hcls n) (lk_hd n) hs
end
end Mine

/-! Sim16 -/
namespace Mine
open PySem PyProof.Rows PySem.W

noncomputable def keepV (K : Frag) (v : Value) : Bool := match v with
  | .ref a => keepIn K (.ref a)
  | _ => true
noncomputable def okU (K : Frag) (U : List String) : Bool := U.all fun f => match nsIn K mainGlobals (Str.ofString f) with
  | some (some v) => keepV K v && (biVal f).isNone
  | _ => false
noncomputable def okB (K : Frag) (B : List String) : Bool := B.all fun f => match nsIn K mainGlobals (Str.ofString f), bootBuiltins (Str.ofString f), biVal f with
  | some Option.none, some a, some b => a == b && !(f == "__name__")
  | _, _, _ => false
noncomputable def okC (K : Frag) (C : List (String × V)) : Bool := C.all fun p => match nsIn K mainGlobals (Str.ofString p.1), p.2 with
  | some (some (.str s _)), .str t => s == t && PyData.strOk s
  | some (some (.int i _)), .int j => i == j
  | _, _ => false

noncomputable def excGetB (K : Frag) (C : Addr) : Bool := (clsIn K C).isSome && findIn K (.ref C) "__getattribute__" == some (some (.builtin "BaseException.__getattribute__")) && findIn K (.ref C) "__getattr__" == some Option.none
  && (match findObj K C Option.none "__class__" with | some (.bind a b) => a == .builtin "getset_descriptor.__get__" && b == .builtin "object.__class__" | _ => false) && mroIn K C (.type "object") == some true && mroIn K C (.type "BaseException") == some true
noncomputable def okX (K : Frag) (Xs : List String) : Bool := Xs.all fun c => match nsIn K mainGlobals (Str.ofString c) with
  | some (some (.ref C)) => excIn K C bmVE "ValueError.__new__" && excGetB K C && kitOne K (.ref C) (.type "ValueError") == some true && (match clsIn K C with
    | some cd => Xs.all fun T => match nsIn K mainGlobals (Str.ofString T) with
      | some (some (.ref D)) => cd.mro.contains (.ref D) == excIs c T && kitOne K (.ref C) (.ref D) == some (excIs c T)
      | _ => false
    | Option.none => false)
  | _ => false
noncomputable def okN (U B Xs : List String) : Bool := (U ++ B).all fun T => !exName T || T == "ValueError" || Xs.contains T
noncomputable def clsB (K : Frag) (C fI : Addr) : Bool := makesIn K C && typeIn K (.ref fI) == some (.type "function") && findIn K (.ref C) "__getattribute__" == some (some (.builtin "object.__getattribute__")) && findIn K (.ref C) "__setattr__" == some (some (.builtin "object.__setattr__"))
  && plainOver K C && (clsIn K C).any (·.hasDict) && ["road", "home", "start", "stops"].all fun a => findIn K (.ref C) (Str.ofString a) == some Option.none
noncomputable def okL (K : Frag) (U B Xs : List String) (cls : List (String × Def)) : Bool := cls.all fun p => U.contains p.1 && match nsIn K mainGlobals (Str.ofString p.1) with
  | some (some (.ref C)) => (match findIn K (.ref C) "__init__" with
    | some (some (.ref fI)) => clsB K C fI && okInit (fun f => U.contains f || B.contains f) (fun f => Xs.contains f) K p.2 fI
    | _ => false)
  | _ => false

theorem excGet_of {K : Frag} {C : Addr} (h : excGetB K C = true) : ExcGet K C := by
  unfold excGetB at h
  simp only [Bool.and_eq_true, beq_iff_eq] at h
  obtain ⟨⟨⟨⟨⟨h1, h2⟩, h3⟩, h4⟩, h5⟩, h6⟩ := h
  refine ⟨h1, h2, h3, ?_, h5, h6⟩
  split at h4
  · rename_i a b e
    simp only [Bool.and_eq_true, beq_iff_eq] at h4
    rw [e, h4.1, h4.2]
  · cases h4
theorem clsOk_of {K : Frag} {C fI : Addr} (h : clsB K C fI = true) (hi : findIn K (.ref C) "__init__" = some (some (.ref fI))) : ClsOk K C fI := by
  unfold clsB at h
  simp only [Bool.and_eq_true, beq_iff_eq] at h
  obtain ⟨⟨⟨⟨⟨⟨h1, h2⟩, h3⟩, h4⟩, h5⟩, h6⟩, h7⟩ := h
  refine ⟨h1, hi, h2, h3, h4, h5, h6, fun a ha => ?_⟩
  have hm : a ∈ ["road", "home", "start", "stops"] := by
    unfold attrName at ha
    simp only [Bool.or_eq_true, beq_iff_eq] at ha
    rcases ha with ((rfl | rfl) | rfl) | rfl <;> simp
  exact beq_iff_eq.mp (List.all_eq_true.mp h7 a hm)

section
variable {prog : Program} {w : World} {p : Program} {loose : List Str} {mean : ExcName → Option Value} {mg mb : Str → Option Value} {K : Frag} {h : Heap} {U B Xs : List String}

theorem okU_at (X : K.In h) (G : h.Ns mainGlobals mg) (hu : okU K U = true) {f : String} (hf : f ∈ U) : ∃ v, mg (Str.ofString f) = some v ∧ keepV K v = true ∧ biVal f = Option.none := by
  have q := List.all_eq_true.mp hu f hf
  split at q
  · rename_i v e
    rw [Bool.and_eq_true, Option.isNone_iff_eq_none] at q
    exact ⟨v, mg_of X G e, q.1, q.2⟩
  · cases q

theorem okB_at (X : K.In h) (T : Top p loose mean mg mb h) (hb : okB K B = true) {f : String} (hf : f ∈ B) : ∃ v, biVal f = some v ∧ mg (Str.ofString f) = Option.none ∧ mb (Str.ofString f) = some v := by
  have q := List.all_eq_true.mp hb f hf
  split at q
  · rename_i a b e1 e2 e3
    rw [Bool.and_eq_true, beq_iff_eq, Bool.not_eq_true'] at q
    obtain ⟨rfl, q2⟩ := q
    refine ⟨a, e3, ns_none_of X T.g e1, ?_⟩
    rw [T.builtins _ (fun z => ?_), e2]
    have : f = "__name__" := ofString_inj z
    rw [this] at q2
    cases q2
  · cases q

theorem okX_at (X : K.In h) (T : Top p loose mean mg mb h) (hx : okX K Xs = true) {c : String} (hc : c ∈ Xs) : OwnExc mg h (fun f => Xs.contains f) c := by
  have q := List.all_eq_true.mp hx c hc
  split at q
  · rename_i C e
    simp only [Bool.and_eq_true] at q
    obtain ⟨⟨⟨q1, _⟩, _⟩, q2⟩ := q
    split at q2
    · rename_i cd ecd
      obtain ⟨bm, N, nm, qn, bs, hdct, sn, sub, ab, col, dd, k0, k1, k2, k3, k5, mN, hC, hN, hni, TL⟩ := (own_of_in X (topRead_of T) e q1).obj
      refine ⟨C, bm, N, nm, qn, bs, hdct, sn, sub, ab, col, dd, k0, k1, k2, k3, k5, mN, mg_of X T.g e, hC, hN, hni, TL, fun T' D hT hD => ?_⟩
      rw [List.contains_iff_mem] at hT
      have q3 := List.all_eq_true.mp q2 T' hT
      split at q3
      · rename_i D' eD
        have := mg_of X T.g eD
        rw [hD] at this
        cases this
        unfold clsIn at ecd
        split at ecd
        · rename_i ho
          have hh := X _ _ ho
          rw [hC] at hh
          cases hh
          cases ecd
          rw [Bool.and_eq_true] at q3
          exact beq_iff_eq.mp q3.1
        · cases ecd
      · cases q3
    · cases q2
  · cases q

theorem okX_kit (X : K.In h) (T : Top p loose mean mg mb h) (hb : okB K B = true) (hx : okX K Xs = true) (hn : okN U B Xs = true) {c N : String} {C : Addr} {tv : Value} (hc : c ∈ Xs) (hN : exName N = true) (hk : (U.contains N || B.contains N) = true) (hm : mg (Str.ofString c) = some (.ref C)) (hl : Loads mg mb N tv) (hve : N = "ValueError" → tv = .type "ValueError") :
    ExcGet K C ∧ kitOne K (.ref C) tv = some (excIs c N) := by
  have q := List.all_eq_true.mp hx c hc
  split at q
  · rename_i C' e
    have := mg_of X T.g e
    rw [hm] at this; cases this
    simp only [Bool.and_eq_true, beq_iff_eq] at q
    obtain ⟨⟨⟨_, q1⟩, q0⟩, q2⟩ := q
    refine ⟨excGet_of q1, ?_⟩
    have hN' := List.all_eq_true.mp hn N (by
      rw [Bool.or_eq_true, List.contains_iff_mem, List.contains_iff_mem] at hk
      exact List.mem_append.mpr hk)
    rw [hN] at hN'
    simp only [Bool.not_true, Bool.false_or, Bool.or_eq_true, beq_iff_eq] at hN'
    rcases hN' with hN' | hN'
    · rw [hve hN', q0, hN']
      unfold excIs; simp
    · split at q2
      · rename_i cd ecd
        have q3 := List.all_eq_true.mp q2 N (by rwa [List.contains_iff_mem] at hN')
        split at q3
        · rename_i D eD
          have := mg_of X T.g eD
          rw [hl.det (.inl this)]
          rw [Bool.and_eq_true] at q3
          exact beq_iff_eq.mp q3.2
        · cases q3
      · cases q2
  · cases q

theorem okL_at (X : K.In h) (T : Top p loose mean mg mb h) {cls : List (String × Def)} (hL : okL K U B Xs cls = true) {c : String} {d : Def} (hc : (c, d) ∈ cls) :
    U.contains c = true ∧ ∃ C fI, mg (Str.ofString c) = some (.ref C) ∧ ClsOk K C fI ∧ okInit (fun f => U.contains f || B.contains f) (fun f => Xs.contains f) K d fI = true := by
  have q := List.all_eq_true.mp hL (c, d) hc
  rw [Bool.and_eq_true] at q
  refine ⟨q.1, ?_⟩
  have q2 := q.2
  split at q2
  · rename_i C e
    split at q2
    · rename_i fI ei
      rw [Bool.and_eq_true] at q2
      exact ⟨C, fI, mg_of X T.g e, clsOk_of q2.1 ei, q2.2⟩
    · cases q2
  · cases q2

noncomputable def cxOf (prog : Program) (w : World) (T : Top p loose mean mg mb h) (X : K.In h) (cls : List (String × Def)) (hu : okU K U = true) (hb : okB K B = true) (hx : okX K Xs = true) (hn : okN U B Xs = true) (hL : okL K U B Xs cls = true) (hm : (K.lookup sysModules).isSome = true) : Cx where
  prog := prog
  w := w
  base := h
  mg := mg
  mb := mb
  g := T.g
  b := T.b
  nolimit := T.nolimit
  kn := fun f => U.contains f || B.contains f
  known := fun f hk => by
    rw [Bool.or_eq_true, List.contains_iff_mem, List.contains_iff_mem] at hk
    rcases hk with hk | hk
    · obtain ⟨v, e, _⟩ := okU_at X T.g hu hk
      exact ⟨v, .inl e⟩
    · obtain ⟨v, _, e1, e2⟩ := okB_at X T hb hk
      exact ⟨v, .inr ⟨e1, e2⟩⟩
  bi := fun f v hv hk => by
    rw [Bool.or_eq_true, List.contains_iff_mem, List.contains_iff_mem] at hk
    rcases hk with hk | hk
    · obtain ⟨_, _, _, e⟩ := okU_at X T.g hu hk
      rw [hv] at e; cases e
    · obtain ⟨v', e, e1, e2⟩ := okB_at X T hb hk
      rw [hv] at e; cases e
      exact ⟨e1, e2⟩
  ex := fun f => Xs.contains f
  own := fun c hc => okX_at X T hx (by rwa [List.contains_iff_mem] at hc)
  K := K
  kin := X
  sysm := hm
  exk := fun c N C tv hc hN hk hm hl => okX_kit X T hb hx hn (by rwa [List.contains_iff_mem] at hc) hN hk hm hl fun e => by
    subst e
    have hk' := hk
    rw [Bool.or_eq_true, List.contains_iff_mem, List.contains_iff_mem] at hk'
    rcases hk' with hk' | hk'
    · obtain ⟨_, _, _, e⟩ := okU_at X T.g hu hk'
      cases e
    · obtain ⟨v', e, e1, e2⟩ := okB_at X T hb hk'
      cases e
      exact hl.det (.inr ⟨e1, e2⟩)
  cl := fun c => cls.any (·.1 == c)
  cls := fun c hc => by
    obtain ⟨⟨c', d⟩, hm, e⟩ := List.any_eq_true.mp hc
    have e' : c' = c := by simpa using e
    subst e'
    obtain ⟨_, C, fI, h1, h2, _⟩ := okL_at X T hL hm
    exact ⟨C, fI, h1, h2⟩
  kp := fun f v hk hl h' k => by
    have key : keepV K v = true := by
      rw [Bool.or_eq_true, List.contains_iff_mem, List.contains_iff_mem] at hk
      rcases hk with hk | hk
      · obtain ⟨v', e, q, _⟩ := okU_at X T.g hu hk
        rw [hl.det (.inl e)]
        exact q
      · obtain ⟨v', e, e1, e2⟩ := okB_at X T hb hk
        rw [hl.det (.inr ⟨e1, e2⟩)]
        have : ∀ a, v' ≠ .ref a := biVal_noRef e
        cases v' <;> first | rfl | exact absurd rfl (this _)
    cases v with
    | ref a => exact keeps_K (K := K) (f := .ref a) key h' (X.keeps k)
    | _ => exact ⟨.machine, .inr (.inl rfl), Looks.now⟩

theorem okC_at {C : List (String × V)} (T : Top p loose mean mg mb h) (X : K.In h) (hc : okC K C = true) (Y : Cx) (h1 : Y.mg = mg) : ∀ x v, C.lookup x = some v → ∃ mv, Loads Y.mg Y.mb x mv ∧ ∀ η h, VR Y η h v mv := by
  intro x v e
  have q := List.all_eq_true.mp hc (x, v) (lookup_mem e)
  rw [h1]
  split at q
  · rename_i s t1 s2 e1 e2
    rw [Bool.and_eq_true, beq_iff_eq] at q
    have e2' : v = .str s2 := e2
    subst e2'
    obtain ⟨rfl, ok⟩ := q
    exact ⟨_, .inl (mg_of X T.g e1), fun _ _ => .str _ _ ok⟩
  · rename_i i t1 j e1 e2
    rw [beq_iff_eq] at q
    have e2' : v = .int j := e2
    subst e2'
    subst q
    exact ⟨_, .inl (mg_of X T.g e1), fun _ _ => .int _ _⟩
  · cases q

theorem cls_at (prog : Program) (w : World) (T : Top p loose mean mg mb h) (X : K.In h) (cls : List (String × Def)) (hu : okU K U = true) (hb : okB K B = true) (hx : okX K Xs = true) (hn : okN U B Xs = true) (hL : okL K U B Xs cls = true) (hM : (K.lookup sysModules).isSome = true) : ∀ c d, cls.lookup c = some d →
    (cxOf prog w T X cls hu hb hx hn hL hM).cl c = true ∧ (cxOf prog w T X cls hu hb hx hn hL hM).kn c = true ∧ ∃ C fI, (cxOf prog w T X cls hu hb hx hn hL hM).mg (Str.ofString c) = some (.ref C) ∧ ClsOk (cxOf prog w T X cls hu hb hx hn hL hM).K C fI ∧ okInit (cxOf prog w T X cls hu hb hx hn hL hM).kn (cxOf prog w T X cls hu hb hx hn hL hM).ex (cxOf prog w T X cls hu hb hx hn hL hM).K d fI = true := by
  intro c d e
  have hm := lookup_mem e
  obtain ⟨h0, C, fI, h1, h2, h3⟩ := okL_at X T hL hm
  exact ⟨List.any_eq_true.mpr ⟨_, hm, beq_self_eq_true c⟩, by show (U.contains c || B.contains c) = true; rw [h0]; rfl, C, fI, h1, h2, h3⟩

theorem law_call {X : Cx} {N : Nat} {Γ : Fn} {ns : List Int} {vs : List Value} {l fa : Addr} {s₁ : Shared} {H' : Hp} {Q : Value → Shared → Prop} {E : Value → Shared → Prop} (hb : X.base = s₁.heap) (S : SoundFn X N Γ) (hN : N < 100) (hmg : X.mg (Str.ofString "law") = some (.ref fa))
    (run : Γ.call "law" [.scr ns] [] = .ok (.bool true) H') (hL : s₁.heap.IsList l vs.toArray) (hI : IntsAre vs ns) (hn : ns.length ≤ 63)
    (hq : ∀ s', (∃ h' tk, s' = { s₁ with heap := h', toks := tk } ∧ ∀ b o, s₁.heap.get? b = some o → h'.get? b = some o) → Q (.bool true) s') : wpAny X.M callerA (call (.ref fa) [.ref l]) Q E s₁ := by
  have C := S.call "law" [.scr ns] [] (by rw [run]; intro q; cases q)
  rw [run] at C
  obtain ⟨fv, e, _, C⟩ := C
  rw [hmg] at e; cases e
  have inv : Inv X [] [] s₁.heap := ⟨fun b o e => hb ▸ e, rfl, (fun _ q => nomatch q), List.nodup_nil, fun n a o e => by simp at e⟩
  have stk : Stk X [] callerA [] s₁.heap := ⟨rfl, trivial, (fun _ q => nomatch q), fun _ q => nomatch q⟩
  refine wpAny_call (codeAny_mono (C callerA [] [] s₁ [.ref l] ⟨?_, ?_⟩ rfl inv stk rfl fun p hp => ?_) fun res s' q => ?_)
  · show 1 + claimMargin + 2 * N < recursionLimit
    unfold claimMargin recursionLimit; omega
  · show 4 + 8 * N + 300 < cLine
    unfold cLine; omega
  · rw [List.zip_cons_cons, List.zip_nil_left, List.mem_singleton] at hp
    subst hp
    refine .scr (hb ▸ hL) (by simpa using hI) (by unfold line; omega)
  · cases res with
    | error ev => obtain ⟨c, H2, e, _⟩ := q; cases e
    | ok fl =>
      cases fl with
      | ret mv =>
        obtain ⟨v, H2, e, η', h', tk, rfl, i, stp, r⟩ := q
        cases e
        cases r
        exact hq _ ⟨h', tk, rfl, fun b o e => i.keep b o (hb ▸ e)⟩
      | _ => exact q.elim
end
end Mine

/-! Sim17 -/
namespace Mine
open PySem PyProof.Rows PySem.W

/-! the head in one look: what the opening leaves, seen by one reckoning -/
noncomputable def refsOf (o : Obj) : List Addr := match o.data with
  | .dict es _ => es.toList.filterMap fun e => match e.val with | .ref a => some a | _ => Option.none
  | _ => []
noncomputable def nsOfCls (o : Obj) : List Addr := match o.data with
  | .cls cd => [cd.ns]
  | _ => []
noncomputable def codeOfFn (o : Obj) : List Addr := match o.data with
  | .func fd => (match fd.code with | .ref a => [a] | _ => [])
  | _ => []
noncomputable def pick (h : Heap) (as : List Addr) : Frag := as.filterMap fun a => (h.get? a).map fun o => (a, o)
noncomputable def fragOf (h : Heap) : Frag :=
  let g := pick h [mainGlobals]
  let l1 := pick h (g.flatMap fun p => refsOf p.2)
  let l2 := pick h (l1.flatMap fun p => nsOfCls p.2)
  let l3 := pick h (l2.flatMap fun p => refsOf p.2)
  let l4 := pick h (l3.flatMap fun p => codeOfFn p.2)
  g ++ (l1 ++ (l2 ++ (l3 ++ (l4 ++ pick h [sysModules]))))
theorem pick_get {h : Heap} {as : List Addr} {a : Addr} {o : Obj} (hm : (a, o) ∈ pick h as) : h.get? a = some o := by
  obtain ⟨b, _, e⟩ := List.mem_filterMap.mp hm
  obtain ⟨o', g, q⟩ := Option.map_eq_some_iff.mp e
  cases q
  exact g
theorem fragOf_in (h : Heap) : (fragOf h).In h := by
  intro a o e
  have hm := lookup_mem e
  unfold fragOf at hm
  rcases List.mem_append.mp hm with hm | hm
  · exact pick_get hm
  · rcases List.mem_append.mp hm with hm | hm
    · exact pick_get hm
    · rcases List.mem_append.mp hm with hm | hm
      · exact pick_get hm
      · rcases List.mem_append.mp hm with hm | hm
        · exact pick_get hm
        · rcases List.mem_append.mp hm with hm | hm
          · exact pick_get hm
          · exact pick_get hm

noncomputable def seenOk (U B Xs : List String) (C : List (String × V)) (cls : List (String × Def)) (K : Frag) : Bool := okU K U && okB K B && okX K Xs && okC K C && okL K U B Xs cls && (K.lookup sysModules).isSome
noncomputable def Says (U B Xs : List String) (C : List (String × V)) (cls : List (String × Def)) (h : Heap) : Prop := ∃ K : Frag, K.In h ∧ seenOk U B Xs C cls K = true
theorem Says.keeps {U B Xs : List String} {C : List (String × V)} {cls : List (String × Def)} {h h' : Heap} (x : Says U B Xs C cls h) (k : ∀ b o, h.get? b = some o → h'.get? b = some o) : Says U B Xs C cls h' :=
  let ⟨K, i, e⟩ := x; ⟨K, i.keeps k, e⟩
end Mine

/-! P04a -/
namespace Mine.L04
open Mine PySem
noncomputable def d_is_within : Def := { name := "is_within", params := ["number", "low", "high"], body := [
  .ret (.and [(.isinst (.var "number") "int"), (.not (.isinst (.var "number") "bool")), (.cmp2 (.var "low") .le (.var "number") .le (.var "high"))])] }
noncomputable def d_is_road : Def := { name := "is_road", params := ["road"], body := [
  .ret (.and [(.cmp (.idx (.var "road") (.int 0)) .isIn (.tup [(.glob "LINE"), (.glob "RING")])), (.call "is_within" [(.idx (.var "road") (.int 1)), (.int 1), (.glob "LONGEST")])])] }
noncomputable def d_is_place : Def := { name := "is_place", params := ["road", "place"], body := [
  .iff (.cmp (.idx (.var "road") (.int 0)) .eq (.glob "LINE")) [
    .ret (.call "is_within" [(.var "place"), (.int 0), (.idx (.var "road") (.int 1))])] [],
  .ret (.call "is_within" [(.var "place"), (.int 0), (.bin .sub (.idx (.var "road") (.int 1)) (.int 1))])] }
noncomputable def d_apart : Def := { name := "apart", params := ["road", "one", "other"], body := [
  .asg "gap" (.call "abs" [(.bin .sub (.var "one") (.var "other"))]),
  .iff (.cmp (.idx (.var "road") (.int 0)) .eq (.glob "LINE")) [
    .ret (.var "gap")] [],
  .ret (.call "min" [(.var "gap"), (.bin .sub (.idx (.var "road") (.int 1)) (.var "gap"))])] }
noncomputable def d_Day_init : Def := { name := "Day.__init__", params := ["self", "road", "home", "start", "stops"], body := [
  .iff (.not (.call "is_road" [(.var "road")])) [
    .raise "BadRoad" "no road"] [],
  .iff (.not (.call "is_place" [(.var "road"), (.var "home")])) [
    .raise "OffRoad" "no home on the road"] [],
  .iff (.not (.call "is_within" [(.var "start"), (.int 0), (.glob "LATEST")])) [
    .raise "BadTime" "no start"] [],
  .iff (.cmp (.call "len" [(.var "stops")]) .gt (.glob "MOST")) [
    .raise "TooMany" "too many stops"] [],
  .for1 "stop" (.e (.var "stops")) [
    .expr (.call "looked_at" [(.var "road"), (.var "stop")])],
  .setattr (.var "self") "road" (.var "road"),
  .setattr (.var "self") "home" (.var "home"),
  .setattr (.var "self") "start" (.var "start"),
  .setattr (.var "self") "stops" (.call "list" [(.var "stops")])] }
noncomputable def d_looked_at : Def := { name := "looked_at", params := ["road", "stop"], body := [
  .unpack ["place", "opens", "closes", "stay"] (.var "stop"),
  .iff (.not (.call "is_place" [(.var "road"), (.var "place")])) [
    .raise "OffRoad" "a stop off the road"] [],
  .for1 "time" (.e (.tup [(.var "opens"), (.var "closes"), (.var "stay")])) [
    .iff (.not (.call "is_within" [(.var "time"), (.int 0), (.glob "LATEST")])) [
      .raise "BadTime" "no time of a stop"] []],
  .iff (.cmp (.var "closes") .lt (.var "opens")) [
    .raise "BadTime" "closed before it opens"] []] }
noncomputable def d_need_order : Def := { name := "need_order", params := ["day", "order"], body := [
  .asg "seen" .dict0,
  .for1 "number" (.e (.var "order")) [
    .iff (.or [(.not (.call "is_within" [(.var "number"), (.int 0), (.bin .sub (.call "len" [(.attr (.var "day") "stops")]) (.int 1))])), (.cmp (.var "number") .isIn (.var "seen"))]) [
      .raise "BadOrder" "no order"] [],
    .setidx (.var "seen") (.var "number") (.bool true)]] }
noncomputable def d_served : Def := { name := "served", params := ["stop", "comes"], body := [
  .asg "begins" (.call "max" [(.var "comes"), (.idx (.var "stop") (.int 1))]),
  .iff (.cmp (.var "begins") .gt (.idx (.var "stop") (.int 2))) [
    .ret .none] [],
  .ret (.tup [(.var "begins"), (.bin .add (.var "begins") (.idx (.var "stop") (.int 3)))])] }
noncomputable def d_timetable : Def := { name := "timetable", params := ["day", "order"], body := [
  .expr (.call "need_order" [(.var "day"), (.var "order")]),
  .asg "found" (.list []),
  .asg "place" (.attr (.var "day") "home"),
  .asg "time" (.attr (.var "day") "start"),
  .for1 "number" (.e (.var "order")) [
    .asg "stop" (.idx (.attr (.var "day") "stops") (.var "number")),
    .asg "comes" (.bin .add (.var "time") (.call "apart" [(.attr (.var "day") "road"), (.var "place"), (.idx (.var "stop") (.int 0))])),
    .asg "times" (.call "served" [(.var "stop"), (.var "comes")]),
    .iff (.cmp (.var "times") .is .none) [
      .raise "Missed" "a stop has closed"] [],
    .unpack ["begins", "leaves"] (.var "times"),
    .expr (.meth (.var "found") "append" [(.tup [(.var "comes"), (.var "begins"), (.var "leaves")])]),
    .asg "place" (.idx (.var "stop") (.int 0)),
    .asg "time" (.var "leaves")],
  .ret (.var "found")] }
noncomputable def d_ends : Def := { name := "ends", params := ["day", "order"], body := [
  .asg "rows" (.call "timetable" [(.var "day"), (.var "order")]),
  .iff (.cmp (.call "len" [(.var "order")]) .eq (.int 0)) [
    .ret (.attr (.var "day") "start")] [],
  .asg "last" (.idx (.attr (.var "day") "stops") (.idx (.var "order") (.bin .sub (.call "len" [(.var "order")]) (.int 1)))),
  .ret (.bin .add (.idx (.idx (.var "rows") (.bin .sub (.call "len" [(.var "rows")]) (.int 1))) (.int 2)) (.call "apart" [(.attr (.var "day") "road"), (.idx (.var "last") (.int 0)), (.attr (.var "day") "home")]))] }
noncomputable def d__law_cell_at : Def := { name := "_law_cell_at", params := ["_law_script", "_law_k"], body := [
  .iff (.cmp (.call "len" [(.var "_law_script")]) .eq (.int 0)) [
    .ret (.var "_law_k")] [],
  .ret (.bin .add (.idx (.var "_law_script") (.bin .mod (.var "_law_k") (.call "len" [(.var "_law_script")]))) (.bin .mul (.int 3) (.bin .fdiv (.var "_law_k") (.call "len" [(.var "_law_script")]))))] }
noncomputable def d__law_wide : Def := { name := "_law_wide", params := ["_law_cell", "_law_bound"], body := [
  .ret (.bin .mod (.bin .mod (.bin .mul (.var "_law_cell") (.int 48271000000007)) (.int 1000000000000037)) (.var "_law_bound"))] }
noncomputable def d__law_whole : Def := { name := "_law_whole", params := ["_law_found"], body := [
  .ret (.and [(.isinst (.var "_law_found") "int"), (.not (.isinst (.var "_law_found") "bool"))])] }
noncomputable def d__law_road_by : Def := { name := "_law_road_by", params := ["_law_cell"], body := [
  .asg "_law_length" (.bin .add (.int 1) (.bin .mod (.bin .fdiv (.var "_law_cell") (.int 2)) (.int 30))),
  .iff (.cmp (.bin .mod (.bin .fdiv (.var "_law_cell") (.int 2)) (.int 5)) .eq (.int 1)) [
    .asg "_law_length" (.bin .add (.int 1) (.call "_law_wide" [(.bin .fdiv (.var "_law_cell") (.int 10)), (.bin .pow (.int 10) (.int 9))]))] [],
  .iff (.cmp (.bin .mod (.bin .fdiv (.var "_law_cell") (.int 2)) (.int 25)) .eq (.int 3)) [
    .asg "_law_length" (.menu [(.int 1), (.int 2), (.int 3), (.bin .pow (.int 10) (.int 9))] (.bin .mod (.bin .fdiv (.var "_law_cell") (.int 50)) (.int 4)))] [],
  .ret (.tup [(.menu [(.str "line"), (.str "ring")] (.bin .mod (.var "_law_cell") (.int 2))), (.var "_law_length")])] }
noncomputable def d__law_places : Def := { name := "_law_places", params := ["_law_road"], body := [
  .iff (.cmp (.idx (.var "_law_road") (.int 0)) .eq (.str "line")) [
    .ret (.bin .add (.idx (.var "_law_road") (.int 1)) (.int 1))] [],
  .ret (.idx (.var "_law_road") (.int 1))] }
noncomputable def d__law_place_by : Def := { name := "_law_place_by", params := ["_law_road", "_law_cell"], body := [
  .asg "_law_many" (.call "_law_places" [(.var "_law_road")]),
  .iff (.cmp (.bin .mod (.var "_law_cell") (.int 7)) .eq (.int 0)) [
    .ret (.menu [(.int 0), (.bin .sub (.var "_law_many") (.int 1)), (.bin .fdiv (.var "_law_many") (.int 2))] (.bin .mod (.bin .fdiv (.var "_law_cell") (.int 7)) (.int 3)))] [],
  .ret (.call "_law_wide" [(.bin .fdiv (.var "_law_cell") (.int 7)), (.var "_law_many")])] }
noncomputable def d__law_apart : Def := { name := "_law_apart", params := ["_law_road", "_law_one", "_law_other"], body := [
  .asg "_law_gap" (.call "abs" [(.bin .sub (.var "_law_one") (.var "_law_other"))]),
  .iff (.cmp (.idx (.var "_law_road") (.int 0)) .eq (.str "line")) [
    .ret (.var "_law_gap")] [],
  .ret (.call "min" [(.var "_law_gap"), (.bin .sub (.idx (.var "_law_road") (.int 1)) (.var "_law_gap"))])] }
noncomputable def d__law_start_by : Def := { name := "_law_start_by", params := ["_law_road", "_law_cell"], body := [
  .iff (.cmp (.bin .mod (.var "_law_cell") (.int 3)) .eq (.int 0)) [
    .ret (.int 0)] [],
  .iff (.cmp (.bin .mod (.var "_law_cell") (.int 3)) .eq (.int 1)) [
    .ret (.bin .mod (.bin .fdiv (.var "_law_cell") (.int 3)) (.bin .add (.bin .mul (.int 2) (.idx (.var "_law_road") (.int 1))) (.int 1)))] [],
  .ret (.call "_law_wide" [(.bin .fdiv (.var "_law_cell") (.int 3)), (.bin .add (.bin .pow (.int 10) (.int 12)) (.int 1))])] }
noncomputable def d__law_stop_by : Def := { name := "_law_stop_by", params := ["_law_road", "_law_start", "_law_script", "_law_k"], body := [
  .asg "_law_place" (.call "_law_place_by" [(.var "_law_road"), (.call "_law_cell_at" [(.var "_law_script"), (.var "_law_k")])]),
  .asg "_law_cell" (.call "_law_cell_at" [(.var "_law_script"), (.bin .add (.var "_law_k") (.int 1))]),
  .asg "_law_opens" (.bin .add (.var "_law_start") (.bin .mod (.bin .fdiv (.var "_law_cell") (.int 4)) (.bin .add (.bin .mul (.int 3) (.idx (.var "_law_road") (.int 1))) (.int 2)))),
  .iff (.cmp (.bin .mod (.var "_law_cell") (.int 4)) .eq (.int 0)) [
    .asg "_law_opens" (.int 0)] [],
  .iff (.cmp (.bin .mod (.var "_law_cell") (.int 4)) .eq (.int 1)) [
    .asg "_law_opens" (.call "max" [(.int 0), (.bin .sub (.var "_law_start") (.bin .mod (.bin .fdiv (.var "_law_cell") (.int 4)) (.bin .add (.idx (.var "_law_road") (.int 1)) (.int 1))))])] [],
  .iff (.cmp (.bin .mod (.var "_law_cell") (.int 16)) .eq (.int 6)) [
    .asg "_law_opens" (.bin .add (.var "_law_start") (.call "_law_wide" [(.bin .fdiv (.var "_law_cell") (.int 32)), (.menu [(.bin .pow (.int 10) (.int 9)), (.bin .pow (.int 10) (.int 12))] (.bin .mod (.bin .fdiv (.var "_law_cell") (.int 16)) (.int 2)))]))] [],
  .asg "_law_opens" (.call "min" [(.var "_law_opens"), (.bin .pow (.int 10) (.int 12))]),
  .asg "_law_cell" (.call "_law_cell_at" [(.var "_law_script"), (.bin .add (.var "_law_k") (.int 2))]),
  .asg "_law_closes" (.bin .add (.bin .add (.call "max" [(.var "_law_opens"), (.var "_law_start")]) (.bin .mul (.menu [(.int 0), (.int 3), (.int 9), (.int 20)] (.bin .mod (.var "_law_cell") (.int 4))) (.idx (.var "_law_road") (.int 1)))) (.bin .mod (.bin .fdiv (.var "_law_cell") (.int 4)) (.bin .add (.idx (.var "_law_road") (.int 1)) (.int 2)))),
  .iff (.cmp (.bin .mod (.var "_law_cell") (.int 12)) .eq (.int 0)) [
    .asg "_law_closes" (.var "_law_opens")] [],
  .iff (.cmp (.bin .mod (.var "_law_cell") (.int 9)) .eq (.int 5)) [
    .asg "_law_closes" (.menu [(.bin .pow (.int 10) (.int 12)), (.bin .add (.call "max" [(.var "_law_opens"), (.var "_law_start")]) (.call "_law_wide" [(.bin .fdiv (.var "_law_cell") (.int 18)), (.bin .pow (.int 10) (.int 12))]))] (.bin .mod (.bin .fdiv (.var "_law_cell") (.int 9)) (.int 2)))] [],
  .asg "_law_closes" (.call "min" [(.var "_law_closes"), (.bin .pow (.int 10) (.int 12))]),
  .asg "_law_cell" (.call "_law_cell_at" [(.var "_law_script"), (.bin .add (.var "_law_k") (.int 3))]),
  .asg "_law_stay" (.bin .mod (.bin .fdiv (.var "_law_cell") (.int 3)) (.bin .add (.bin .fdiv (.idx (.var "_law_road") (.int 1)) (.int 3)) (.int 2))),
  .iff (.cmp (.bin .mod (.var "_law_cell") (.int 3)) .eq (.int 0)) [
    .asg "_law_stay" (.int 0)] [],
  .iff (.cmp (.bin .mod (.var "_law_cell") (.int 41)) .eq (.int 7)) [
    .asg "_law_stay" (.call "_law_wide" [(.bin .fdiv (.var "_law_cell") (.int 41)), (.bin .add (.bin .pow (.int 10) (.int 12)) (.int 1))])] [],
  .ret (.tup [(.var "_law_place"), (.var "_law_opens"), (.var "_law_closes"), (.var "_law_stay")])] }
noncomputable def d__law_stops_by : Def := { name := "_law_stops_by", params := ["_law_road", "_law_start", "_law_script", "_law_many"], body := [
  .ret (.comp (.call "_law_stop_by" [(.var "_law_road"), (.var "_law_start"), (.var "_law_script"), (.bin .add (.int 4) (.bin .mul (.int 4) (.var "_law_k")))]) "_law_k" (.call "range" [(.var "_law_many")]))] }
noncomputable def d__law_order_by : Def := { name := "_law_order_by", params := ["_law_script", "_law_many"], body := [
  .asg "_law_order" (.list []),
  .asg "_law_left" (.call "list" [(.call "range" [(.var "_law_many")])]),
  .for1 "_law_k" (.e (.call "range" [(.bin .mod (.call "_law_cell_at" [(.var "_law_script"), (.int 32)]) (.bin .add (.var "_law_many") (.int 1)))])) [
    .asg "_law_at" (.bin .mod (.call "_law_cell_at" [(.var "_law_script"), (.bin .add (.int 33) (.var "_law_k"))]) (.call "len" [(.var "_law_left")])),
    .expr (.meth (.var "_law_order") "append" [(.idx (.var "_law_left") (.var "_law_at"))]),
    .asg "_law_left" (.bin .add (.slice (.var "_law_left") .none (.var "_law_at")) (.slice (.var "_law_left") (.bin .add (.var "_law_at") (.int 1)) .none))],
  .asg "_law_cell" (.call "_law_cell_at" [(.var "_law_script"), (.int 41)]),
  .iff (.cmp (.bin .mod (.var "_law_cell") (.int 3)) .eq (.int 0)) [
    .asg "_law_at" (.bin .mod (.bin .fdiv (.var "_law_cell") (.int 3)) (.bin .add (.call "len" [(.var "_law_order")]) (.int 1))),
    .asg "_law_far" (.bin .mul (.bin .mod (.bin .fdiv (.var "_law_cell") (.int 96)) (.int 9)) (.menu [(.int 1), (.bin .pow (.int 10) (.int 15))] (.bin .mod (.bin .fdiv (.var "_law_cell") (.int 864)) (.int 2)))),
    .asg "_law_bad_here" (.menu [(.bin .sub (.neg (.int 1)) (.var "_law_far")), (.var "_law_many"), (.bin .add (.var "_law_many") (.var "_law_far")), (.var "_law_many")] (.bin .mod (.bin .fdiv (.var "_law_cell") (.int 24)) (.int 4))),
    .iff (.and [(.cmp (.call "len" [(.var "_law_order")]) .gt (.int 0)), (.cmp (.bin .mod (.bin .fdiv (.var "_law_cell") (.int 24)) (.int 2)) .eq (.int 1))]) [
      .asg "_law_bad_here" (.idx (.var "_law_order") (.bin .mod (.bin .fdiv (.var "_law_cell") (.int 48)) (.call "len" [(.var "_law_order")])))] [],
    .ret (.tup [(.var "_law_order"), (.bin .add (.bin .add (.slice (.var "_law_order") .none (.var "_law_at")) (.list [(.var "_law_bad_here")])) (.slice (.var "_law_order") (.var "_law_at") .none))])] [],
  .ret (.tup [(.var "_law_order"), (.var "_law_order")])] }
noncomputable def d__law_bad : Def := { name := "_law_bad", params := ["_law_order", "_law_many"], body := [
  .for1 "_law_number" (.e (.var "_law_order")) [
    .iff (.or [(.not (.cmp2 (.int 0) .le (.var "_law_number") .lt (.var "_law_many"))), (.cmp (.meth (.var "_law_order") "count" [(.var "_law_number")]) .gt (.int 1))]) [
      .ret (.bool true)] []],
  .ret (.bool false)] }
noncomputable def d__law_rows : Def := { name := "_law_rows", params := ["_law_road", "_law_home", "_law_start", "_law_stops", "_law_order"], body := [
  .asg "_law_rows_here" (.list []),
  .asg "_law_place" (.var "_law_home"),
  .asg "_law_time" (.var "_law_start"),
  .for1 "_law_number" (.e (.var "_law_order")) [
    .asg "_law_stop" (.idx (.var "_law_stops") (.var "_law_number")),
    .asg "_law_comes" (.bin .add (.var "_law_time") (.call "_law_apart" [(.var "_law_road"), (.var "_law_place"), (.idx (.var "_law_stop") (.int 0))])),
    .asg "_law_begins" (.var "_law_comes"),
    .iff (.cmp (.var "_law_begins") .lt (.idx (.var "_law_stop") (.int 1))) [
      .asg "_law_begins" (.idx (.var "_law_stop") (.int 1))] [],
    .iff (.cmp (.var "_law_begins") .gt (.idx (.var "_law_stop") (.int 2))) [
      .ret .none] [],
    .expr (.meth (.var "_law_rows_here") "append" [(.tup [(.var "_law_comes"), (.var "_law_begins"), (.bin .add (.var "_law_begins") (.idx (.var "_law_stop") (.int 3)))])]),
    .asg "_law_place" (.idx (.var "_law_stop") (.int 0)),
    .asg "_law_time" (.bin .add (.var "_law_begins") (.idx (.var "_law_stop") (.int 3)))],
  .ret (.var "_law_rows_here")] }
noncomputable def d__law_told : Def := { name := "_law_told", params := ["_law_day", "_law_order"], body := [
  .tryE [
    .ret (.call "timetable" [(.var "_law_day"), (.var "_law_order")])] [("BadOrder", Option.none, [
    .ret (.str "order")]), ("Missed", Option.none, [
    .ret (.str "missed")])]] }
noncomputable def d__law_ended : Def := { name := "_law_ended", params := ["_law_day", "_law_order"], body := [
  .tryE [
    .ret (.call "ends" [(.var "_law_day"), (.var "_law_order")])] [("RouteError", some "error", [
    .asg "_law_kinds" (.list [(.isinst (.var "error") "BadRoad"), (.isinst (.var "error") "OffRoad"), (.isinst (.var "error") "BadTime")]),
    .asg "_law_kinds" (.bin .add (.var "_law_kinds") (.list [(.isinst (.var "error") "TooMany"), (.isinst (.var "error") "NoDay")])),
    .expr (.meth (.var "_law_kinds") "append" [(.cmp (.isinst (.var "error") "BadOrder") .eq (.isinst (.var "error") "Missed"))]),
    .iff (.or [(.not (.isinst (.var "error") "ValueError")), (.cmp (.bool true) .isIn (.var "_law_kinds"))]) [
      .ret (.str "other")] [],
    .ret (.menu [(.str "missed"), (.str "order")] (.call "int" [(.isinst (.var "error") "BadOrder")]))])]] }
noncomputable def d__law_alike : Def := { name := "_law_alike", params := ["_law_found", "_law_due"], body := [
  .iff (.or [(.not (.isinst (.var "_law_found") "list")), (.cmp (.call "len" [(.var "_law_found")]) .ne (.call "len" [(.var "_law_due")]))]) [
    .ret (.bool false)] [],
  .for1 "_law_k" (.e (.call "range" [(.call "len" [(.var "_law_due")])])) [
    .iff (.or [(.not (.isinst (.idx (.var "_law_found") (.var "_law_k")) "tuple")), (.cmp (.idx (.var "_law_found") (.var "_law_k")) .ne (.idx (.var "_law_due") (.var "_law_k")))]) [
      .ret (.bool false)] [],
    .for1 "_law_time" (.e (.idx (.var "_law_found") (.var "_law_k"))) [
      .iff (.not (.call "_law_whole" [(.var "_law_time")])) [
        .ret (.bool false)] []]],
  .ret (.bool true)] }
noncomputable def d__law_right : Def := { name := "_law_right", params := ["_law_day", "_law_stops", "_law_order", "_law_handed"], body := [
  .asg "_law_road" (.attr (.var "_law_day") "road"),
  .asg "_law_home" (.attr (.var "_law_day") "home"),
  .asg "_law_start" (.attr (.var "_law_day") "start"),
  .asg "_law_found" (.call "_law_told" [(.var "_law_day"), (.var "_law_handed")]),
  .asg "_law_end" (.call "_law_ended" [(.var "_law_day"), (.var "_law_handed")]),
  .iff (.or [(.cmp (.var "_law_handed") .ne (.var "_law_order")), (.cmp (.attr (.var "_law_day") "stops") .ne (.var "_law_stops")), (.cmp (.tup [(.attr (.var "_law_day") "road"), (.attr (.var "_law_day") "home"), (.attr (.var "_law_day") "start")]) .ne (.tup [(.var "_law_road"), (.var "_law_home"), (.var "_law_start")]))]) [
    .ret (.bool false)] [],
  .iff (.call "_law_bad" [(.var "_law_order"), (.call "len" [(.var "_law_stops")])]) [
    .ret (.and [(.cmp (.var "_law_found") .eq (.str "order")), (.cmp (.var "_law_end") .eq (.str "order"))])] [],
  .asg "_law_rows_here" (.call "_law_rows" [(.var "_law_road"), (.var "_law_home"), (.var "_law_start"), (.var "_law_stops"), (.var "_law_order")]),
  .iff (.cmp (.var "_law_rows_here") .is .none) [
    .ret (.and [(.cmp (.var "_law_found") .eq (.str "missed")), (.cmp (.var "_law_end") .eq (.str "missed"))])] [],
  .iff (.not (.call "_law_alike" [(.var "_law_found"), (.var "_law_rows_here")])) [
    .ret (.bool false)] [],
  .expr (.meth (.var "_law_found") "append" [(.tup [(.int 0), (.int 0), (.int 0)])]),
  .asg "_law_due" (.var "_law_start"),
  .iff (.cmp (.call "len" [(.var "_law_rows_here")]) .gt (.int 0)) [
    .asg "_law_due" (.bin .add (.idx (.idx (.var "_law_rows_here") (.neg (.int 1))) (.int 2)) (.call "_law_apart" [(.var "_law_road"), (.idx (.idx (.var "_law_stops") (.idx (.var "_law_order") (.neg (.int 1)))) (.int 0)), (.var "_law_home")]))] [],
  .ret (.and [(.call "_law_alike" [(.call "_law_told" [(.var "_law_day"), (.var "_law_handed")]), (.var "_law_rows_here")]), (.call "_law_whole" [(.var "_law_end")]), (.cmp (.var "_law_end") .eq (.var "_law_due"))])] }
noncomputable def d_law : Def := { name := "law", params := ["_law_script"], body := [
  .asg "_law_road" (.call "_law_road_by" [(.call "_law_cell_at" [(.var "_law_script"), (.int 0)])]),
  .asg "_law_home" (.call "_law_place_by" [(.var "_law_road"), (.call "_law_cell_at" [(.var "_law_script"), (.int 1)])]),
  .asg "_law_start" (.call "_law_start_by" [(.var "_law_road"), (.call "_law_cell_at" [(.var "_law_script"), (.int 2)])]),
  .asg "_law_stops" (.call "_law_stops_by" [(.var "_law_road"), (.var "_law_start"), (.var "_law_script"), (.bin .mod (.call "_law_cell_at" [(.var "_law_script"), (.int 3)]) (.int 8))]),
  .unpack ["_law_good", "_law_order"] (.call "_law_order_by" [(.var "_law_script"), (.call "len" [(.var "_law_stops")])]),
  .asg "_law_day" (.call "Day" [(.var "_law_road"), (.var "_law_home"), (.var "_law_start"), (.call "list" [(.var "_law_stops")])]),
  .iff (.cmp (.tup [(.attr (.var "_law_day") "road"), (.attr (.var "_law_day") "home"), (.attr (.var "_law_day") "start")]) .ne (.tup [(.var "_law_road"), (.var "_law_home"), (.var "_law_start")])) [
    .ret (.bool false)] [],
  .asg "_law_handed" (.call "list" [(.var "_law_order")]),
  .iff (.not (.call "_law_right" [(.var "_law_day"), (.var "_law_stops"), (.var "_law_order"), (.var "_law_handed")])) [
    .ret (.bool false)] [],
  .asg "_law_turned" (.comp (.idx (.var "_law_good") (.bin .sub (.neg (.int 1)) (.var "_law_k"))) "_law_k" (.call "range" [(.call "len" [(.var "_law_good")])])),
  .for1 "_law_other" (.e (.list [(.var "_law_good"), (.slice (.var "_law_turned") .none (.int 1)), (.var "_law_turned")])) [
    .expr (.meth (.var "_law_handed") "clear" []),
    .expr (.meth (.var "_law_handed") "extend" [(.var "_law_other")]),
    .iff (.not (.call "_law_right" [(.var "_law_day"), (.var "_law_stops"), (.var "_law_other"), (.var "_law_handed")])) [
      .ret (.bool false)] []],
  .ret (.cmp (.tup [(.attr (.var "_law_day") "road"), (.attr (.var "_law_day") "home"), (.attr (.var "_law_day") "start")]) .eq (.tup [(.var "_law_road"), (.var "_law_home"), (.var "_law_start")]))] }
noncomputable def constL : List (String × V) := [("LINE", .str (Str.ofString "line")), ("RING", .str (Str.ofString "ring")), ("LONGEST", .int 1000000000), ("LATEST", .int 1000000000000), ("MOST", .int 7)]
noncomputable def consts (x : String) : Option V := constL.lookup x
noncomputable def defs : List Def := [d_law, d__law_right, d__law_alike, d__law_ended, d__law_told, d__law_rows, d__law_bad, d__law_order_by, d__law_stops_by, d__law_stop_by, d__law_start_by, d__law_apart, d__law_place_by, d__law_places, d__law_road_by, d__law_whole, d__law_wide, d__law_cell_at, d_ends, d_timetable, d_served, d_need_order, d_looked_at, d_apart, d_is_place, d_is_road, d_is_within]
noncomputable def clss : List (String × Def) := [("Day", d_Day_init)]
noncomputable abbrev G (n : Nat) : Fn := lk defs clss consts n
noncomputable abbrev sLine : Str := Str.ofString "line"
noncomputable abbrev sRing : Str := Str.ofString "ring"
theorem line_ne_ring : ¬ Str.ofString "line" = Str.ofString "ring" := by decide +kernel
theorem ring_ne_line : ¬ Str.ofString "ring" = Str.ofString "line" := by decide +kernel


theorem c_cell (n : Nat) (ns : List Int) (k : Int) (H : Hp) (hk : 0 ≤ k) (hl : ns.length ≤ 63) : ∃ c, (G (n + 1)).call "_law_cell_at" [.scr ns, .int k] H = .ok (.int c) H := by
  rw [lk_call (d := d__law_cell_at) (by kernel_rfl)]
  by_cases h0 : ns.length = 0
  · refine ⟨k, ?_⟩
    simp [runDef, d__law_cell_at, setAll, setL, evT, consts, constL, cmp_eq_int, h0]
  · have hne : (ns.length : Int) ≠ 0 := by omega
    have h1 : 0 ≤ Int.fmod k ns.length := Int.fmod_nonneg_of_pos _ (by omega)
    have h2 : Int.fmod k ns.length < ns.length := Int.fmod_lt_of_pos _ (by omega)
    have h3 : (Int.fmod k ns.length).toNat < ns.length := by omega
    have hp : place (Int.fmod k ns.length) ns.length = some (Int.fmod k ns.length).toNat := by unfold place; rw [if_pos h1, if_pos h2]
    refine ⟨ns[(Int.fmod k ns.length).toNat] + 3 * Int.fdiv k ns.length, ?_⟩
    have e1 := bin_mod (a := k) H hne
    have e2 := bin_fdiv (a := k) H hne (by omega)
    have e3 := bin_mul_l (a := 3) (b := Int.fdiv k ns.length) H (by decide)
    simp [runDef, d__law_cell_at, setAll, setL, evT, consts, constL, cmp_eq_int, h0, e1, e2, e3, index, hp, h3]

theorem c_wide (n : Nat) (c b : Int) (H : Hp) (hb : 0 < b) : ∃ r, (G (n + 1)).call "_law_wide" [.int c, .int b] H = .ok (.int r) H ∧ 0 ≤ r ∧ r < b := by
  rw [lk_call (d := d__law_wide) (by kernel_rfl)]
  refine ⟨Int.fmod (Int.fmod (c * 48271000000007) 1000000000000037) b, ?_, Int.fmod_nonneg_of_pos _ hb, Int.fmod_lt_of_pos _ hb⟩
  have e1 := bin_mul_r (a := c) (b := 48271000000007) H (by decide)
  have e2 := bin_mod (a := c * 48271000000007) (b := 1000000000000037) H (by decide)
  have e3 := bin_mod (a := Int.fmod (c * 48271000000007) 1000000000000037) H (show b ≠ 0 by omega)
  simp [runDef, d__law_wide, setAll, setL, evT, e1, e2, e3]

theorem c_whole (n : Nat) (i : Int) (H : Hp) : (G (n + 1)).call "_law_whole" [.int i] H = .ok (.bool true) H := by
  rw [lk_call (d := d__law_whole) (by kernel_rfl)]
  simp [runDef, d__law_whole, setAll, setL, evT]

theorem menu_at {vs : List V} {k : Int} {H : Hp} (h0 : 0 ≤ k) (h1 : k < vs.length) : ∃ v, v ∈ vs ∧ index (.lst vs) (.int k) H = .ok v H := by
  have h3 : k.toNat < vs.length := by omega
  refine ⟨vs[k.toNat], List.getElem_mem h3, ?_⟩
  have hp : place k vs.length = some k.toNat := by unfold place; rw [if_pos h0, if_pos h1]
  simp [index, hp, h3]

theorem c_road (n : Nat) (c : Int) (H : Hp) : ∃ w l, (G (n + 2)).call "_law_road_by" [.int c] H = .ok (.tup [.str w, .int l]) H ∧ (w = sLine ∨ w = sRing) ∧ 1 ≤ l ∧ l ≤ 1000000000 := by
  rw [lk_call (d := d__law_road_by) (by kernel_rfl)]
  obtain ⟨r, er, r0, r1⟩ := c_wide n (c.fdiv 10) 1000000000 H (by decide)
  have m1 := Int.fmod_nonneg_of_pos (c.fdiv 2) (b := 30) (by decide)
  have m2 := Int.fmod_lt_of_pos (c.fdiv 2) (b := 30) (by decide)
  obtain ⟨v, hv, ev⟩ := menu_at (vs := [.int 1, .int 2, .int 3, .int 1000000000]) (k := Int.fmod (c.fdiv 50) 4) (H := H) (Int.fmod_nonneg_of_pos _ (by decide)) (Int.fmod_lt_of_pos _ (by decide))
  obtain ⟨u, hu, eu⟩ := menu_at (vs := [.str sLine, .str sRing]) (k := Int.fmod c 2) (H := H) (Int.fmod_nonneg_of_pos _ (by decide)) (Int.fmod_lt_of_pos _ (by decide))
  obtain ⟨w, rfl, hw⟩ : ∃ w, u = .str w ∧ (w = sLine ∨ w = sRing) := by
    simp only [List.mem_cons, List.not_mem_nil, or_false] at hu
    rcases hu with rfl | rfl
    · exact ⟨_, rfl, .inl rfl⟩
    · exact ⟨_, rfl, .inr rfl⟩
  obtain ⟨l2, rfl, hl2⟩ : ∃ l, v = .int l ∧ 1 ≤ l ∧ l ≤ 1000000000 := by
    simp only [List.mem_cons, List.not_mem_nil, or_false] at hv
    rcases hv with rfl | rfl | rfl | rfl <;> exact ⟨_, rfl, by decide, by decide⟩
  have e1 := fun H => bin_fdiv (a := c) (b := 2) H (by decide) (by decide)
  have e2 := fun H => bin_fdiv (a := c) (b := 10) H (by decide) (by decide)
  have e3 := fun H => bin_fdiv (a := c) (b := 50) H (by decide) (by decide)
  have e4 := fun H => bin_mod (a := c.fdiv 2) (b := 30) H (by decide)
  have e5 := fun H => bin_mod (a := c.fdiv 2) (b := 5) H (by decide)
  have e6 := fun H => bin_mod (a := c.fdiv 2) (b := 25) H (by decide)
  have e7 := fun H => bin_mod (a := c.fdiv 50) (b := 4) H (by decide)
  have e8 := fun H => bin_mod (a := c) (b := 2) H (by decide)
  have e9 := fun H => bin_pow (a := 10) (b := 9) H (by decide)
  have eb : ∀ a b H, builtin "_law_wide" [.int a, .int b] H = .stuck := fun _ _ _ => rfl
  refine ⟨w, if Int.fmod (c.fdiv 2) 25 = 3 then l2 else if Int.fmod (c.fdiv 2) 5 = 1 then 1 + r else 1 + Int.fmod (c.fdiv 2) 30, ?_, hw, ?_⟩
  · by_cases h5 : Int.fmod (c.fdiv 2) 5 = 1 <;> by_cases h25 : Int.fmod (c.fdiv 2) 25 = 3 <;>
      simp [runDef, d__law_road_by, setAll, setL, evT, cmp_eq_int, e1, e2, e3, e4, e5, e6, e7, e8, e9, eb, h5, h25, er, ev, eu]
  · split
    · exact hl2
    · split <;> omega

noncomputable def many (w : Str) (l : Int) : Int := if w = sLine then l + 1 else l

theorem c_places (n : Nat) (w : Str) (l : Int) (H : Hp) : (G (n + 1)).call "_law_places" [.tup [.str w, .int l]] H = .ok (.int (many w l)) H := by
  rw [lk_call (d := d__law_places) (by kernel_rfl)]
  unfold many
  by_cases hw : w = Str.ofString "line" <;> simp [runDef, d__law_places, setAll, setL, evT, cmp_eq_str, hw]

theorem c_place (n : Nat) (w : Str) (l c : Int) (H : Hp) (hl : 1 ≤ l) : ∃ p, (G (n + 2)).call "_law_place_by" [.tup [.str w, .int l], .int c] H = .ok (.int p) H ∧ 0 ≤ p ∧ p < many w l := by
  rw [lk_call (d := d__law_place_by) (by kernel_rfl)]
  have hm : 1 ≤ many w l := by unfold many; split <;> omega
  have ep := c_places n w l H
  obtain ⟨r, er, r0, r1⟩ := c_wide n (c.fdiv 7) (many w l) H (by omega)
  obtain ⟨v, hv, ev⟩ := menu_at (vs := [.int 0, .int (many w l - 1), .int ((many w l).fdiv 2)]) (k := Int.fmod (c.fdiv 7) 3) (H := H) (Int.fmod_nonneg_of_pos _ (by decide)) (Int.fmod_lt_of_pos _ (by decide))
  obtain ⟨q, rfl, hq⟩ : ∃ q, v = .int q ∧ 0 ≤ q ∧ q < many w l := by
    simp only [List.mem_cons, List.not_mem_nil, or_false] at hv
    rcases hv with rfl | rfl | rfl
    · exact ⟨_, rfl, by omega, by omega⟩
    · exact ⟨_, rfl, by omega, by omega⟩
    · refine ⟨_, rfl, ?_, ?_⟩
      · rw [Int.fdiv_eq_ediv_of_nonneg _ (by decide)]; omega
      · rw [Int.fdiv_eq_ediv_of_nonneg _ (by decide)]; omega
  have e1 := fun H => bin_mod (a := c) (b := 7) H (by decide)
  have e2 := fun H => bin_fdiv (a := c) (b := 7) H (by decide) (by decide)
  have e3 := fun H => bin_mod (a := c.fdiv 7) (b := 3) H (by decide)
  have e4 := fun H => bin_fdiv (a := many w l) (b := 2) H (by decide) (by decide)
  have eb : ∀ a H, builtin "_law_places" [a] H = .stuck := fun _ _ => rfl
  have eb2 : ∀ a b H, builtin "_law_wide" [.int a, .int b] H = .stuck := fun _ _ _ => rfl
  refine ⟨if Int.fmod c 7 = 0 then q else r, ?_, ?_⟩
  · by_cases h7 : Int.fmod c 7 = 0 <;> simp [runDef, d__law_place_by, setAll, setL, evT, cmp_eq_int, e1, e2, e3, e4, eb, eb2, h7, er, ev, ep]
  · split
    · exact hq
    · exact ⟨r0, r1⟩

noncomputable def RetT (H : Hp) (Q : V → Prop) (r : RS) : Prop := ∃ v, r = .ret v H ∧ Q v
theorem ss_asg {T : RS → Prop} {Γ : Fn} {ρ : Rho} {x : String} {e : E} {ss : List S} {H H1 : Hp} {v : V} (h : evE Γ ρ e H = .ok v H1) (k : T (exSs Γ ss (setL x v ρ) H1)) : T (exSs Γ (.asg x e :: ss) ρ H) := by
  have q : exSs Γ (.asg x e :: ss) ρ H = exSs Γ ss (setL x v ρ) H1 := by simp [h]
  rw [q]; exact k
theorem ss_iff {T : RS → Prop} {Γ : Fn} {ρ : Rho} {x : String} {t e : E} {ss : List S} {H : Hp} {b : Bool} {o : Int} (P : Int → Prop) (ht : evT Γ ρ t H = .ok b H) (he : b = true → ∃ i, evE Γ ρ e H = .ok (.int i) H ∧ P i) (hx : setL x (.int o) ρ = ρ) (ho : b = false → P o)
    (k : ∀ o', P o' → T (exSs Γ ss (setL x (.int o') ρ) H)) : T (exSs Γ (.iff t [.asg x e] [] :: ss) ρ H) := by
  cases b with
  | true =>
    obtain ⟨i, hi, hp⟩ := he rfl
    have q : exSs Γ (.iff t [.asg x e] [] :: ss) ρ H = exSs Γ ss (setL x (.int i) ρ) H := by simp [ht, hi]
    rw [q]; exact k i hp
  | false =>
    have q : exSs Γ (.iff t [.asg x e] [] :: ss) ρ H = exSs Γ ss (setL x (.int o) ρ) H := by simp [ht, hx]
    rw [q]; exact k o (ho rfl)
theorem runDef_ret {Γ : Fn} {d : Def} {vs : List V} {ρ : Rho} {H : Hp} {Q : V → Prop} (e : setAll d.params vs [] = some ρ) (h : RetT H Q (exSs Γ d.body ρ H)) : ∃ v, runDef Γ d vs H = .ok v H ∧ Q v := by
  obtain ⟨v, hv, q⟩ := h
  exact ⟨v, by simp [runDef, e, hv], q⟩
theorem fmod_lt (a : Int) {b : Int} (h : 0 < b) : 0 ≤ a.fmod b ∧ a.fmod b < b := ⟨Int.fmod_nonneg_of_pos a h, Int.fmod_lt_of_pos a h⟩
theorem t_mod {Γ : Fn} {ρ : Rho} {x : String} {c n k : Int} {H : Hp} (hx : ρ.lookup x = some (.int c)) (hn : n ≠ 0) : evT Γ ρ (.cmp (.bin .mod (.var x) (.int n)) .eq (.int k)) H = .ok (c.fmod n == k) H := by
  simp [evT, hx, bin_mod, hn, cmp_eq_int]

theorem c_start (n : Nat) (w : Str) (l c : Int) (H : Hp) (hl : 1 ≤ l) (hl2 : l ≤ 1000000000) : ∃ s, (G (n + 2)).call "_law_start_by" [.tup [.str w, .int l], .int c] H = .ok (.int s) H ∧ 0 ≤ s ∧ s ≤ 1000000000000 := by
  rw [lk_call (d := d__law_start_by) (by kernel_rfl)]
  obtain ⟨r, er, r0, r1⟩ := c_wide n (c.fdiv 3) 1000000000001 H (by decide)
  have e1 := fun H => bin_mod (a := c) (b := 3) H (by decide)
  have e2 := fun H => bin_fdiv (a := c) (b := 3) H (by decide) (by decide)
  have e3 := fun H => bin_mod (a := c.fdiv 3) (b := 2 * l + 1) H (by omega)
  have e4 := fun H => bin_pow (a := 10) (b := 12) H (by decide)
  have e5 := fun H => bin_mul_l (a := 2) (b := l) H (by decide)
  have eb2 : ∀ a b H, builtin "_law_wide" [.int a, .int b] H = .stuck := fun _ _ _ => rfl
  have m := fmod_lt (c.fdiv 3) (b := 2 * l + 1) (by omega)
  by_cases h0 : c.fmod 3 = 0
  · exact ⟨0, by simp [runDef, d__law_start_by, setAll, setL, evT, cmp_eq_int, e1, h0], by decide, by decide⟩
  · by_cases h1 : c.fmod 3 = 1
    · exact ⟨_, by simp [runDef, d__law_start_by, setAll, setL, evT, cmp_eq_int, e1, e2, e3, e5, h1], m.1, by omega⟩
    · exact ⟨r, by simp [runDef, d__law_start_by, setAll, setL, evT, cmp_eq_int, e1, e2, e4, eb2, er, h0, h1], r0, by omega⟩

structure StopOk (w : Str) (l p o c s : Int) : Prop where
  p0 : 0 ≤ p
  p1 : p < many w l
  o0 : 0 ≤ o
  oc : o ≤ c
  c1 : c ≤ 1000000000000
  s0 : 0 ≤ s
  s1 : s ≤ 1000000000000

set_option maxHeartbeats 1000000 in
theorem c_stop (n : Nat) (w : Str) (l st k : Int) (ns : List Int) (H : Hp) (hl : 1 ≤ l) (hl2 : l ≤ 1000000000) (s0 : 0 ≤ st) (s1 : st ≤ 1000000000000) (hk : 0 ≤ k) (hns : ns.length ≤ 63) :
    ∃ p o c s, (G (n + 3)).call "_law_stop_by" [.tup [.str w, .int l], .int st, .scr ns, .int k] H = .ok (.tup [.int p, .int o, .int c, .int s]) H ∧ StopOk w l p o c s := by
  rw [lk_call (d := d__law_stop_by) (by kernel_rfl)]
  obtain ⟨c0, k0⟩ := c_cell (n + 1) ns k H hk hns
  obtain ⟨c1, k1⟩ := c_cell (n + 1) ns (k + 1) H (by omega) hns
  obtain ⟨c2, k2⟩ := c_cell (n + 1) ns (k + 2) H (by omega) hns
  obtain ⟨c3, k3⟩ := c_cell (n + 1) ns (k + 3) H (by omega) hns
  obtain ⟨p, ep, p0, p1⟩ := c_place n w l c0 H hl
  have f1 : ∀ a b H, builtin "_law_cell_at" [a, b] H = .stuck := fun _ _ _ => rfl
  have f2 : ∀ a b H, builtin "_law_place_by" [a, b] H = .stuck := fun _ _ _ => rfl
  have f3 : ∀ a b H, builtin "_law_wide" [a, b] H = .stuck := fun _ _ _ => rfl
  have ew := fun c b hb => c_wide (n + 1) c b H hb
  have e9 := fun H => bin_pow (a := 10) (b := 9) H (by decide)
  have e12 := fun H => bin_pow (a := 10) (b := 12) H (by decide)
  have ml := fun (a : Int) (ha : a.natAbs < 2 ^ 64) H => bin_mul_l (a := a) (b := l) H ha
  have fd := fun (a b : Int) H (h : b ≠ 0) (h2 : b.natAbs < 1073741824) => bin_fdiv (a := a) (b := b) H h h2
  have md := fun (a b : Int) H (h : b ≠ 0) => bin_mod (a := a) (b := b) H h
  have m1 := fmod_lt (c1.fdiv 4) (b := 3 * l + 2) (by omega)
  have m2 := fmod_lt (c1.fdiv 4) (b := l + 1) (by omega)
  have m3 := fmod_lt (c2.fdiv 4) (b := l + 2) (by omega)
  have m4 : 0 ≤ l.fdiv 3 ∧ l.fdiv 3 ≤ l := by rw [Int.fdiv_eq_ediv_of_nonneg _ (by decide)]; omega
  have m5 := fmod_lt (c3.fdiv 3) (b := l.fdiv 3 + 2) (by omega)
  have fin : ∃ v, runDef (G (n + 2)) d__law_stop_by [.tup [.str w, .int l], .int st, .scr ns, .int k] H = .ok v H ∧ ∃ p o c s, v = .tup [.int p, .int o, .int c, .int s] ∧ StopOk w l p o c s := by
    refine runDef_ret rfl ?_
    refine ss_asg (v := .int p) (H1 := H) (by simp [d__law_stop_by, setAll, setL, f1, f2, k0, ep]) ?_
    simp only [setL, String.reduceEq, reduceIte]
    refine ss_asg (v := .int c1) (H1 := H) (by simp [setL, f1, k1]) ?_
    simp only [setL, String.reduceEq, reduceIte]
    refine ss_asg (v := .int (st + (c1.fdiv 4).fmod (3 * l + 2))) (H1 := H) (by simp [setL, fd c1 4, md _ (3 * l + 2) H (by omega), ml 3 (by decide)]) ?_
    simp only [setL, String.reduceEq, reduceIte]
    refine ss_iff (fun x => 0 ≤ x) (t_mod (c := c1) rfl (by decide)) (fun _ => ⟨0, rfl, by decide⟩) rfl (fun _ => by omega) fun o1 ho1 => ?_
    simp only [setL, String.reduceEq, reduceIte]
    refine ss_iff (fun x => 0 ≤ x) (t_mod (c := c1) rfl (by decide)) (fun _ => ⟨if 0 < st - (c1.fdiv 4).fmod (l + 1) then st - (c1.fdiv 4).fmod (l + 1) else 0, by simp [setL, fd c1 4, md _ (l + 1) H (by omega)], by split <;> omega⟩) rfl (fun _ => ho1) fun o2 ho2 => ?_
    simp only [setL, String.reduceEq, reduceIte]
    refine ss_iff (fun x => 0 ≤ x) (t_mod (c := c1) rfl (by decide)) (fun _ => ?_) rfl (fun _ => ho2) fun o3 ho3 => ?_
    · obtain ⟨v, hv, ev⟩ := menu_at (vs := [.int 1000000000, .int 1000000000000]) (k := Int.fmod (c1.fdiv 16) 2) (H := H) (Int.fmod_nonneg_of_pos _ (by decide)) (Int.fmod_lt_of_pos _ (by decide))
      obtain ⟨q, rfl, hq⟩ : ∃ q, v = .int q ∧ 0 < q := by
        simp only [List.mem_cons, List.not_mem_nil, or_false] at hv
        rcases hv with rfl | rfl <;> exact ⟨_, rfl, by decide⟩
      obtain ⟨r, er, r0, r1⟩ := ew (c1.fdiv 32) q hq
      exact ⟨st + r, by simp [setL, fd c1 16, fd c1 32, md (c1.fdiv 16) 2, e9, e12, ev, er, f3], by omega⟩
    simp only [setL, String.reduceEq, reduceIte]
    refine ss_asg (v := .int (if 1000000000000 < o3 then 1000000000000 else o3)) (H1 := H) (by simp [setL, e12]) ?_
    obtain ⟨o, ho⟩ : ∃ o, o = if 1000000000000 < o3 then 1000000000000 else o3 := ⟨_, rfl⟩
    have ho' : 0 ≤ o ∧ o ≤ 1000000000000 := by rw [ho]; split <;> omega
    rw [← ho]
    simp only [setL, String.reduceEq, reduceIte]
    refine ss_asg (v := .int c2) (H1 := H) (by simp [setL, f1, k2]) ?_
    obtain ⟨v, hv, ev⟩ := menu_at (vs := [.int 0, .int 3, .int 9, .int 20]) (k := Int.fmod c2 4) (H := H) (Int.fmod_nonneg_of_pos _ (by decide)) (Int.fmod_lt_of_pos _ (by decide))
    obtain ⟨q, rfl, hq, hq2⟩ : ∃ q, v = .int q ∧ 0 ≤ q ∧ q ≤ 20 := by
      simp only [List.mem_cons, List.not_mem_nil, or_false] at hv
      rcases hv with rfl | rfl | rfl | rfl <;> exact ⟨_, rfl, by decide, by decide⟩
    have hm : o ≤ (if o < st then st else o) := by split <;> omega
    have hql : 0 ≤ q * l := Int.mul_nonneg hq (by omega)
    simp only [setL, String.reduceEq, reduceIte]
    refine ss_asg (v := .int ((if o < st then st else o) + q * l + (c2.fdiv 4).fmod (l + 2))) (H1 := H) (by simp [setL, fd c2 4, md c2 4, md _ (l + 2) H (by omega), ml q (by omega), ev]) ?_
    simp only [setL, String.reduceEq, reduceIte]
    refine ss_iff (fun x => o ≤ x) (t_mod (c := c2) rfl (by decide)) (fun _ => ⟨o, rfl, by omega⟩) rfl (fun _ => by omega) fun x1 hx1 => ?_
    simp only [setL, String.reduceEq, reduceIte]
    refine ss_iff (fun x => o ≤ x) (t_mod (c := c2) rfl (by decide)) (fun _ => ?_) rfl (fun _ => hx1) fun x2 hx2 => ?_
    · obtain ⟨r, er, r0, r1⟩ := ew (c2.fdiv 18) 1000000000000 (by decide)
      obtain ⟨v, hv, ev⟩ := menu_at (vs := [.int 1000000000000, .int ((if o < st then st else o) + r)]) (k := Int.fmod (c2.fdiv 9) 2) (H := H) (Int.fmod_nonneg_of_pos _ (by decide)) (Int.fmod_lt_of_pos _ (by decide))
      obtain ⟨q, rfl, hq⟩ : ∃ q, v = .int q ∧ o ≤ q := by
        simp only [List.mem_cons, List.not_mem_nil, or_false] at hv
        rcases hv with rfl | rfl
        · exact ⟨_, rfl, ho'.2⟩
        · exact ⟨_, rfl, by omega⟩
      exact ⟨q, by simp [setL, fd c2 9, fd c2 18, md (c2.fdiv 9) 2, e12, ev, er, f3], hq⟩
    simp only [setL, String.reduceEq, reduceIte]
    refine ss_asg (v := .int (if 1000000000000 < x2 then 1000000000000 else x2)) (H1 := H) (by simp [setL, e12]) ?_
    obtain ⟨cl, hcl⟩ : ∃ o, o = if 1000000000000 < x2 then 1000000000000 else x2 := ⟨_, rfl⟩
    have hcl' : o ≤ cl ∧ cl ≤ 1000000000000 := by rw [hcl]; split <;> omega
    rw [← hcl]
    simp only [setL, String.reduceEq, reduceIte]
    refine ss_asg (v := .int c3) (H1 := H) (by simp [setL, f1, k3]) ?_
    simp only [setL, String.reduceEq, reduceIte]
    refine ss_asg (v := .int ((c3.fdiv 3).fmod (l.fdiv 3 + 2))) (H1 := H) (by simp [setL, fd c3 3, fd l 3, md _ (l.fdiv 3 + 2) H (by omega)]) ?_
    simp only [setL, String.reduceEq, reduceIte]
    refine ss_iff (fun x => 0 ≤ x ∧ x ≤ 1000000000000) (t_mod (c := c3) rfl (by decide)) (fun _ => ⟨0, rfl, by decide, by decide⟩) rfl (fun _ => by omega) fun y1 hy1 => ?_
    simp only [setL, String.reduceEq, reduceIte]
    refine ss_iff (fun x => 0 ≤ x ∧ x ≤ 1000000000000) (t_mod (c := c3) rfl (by decide)) (fun _ => ?_) rfl (fun _ => hy1) fun y2 hy2 => ?_
    · obtain ⟨r, er, r0, r1⟩ := ew (c3.fdiv 41) 1000000000001 (by decide)
      exact ⟨r, by simp [setL, fd c3 41, e12, er, f3], by omega⟩
    simp only [setL, String.reduceEq, reduceIte]
    exact ⟨_, by simp [setL], p, o, cl, y2, rfl, p0, p1, ho'.1, hcl'.1, hcl'.2, hy2.1, hy2.2⟩
  obtain ⟨v, e, p, o, c, s, rfl, h⟩ := fin
  exact ⟨p, o, c, s, e, h⟩
end Mine.L04

/-! P04b -/
namespace Mine.L04
open Mine PySem
noncomputable def RetH (Q : V → Hp → Prop) (r : RS) : Prop := ∃ v H', r = .ret v H' ∧ Q v H'
theorem runDef_T {Γ : Fn} {d : Def} {vs : List V} {ρ : Rho} {H : Hp} {Q : V → Hp → Prop} (e : setAll d.params vs [] = some ρ) (h : RetH Q (exSs Γ d.body ρ H)) : ∃ v H', runDef Γ d vs H = .ok v H' ∧ Q v H' := by
  obtain ⟨v, H', hv, q⟩ := h
  exact ⟨v, H', by simp [runDef, e, hv], q⟩
noncomputable def Ext (H H' : Hp) : Prop := ∃ L, H' = H ++ L
theorem Ext.refl (H : Hp) : Ext H H := ⟨[], by simp⟩
theorem Ext.trans {H H1 H2 : Hp} (a : Ext H H1) (b : Ext H1 H2) : Ext H H2 := by
  obtain ⟨l, rfl⟩ := a; obtain ⟨m, rfl⟩ := b; exact ⟨l ++ m, by simp⟩
theorem Ext.get {H H' : Hp} (a : Ext H H') {k : Nat} {o : O} (h : H[k]? = some o) : H'[k]? = some o := by
  obtain ⟨l, rfl⟩ := a
  rw [List.getElem?_append_left (List.getElem?_eq_some_iff.mp h).1]; exact h
theorem ext_app (H L : Hp) : Ext H (H ++ L) := ⟨L, rfl⟩
theorem len_app1 (H : Hp) (o : O) : (H ++ [o])[H.length]? = some o := by simp
theorem set_app1 (H : Hp) (o o' : O) : (H ++ [o]).set H.length o' = H ++ [o'] := by
  rw [List.set_append_right _ _ (by omega)]; simp
theorem turns_some (P : V → Prop) (f : V → Hp → R (Option V)) (chk : Hp → Bool) (H : Hp) (hc : ∀ ys, chk (H ++ [.list ys]) = true) : ∀ (xs done : List V), (∀ y ∈ xs, ∀ ys, ∃ v, f y (H ++ [.list ys]) = .ok (some v) (H ++ [.list ys]) ∧ P v) → done.length + xs.length ≤ line →
    ∃ vs, turns f chk H.length xs (H ++ [.list done]) = .ok () (H ++ [.list (done ++ vs)]) ∧ vs.length = xs.length ∧ ∀ v ∈ vs, P v
  | [], done, _, _ => ⟨[], by simp [turns, hc], rfl, fun _ q => nomatch q⟩
  | y :: ys, done, h, hl => by
    obtain ⟨v, ev, pv⟩ := h y (List.mem_cons_self ..) done
    obtain ⟨vs, e, l, p⟩ := turns_some P f chk H hc ys (done ++ [v]) (fun z hz => h z (List.mem_cons_of_mem _ hz)) (by simp at hl ⊢; omega)
    refine ⟨v :: vs, ?_, by simp [l], fun z hz => ?_⟩
    · rw [turns, if_pos (hc _), ev]
      simp only [len_app1, set_app1]
      rw [if_pos (by simp at hl; omega), e]; simp
    · rcases List.mem_cons.mp hz with rfl | hz
      · exact pv
      · exact p z hz
theorem turns_maps {α : Type} (y g : α → V) (f : V → Hp → R (Option V)) (chk : Hp → Bool) (H : Hp) (hc : ∀ ys, chk (H ++ [.list ys]) = true) : ∀ (zs : List α) (done : List V), (∀ z ∈ zs, ∀ ys, f (y z) (H ++ [.list ys]) = .ok (some (g z)) (H ++ [.list ys])) → done.length + zs.length ≤ line →
    turns f chk H.length (zs.map y) (H ++ [.list done]) = .ok () (H ++ [.list (done ++ zs.map g)])
  | [], done, _, _ => by simp [turns, hc]
  | z :: zs, done, h, hl => by
    have ih := turns_maps y g f chk H hc zs (done ++ [g z]) (fun u hu => h u (List.mem_cons_of_mem _ hu)) (by simp at hl ⊢; omega)
    rw [List.map_cons, turns, if_pos (hc _), h z (List.mem_cons_self ..)]
    simp only [len_app1, set_app1]
    rw [if_pos (by simp at hl; omega), ih]; simp
theorem forL_all (I : Nat → Rho → Hp → Prop) (body : V → Rho → Hp → RS) (chk : Hp → Bool) (hc : ∀ i ρ H, I i ρ H → chk H = true) (N : Nat) : ∀ (xs : List V) (i : Nat), i + xs.length ≤ N → (∀ y ∈ xs, ∀ i ρ H, i < N → I i ρ H → ∃ ρ' H', I (i + 1) ρ' H' ∧ body y ρ H = .next ρ' H') →
    ∀ ρ H, I i ρ H → ∃ ρ' H', I (i + xs.length) ρ' H' ∧ forL body chk xs ρ H = .next ρ' H'
  | [], i, _, _, ρ, H, z => ⟨ρ, H, z, by simp [forL, hc i ρ H z]⟩
  | y :: ys, i, hN, h, ρ, H, z => by
    obtain ⟨ρ1, H1, i1, e1⟩ := h y (List.mem_cons_self ..) i ρ H (by simp at hN; omega) z
    obtain ⟨ρ2, H2, i2, e2⟩ := forL_all I body chk hc N ys (i + 1) (by simp at hN; omega) (fun z hz => h z (List.mem_cons_of_mem _ hz)) ρ1 H1 i1
    exact ⟨ρ2, H2, by simpa [Nat.add_assoc, Nat.add_comm 1] using i2, by simp [forL, hc i ρ H z, e1, e2]⟩
theorem sameO_ext {H H' : Hp} {j : Nat} {vs : List V} (h : H[j]? = some (.list vs)) (e : Ext H H') : sameO (.ref j) H H' = true := by
  simp [sameO, h, e.get h]
theorem ss_for {T : RS → Prop} {Γ : Fn} {ρ ρ1 : Rho} {x : String} {e : E} {b ss : List S} {H H1 H2 : Hp} {v : V} {xs : List V} (hhd : Γ.hd = false) (he : evE Γ ρ e H = .ok v H1) (hx : items H1 v = some xs)
    (hf : forL (fun v ρ1 H2 => exSs Γ b (setL x v ρ1) H2) (sameO v H1) xs ρ H1 = .next ρ1 H2) (k : T (exSs Γ ss ρ1 H2)) : T (exSs Γ (.for1 x (.e e) b :: ss) ρ H) := by
  have q : exSs Γ (.for1 x (.e e) b :: ss) ρ H = exSs Γ ss ρ1 H2 := by
    simp only [exSs_cons, exSs_nil, exS_for1, hhd, evIt, he, R.bind_ok, hx, ofO_some, ofR_ok, Bool.false_eq_true, if_false, hf]
  rw [q]; exact k
theorem ss_for_off {T : RS → Prop} {Γ : Fn} {ρ : Rho} {x : String} {e : E} {b ss : List S} {H H1 : Hp} {v : V} {xs : List V} {r : RS} (hhd : Γ.hd = false) (he : evE Γ ρ e H = .ok v H1) (hx : items H1 v = some xs)
    (hf : forL (fun v ρ1 H2 => exSs Γ b (setL x v ρ1) H2) (sameO v H1) xs ρ H1 = r) (hr : (∃ v H, r = .ret v H) ∨ ∃ c ρ H, r = .raise c ρ H) (k : T r) : T (exSs Γ (.for1 x (.e e) b :: ss) ρ H) := by
  have q : exSs Γ (.for1 x (.e e) b :: ss) ρ H = r := by
    simp only [exSs_cons, exSs_nil, exS_for1, hhd, evIt, he, R.bind_ok, hx, ofO_some, ofR_ok, Bool.false_eq_true, if_false, hf]
    rcases hr with ⟨v, H, rfl⟩ | ⟨c, ρ, H, rfl⟩ <;> rfl
  rw [q]; exact k
theorem rangeL_one (b : Int) : rangeL 0 b 1 = (List.range b.toNat).map fun k : Nat => (k : Int) := by
  unfold rangeL
  by_cases h : 0 < b
  · rw [if_pos ⟨by decide, h⟩]
    have : ((b - 0 - 1) / 1 + 1).toNat = b.toNat := by omega
    rw [this]
    exact List.map_congr_left fun k _ => by omega
  · rw [if_neg (fun q => h q.2)]
    have : b.toNat = 0 := by omega
    rw [this]; rfl
noncomputable abbrev Q4 := Int × Int × Int × Int
noncomputable def tupQ (q : Q4) : V := .tup [.int q.1, .int q.2.1, .int q.2.2.1, .int q.2.2.2]
theorem ev_comp {Γ : Fn} {ρ : Rho} {elt it : E} {x : String} {v : V} {xs : List V} {H H1 H2 : Hp} (hhd : Γ.hd = false) (hit : evE Γ ρ it H = .ok v H1) (hx : items H1 v = some xs)
    (ht : turns (fun y H2 => (evE Γ ((x, y) :: ρ) elt H2).bind fun r H4 => .ok (some r) H4) (sameO v H1) H1.length xs (H1 ++ [.list []]) = .ok () H2) : evE Γ ρ (.comp elt x it) H = .ok (.ref H1.length) H2 := by
  rw [evE_comp, hhd, hit]
  simp only [R.bind_ok, hx, Bool.false_eq_true, if_false]
  rw [ht]
  rfl
theorem c_stops (n : Nat) (w : Str) (l st m : Int) (ns : List Int) (H : Hp) (hl : 1 ≤ l) (hl2 : l ≤ 1000000000) (s0 : 0 ≤ st) (s1 : st ≤ 1000000000000) (hm : 0 ≤ m) (hm2 : m ≤ 100) (hns : ns.length ≤ 63) :
    ∃ vs, (G (n + 4)).call "_law_stops_by" [.tup [.str w, .int l], .int st, .scr ns, .int m] H = .ok (.ref H.length) (H ++ [.list vs]) ∧ vs.length = m.toNat ∧ ∀ v ∈ vs, ∃ p o c s, v = .tup [.int p, .int o, .int c, .int s] ∧ StopOk w l p o c s := by
  rw [lk_call (d := d__law_stops_by) (by kernel_rfl)]
  have f1 : ∀ a b c d H, builtin "_law_stop_by" [a, b, c, d] H = .stuck := fun _ _ _ _ _ => rfl
  have f2 : ∀ b H, builtin "range" [.int b] H = .ok (.rng 0 b 1) H := fun _ _ => rfl
  have hr : rngOk 0 m 1 = true := by simp [rngOk]; omega
  have e4 := fun (y : Int) H => bin_mul_l (a := 4) (b := y) H (by decide)
  obtain ⟨vs, e, le, p⟩ := turns_some (fun v => ∃ p o c s, v = .tup [.int p, .int o, .int c, .int s] ∧ StopOk w l p o c s)
    (fun y H2 => (evE (G (n + 3)) (("_law_k", y) :: [("_law_road", .tup [.str w, .int l]), ("_law_start", .int st), ("_law_script", .scr ns), ("_law_many", .int m)]) (.call "_law_stop_by" [.var "_law_road", .var "_law_start", .var "_law_script", .bin .add (.int 4) (.bin .mul (.int 4) (.var "_law_k"))]) H2).bind fun r H4 => .ok (some r) H4)
    (sameO (.rng 0 m 1) H) H (fun _ => rfl) ((rangeL 0 m 1).map .int) [] (by
      intro y hy ys
      rw [rangeL_one] at hy
      simp only [List.map_map, List.mem_map, List.mem_range, Function.comp] at hy
      obtain ⟨j, _, rfl⟩ := hy
      obtain ⟨p, o, c, s, es, so⟩ := c_stop n w l st (4 + 4 * j) ns (H ++ [.list ys]) hl hl2 s0 s1 (by omega) hns
      exact ⟨_, by simp [f1, e4, es], p, o, c, s, rfl, so⟩) (by rw [rangeL_one]; simp [line]; omega)
  have ll : vs.length = m.toNat := by rw [le, rangeL_one]; simp
  refine ⟨vs, ?_, ll, p⟩
  rw [List.nil_append] at e
  have q := ev_comp (Γ := G (n + 3)) (H := H) (it := .call "range" [.var "_law_many"]) (lk_hd' _) (by simp [f2]) (by simp [items, hr]) e
  simp [runDef, d__law_stops_by, setAll, setL, q]
theorem listAt_of {xs : List V} {k : Nat} {H : Hp} (h : H[k]? = some (.list xs)) : listAt (.ref k) H = some xs := by
  have q : listAt (.ref k) H = (match H[k]? with | some (.list xs) => some xs | _ => Option.none) := rfl
  rw [q, h]
theorem kindV_ref (k : Nat) (H : Hp) : kindV (.ref k) H = (match listAt (.ref k) H with | some _ => some "list" | Option.none => Option.none) := rfl
theorem bi_list_ref {vs : List V} {k : Nat} {H : Hp} (h : H[k]? = some (.list vs)) : builtin "list" [.ref k] H = .ok (.ref H.length) (H ++ [.list vs]) := by
  have q : builtin "list" [.ref k] H = (match listAt (.ref k) H with | some xs => new (.list xs) H | Option.none => .stuck) := rfl
  rw [q, listAt_of h]; rfl
theorem bi_len_ref {vs : List V} {k : Nat} {H : Hp} (h : H[k]? = some (.list vs)) : builtin "len" [.ref k] H = .ok (.int vs.length) H := by
  have q : builtin "len" [.ref k] H = (match listAt (.ref k) H with | some xs => .ok (.int xs.length) H | Option.none => .stuck) := rfl
  rw [q, listAt_of h]
theorem bin_add_ref {xs ys : List V} {i j : Nat} {H : Hp} (h1 : H[i]? = some (.list xs)) (h2 : H[j]? = some (.list ys)) (hl : xs.length + ys.length ≤ line) : bin .add (.ref i) (.ref j) H = .ok (.ref H.length) (H ++ [.list (xs ++ ys)]) := by
  have q : bin .add (.ref i) (.ref j) H = addL (.ref i) (.ref j) H := rfl
  rw [q, addL, listAt_of h1, listAt_of h2]
  exact if_pos hl
theorem slice_from {xs : List V} {i k : Nat} {H : Hp} (h : H[i]? = some (.list xs)) (hk : k ≤ xs.length) : sliceV (.ref i) (some (k : Int)) Option.none H = .ok (.ref H.length) (H ++ [.list (xs.drop k)]) := by
  have : sliceL xs (some (k : Int)) Option.none = some (xs.drop k) := by
    unfold sliceL
    simp only
    rw [if_pos (by omega), Int.toNat_natCast]
  simp [sliceV, h, this, new]
theorem slice_to {xs : List V} {i k : Nat} {H : Hp} (h : H[i]? = some (.list xs)) (hk : k ≤ xs.length) : sliceV (.ref i) Option.none (some (k : Int)) H = .ok (.ref H.length) (H ++ [.list (xs.take k)]) := by
  have : sliceL xs Option.none (some (k : Int)) = some (xs.take k) := by
    unfold sliceL
    simp only
    rw [if_pos (by omega), Int.toNat_natCast]
  simp [sliceV, h, this, new]
theorem idx_ref {xs : List V} {i : Nat} {k : Int} {v : V} {H : Hp} (h : H[i]? = some (.list xs)) (h0 : 0 ≤ k) (hv : xs[k.toNat]? = some v) : index (.ref i) (.int k) H = .ok v H := by
  have hp : place k xs.length = some k.toNat := by
    unfold place
    have := (List.getElem?_eq_some_iff.mp hv).1
    rw [if_pos h0, if_pos (by omega)]
  simp [index, h, hp, hv]
theorem setL_self (x : String) (v : V) : ∀ ρ : Rho, List.lookup x (setL x v ρ) = some v
  | [] => by simp [setL]
  | (y, w) :: r => by
    unfold setL
    by_cases h : y = x
    · rw [if_pos h, h]; simp
    · rw [if_neg h, lookup_next (fun q => h q.symm)]; exact setL_self x v r
theorem lookup_setL (x y : String) (v : V) : ∀ ρ : Rho, List.lookup y (setL x v ρ) = if y = x then some v else List.lookup y ρ
  | [] => by by_cases h : y = x <;> simp [setL, List.lookup, h]
  | (z, w) :: r => by
    have ih := lookup_setL x y v r
    unfold setL
    by_cases h : z = x
    · rw [if_pos h]
      by_cases h2 : y = x
      · rw [if_pos h2, h, h2]; simp
      · rw [if_neg h2, lookup_next (by rw [h]; exact h2), lookup_next (by rw [h]; exact h2)]
    · rw [if_neg h]
      by_cases h2 : y = z
      · rw [h2, if_neg h]; simp
      · rw [lookup_next h2, ih, lookup_next h2]
theorem ev_bin {Γ : Fn} {ρ : Rho} {op : Op} {a b : E} {H H1 H2 : Hp} {x y : V} (ha : evE Γ ρ a H = .ok x H1) (hb : evE Γ ρ b H1 = .ok y H2) : evE Γ ρ (.bin op a b) H = bin op x y H2 := by
  rw [evE_bin, ha, R.bind_ok, hb, R.bind_ok]
theorem ev_var {Γ : Fn} {ρ : Rho} {x : String} {v : V} {H : Hp} (h : ρ.lookup x = some v) : evE Γ ρ (.var x) H = .ok v H := by
  rw [evE_var, h]; rfl
theorem exSs_app {Γ : Fn} {ss : List S} : ∀ (a : List S) (ρ : Rho) (H : Hp), exSs Γ (a ++ ss) ρ H = match exSs Γ a ρ H with | .next ρ1 H1 => exSs Γ ss ρ1 H1 | r => r
  | [], ρ, H => by simp
  | s :: a, ρ, H => by
    have ih := exSs_app (Γ := Γ) (ss := ss) a
    show exSs Γ (s :: (a ++ ss)) ρ H = _
    rw [exSs_cons, exSs_cons]
    cases exS Γ s ρ H <;> simp [ih]
theorem ss_if {T : RS → Prop} {Γ : Fn} {ρ : Rho} {t : E} {a a' ss : List S} {H H1 : Hp} {b : Bool} (ht : evT Γ ρ t H = .ok b H1) (k : T (exSs Γ ((if b then a else a') ++ ss) ρ H1)) : T (exSs Γ (.iff t a a' :: ss) ρ H) := by
  have q : exSs Γ (.iff t a a' :: ss) ρ H = exSs Γ ((if b then a else a') ++ ss) ρ H1 := by
    rw [exSs_app, exSs_cons, exS_iff, ht]
    cases b <;> rfl
  rw [q]; exact k
theorem ss_ret {T : RS → Prop} {Γ : Fn} {ρ : Rho} {e : E} {ss : List S} {H H1 : Hp} {v : V} (h : evE Γ ρ e H = .ok v H1) (k : T (.ret v H1)) : T (exSs Γ (.ret e :: ss) ρ H) := by
  have q : exSs Γ (.ret e :: ss) ρ H = .ret v H1 := by rw [exSs_cons, exS_ret, h]; rfl
  rw [q]; exact k
theorem ss_expr {T : RS → Prop} {Γ : Fn} {ρ : Rho} {e : E} {ss : List S} {H H1 : Hp} {v : V} (h : evE Γ ρ e H = .ok v H1) (k : T (exSs Γ ss ρ H1)) : T (exSs Γ (.expr e :: ss) ρ H) := by
  have q : exSs Γ (.expr e :: ss) ρ H = exSs Γ ss ρ H1 := by rw [exSs_cons, exS_expr, h]; rfl
  rw [q]; exact k
theorem evT_of {Γ : Fn} {ρ : Rho} {e : E} {H H1 : Hp} {b : Bool} (h : evE Γ ρ e H = .ok (.bool b) H1) : evT Γ ρ e H = .ok b H1 := by
  rw [evT, h]; rfl
theorem bi_int_bool (b : Bool) (H : Hp) : builtin "int" [.bool b] H = .ok (.int (if b then 1 else 0)) H := rfl
noncomputable def inP (w : Str) (l p : Int) : Bool := decide (0 ≤ p) && decide (p < many w l)
noncomputable def inT (t : Int) : Bool := decide (0 ≤ t) && decide (t ≤ 1000000000000)
noncomputable def roadOk (w : Str) (l : Int) : Bool := (w == sLine || w == sRing) && (decide (1 ≤ l) && decide (l ≤ 1000000000))
theorem c_within (n : Nat) (x lo hi : Int) (H : Hp) : (G (n + 1)).call "is_within" [.int x, .int lo, .int hi] H = .ok (.bool (decide (lo ≤ x) && decide (x ≤ hi))) H := by
  rw [lk_call (d := d_is_within) (by kernel_rfl)]
  by_cases h1 : lo ≤ x <;> simp [runDef, d_is_within, setAll, setL, evT, cmp_le, h1]
theorem c_isplace (n : Nat) (w : Str) (l p : Int) (H : Hp) : (G (n + 2)).call "is_place" [.tup [.str w, .int l], .int p] H = .ok (.bool (inP w l p)) H := by
  rw [lk_call (d := d_is_place) (by kernel_rfl)]
  have f : ∀ a b c H, builtin "is_within" [a, b, c] H = .stuck := fun _ _ _ _ => rfl
  have e1 := c_within n p 0 l H
  have e2 := c_within n p 0 (l - 1) H
  have k : decide (p ≤ l - 1) = decide (p < l) := decide_eq_decide.mpr (by omega)
  have k2 : decide (p ≤ l) = decide (p < l + 1) := decide_eq_decide.mpr (by omega)
  rw [k] at e2
  rw [k2] at e1
  by_cases hw : w = Str.ofString "line" <;> simp [runDef, d_is_place, setAll, setL, evT, consts, constL, cmp_eq_str, f, e1, e2, hw, inP, many]
theorem c_isroad (n : Nat) (w : Str) (l : Int) (H : Hp) : (G (n + 2)).call "is_road" [.tup [.str w, .int l]] H = .ok (.bool (roadOk w l)) H := by
  rw [lk_call (d := d_is_road) (by kernel_rfl)]
  have f : ∀ a b c H, builtin "is_within" [a, b, c] H = .stuck := fun _ _ _ _ => rfl
  have e1 := c_within n l 1 1000000000 H
  have ei : ∀ a b c H, cmp .isIn (.str a) (.tup [.str b, .str c]) H = some ((b == a) || ((c == a) || false)) := fun _ _ _ _ => rfl
  have e2 : ∀ a b : Str, (a == b) = (b == a) := fun a b => by
    by_cases h : a = b
    · rw [h]
    · rw [beq_eq_false_iff_ne.mpr h, beq_eq_false_iff_ne.mpr (Ne.symm h)]
  cases h : (w == sLine || w == sRing) <;> simp [runDef, d_is_road, setAll, setL, evT, consts, constL, f, e1, roadOk, ei, e2 _ w, h]
theorem lk_class {defs : List Def} {cls : List (String × Def)} {const : String → Option V} {f : String} {d : Def} (h : defs.find? (fun d => d.name == f) = Option.none) (h2 : cls.lookup f = some d) (n : Nat) (vs : List V) (H : Hp) :
    (lk defs cls const (n + 1)).call f vs H = runClass (lk defs cls const n) f d vs H := by
  show (match defs.find? (fun d => d.name == f) with | some d => runDef (lk defs cls const n) d vs H | Option.none => match cls.lookup f with | some d => runClass (lk defs cls const n) f d vs H | Option.none => .stuck) = _
  rw [h]
  show (match cls.lookup f with | some d => runClass (lk defs cls const n) f d vs H | Option.none => .stuck) = _
  rw [h2]
noncomputable def DayH (H : Hp) (fs : List (String × V)) (L : Hp) : Hp := H ++ .ns fs :: .inst "Day" H.length :: L
theorem dayH_inst (H : Hp) (fs : List (String × V)) (L : Hp) : (DayH H fs L)[H.length + 1]? = some (.inst "Day" H.length) := by
  unfold DayH; rw [List.getElem?_append_right (by omega)]; simp
theorem dayH_ns (H : Hp) (fs : List (String × V)) (L : Hp) : (DayH H fs L)[H.length]? = some (.ns fs) := by
  unfold DayH; rw [List.getElem?_append_right (by omega)]; simp
theorem dayH_set (H : Hp) (fs fs' : List (String × V)) (L : Hp) : (DayH H fs L).set H.length (.ns fs') = DayH H fs' L := by
  unfold DayH; rw [List.set_append_right _ _ (by omega)]; simp
theorem dayH_ext (H : Hp) (fs : List (String × V)) (L : Hp) : Ext H (DayH H fs L) := ext_app _ _
theorem ss_setattr {T : RS → Prop} {Γ : Fn} {ρ : Rho} {o e : E} {a : String} {ss : List S} {H0 H : Hp} {v : V} {fs : List (String × V)} {L : Hp} (he : evE Γ ρ e H = .ok v (DayH H0 fs L)) (ho : evE Γ ρ o (DayH H0 fs L) = .ok (.ref (H0.length + 1)) (DayH H0 fs L)) (hl : fs.length ≤ 20)
    (k : T (exSs Γ ss ρ (DayH H0 (setL a v fs) L))) : T (exSs Γ (.setattr o a e :: ss) ρ H) := by
  have q : exSs Γ (.setattr o a e :: ss) ρ H = exSs Γ ss ρ (DayH H0 (setL a v fs) L) := by
    rw [exSs_cons, exS_setattr, he, ofR_ok, ho, ofR_ok]
    simp only [setA, dayH_inst, dayH_ns, dayH_set, hl, if_true, ofR_ok]
  rw [q]; exact k
theorem ss_raise {T : RS → Prop} {Γ : Fn} {ρ : Rho} {c m : String} {ss : List S} {H : Hp} (hhd : Γ.hd = false) (k : T (.raise c ρ H)) : T (exSs Γ (.raise c m :: ss) ρ H) := by
  have q : exSs Γ (.raise c m :: ss) ρ H = .raise c ρ H := by rw [exSs_cons, exS_raise, hhd]; rfl
  rw [q]; exact k
noncomputable def dayFs (w : Str) (l h s : Int) (k : Nat) : List (String × V) := [("road", .tup [.str w, .int l]), ("home", .int h), ("start", .int s), ("stops", .ref k)]
theorem eqV_of {a b : V} {H : Hp} {x y : PyData} {r : Bool} (ha : snap 8 H a = some x) (hb : snap 8 H b = some y) (h : PyData.eqv x y = r) : eqV H a b = some r := by
  unfold eqV eqData
  rw [ha, hb]
  show some (PyData.eqv x y) = _
  rw [h]
theorem eqv_int (a : Int) : PyData.eqv (.int a) (.int a) = true := beq_self_eq_true a
theorem attr_day {H : Hp} {n d : Nat} {c a : String} {fs : List (String × V)} {v : V} (h1 : H[n]? = some (.inst c d)) (h2 : H[d]? = some (.ns fs)) (h3 : fs.lookup a = some v) : attrV (.ref n) a H = .ok v H := by
  simp [attrV, h1, h2, h3]
end Mine.L04

/-! P04c -/
namespace Mine.L04
open Mine PySem
noncomputable def NextT (H' : Hp) (r : RS) : Prop := ∃ ρ, r = .next ρ H'
noncomputable def NextI (P : Rho → Prop) (H' : Hp) (r : RS) : Prop := ∃ ρ, P ρ ∧ r = .next ρ H'
noncomputable def RaiseT (c : String) (H' : Hp) (r : RS) : Prop := ∃ ρ, r = .raise c ρ H'
noncomputable def Is (x r : RS) : Prop := r = x
/-! a day that is one -/
structure DayOk (w : Str) (l h s : Int) (qs : List Q4) : Prop where
  road : roadOk w l = true
  home : inP w l h = true
  start : inT s = true
  few : qs.length ≤ 7
  stops : ∀ q ∈ qs, StopOk w l q.1 q.2.1 q.2.2.1 q.2.2.2
theorem c_looked (n : Nat) (w : Str) (l : Int) (q : Q4) (H : Hp) (ok : StopOk w l q.1 q.2.1 q.2.2.1 q.2.2.2) : (G (n + 3)).call "looked_at" [.tup [.str w, .int l], tupQ q] H = .ok .none H := by
  rw [lk_call (d := d_looked_at) (by kernel_rfl)]
  obtain ⟨p, o, c, s⟩ := q
  dsimp only at ok
  obtain ⟨p0, p1, o0, oc, c1, s0, s1⟩ := ok
  have f : ∀ a b c H, builtin "is_within" [a, b, c] H = .stuck := fun _ _ _ _ => rfl
  have f2 : ∀ a b H, builtin "is_place" [a, b] H = .stuck := fun _ _ _ => rfl
  have e1 := c_isplace n w l p H
  rw [show inP w l p = true by simp [inP, p0, p1]] at e1
  have ew : ∀ t, 0 ≤ t → t ≤ 1000000000000 → (G (n + 2)).call "is_within" [.int t, .int 0, .int 1000000000000] H = .ok (.bool true) H := fun t h1 h2 => by rw [c_within]; simp [h1, h2]
  have w1 := ew o o0 (Int.le_trans oc c1)
  have w2 := ew c (Int.le_trans o0 oc) c1
  have w3 := ew s s0 s1
  have h5 : ¬ c < o := Int.not_lt.mpr oc
  have it : ∀ H vs, items H (.tup vs) = some vs := fun _ _ => rfl
  have so : ∀ H vs H', sameO (.tup vs) H H' = true := fun _ _ _ => rfl
  simp [runDef, d_looked_at, setAll, setL, evT, evIt, forL, it, so, consts, constL, f, f2, e1, w1, w2, w3, h5, tupQ, tupItems, cmp_lt]

theorem c_init (n : Nat) (w : Str) (l h s : Int) (qs : List Q4) (j : Nat) (H : Hp) (hj : H[j]? = some (.list (qs.map tupQ))) (ok : DayOk w l h s qs) :
    NextT (DayH H (dayFs w l h s (H.length + 2)) [.list (qs.map tupQ)]) (exSs (G (n + 4)) d_Day_init.body [("self", .ref (H.length + 1)), ("road", .tup [.str w, .int l]), ("home", .int h), ("start", .int s), ("stops", .ref j)] (DayH H [] [])) := by
  have f1 : ∀ a H, builtin "is_road" [a] H = .stuck := fun _ _ => rfl
  have f2 : ∀ a b H, builtin "is_place" [a, b] H = .stuck := fun _ _ _ => rfl
  have f3 : ∀ a b c H, builtin "is_within" [a, b, c] H = .stuck := fun _ _ _ _ => rfl
  have f4 : ∀ a b H, builtin "looked_at" [a, b] H = .stuck := fun _ _ _ => rfl
  have hj' := (dayH_ext H [] []).get hj
  have e1 := c_isroad (n + 2) w l (DayH H [] [])
  have e2 := c_isplace (n + 2) w l h (DayH H [] [])
  have e3 : (G (n + 4)).call "is_within" [.int s, .int 0, .int 1000000000000] (DayH H [] []) = .ok (.bool (inT s)) (DayH H [] []) := c_within (n + 3) s 0 1000000000000 _
  have e4 := bi_len_ref hj'
  rw [List.length_map] at e4
  rw [ok.road] at e1
  rw [ok.home] at e2
  rw [ok.start] at e3
  have h7 : ¬ (7 : Int) < qs.length := by have := ok.few; omega
  refine ss_if (b := false) (H1 := DayH H [] []) (evT_of (by simp [f1, e1])) ?_
  refine ss_if (b := false) (H1 := DayH H [] []) (evT_of (by simp [f2, e2])) ?_
  refine ss_if (b := false) (H1 := DayH H [] []) (evT_of (by simp [f3, e3, consts, constL])) ?_
  refine ss_if (b := false) (H1 := DayH H [] []) (evT_of (by simp [e4, consts, constL, cmp_gt, h7])) ?_
  obtain ⟨ρ, H', ⟨rfl, g1, g2, g3, g4, g5⟩, e⟩ := forL_all (fun _ ρ H' => H' = DayH H [] [] ∧ ρ.lookup "self" = some (.ref (H.length + 1)) ∧ ρ.lookup "road" = some (.tup [.str w, .int l]) ∧ ρ.lookup "home" = some (.int h) ∧ ρ.lookup "start" = some (.int s) ∧ ρ.lookup "stops" = some (.ref j))
    (fun v ρ1 H2 => exSs (G (n + 4)) [.expr (.call "looked_at" [.var "road", .var "stop"])] (setL "stop" v ρ1) H2) (sameO (.ref j) (DayH H [] [])) (fun i ρ H' z => by rw [z.1]; exact sameO_ext hj' (Ext.refl _)) (qs.map tupQ).length (qs.map tupQ) 0 (by omega) (by
      intro y hy i ρ H' _ ⟨e0, g1, g2, g3, g4, g5⟩
      obtain ⟨q, hq, rfl⟩ := List.mem_map.mp hy
      rw [e0]
      have el := c_looked (n + 1) w l q (DayH H [] []) (ok.stops q hq)
      exact ⟨setL "stop" (tupQ q) ρ, DayH H [] [], ⟨rfl, by simp [lookup_setL, g1], by simp [lookup_setL, g2], by simp [lookup_setL, g3], by simp [lookup_setL, g4], by simp [lookup_setL, g5]⟩, by simp [lookup_setL, g2, f4, el]⟩)
    [("self", .ref (H.length + 1)), ("road", .tup [.str w, .int l]), ("home", .int h), ("start", .int s), ("stops", .ref j)] (DayH H [] []) ⟨rfl, rfl, rfl, rfl, rfl, rfl⟩
  refine ss_for (v := .ref j) (H1 := DayH H [] []) (lk_hd' _) (by simp) (by simp only [items, hj']) e ?_
  refine ss_setattr (ev_var g2) (ev_var g1) (by simp [setL]) ?_
  refine ss_setattr (ev_var g3) (ev_var g1) (by simp [setL]) ?_
  refine ss_setattr (ev_var g4) (ev_var g1) (by simp [setL]) ?_
  refine ss_setattr (H0 := H) (v := .ref (H.length + 2)) (fs := setL "start" (.int s) (setL "home" (.int h) (setL "road" (.tup [.str w, .int l]) []))) (L := [.list (qs.map tupQ)]) ?_ (ev_var g1) (by simp [setL]) ?_
  · have e5 := bi_list_ref ((dayH_ext H (setL "start" (.int s) (setL "home" (.int h) (setL "road" (.tup [.str w, .int l]) []))) []).get hj)
    simp only [evE_call, evE_var, evE_int, evE_cmp, evEs_cons, evEs_nil, g5, ofO_some, R.bind_ok, e5, lk_hd', mayCall_false, if_true]
    simp [DayH]
  · exact ⟨ρ, by simp [dayFs, setL]⟩

theorem c_day (n : Nat) (w : Str) (l h s : Int) (qs : List Q4) (j : Nat) (H : Hp) (hj : H[j]? = some (.list (qs.map tupQ))) (ok : DayOk w l h s qs) :
    (G (n + 5)).call "Day" [.tup [.str w, .int l], .int h, .int s, .ref j] H = .ok (.ref (H.length + 1)) (DayH H (dayFs w l h s (H.length + 2)) [.list (qs.map tupQ)]) := by
  rw [lk_class (d := d_Day_init) (by kernel_rfl) (by kernel_rfl)]
  have q : ∀ c, runClass (G (n + 4)) c d_Day_init [.tup [.str w, .int l], .int h, .int s, .ref j] H = (runDef (G (n + 4)) d_Day_init (.ref (H.length + 1) :: [.tup [.str w, .int l], .int h, .int s, .ref j]) (H ++ [.ns [], .inst c H.length])).bind fun v H1 => match v with | .none => .ok (.ref (H.length + 1)) H1 | _ => .stuck := fun _ => rfl
  obtain ⟨ρ, i⟩ := c_init n w l h s qs j H hj ok
  have e : setAll d_Day_init.params (.ref (H.length + 1) :: [.tup [.str w, .int l], .int h, .int s, .ref j]) [] = some [("self", .ref (H.length + 1)), ("road", .tup [.str w, .int l]), ("home", .int h), ("start", .int s), ("stops", .ref j)] := rfl
  simp only [DayH] at i
  simp [q, runDef, e, i, DayH]

structure DayAt (w : Str) (l h s : Int) (qs : List Q4) (d dn k : Nat) (H : Hp) : Prop where
  inst : H[d]? = some (.inst "Day" dn)
  ns : H[dn]? = some (.ns (dayFs w l h s k))
  list : H[k]? = some (.list (qs.map tupQ))
section
variable {w : Str} {l h s : Int} {qs : List Q4} {d dn k : Nat} {H H' : Hp}
theorem DayAt.ext (x : DayAt w l h s qs d dn k H) (e : Ext H H') : DayAt w l h s qs d dn k H' := ⟨e.get x.inst, e.get x.ns, e.get x.list⟩
theorem DayAt.road (x : DayAt w l h s qs d dn k H) : attrV (.ref d) "road" H = .ok (.tup [.str w, .int l]) H := attr_day x.inst x.ns rfl
theorem DayAt.home (x : DayAt w l h s qs d dn k H) : attrV (.ref d) "home" H = .ok (.int h) H := attr_day x.inst x.ns rfl
theorem DayAt.start (x : DayAt w l h s qs d dn k H) : attrV (.ref d) "start" H = .ok (.int s) H := attr_day x.inst x.ns rfl
theorem DayAt.stops (x : DayAt w l h s qs d dn k H) : attrV (.ref d) "stops" H = .ok (.ref k) H := attr_day x.inst x.ns rfl
end

/-! the order -/
theorem bi_abs (a : Int) (H : Hp) : builtin "abs" [.int a] H = .ok (.int a.natAbs) H := rfl
noncomputable def apartI (w : Str) (l a b : Int) : Int := if w = sLine then ((a - b).natAbs : Int) else if l - (a - b).natAbs < ((a - b).natAbs : Int) then l - (a - b).natAbs else (a - b).natAbs
theorem c_apart (n : Nat) (w : Str) (l a b : Int) (H : Hp) : (G (n + 1)).call "apart" [.tup [.str w, .int l], .int a, .int b] H = .ok (.int (apartI w l a b)) H := by
  rw [lk_call (d := d_apart) (by kernel_rfl)]
  by_cases hw : w = Str.ofString "line" <;> simp [runDef, d_apart, setAll, setL, evT, consts, constL, cmp_eq_str, bi_abs, hw, apartI]
theorem c_lapart (n : Nat) (w : Str) (l a b : Int) (H : Hp) : (G (n + 1)).call "_law_apart" [.tup [.str w, .int l], .int a, .int b] H = .ok (.int (apartI w l a b)) H := by
  rw [lk_call (d := d__law_apart) (by kernel_rfl)]
  by_cases hw : w = Str.ofString "line" <;> simp [runDef, d__law_apart, setAll, setL, evT, cmp_eq_str, bi_abs, hw, apartI]

noncomputable def okOrd (m : Int) (done : List Int) : List Int → Bool
  | [] => true
  | k :: r => ((decide (0 ≤ k) && decide (k ≤ m - 1)) && !done.contains k) && okOrd m (done ++ [k]) r
theorem okOrd_iff (m : Int) : ∀ (r done : List Int), okOrd m done r = true ↔ (∀ k ∈ r, 0 ≤ k ∧ k ≤ m - 1) ∧ (∀ k ∈ r, k ∉ done) ∧ r.Nodup
  | [], done => by simp [okOrd]
  | k :: r, done => by
    rw [okOrd, Bool.and_eq_true, okOrd_iff m r (done ++ [k])]
    simp only [Bool.and_eq_true, decide_eq_true_eq, Bool.not_eq_true', List.mem_cons, List.nodup_cons, List.mem_append, List.not_mem_nil, or_false, forall_eq_or_imp]
    have hc : (done.contains k = false) ↔ k ∉ done := by rw [← Bool.not_eq_true, List.contains_iff_mem]
    rw [hc]
    constructor
    · rintro ⟨⟨h1, h2⟩, h3, h4, h5⟩
      exact ⟨⟨h1, h3⟩, ⟨h2, fun x hx q => h4 x hx (.inl q)⟩, fun q => h4 k q (.inr rfl), h5⟩
    · rintro ⟨⟨h1, h3⟩, ⟨h2, h4⟩, h6, h5⟩
      refine ⟨⟨h1, h2⟩, h3, fun x hx q => ?_, h5⟩
      rcases q with q | q
      · exact h4 x hx q
      · exact h6 (q ▸ hx)
noncomputable def badB (m : Int) (os : List Int) : Bool := os.any fun k => !(decide (0 ≤ k) && decide (k < m)) || decide (1 < os.count k)
theorem bad_eq (m : Int) (os : List Int) : badB m os = !okOrd m [] os := by
  have key : badB m os = false ↔ okOrd m [] os = true := by
    rw [okOrd_iff, badB, List.any_eq_false]
    simp only [Bool.or_eq_true, Bool.not_eq_true', Bool.and_eq_false_iff, decide_eq_false_iff_not, decide_eq_true_eq, List.not_mem_nil, not_false_iff, implies_true, true_and]
    constructor
    · intro h
      refine ⟨fun k hk => ?_, List.nodup_iff_count.mpr fun a => ?_⟩
      · have := h k hk
        omega
      · by_cases ha : a ∈ os
        · have := h a ha
          omega
        · rw [List.count_eq_zero_of_not_mem ha]; omega
    · rintro ⟨h1, h2⟩ k hk
      have := h1 k hk
      have := List.nodup_iff_count.mp h2 k
      omega
  cases h : okOrd m [] os with
  | true => exact key.mpr h
  | false =>
    cases h2 : badB m os with
    | true => rfl
    | false => rw [key.mp h2] at h; cases h
end Mine.L04

/-! P04d -/
namespace Mine.L04
open Mine PySem
theorem runDef_next {Γ : Fn} {d : Def} {vs : List V} {ρ : Rho} {H H' : Hp} (e : setAll d.params vs [] = some ρ) (h : NextT H' (exSs Γ d.body ρ H)) : runDef Γ d vs H = .ok .none H' := by
  obtain ⟨ρ', hv⟩ := h
  simp [runDef, e, hv]
theorem runDef_raise {Γ : Fn} {d : Def} {vs : List V} {ρ : Rho} {H H' : Hp} {c : String} (e : setAll d.params vs [] = some ρ) (h : RaiseT c H' (exSs Γ d.body ρ H)) : runDef Γ d vs H = .raise c H' := by
  obtain ⟨ρ', hv⟩ := h
  simp [runDef, e, hv]
theorem runDef_is {Γ : Fn} {d : Def} {vs : List V} {ρ : Rho} {H H' : Hp} {v : V} (e : setAll d.params vs [] = some ρ) (h : Is (.ret v H') (exSs Γ d.body ρ H)) : runDef Γ d vs H = .ok v H' := by
  unfold Is at h
  simp [runDef, e, h]
theorem keysAt_of {ks : List Int} {k : Nat} {H : Hp} (h : H[k]? = some (.keys ks)) : keysAt (.ref k) H = some ks := by
  have q : keysAt (.ref k) H = (match H[k]? with | some (.keys xs) => some xs | _ => Option.none) := rfl
  rw [q, h]
theorem in_keys {ks : List Int} {k : Nat} {z : Int} {H : Hp} (h : H[k]? = some (.keys ks)) : cmp .isIn (.int z) (.ref k) H = some (ks.contains z) := by
  have q : cmp .isIn (.int z) (.ref k) H = (match listAt (.ref k) H with
    | some vs => (do let x ← snap 8 H (.int z); let ys ← vs.mapM (snap 8 H); return ys.any fun y => PyData.eqv y x)
    | Option.none => inKeys H (.int z) (.ref k)) := rfl
  have q2 : listAt (.ref k) H = Option.none := by
    have q : listAt (.ref k) H = (match H[k]? with | some (.list xs) => some xs | _ => Option.none) := rfl
    rw [q, h]
  rw [q, q2]
  show (match keysAt (.ref k) H with | some ks => (intAt (.int z)).map fun k => ks.contains k | Option.none => Option.none) = _
  rw [keysAt_of h]; rfl
theorem setK_of {ks : List Int} {k : Nat} {z : Int} {H : Hp} (h : H[k]? = some (.keys ks)) (hl : ks.length < line) (hz : ks.contains z = false) : setK (.ref k) (.int z) H = .ok () (H.set k (.keys (ks ++ [z]))) := by
  have q : setK (.ref k) (.int z) H = (match keysAt (.ref k) H with
    | some ks => if ks.length < line then .ok () (H.set k (.keys (if ks.contains z then ks else ks ++ [z]))) else .stuck
    | Option.none => .stuck) := rfl
  rw [q, keysAt_of h]
  show (if ks.length < line then R.ok () (H.set k (.keys (if ks.contains z then ks else ks ++ [z]))) else .stuck) = _
  rw [if_pos hl, hz]; rfl
theorem ss_setidx {T : RS → Prop} {Γ : Fn} {ρ : Rho} {o i e : E} {ss : List S} {H H1 H2 H3 H4 : Hp} {v w k : V} (he : evE Γ ρ e H = .ok v H1) (ho : evE Γ ρ o H1 = .ok w H2) (hi : evE Γ ρ i H2 = .ok k H3) (hs : setK w k H3 = .ok () H4)
    (kk : T (exSs Γ ss ρ H4)) : T (exSs Γ (.setidx o i e :: ss) ρ H) := by
  have q : exSs Γ (.setidx o i e :: ss) ρ H = exSs Γ ss ρ H4 := by
    rw [exSs_cons, exS_setidx, he, ofR_ok, ho, ofR_ok, hi, ofR_ok, hs]; rfl
  rw [q]; exact kk

noncomputable def needB : List S := [
    .iff (.or [(.not (.call "is_within" [(.var "number"), (.int 0), (.bin .sub (.call "len" [(.attr (.var "day") "stops")]) (.int 1))])), (.cmp (.var "number") .isIn (.var "seen"))]) [
      .raise "BadOrder" "no order"] [],
    .setidx (.var "seen") (.var "number") (.bool true)]
section
variable {w : Str} {l h s : Int} {qs : List Q4} {d dn k : Nat} {H : Hp}
theorem need_body (n : Nat) (x : DayAt w l h s qs d dn k H) (z : Int) (done : List Int) (ρ : Rho) (h1 : ρ.lookup "day" = some (.ref d)) (h2 : ρ.lookup "seen" = some (.ref H.length)) (hl : done.length < 100) :
    if ((decide (0 ≤ z) && decide (z ≤ (qs.length : Int) - 1)) && !done.contains z) = true then exSs (G (n + 1)) needB (setL "number" (.int z) ρ) (H ++ [.keys done]) = .next (setL "number" (.int z) ρ) (H ++ [.keys (done ++ [z])])
    else exSs (G (n + 1)) needB (setL "number" (.int z) ρ) (H ++ [.keys done]) = .raise "BadOrder" (setL "number" (.int z) ρ) (H ++ [.keys done]) := by
  have f : ∀ a b c H, builtin "is_within" [a, b, c] H = .stuck := fun _ _ _ _ => rfl
  have y := x.ext (ext_app H [.keys done])
  have e1 := bi_len_ref y.list
  rw [List.length_map] at e1
  have e2 := c_within n z 0 ((qs.length : Int) - 1) (H ++ [.keys done])
  have e3 := in_keys (z := z) (len_app1 H (.keys done))
  have e4 := y.stops
  cases g1 : (decide (0 ≤ z) && decide (z ≤ (qs.length : Int) - 1)) with
  | false =>
    rw [if_neg (by simp)]
    rw [g1] at e2
    show Is _ _
    refine ss_if (b := true) (H1 := H ++ [.keys done]) (evT_of (by simp [lookup_setL, h1, h2, f, e4, e1, e2])) ?_
    exact ss_raise (lk_hd' _) rfl
  | true =>
    rw [g1] at e2
    cases g2 : done.contains z with
    | true =>
      rw [if_neg (by simp)]
      rw [g2] at e3
      show Is _ _
      refine ss_if (b := true) (H1 := H ++ [.keys done]) (evT_of (by simp [lookup_setL, h1, h2, f, e4, e1, e2, e3])) ?_
      exact ss_raise (lk_hd' _) rfl
    | false =>
      rw [if_pos (by simp)]
      rw [g2] at e3
      show Is _ _
      refine ss_if (b := false) (H1 := H ++ [.keys done]) (evT_of (by simp [lookup_setL, h1, h2, f, e4, e1, e2, e3])) ?_
      refine ss_setidx (v := .bool true) (w := .ref H.length) (k := .int z) (H3 := H ++ [.keys done]) (H1 := H ++ [.keys done]) (H2 := H ++ [.keys done]) (by simp) (by simp [lookup_setL, h2]) (by simp [lookup_setL]) (setK_of (len_app1 H (.keys done)) (by unfold line; omega) g2) ?_
      rw [set_app1]
      rfl
theorem need_loop (n : Nat) (x : DayAt w l h s qs d dn k H) {o : Nat} {xs : List V} (ho : H[o]? = some (.list xs)) (H0 : Hp) (hs : H0[o]? = some (.list xs)) : ∀ (rest done : List Int) (ρ : Rho), ρ.lookup "day" = some (.ref d) → ρ.lookup "seen" = some (.ref H.length) → done.length + rest.length ≤ 100 →
    if okOrd qs.length done rest = true then NextT (H ++ [.keys (done ++ rest)]) (forL (fun v ρ1 H2 => exSs (G (n + 1)) needB (setL "number" v ρ1) H2) (sameO (.ref o) H0) (rest.map .int) ρ (H ++ [.keys done]))
    else ∃ ks, RaiseT "BadOrder" (H ++ [.keys ks]) (forL (fun v ρ1 H2 => exSs (G (n + 1)) needB (setL "number" v ρ1) H2) (sameO (.ref o) H0) (rest.map .int) ρ (H ++ [.keys done]))
  | [], done, ρ, h1, h2, hl => by
    have ck : sameO (.ref o) H0 (H ++ [.keys done]) = true := by simp [sameO, hs, (ext_app H [.keys done]).get ho]
    rw [if_pos (show okOrd qs.length done [] = true from rfl)]
    exact ⟨ρ, by simp [forL, ck]⟩
  | z :: rest, done, ρ, h1, h2, hl => by
    have ck : sameO (.ref o) H0 (H ++ [.keys done]) = true := by simp [sameO, hs, (ext_app H [.keys done]).get ho]
    have b := need_body n x z done ρ h1 h2 (by simp at hl; omega)
    by_cases g : ((decide (0 ≤ z) && decide (z ≤ (qs.length : Int) - 1)) && !done.contains z) = true
    · rw [if_pos g] at b
      have ih := need_loop n x ho H0 hs rest (done ++ [z]) (setL "number" (.int z) ρ) (by simp [lookup_setL, h1]) (by simp [lookup_setL, h2]) (by simp at hl ⊢; omega)
      have e : forL (fun v ρ1 H2 => exSs (G (n + 1)) needB (setL "number" v ρ1) H2) (sameO (.ref o) H0) ((z :: rest).map .int) ρ (H ++ [.keys done]) = forL (fun v ρ1 H2 => exSs (G (n + 1)) needB (setL "number" v ρ1) H2) (sameO (.ref o) H0) (rest.map .int) (setL "number" (.int z) ρ) (H ++ [.keys (done ++ [z])]) := by
        rw [List.map_cons, forL, if_pos ck, b]
      rw [e, okOrd, g, Bool.true_and]
      rw [List.append_assoc] at ih
      exact ih
    · rw [if_neg g] at b
      have e : forL (fun v ρ1 H2 => exSs (G (n + 1)) needB (setL "number" v ρ1) H2) (sameO (.ref o) H0) ((z :: rest).map .int) ρ (H ++ [.keys done]) = .raise "BadOrder" (setL "number" (.int z) ρ) (H ++ [.keys done]) := by
        rw [List.map_cons, forL, if_pos ck, b]
      rw [e, okOrd, Bool.eq_false_iff.mpr g, Bool.false_and, if_neg (by simp)]
      exact ⟨done, _, rfl⟩
theorem c_need (n : Nat) (x : DayAt w l h s qs d dn k H) {o : Nat} {os : List Int} (ho : H[o]? = some (.list (os.map .int))) (hl : os.length ≤ 100) :
    if okOrd qs.length [] os = true then (G (n + 2)).call "need_order" [.ref d, .ref o] H = .ok .none (H ++ [.keys os]) else ∃ ks, (G (n + 2)).call "need_order" [.ref d, .ref o] H = .raise "BadOrder" (H ++ [.keys ks]) := by
  rw [lk_call (d := d_need_order) (by kernel_rfl)]
  have lp := need_loop n x ho (H ++ [.keys []]) ((ext_app _ _).get ho) os [] (setL "seen" (.ref H.length) [("day", .ref d), ("order", .ref o)]) rfl rfl (by simpa using hl)
  have it : items (H ++ [.keys []]) (.ref o) = some (os.map .int) := by simp only [items, (ext_app H [.keys []]).get ho]
  by_cases g : okOrd qs.length [] os = true
  · rw [if_pos g] at lp ⊢
    obtain ⟨ρ, lp⟩ := lp
    exact runDef_next (ρ := [("day", .ref d), ("order", .ref o)]) rfl (ss_asg (v := .ref H.length) (H1 := H ++ [.keys []]) rfl (ss_for (v := .ref o) (H := H ++ [.keys []]) (H1 := H ++ [.keys []]) (lk_hd' _) rfl it lp ⟨ρ, rfl⟩))
  · rw [if_neg g] at lp ⊢
    obtain ⟨ks, ρ, lp⟩ := lp
    exact ⟨ks, runDef_raise (ρ := [("day", .ref d), ("order", .ref o)]) rfl (ss_asg (v := .ref H.length) (H1 := H ++ [.keys []]) rfl (ss_for_off (v := .ref o) (H := H ++ [.keys []]) (H1 := H ++ [.keys []]) (lk_hd' _) rfl it lp (.inr ⟨_, _, _, rfl⟩) ⟨ρ, rfl⟩))⟩
end
end Mine.L04

/-! P04e -/
namespace Mine.L04
open Mine PySem
/-! the walk -/
noncomputable abbrev R3 := Int × Int × Int
noncomputable def t3 (r : R3) : V := .tup [.int r.1, .int r.2.1, .int r.2.2]
noncomputable def beg (w : Str) (l : Int) (q : Q4) (p t : Int) : Int := if t + apartI w l p q.1 < q.2.1 then q.2.1 else t + apartI w l p q.1
noncomputable def row (w : Str) (l : Int) (q : Q4) (p t : Int) : R3 := (t + apartI w l p q.1, beg w l q p t, beg w l q p t + q.2.2.2)
noncomputable def walk (w : Str) (l : Int) (qs : List Q4) : List Int → Int → Int → Option (List R3)
  | [], _, _ => some []
  | k :: r, p, t => match qs[k.toNat]? with
    | some q => if q.2.2.1 < beg w l q p t then Option.none else (walk w l qs r q.1 (row w l q p t).2.2).map (row w l q p t :: ·)
    | Option.none => Option.none
theorem walk_len (w : Str) (l : Int) (qs : List Q4) : ∀ (os : List Int) (p t : Int) (rows : List R3), walk w l qs os p t = some rows → rows.length = os.length
  | [], _, _, rows, e => by cases e; rfl
  | k :: r, p, t, rows, e => by
    rw [walk] at e
    cases hq : qs[k.toNat]? with
    | none => rw [hq] at e; cases e
    | some q =>
      rw [hq] at e
      dsimp only at e
      split at e
      · cases e
      · obtain ⟨rs, e1, rfl⟩ := Option.map_eq_some_iff.mp e
        rw [List.length_cons, List.length_cons, walk_len w l qs r _ _ rs e1]
theorem tq_0 (q : Q4) (H : Hp) : index (tupQ q) (.int 0) H = .ok (.int q.1) H := rfl
theorem tq_1 (q : Q4) (H : Hp) : index (tupQ q) (.int 1) H = .ok (.int q.2.1) H := rfl
theorem tq_2 (q : Q4) (H : Hp) : index (tupQ q) (.int 2) H = .ok (.int q.2.2.1) H := rfl
theorem tq_3 (q : Q4) (H : Hp) : index (tupQ q) (.int 3) H = .ok (.int q.2.2.2) H := rfl
theorem t3_2 (r : R3) (H : Hp) : index (t3 r) (.int 2) H = .ok (.int r.2.2) H := rfl
theorem is_none (v : V) (H : Hp) : cmp .is v .none H = some (isNoneV v) := rfl
theorem stop_at {qs : List Q4} {k : Nat} {z : Int} {q : Q4} {H : Hp} (h : H[k]? = some (.list (qs.map tupQ))) (h0 : 0 ≤ z) (hq : qs[z.toNat]? = some q) : index (.ref k) (.int z) H = .ok (tupQ q) H :=
  idx_ref h h0 (by rw [List.getElem?_map, hq]; rfl)
theorem c_served (n : Nat) (w : Str) (l p t : Int) (q : Q4) (H : Hp) : (G (n + 1)).call "served" [tupQ q, .int (t + apartI w l p q.1)] H = .ok (if q.2.2.1 < beg w l q p t then .none else .tup [.int (beg w l q p t), .int (beg w l q p t + q.2.2.2)]) H := by
  rw [lk_call (d := d_served) (by kernel_rfl)]
  have e : ∀ b : Int, (if t + apartI w l p q.1 < q.2.1 then q.2.1 else t + apartI w l p q.1) = b → runDef (G n) d_served [tupQ q, .int (t + apartI w l p q.1)] H = .ok (if q.2.2.1 < b then .none else .tup [.int b, .int (b + q.2.2.2)]) H := fun b hb => by
    by_cases h : q.2.2.1 < b <;> simp [runDef, d_served, setAll, setL, evT, tq_1, tq_2, tq_3, hb, cmp_gt, h]
  exact e _ rfl
theorem meth_append {xs : List V} {k : Nat} {v : V} {H : Hp} (h : H[k]? = some (.list xs)) (hl : xs.length < line) : meth "list" (.ref k) "append" [v] H = .ok .none (H.set k (.list (xs ++ [v]))) := by
  have q : meth "list" (.ref k) "append" [v] H = (match listAt (.ref k) H with | some xs => if xs.length < line then .ok .none (H.set k (.list (xs ++ [v]))) else .stuck | Option.none => .stuck) := rfl
  rw [q, listAt_of h]
  exact if_pos hl
theorem kind_of {xs : List V} {k : Nat} {H : Hp} (h : H[k]? = some (.list xs)) : kindV (.ref k) H = some "list" := by rw [kindV_ref, listAt_of h]
theorem ss_append {T : RS → Prop} {Γ : Fn} {ρ : Rho} {x : String} {e : E} {ss : List S} {H : Hp} {v : V} {k : Nat} {xs : List V} (hx : ρ.lookup x = some (.ref k)) (hk : H[k]? = some (.list xs)) (hl : xs.length < line) (he : evE Γ ρ e H = .ok v H)
    (kk : T (exSs Γ ss ρ (H.set k (.list (xs ++ [v]))))) : T (exSs Γ (.expr (.meth (.var x) "append" [e]) :: ss) ρ H) := by
  refine ss_expr (v := .none) (H1 := H.set k (.list (xs ++ [v]))) ?_ kk
  have kn : methKnown "list" "append" = true := rfl
  rw [evE_meth, evE_var, hx, ofO_some, R.bind_ok, kind_of hk]
  simp only [kn, if_true, evEs_cons, evEs_nil, he, R.bind_ok]
  exact meth_append hk hl
theorem ss_unpack {T : RS → Prop} {Γ : Fn} {ρ ρ1 : Rho} {xs : List String} {e : E} {ss : List S} {H H1 : Hp} {vs : List V} (hhd : Γ.hd = false) (he : evE Γ ρ e H = .ok (.tup vs) H1) (hs : setAll xs vs ρ = some ρ1) (kk : T (exSs Γ ss ρ1 H1)) : T (exSs Γ (.unpack xs e :: ss) ρ H) := by
  have q : exSs Γ (.unpack xs e :: ss) ρ H = exSs Γ ss ρ1 H1 := by
    rw [exSs_cons, exS_unpack, hhd, he]
    simp only [Bool.false_eq_true, if_false, ofR_ok, tupItems, hs]
  rw [q]; exact kk

noncomputable def ttB : List S := [
    .asg "stop" (.idx (.attr (.var "day") "stops") (.var "number")),
    .asg "comes" (.bin .add (.var "time") (.call "apart" [(.attr (.var "day") "road"), (.var "place"), (.idx (.var "stop") (.int 0))])),
    .asg "times" (.call "served" [(.var "stop"), (.var "comes")]),
    .iff (.cmp (.var "times") .is .none) [
      .raise "Missed" "a stop has closed"] [],
    .unpack ["begins", "leaves"] (.var "times"),
    .expr (.meth (.var "found") "append" [(.tup [(.var "comes"), (.var "begins"), (.var "leaves")])]),
    .asg "place" (.idx (.var "stop") (.int 0)),
    .asg "time" (.var "leaves")]
noncomputable def rowsB : List S := [
    .asg "_law_stop" (.idx (.var "_law_stops") (.var "_law_number")),
    .asg "_law_comes" (.bin .add (.var "_law_time") (.call "_law_apart" [(.var "_law_road"), (.var "_law_place"), (.idx (.var "_law_stop") (.int 0))])),
    .asg "_law_begins" (.var "_law_comes"),
    .iff (.cmp (.var "_law_begins") .lt (.idx (.var "_law_stop") (.int 1))) [
      .asg "_law_begins" (.idx (.var "_law_stop") (.int 1))] [],
    .iff (.cmp (.var "_law_begins") .gt (.idx (.var "_law_stop") (.int 2))) [
      .ret .none] [],
    .expr (.meth (.var "_law_rows_here") "append" [(.tup [(.var "_law_comes"), (.var "_law_begins"), (.bin .add (.var "_law_begins") (.idx (.var "_law_stop") (.int 3)))])]),
    .asg "_law_place" (.idx (.var "_law_stop") (.int 0)),
    .asg "_law_time" (.bin .add (.var "_law_begins") (.idx (.var "_law_stop") (.int 3)))]
section
variable {w : Str} {l h s : Int} {qs : List Q4} {d dn k : Nat} {H : Hp}
structure TT (d f : Nat) (p t : Int) (ρ : Rho) : Prop where
  day : ρ.lookup "day" = some (.ref d)
  found : ρ.lookup "found" = some (.ref f)
  place : ρ.lookup "place" = some (.int p)
  time : ρ.lookup "time" = some (.int t)
theorem tt_body (n : Nat) (x : DayAt w l h s qs d dn k H) {z : Int} {q : Q4} (h0 : 0 ≤ z) (hq : qs[z.toNat]? = some q) (done : List V) (p t : Int) (ρ : Rho) (r : TT d H.length p t ρ) (hl : done.length < 100) :
    if q.2.2.1 < beg w l q p t then RaiseT "Missed" (H ++ [.list done]) (exSs (G (n + 1)) ttB (setL "number" (.int z) ρ) (H ++ [.list done]))
    else NextI (TT d H.length q.1 (row w l q p t).2.2) (H ++ [.list (done ++ [t3 (row w l q p t)])]) (exSs (G (n + 1)) ttB (setL "number" (.int z) ρ) (H ++ [.list done])) := by
  have f1 : ∀ a b c H, builtin "apart" [a, b, c] H = .stuck := fun _ _ _ _ => rfl
  have f2 : ∀ a b H, builtin "served" [a, b] H = .stuck := fun _ _ _ => rfl
  obtain ⟨K, hK⟩ : ∃ K, K = H ++ [O.list done] := ⟨_, rfl⟩
  have gK : K[H.length]? = some (.list done) := by rw [hK]; exact len_app1 _ _
  have y : DayAt w l h s qs d dn k K := by rw [hK]; exact x.ext (ext_app _ _)
  have sK : ∀ o, K.set H.length o = H ++ [o] := fun o => by rw [hK]; exact set_app1 _ _ _
  have e1 := y.stops
  have e2 := stop_at y.list h0 hq
  have e3 := y.road
  have e4 := c_apart n w l p q.1 K
  have e5 := c_served n w l p t q K
  obtain ⟨b, hb⟩ : ∃ b, b = beg w l q p t := ⟨_, rfl⟩
  rw [← hK]
  unfold row
  rw [← hb] at e5 ⊢
  obtain ⟨r1, r2, r3, r4⟩ := r
  have key : ∀ T : RS → Prop, (∀ ρ', ρ'.lookup "day" = some (.ref d) → ρ'.lookup "found" = some (.ref H.length) → ρ'.lookup "stop" = some (tupQ q) → ρ'.lookup "comes" = some (.int (t + apartI w l p q.1)) →
      ρ'.lookup "times" = some (if q.2.2.1 < b then .none else .tup [.int b, .int (b + q.2.2.2)]) → T (exSs (G (n + 1)) (ttB.drop 3) ρ' K)) → T (exSs (G (n + 1)) ttB (setL "number" (.int z) ρ) K) := fun T hT => by
    refine ss_asg (v := tupQ q) (H1 := K) (by simp [lookup_setL, r1, e1, e2]) ?_
    refine ss_asg (v := .int (t + apartI w l p q.1)) (H1 := K) (by simp [lookup_setL, r1, r3, r4, e3, tq_0, f1, e4]) ?_
    refine ss_asg (H1 := K) (show evE _ _ _ _ = .ok (if q.2.2.1 < b then .none else .tup [.int b, .int (b + q.2.2.2)]) K by simp [lookup_setL, f2, e5]) ?_
    exact hT _ (by simp [lookup_setL, r1]) (by simp [lookup_setL, r2]) (by simp [lookup_setL]) (by simp [lookup_setL]) (by simp [lookup_setL])
  by_cases hlt : q.2.2.1 < b
  · rw [if_pos hlt]
    refine key _ fun ρ' _ _ _ _ g5 => ?_
    rw [if_pos hlt] at g5
    refine ss_if (b := true) (H1 := K) (evT_of (by simp [g5, is_none, isNoneV])) ?_
    exact ss_raise (lk_hd' _) ⟨_, rfl⟩
  · rw [if_neg hlt]
    refine key _ fun ρ' g1 g2 g3 g4 g5 => ?_
    rw [if_neg hlt] at g5
    refine ss_if (b := false) (H1 := K) (evT_of (by simp [g5, is_none, isNoneV])) ?_
    refine ss_unpack (H1 := K) (lk_hd' _) (ev_var g5) rfl ?_
    refine ss_append (k := H.length) (xs := done) (v := t3 (t + apartI w l p q.1, b, b + q.2.2.2)) (by simp [lookup_setL, g2]) gK (by unfold line; omega) (by simp [lookup_setL, g4, t3]) ?_
    rw [sK]
    refine ss_asg (v := .int q.1) (by simp [lookup_setL, g3, tq_0]; rfl) ?_
    refine ss_asg (v := .int (b + q.2.2.2)) (by simp [lookup_setL]; rfl) ?_
    exact ⟨_, ⟨by simp [lookup_setL, g1], by simp [lookup_setL, g2], by simp [lookup_setL], by simp [lookup_setL]⟩, rfl⟩

structure RR (w : Str) (l : Int) (j f : Nat) (p t : Int) (ρ : Rho) : Prop where
  road : ρ.lookup "_law_road" = some (.tup [.str w, .int l])
  stops : ρ.lookup "_law_stops" = some (.ref j)
  found : ρ.lookup "_law_rows_here" = some (.ref f)
  place : ρ.lookup "_law_place" = some (.int p)
  time : ρ.lookup "_law_time" = some (.int t)
theorem rows_body (n : Nat) {j : Nat} (x : H[j]? = some (.list (qs.map tupQ))) {z : Int} {q : Q4} (h0 : 0 ≤ z) (hq : qs[z.toNat]? = some q) (done : List V) (p t : Int) (ρ : Rho) (r : RR w l j H.length p t ρ) (hl : done.length < 100) :
    if q.2.2.1 < beg w l q p t then Is (.ret .none (H ++ [.list done])) (exSs (G (n + 1)) rowsB (setL "_law_number" (.int z) ρ) (H ++ [.list done]))
    else NextI (RR w l j H.length q.1 (row w l q p t).2.2) (H ++ [.list (done ++ [t3 (row w l q p t)])]) (exSs (G (n + 1)) rowsB (setL "_law_number" (.int z) ρ) (H ++ [.list done])) := by
  have f1 : ∀ a b c H, builtin "_law_apart" [a, b, c] H = .stuck := fun _ _ _ _ => rfl
  obtain ⟨K, hK⟩ : ∃ K, K = H ++ [O.list done] := ⟨_, rfl⟩
  have gK : K[H.length]? = some (.list done) := by rw [hK]; exact len_app1 _ _
  have y : K[j]? = some (.list (qs.map tupQ)) := by rw [hK]; exact (ext_app _ _).get x
  have sK : ∀ o, K.set H.length o = H ++ [o] := fun o => by rw [hK]; exact set_app1 _ _ _
  have e2 := stop_at y h0 hq
  have e4 := c_lapart n w l p q.1 K
  obtain ⟨c, hc⟩ : ∃ c, c = t + apartI w l p q.1 := ⟨_, rfl⟩
  obtain ⟨b, hb⟩ : ∃ b, b = beg w l q p t := ⟨_, rfl⟩
  have hb2 : b = if c < q.2.1 then q.2.1 else c := by rw [hb, hc]; rfl
  rw [← hK]
  unfold row
  rw [← hb, ← hc]
  obtain ⟨r1, r2, r3, r4, r5⟩ := r
  have key : ∀ T : RS → Prop, (∀ ρ', ρ'.lookup "_law_road" = some (.tup [.str w, .int l]) → ρ'.lookup "_law_stops" = some (.ref j) → ρ'.lookup "_law_rows_here" = some (.ref H.length) → ρ'.lookup "_law_stop" = some (tupQ q) → ρ'.lookup "_law_comes" = some (.int c) →
      ρ'.lookup "_law_begins" = some (.int b) → T (exSs (G (n + 1)) (rowsB.drop 4) ρ' K)) → T (exSs (G (n + 1)) rowsB (setL "_law_number" (.int z) ρ) K) := fun T hT => by
    refine ss_asg (v := tupQ q) (H1 := K) (by simp [lookup_setL, r2, e2]) ?_
    refine ss_asg (v := .int c) (H1 := K) (by simp [lookup_setL, r1, r4, r5, tq_0, f1, e4, hc]) ?_
    refine ss_asg (v := .int c) (H1 := K) (by simp [lookup_setL]) ?_
    refine ss_if (b := decide (c < q.2.1)) (H1 := K) (evT_of (by simp [lookup_setL, tq_1, cmp_lt])) ?_
    by_cases hlt : c < q.2.1
    · rw [decide_eq_true hlt, if_pos rfl]
      rw [if_pos hlt] at hb2
      refine ss_asg (v := .int b) (H1 := K) (by simp [lookup_setL, tq_1, hb2]) ?_
      exact hT _ (by simp [lookup_setL, r1]) (by simp [lookup_setL, r2]) (by simp [lookup_setL, r3]) (by simp [lookup_setL]) (by simp [lookup_setL]) (by simp [lookup_setL])
    · rw [decide_eq_false hlt, if_neg (by simp)]
      rw [if_neg hlt] at hb2
      exact hT _ (by simp [lookup_setL, r1]) (by simp [lookup_setL, r2]) (by simp [lookup_setL, r3]) (by simp [lookup_setL]) (by simp [lookup_setL]) (by simp [lookup_setL, hb2])
  by_cases hlt : q.2.2.1 < b
  · rw [if_pos hlt]
    refine key _ fun ρ' _ _ _ g4 _ g6 => ?_
    refine ss_if (b := true) (H1 := K) (evT_of (by simp [g4, g6, tq_2, cmp_gt, hlt])) ?_
    exact ss_ret (v := .none) rfl rfl
  · rw [if_neg hlt]
    refine key _ fun ρ' g1 g2 g3 g4 g5 g6 => ?_
    refine ss_if (b := false) (H1 := K) (evT_of (by simp [g4, g6, tq_2, cmp_gt, hlt])) ?_
    refine ss_append (k := H.length) (xs := done) (v := t3 (c, b, b + q.2.2.2)) g3 gK (by unfold line; omega) (by simp [g4, g5, g6, tq_3, t3]) ?_
    rw [sK]
    refine ss_asg (v := .int q.1) (by simp [g4, tq_0]; rfl) ?_
    refine ss_asg (v := .int (b + q.2.2.2)) (by simp [lookup_setL, g4, g6, tq_3]; rfl) ?_
    exact ⟨_, ⟨by simp [lookup_setL, g1], by simp [lookup_setL, g2], by simp [lookup_setL, g3], by simp [lookup_setL], by simp [lookup_setL]⟩, rfl⟩
end
end Mine.L04

/-! P04f -/
namespace Mine.L04
open Mine PySem
section
variable {w : Str} {l h s : Int} {qs : List Q4} {d dn k : Nat} {H : Hp}
theorem walk_loop {Γ : Fn} (I : Int → Int → Rho → Prop) (x : String) (B : List S) (chk : Hp → Bool) (hc : ∀ done, chk (H ++ [.list done]) = true) (Off : List V → RS → Prop) (hoff : ∀ done r, Off done r → (∃ v H, r = .ret v H) ∨ ∃ c ρ H, r = .raise c ρ H)
    (hb : ∀ (z : Int) (q : Q4), 0 ≤ z → qs[z.toNat]? = some q → ∀ (done : List V) (p t : Int) (ρ : Rho), I p t ρ → done.length < 100 → if q.2.2.1 < beg w l q p t then Off done (exSs Γ B (setL x (.int z) ρ) (H ++ [.list done])) else NextI (I q.1 (row w l q p t).2.2) (H ++ [.list (done ++ [t3 (row w l q p t)])]) (exSs Γ B (setL x (.int z) ρ) (H ++ [.list done]))) :
    ∀ (rest : List Int) (done : List V) (p t : Int) (ρ : Rho), I p t ρ → (∀ z ∈ rest, 0 ≤ z ∧ z ≤ (qs.length : Int) - 1) → done.length + rest.length ≤ 100 →
    match walk w l qs rest p t with
    | some rows => NextI (fun ρ' => ∃ p t, I p t ρ') (H ++ [.list (done ++ rows.map t3)]) (forL (fun v ρ1 H2 => exSs Γ B (setL x v ρ1) H2) chk (rest.map .int) ρ (H ++ [.list done]))
    | Option.none => ∃ done', Off done' (forL (fun v ρ1 H2 => exSs Γ B (setL x v ρ1) H2) chk (rest.map .int) ρ (H ++ [.list done]))
  | [], done, p, t, ρ, i, _, _ => ⟨ρ, ⟨p, t, i⟩, by simp [forL, hc]⟩
  | z :: rest, done, p, t, ρ, i, hr, hl => by
    obtain ⟨z0, z1⟩ := hr z (List.mem_cons_self ..)
    have hz : z.toNat < qs.length := by omega
    have hq := List.getElem?_eq_getElem hz
    have b := hb z _ z0 hq done p t ρ i (by simp at hl; omega)
    rw [walk, hq]
    dsimp only
    by_cases g : qs[z.toNat].2.2.1 < beg w l qs[z.toNat] p t
    · rw [if_pos g] at b ⊢
      have e : forL (fun v ρ1 H2 => exSs Γ B (setL x v ρ1) H2) chk ((z :: rest).map .int) ρ (H ++ [.list done]) = exSs Γ B (setL x (.int z) ρ) (H ++ [.list done]) := by
        rw [List.map_cons, forL, if_pos (hc _)]
        rcases hoff _ _ b with ⟨v, K, q⟩ | ⟨c, ρ1, K, q⟩ <;> rw [q]
      exact ⟨done, by rw [e]; exact b⟩
    · rw [if_neg g] at b ⊢
      obtain ⟨ρ1, i1, e1⟩ := b
      have e : forL (fun v ρ1 H2 => exSs Γ B (setL x v ρ1) H2) chk ((z :: rest).map .int) ρ (H ++ [.list done]) = forL (fun v ρ1 H2 => exSs Γ B (setL x v ρ1) H2) chk (rest.map .int) ρ1 (H ++ [.list (done ++ [t3 (row w l qs[z.toNat] p t)])]) := by
        rw [List.map_cons, forL, if_pos (hc _), e1]
      have ih := walk_loop I x B chk hc Off hoff hb rest (done ++ [t3 (row w l qs[z.toNat] p t)]) _ _ ρ1 i1 (fun z hz => hr z (List.mem_cons_of_mem _ hz)) (by simp at hl ⊢; omega)
      rw [e]
      cases hw : walk w l qs rest qs[z.toNat].1 (row w l qs[z.toNat] p t).2.2 with
      | none => rw [hw] at ih; exact ih
      | some rows =>
        rw [hw] at ih
        rw [Option.map_some]
        dsimp only at ih ⊢
        rw [List.append_assoc] at ih
        exact ih

noncomputable def outc (w : Str) (l h s : Int) (qs : List Q4) (os : List Int) : Option (Option (List R3)) := if okOrd qs.length [] os = true then some (walk w l qs os h s) else Option.none
theorem c_tt (n : Nat) (x : DayAt w l h s qs d dn k H) {o : Nat} {os : List Int} (ho : H[o]? = some (.list (os.map .int))) (hl : os.length ≤ 100) :
    ∃ H', Ext H H' ∧ match outc w l h s qs os with
      | Option.none => (G (n + 3)).call "timetable" [.ref d, .ref o] H = .raise "BadOrder" H'
      | some Option.none => (G (n + 3)).call "timetable" [.ref d, .ref o] H = .raise "Missed" H'
      | some (some rows) => ∃ f, H.length ≤ f ∧ H'[f]? = some (.list (rows.map t3)) ∧ (G (n + 3)).call "timetable" [.ref d, .ref o] H = .ok (.ref f) H' := by
  rw [lk_call (d := d_timetable) (by kernel_rfl)]
  have f1 : ∀ a b H, builtin "need_order" [a, b] H = .stuck := fun _ _ _ => rfl
  have nd := c_need n x ho hl
  unfold outc
  by_cases g : okOrd qs.length [] os = true
  · rw [if_pos g] at nd ⊢
    obtain ⟨K, hK⟩ : ∃ K, K = H ++ [O.keys os] := ⟨_, rfl⟩
    rw [← hK] at nd
    have xK : Ext H K := by rw [hK]; exact ext_app _ _
    have lK : H.length ≤ K.length := by rw [hK]; simp
    have y := x.ext xK
    have y2 := y.ext (ext_app K [.list []])
    have start : ∀ T : RS → Prop, (∀ ρ, TT d K.length h s ρ → ρ.lookup "order" = some (.ref o) → T (exSs (G (n + 2)) (d_timetable.body.drop 4) ρ (K ++ [.list []]))) → T (exSs (G (n + 2)) d_timetable.body [("day", .ref d), ("order", .ref o)] H) := fun T hT => by
      refine ss_expr (v := .none) (H1 := K) (by simp [f1, nd]) ?_
      refine ss_asg (v := .ref K.length) (H1 := K ++ [.list []]) (by simp [new]) ?_
      refine ss_asg (v := .int h) (H1 := K ++ [.list []]) (by simp [lookup_setL, y2.home]) ?_
      refine ss_asg (v := .int s) (H1 := K ++ [.list []]) (by simp [lookup_setL, y2.start]) ?_
      exact hT _ ⟨by simp [lookup_setL], by simp [lookup_setL], by simp [lookup_setL], by simp [lookup_setL]⟩ (by simp [lookup_setL])
    have hok := ((okOrd_iff _ _ _).mp g).1
    have it : items (K ++ [.list []]) (.ref o) = some (os.map .int) := by simp only [items, (ext_app K [.list []]).get (xK.get ho)]
    have lp := fun ρ i => walk_loop (Γ := G (n + 2)) (H := K) (TT d K.length) "number" ttB (sameO (.ref o) (K ++ [.list []])) (fun done => by simp [sameO, (ext_app K [.list []]).get (xK.get ho), (ext_app K [.list done]).get (xK.get ho)])
      (fun done r => RaiseT "Missed" (K ++ [.list done]) r) (fun done r ⟨ρ, e⟩ => .inr ⟨_, ρ, _, e⟩) (fun z q h0 hq done p t ρ i hd => tt_body (n + 1) y h0 hq done p t ρ i hd) os [] h s ρ i hok (by simpa using hl)
    cases hw : walk w l qs os h s with
    | none =>
      have : ∃ done', RaiseT "Missed" (K ++ [.list done']) (exSs (G (n + 2)) d_timetable.body [("day", .ref d), ("order", .ref o)] H) := by
        refine start (fun r => ∃ done', RaiseT "Missed" (K ++ [.list done']) r) fun ρ i g5 => ?_
        have lp := lp ρ i
        rw [hw] at lp
        obtain ⟨done, ρ1, e⟩ := lp
        refine ⟨done, ?_⟩
        exact ss_for_off (T := RaiseT "Missed" (K ++ [.list done])) (v := .ref o) (H := K ++ [.list []]) (H1 := K ++ [.list []]) (lk_hd' _) (ev_var g5) it e (.inr ⟨_, _, _, rfl⟩) ⟨ρ1, rfl⟩
      obtain ⟨done, e⟩ := this
      exact ⟨_, xK.trans (ext_app _ _), runDef_raise rfl e⟩
    | some rows =>
      refine ⟨K ++ [.list (rows.map t3)], xK.trans (ext_app _ _), K.length, lK, len_app1 _ _, runDef_is (ρ := [("day", .ref d), ("order", .ref o)]) rfl ?_⟩
      refine start _ fun ρ i g5 => ?_
      have lp := lp ρ i
      rw [hw] at lp
      obtain ⟨ρ1, ⟨p, t, i1⟩, e⟩ := lp
      rw [List.nil_append] at e
      exact ss_for (T := Is _) (v := .ref o) (H := K ++ [.list []]) (H1 := K ++ [.list []]) (lk_hd' _) (ev_var g5) it e (ss_ret (T := Is _) (ev_var i1.found) rfl)
  · rw [if_neg g] at nd ⊢
    obtain ⟨ks, nd⟩ := nd
    refine ⟨_, ext_app H [.keys ks], runDef_raise (ρ := [("day", .ref d), ("order", .ref o)]) rfl ⟨[("day", .ref d), ("order", .ref o)], ?_⟩⟩
    show exSs (G (n + 2)) (.expr (.call "need_order" [(.var "day"), (.var "order")]) :: _) _ _ = _
    rw [exSs_cons, exS_expr]
    simp [f1, nd]

theorem c_rows (n : Nat) {j o : Nat} {os : List Int} (x : H[j]? = some (.list (qs.map tupQ))) (ho : H[o]? = some (.list (os.map .int))) (hl : os.length ≤ 100) (g : okOrd qs.length [] os = true) :
    match walk w l qs os h s with
      | Option.none => ∃ H', Ext H H' ∧ (G (n + 2)).call "_law_rows" [.tup [.str w, .int l], .int h, .int s, .ref j, .ref o] H = .ok .none H'
      | some rows => (G (n + 2)).call "_law_rows" [.tup [.str w, .int l], .int h, .int s, .ref j, .ref o] H = .ok (.ref H.length) (H ++ [.list (rows.map t3)]) := by
  rw [lk_call (d := d__law_rows) (by kernel_rfl)]
  have start : ∀ T : RS → Prop, (∀ ρ, RR w l j H.length h s ρ → ρ.lookup "_law_order" = some (.ref o) → T (exSs (G (n + 1)) (d__law_rows.body.drop 3) ρ (H ++ [.list []]))) → T (exSs (G (n + 1)) d__law_rows.body [("_law_road", .tup [.str w, .int l]), ("_law_home", .int h), ("_law_start", .int s), ("_law_stops", .ref j), ("_law_order", .ref o)] H) := fun T hT => by
    refine ss_asg (v := .ref H.length) (H1 := H ++ [.list []]) (by simp [new]) ?_
    refine ss_asg (v := .int h) (H1 := H ++ [.list []]) (by simp [lookup_setL]) ?_
    refine ss_asg (v := .int s) (H1 := H ++ [.list []]) (by simp [lookup_setL]) ?_
    exact hT _ ⟨by simp [lookup_setL], by simp [lookup_setL], by simp [lookup_setL], by simp [lookup_setL], by simp [lookup_setL]⟩ (by simp [lookup_setL])
  have hok := ((okOrd_iff _ _ _).mp g).1
  have it : items (H ++ [.list []]) (.ref o) = some (os.map .int) := by simp only [items, (ext_app H [.list []]).get ho]
  have lp := fun ρ i => walk_loop (Γ := G (n + 1)) (H := H) (RR w l j H.length) "_law_number" rowsB (sameO (.ref o) (H ++ [.list []])) (fun done => by simp [sameO, (ext_app H [.list []]).get ho, (ext_app H [.list done]).get ho])
    (fun done r => Is (.ret .none (H ++ [.list done])) r) (fun done r e => .inl ⟨_, _, e⟩) (fun z q h0 hq done p t ρ i hd => rows_body n x h0 hq done p t ρ i hd) os [] h s ρ i hok (by simpa using hl)
  cases hw : walk w l qs os h s with
  | none =>
    have : ∃ done', Is (.ret .none (H ++ [.list done'])) (exSs (G (n + 1)) d__law_rows.body [("_law_road", .tup [.str w, .int l]), ("_law_home", .int h), ("_law_start", .int s), ("_law_stops", .ref j), ("_law_order", .ref o)] H) := by
      refine start (fun r => ∃ done', Is (.ret .none (H ++ [.list done'])) r) fun ρ i g5 => ?_
      have lp := lp ρ i
      rw [hw] at lp
      obtain ⟨done, e⟩ := lp
      unfold Is at e
      refine ⟨done, ?_⟩
      exact ss_for_off (T := Is _) (v := .ref o) (H := H ++ [.list []]) (H1 := H ++ [.list []]) (lk_hd' _) (ev_var g5) it e (.inl ⟨_, _, rfl⟩) rfl
    obtain ⟨done, e⟩ := this
    exact ⟨_, ext_app _ _, runDef_is rfl e⟩
  | some rows =>
    refine runDef_is (ρ := [("_law_road", .tup [.str w, .int l]), ("_law_home", .int h), ("_law_start", .int s), ("_law_stops", .ref j), ("_law_order", .ref o)]) rfl ?_
    refine start _ fun ρ i g5 => ?_
    have lp := lp ρ i
    rw [hw] at lp
    obtain ⟨ρ1, ⟨p, t, i1⟩, e⟩ := lp
    rw [List.nil_append] at e
    exact ss_for (T := Is _) (v := .ref o) (H := H ++ [.list []]) (H1 := H ++ [.list []]) (lk_hd' _) (ev_var g5) it e (ss_ret (T := Is _) (ev_var i1.found) rfl)
end
end Mine.L04

/-! P04g -/
namespace Mine.L04
open Mine PySem
theorem forL_any {α : Type} (P : α → Bool) (y : α → V) (u : V) (Gd : Rho → Prop) (body : V → Rho → Hp → RS) (chk : Hp → Bool) (H : Hp) (hc : chk H = true) : ∀ zs : List α,
    (∀ z ∈ zs, ∀ ρ, Gd ρ → if P z = true then body (y z) ρ H = .ret u H else NextI Gd H (body (y z) ρ H)) →
    ∀ ρ, Gd ρ → if zs.any P = true then forL body chk (zs.map y) ρ H = .ret u H else NextI Gd H (forL body chk (zs.map y) ρ H)
  | [], _, ρ, g => by rw [if_neg (by simp)]; exact ⟨ρ, g, by simp [forL, hc]⟩
  | z :: zs, h, ρ, g => by
    have hz := h z (List.mem_cons_self ..) ρ g
    rw [List.any_cons]
    cases e : P z with
    | true =>
      rw [e, if_pos rfl] at hz
      rw [if_pos (by simp), List.map_cons, forL, if_pos hc, hz]
    | false =>
      rw [e, if_neg (by simp)] at hz
      obtain ⟨ρ', g', q⟩ := hz
      have ih := forL_any P y u Gd body chk H hc zs (fun w hw => h w (List.mem_cons_of_mem _ hw)) ρ' g'
      have : forL body chk ((z :: zs).map y) ρ H = forL body chk (zs.map y) ρ' H := by rw [List.map_cons, forL, if_pos hc, q]
      rw [this, Bool.false_or]
      exact ih
theorem intsL_map : ∀ os : List Int, intsL (os.map .int) = some os
  | [] => rfl
  | k :: os => by
    have := intsL_map os
    unfold intsL at *
    rw [List.map_cons, List.mapM_cons, this]; rfl
theorem meth_count {os : List Int} {o : Nat} {H : Hp} (h : H[o]? = some (.list (os.map .int))) (z : Int) : meth "list" (.ref o) "count" [.int z] H = .ok (.int (os.count z)) H := by
  have q : meth "list" (.ref o) "count" [.int z] H = (match listAt (.ref o) H with | some xs => (match intsL xs with | some ns => .ok (.int (ns.count z)) H | Option.none => .stuck) | Option.none => .stuck) := rfl
  rw [q, listAt_of h]
  show (match intsL (os.map .int) with | some ns => R.ok (V.int (ns.count z)) H | Option.none => .stuck) = _
  rw [intsL_map]
noncomputable def badB' : List S := [
    .iff (.or [(.not (.cmp2 (.int 0) .le (.var "_law_number") .lt (.var "_law_many"))), (.cmp (.meth (.var "_law_order") "count" [(.var "_law_number")]) .gt (.int 1))]) [
      .ret (.bool true)] []]
theorem c_bad (n : Nat) {o : Nat} {os : List Int} {H : Hp} (m : Int) (ho : H[o]? = some (.list (os.map .int))) : (G (n + 1)).call "_law_bad" [.ref o, .int m] H = .ok (.bool (!okOrd m [] os)) H := by
  rw [lk_call (d := d__law_bad) (by kernel_rfl), ← bad_eq]
  have kn : methKnown "list" "count" = true := rfl
  have lp := forL_any (fun z : Int => !(decide (0 ≤ z) && decide (z < m)) || decide (1 < os.count z)) V.int (.bool true) (fun ρ => ρ.lookup "_law_order" = some (.ref o) ∧ ρ.lookup "_law_many" = some (.int m))
    (fun v ρ1 H2 => exSs (G n) badB' (setL "_law_number" v ρ1) H2) (sameO (.ref o) H) H (sameO_ext ho (Ext.refl _)) os (by
      intro z _ ρ ⟨g1, g2⟩
      have e1 := meth_count ho z
      have e2 : evE (G n) (setL "_law_number" (.int z) ρ) (.or [(.not (.cmp2 (.int 0) .le (.var "_law_number") .lt (.var "_law_many"))), (.cmp (.meth (.var "_law_order") "count" [(.var "_law_number")]) .gt (.int 1))]) H = .ok (.bool (!(decide (0 ≤ z) && decide (z < m)) || decide (1 < os.count z))) H := by
        have e3 : decide ((1 : Int) < (os.count z : Nat)) = decide (1 < os.count z) := decide_eq_decide.mpr (by omega)
        by_cases h0 : 0 ≤ z
        · by_cases h1 : z < m
          · simp [lookup_setL, g1, g2, cmp_le, cmp_lt, cmp_gt, h0, h1, kind_of ho, kn, e1, e3]
          · simp [lookup_setL, g2, cmp_le, cmp_lt, h0, h1]
        · simp [lookup_setL, cmp_le, h0]
      cases hb : (!(decide (0 ≤ z) && decide (z < m)) || decide (1 < os.count z)) with
      | true =>
        rw [hb] at e2
        rw [if_pos rfl]
        show Is _ _
        exact ss_if (evT_of e2) (ss_ret (v := .bool true) rfl rfl)
      | false =>
        rw [hb] at e2
        rw [if_neg (by simp)]
        exact ss_if (evT_of e2) ⟨_, ⟨by simp [lookup_setL, g1], by simp [lookup_setL, g2]⟩, rfl⟩)
    [("_law_order", .ref o), ("_law_many", .int m)] ⟨rfl, rfl⟩
  have it : items H (.ref o) = some (os.map .int) := by simp only [items, ho]
  unfold badB
  cases hb : os.any (fun z : Int => !(decide (0 ≤ z) && decide (z < m)) || decide (1 < os.count z)) with
  | true =>
    rw [hb, if_pos rfl] at lp
    exact runDef_is (ρ := [("_law_order", .ref o), ("_law_many", .int m)]) rfl (ss_for_off (T := Is _) (v := .ref o) (H1 := H) (lk_hd' _) rfl it lp (.inl ⟨_, _, rfl⟩) rfl)
  | false =>
    rw [hb, if_neg (by simp)] at lp
    obtain ⟨ρ, _, e⟩ := lp
    exact runDef_is (ρ := [("_law_order", .ref o), ("_law_many", .int m)]) rfl (ss_for (T := Is _) (v := .ref o) (H1 := H) (lk_hd' _) rfl it e (ss_ret (T := Is _) (v := .bool false) rfl rfl))

/-! equal things -/
theorem eqvAll_self : ∀ xs : List PyData, (∀ x ∈ xs, PyData.eqv x x = true) → PyData.eqvAll xs xs = true
  | [], _ => rfl
  | x :: xs, h => by
    show (PyData.eqv x x && PyData.eqvAll xs xs) = true
    rw [h x (List.mem_cons_self ..), eqvAll_self xs fun y hy => h y (List.mem_cons_of_mem _ hy)]; rfl
theorem ne_of {a b : V} {H : Hp} {x : PyData} (ha : snap 8 H a = some x) (hb : snap 8 H b = some x) (h : PyData.eqv x x = true) : cmp .ne a b H = some false := by
  show (eqV H a b).map (!·) = _
  rw [eqV_of ha hb h]; rfl
theorem mapM_snap {α : Type} {H : Hp} {n : Nat} (g : α → V) (f : α → PyData) (hs : ∀ z, snap n H (g z) = some (f z)) : ∀ zs : List α, (zs.map g).mapM (snap n H) = some (zs.map f)
  | [] => rfl
  | z :: zs => by rw [List.map_cons, List.mapM_cons, hs, mapM_snap g f hs zs]; rfl
theorem ne_lists {α : Type} {H : Hp} {i j : Nat} {zs : List α} (g : α → V) (f : α → PyData) (hs : ∀ z, snap 7 H (g z) = some (f z)) (he : ∀ z, PyData.eqv (f z) (f z) = true) (hi : H[i]? = some (.list (zs.map g))) (hj : H[j]? = some (.list (zs.map g))) : cmp .ne (.ref i) (.ref j) H = some false := by
  have a : ∀ i, H[i]? = some (.list (zs.map g)) → snap 8 H (.ref i) = some (.list (zs.map f)) := fun i h => by
    have q : snap 8 H (.ref i) = (match H[i]? with | some (.list vs) => (vs.mapM (snap 7 H)).map .list | _ => Option.none) := rfl
    rw [q, h]
    show ((zs.map g).mapM (snap 7 H)).map PyData.list = _
    rw [mapM_snap g f hs]; rfl
  exact ne_of (a i hi) (a j hj) (eqvAll_self _ fun x hx => by obtain ⟨z, _, rfl⟩ := List.mem_map.mp hx; exact he z)
theorem eqv_str (a : Str) : PyData.eqv (.str a) (.str a) = true := beq_self_eq_true a
theorem eqv_tup {xs : List PyData} (h : ∀ x ∈ xs, PyData.eqv x x = true) : PyData.eqv (.tuple xs) (.tuple xs) = true := eqvAll_self xs h
theorem ne_ints {H : Hp} {i j : Nat} {os : List Int} (hi : H[i]? = some (.list (os.map .int))) (hj : H[j]? = some (.list (os.map .int))) : cmp .ne (.ref i) (.ref j) H = some false := ne_lists V.int PyData.int (fun _ => rfl) eqv_int hi hj
theorem all_ints {xs : List PyData} (h : ∀ x ∈ xs, ∃ i, x = .int i) : ∀ x ∈ xs, PyData.eqv x x = true := fun x hx => by obtain ⟨i, rfl⟩ := h x hx; exact eqv_int i
theorem ne_stops {H : Hp} {i j : Nat} {qs : List Q4} (hi : H[i]? = some (.list (qs.map tupQ))) (hj : H[j]? = some (.list (qs.map tupQ))) : cmp .ne (.ref i) (.ref j) H = some false :=
  ne_lists tupQ (fun q => .tuple [.int q.1, .int q.2.1, .int q.2.2.1, .int q.2.2.2]) (fun _ => rfl) (fun q => eqv_tup (all_ints (by simp))) hi hj
theorem ne_t3 (r : R3) (H : Hp) : cmp .ne (t3 r) (t3 r) H = some false := ne_of (x := .tuple [.int r.1, .int r.2.1, .int r.2.2]) rfl rfl (eqv_tup (all_ints (by simp)))
theorem ne_rhs (w : Str) (l h s : Int) (H : Hp) : cmp .ne (.tup [.tup [.str w, .int l], .int h, .int s]) (.tup [.tup [.str w, .int l], .int h, .int s]) H = some false := by
  refine ne_of (x := .tuple [.tuple [.str w, .int l], .int h, .int s]) rfl rfl (eqv_tup fun x hx => ?_)
  simp only [List.mem_cons, List.not_mem_nil, or_false] at hx
  rcases hx with rfl | rfl | rfl
  · refine eqv_tup fun x hx => ?_
    simp only [List.mem_cons, List.not_mem_nil, or_false] at hx
    rcases hx with rfl | rfl
    · exact eqv_str w
    · exact eqv_int l
  · exact eqv_int h
  · exact eqv_int s
theorem eq_rhs (w : Str) (l h s : Int) (H : Hp) : cmp .eq (.tup [.tup [.str w, .int l], .int h, .int s]) (.tup [.tup [.str w, .int l], .int h, .int s]) H = some true := by
  have := ne_rhs w l h s H
  obtain ⟨b, e, hb⟩ := Option.map_eq_some_iff.mp (show (eqV H (.tup [.tup [.str w, .int l], .int h, .int s]) (.tup [.tup [.str w, .int l], .int h, .int s])).map (!·) = some false from this)
  cases b with
  | true => exact e
  | false => cases hb

noncomputable def alikeB : List S := [
    .iff (.or [(.not (.isinst (.idx (.var "_law_found") (.var "_law_k")) "tuple")), (.cmp (.idx (.var "_law_found") (.var "_law_k")) .ne (.idx (.var "_law_due") (.var "_law_k")))]) [
      .ret (.bool false)] [],
    .for1 "_law_time" (.e (.idx (.var "_law_found") (.var "_law_k"))) [
      .iff (.not (.call "_law_whole" [(.var "_law_time")])) [
        .ret (.bool false)] []]]
theorem isinst_list {H : Hp} {k : Nat} {xs : List V} (h : H[k]? = some (.list xs)) : isinst (.ref k) "list" H = some true := by
  unfold isinst
  rw [show bTypes.contains "list" = true by decide, kind_of h]; rfl
theorem isinst_tup (vs : List V) (H : Hp) : isinst (.tup vs) "tuple" H = some true := rfl
theorem c_alike (n : Nat) {f g : Nat} {rows : List R3} {H : Hp} (hf : H[f]? = some (.list (rows.map t3))) (hg : H[g]? = some (.list (rows.map t3))) (hl : rows.length ≤ 100) : (G (n + 2)).call "_law_alike" [.ref f, .ref g] H = .ok (.bool true) H := by
  rw [lk_call (d := d__law_alike) (by kernel_rfl)]
  have b1 := bi_len_ref hf
  have b2 := bi_len_ref hg
  rw [List.length_map] at b1 b2
  have f2 : ∀ b H, builtin "range" [.int b] H = .ok (.rng 0 b 1) H := fun _ _ => rfl
  have f3 : ∀ a H, builtin "_law_whole" [a] H = .stuck := fun _ _ => rfl
  have wh := fun i => c_whole n i H
  have hr : rngOk 0 (rows.length : Int) 1 = true := by simp [rngOk]; omega
  refine runDef_is (ρ := [("_law_found", .ref f), ("_law_due", .ref g)]) rfl ?_
  refine ss_if (b := false) (H1 := H) (evT_of (by simp [isinst_list hf, b1, b2, cmp_ne_int])) ?_
  obtain ⟨ρ, H', ⟨e0, _, _⟩, e⟩ := forL_all (fun _ ρ H' => H' = H ∧ ρ.lookup "_law_found" = some (.ref f) ∧ ρ.lookup "_law_due" = some (.ref g))
    (fun v ρ1 H2 => exSs (G (n + 1)) alikeB (setL "_law_k" v ρ1) H2) (sameO (.rng 0 (rows.length : Int) 1) H) (fun _ _ _ _ => rfl) ((rangeL 0 (rows.length : Int) 1).map V.int).length ((rangeL 0 (rows.length : Int) 1).map V.int) 0 (by omega) (by
      intro y hy i ρ H' _ ⟨e0, g1, g2⟩
      rw [e0]
      rw [rangeL_one] at hy
      simp only [List.map_map, List.mem_map, List.mem_range, Function.comp, Int.toNat_natCast] at hy
      obtain ⟨z, hz, rfl⟩ := hy
      have hq := List.getElem?_eq_getElem hz
      obtain ⟨r, hr⟩ : ∃ r, r = rows[z] := ⟨_, rfl⟩
      rw [← hr] at hq
      have i1 : index (.ref f) (.int (z : Int)) H = .ok (t3 r) H := idx_ref hf (by omega) (by rw [Int.toNat_natCast, List.getElem?_map, hq]; rfl)
      have i2 : index (.ref g) (.int (z : Int)) H = .ok (t3 r) H := idx_ref hg (by omega) (by rw [Int.toNat_natCast, List.getElem?_map, hq]; rfl)
      have it : isinst (t3 r) "tuple" H = some true := rfl
      have il : items H (t3 r) = some [.int r.1, .int r.2.1, .int r.2.2] := rfl
      have so : sameO (t3 r) H H = true := rfl
      have : NextI (fun ρ => ρ.lookup "_law_found" = some (.ref f) ∧ ρ.lookup "_law_due" = some (.ref g)) H (exSs (G (n + 1)) alikeB (setL "_law_k" (.int (z : Int)) ρ) H) := by
        refine ss_if (b := false) (H1 := H) (evT_of (by simp [lookup_setL, g1, g2, i1, i2, it, ne_t3])) ?_
        obtain ⟨ρ2, H2, ⟨e2, q1, q2⟩, lp⟩ := forL_all (fun _ ρ H' => H' = H ∧ ρ.lookup "_law_found" = some (.ref f) ∧ ρ.lookup "_law_due" = some (.ref g))
          (fun v ρ1 H2 => exSs (G (n + 1)) [.iff (.not (.call "_law_whole" [(.var "_law_time")])) [.ret (.bool false)] []] (setL "_law_time" v ρ1) H2) (sameO (t3 r) H) (fun _ _ _ z => by rw [z.1]; exact so) 3 [.int r.1, .int r.2.1, .int r.2.2] 0 (by simp) (by
            intro y hy i ρ H' _ ⟨e0, g1, g2⟩
            rw [e0]
            obtain ⟨j, rfl⟩ : ∃ j, y = .int j := by
              simp only [List.mem_cons, List.not_mem_nil, or_false] at hy
              rcases hy with rfl | rfl | rfl <;> exact ⟨_, rfl⟩
            exact ⟨setL "_law_time" (.int j) ρ, H, ⟨rfl, by simp [lookup_setL, g1], by simp [lookup_setL, g2]⟩, by simp [evT, lookup_setL, f3, wh]⟩)
          (setL "_law_k" (.int (z : Int)) ρ) H ⟨rfl, by simp [lookup_setL, g1], by simp [lookup_setL, g2]⟩
        subst e2
        exact ss_for (v := t3 r) (lk_hd' _) (by simp [lookup_setL, g1, i1]) il lp ⟨ρ2, ⟨q1, q2⟩, rfl⟩
      obtain ⟨ρ', ⟨q1, q2⟩, e⟩ := this
      exact ⟨ρ', H, ⟨rfl, q1, q2⟩, e⟩)
    [("_law_found", .ref f), ("_law_due", .ref g)] H ⟨rfl, rfl, rfl⟩
  subst e0
  exact ss_for (T := Is _) (v := .rng 0 (rows.length : Int) 1) (lk_hd' _) (by simp [b2, f2]) (by simp only [items, hr, if_true]) e (ss_ret (T := Is _) (v := .bool true) rfl rfl)
end Mine.L04

/-! P04h -/
namespace Mine.L04
open Mine PySem
noncomputable def endI (w : Str) (l h s : Int) (qs : List Q4) (os : List Int) (rows : List R3) : Int := match os.getLast?, rows.getLast? with
  | some k, some r => (match qs[k.toNat]? with | some q => r.2.2 + apartI w l q.1 h | Option.none => 0)
  | _, _ => s
theorem idx_len {xs : List V} {i : Nat} {v : V} {H : Hp} (h : H[i]? = some (.list xs)) (hv : xs.getLast? = some v) : index (.ref i) (.int ((xs.length : Int) - 1)) H = .ok v H := by
  rw [List.getLast?_eq_getElem?] at hv
  have hlt := (List.getElem?_eq_some_iff.mp hv).1
  refine idx_ref h (by omega) ?_
  have : ((xs.length : Int) - 1).toNat = xs.length - 1 := by omega
  rw [this, hv]
theorem idx_neg {xs : List V} {i : Nat} {v : V} {H : Hp} (h : H[i]? = some (.list xs)) (hv : xs.getLast? = some v) : index (.ref i) (.int (-1)) H = .ok v H := by
  rw [List.getLast?_eq_getElem?] at hv
  have hlt := (List.getElem?_eq_some_iff.mp hv).1
  have hp : place (-1) xs.length = some (xs.length - 1) := by
    unfold place
    rw [if_neg (by omega), if_pos (by omega)]
    have : (-1 + (xs.length : Int)).toNat = xs.length - 1 := by omega
    rw [this]
  simp [index, h, hp, hv]
theorem ss_asg_raise {T : RS → Prop} {Γ : Fn} {ρ : Rho} {x : String} {e : E} {ss : List S} {H H1 : Hp} {c : String} (h : evE Γ ρ e H = .raise c H1) (k : T (.raise c ρ H1)) : T (exSs Γ (.asg x e :: ss) ρ H) := by
  have q : exSs Γ (.asg x e :: ss) ρ H = .raise c ρ H1 := by rw [exSs_cons, exS_asg, h]; rfl
  rw [q]; exact k
section
variable {w : Str} {l h s : Int} {qs : List Q4} {d dn k : Nat} {H : Hp}
theorem c_ends (n : Nat) (x : DayAt w l h s qs d dn k H) {o : Nat} {os : List Int} (ho : H[o]? = some (.list (os.map .int))) (hl : os.length ≤ 100) :
    ∃ H', Ext H H' ∧ match outc w l h s qs os with
      | Option.none => (G (n + 4)).call "ends" [.ref d, .ref o] H = .raise "BadOrder" H'
      | some Option.none => (G (n + 4)).call "ends" [.ref d, .ref o] H = .raise "Missed" H'
      | some (some rows) => (G (n + 4)).call "ends" [.ref d, .ref o] H = .ok (.int (endI w l h s qs os rows)) H' := by
  rw [lk_call (d := d_ends) (by kernel_rfl)]
  obtain ⟨H', xH, e⟩ := c_tt n x ho hl
  refine ⟨H', xH, ?_⟩
  have f1 : ∀ a b H, builtin "timetable" [a, b] H = .stuck := fun _ _ _ => rfl
  have f2 : ∀ a b c H, builtin "apart" [a, b, c] H = .stuck := fun _ _ _ _ => rfl
  cases ho' : outc w l h s qs os with
  | none =>
    rw [ho'] at e
    exact runDef_raise (ρ := [("day", .ref d), ("order", .ref o)]) rfl (ss_asg_raise (by simp [f1, e]) ⟨_, rfl⟩)
  | some wr =>
    cases wr with
    | none =>
      rw [ho'] at e
      exact runDef_raise (ρ := [("day", .ref d), ("order", .ref o)]) rfl (ss_asg_raise (by simp [f1, e]) ⟨_, rfl⟩)
    | some rows =>
      rw [ho'] at e
      obtain ⟨f, lf, gf, e⟩ := e
      have y := x.ext xH
      have go := xH.get ho
      have b1 := bi_len_ref go
      rw [List.length_map] at b1
      have b2 := bi_len_ref gf
      unfold outc at ho'
      split at ho'
      · rename_i ok
        have hw := Option.some.inj ho'
        have hlen := walk_len w l qs os h s rows hw
        dsimp only
        refine runDef_is (ρ := [("day", .ref d), ("order", .ref o)]) rfl ?_
        refine ss_asg (v := .ref f) (H1 := H') (by simp [f1, e]) ?_
        cases hos : os.getLast? with
        | none =>
          have hn : os = [] := List.getLast?_eq_none_iff.mp hos
          subst hn
          refine ss_if (b := true) (H1 := H') (evT_of (by simp [lookup_setL, b1, cmp_eq_int])) ?_
          refine ss_ret (v := .int s) (H1 := H') (by simp [lookup_setL, y.start]) ?_
          simp [endI, Is]
        | some z =>
          have hz : z ∈ os := List.mem_of_getLast? hos
          have hne : os.length ≠ 0 := by intro q; rw [List.length_eq_zero_iff.mp q] at hz; cases hz
          obtain ⟨z0, z1⟩ := ((okOrd_iff _ _ _).mp ok).1 z hz
          have hzl : z.toNat < qs.length := by omega
          have hq := List.getElem?_eq_getElem hzl
          obtain ⟨q, hqq⟩ : ∃ q, q = qs[z.toNat] := ⟨_, rfl⟩
          rw [← hqq] at hq
          obtain ⟨r, hr⟩ : ∃ r, rows.getLast? = some r := by
            cases hr : rows.getLast? with
            | some r => exact ⟨r, rfl⟩
            | none => rw [List.getLast?_eq_none_iff.mp hr] at hlen; exact absurd hlen.symm hne
          have hne' : (os.length : Int) ≠ 0 := by omega
          refine ss_if (b := false) (H1 := H') (evT_of (by simp [lookup_setL, b1, cmp_eq_int, hne])) ?_
          have i1 := idx_len go (v := .int z) (by rw [List.getLast?_map, hos]; rfl)
          rw [List.length_map] at i1
          have i2 := stop_at y.list z0 hq
          have i3 := idx_len gf (v := t3 r) (by rw [List.getLast?_map, hr]; rfl)
          refine ss_asg (v := tupQ q) (H1 := H') (by simp [lookup_setL, y.stops, b1, i1, i2]) ?_
          refine ss_ret (v := .int (r.2.2 + apartI w l q.1 h)) (H1 := H') ?_ (by simp [endI, hos, hr, hq, Is])
          have a := c_apart (n + 2) w l q.1 h H'
          simp only [evE_bin, evE_idx, evE_var, evE_int, evE_call, evE_attr, evEs_cons, evEs_nil, lookup_setL, String.reduceEq, if_true, if_false, lookup_here, lookup_next, ne_eq, not_false_eq_true, ofO_some, R.bind_ok, lk_hd', mayCall_false, b2, bin_sub, i3, t3_2, y.road, y.home, tq_0, f2, a, bin_add, Bool.false_eq_true]
      · cases ho'

theorem c_told (n : Nat) (x : DayAt w l h s qs d dn k H) {o : Nat} {os : List Int} (ho : H[o]? = some (.list (os.map .int))) (hl : os.length ≤ 100) :
    ∃ H', Ext H H' ∧ match outc w l h s qs os with
      | Option.none => (G (n + 4)).call "_law_told" [.ref d, .ref o] H = .ok (.str (Str.ofString "order")) H'
      | some Option.none => (G (n + 4)).call "_law_told" [.ref d, .ref o] H = .ok (.str (Str.ofString "missed")) H'
      | some (some rows) => ∃ f, H.length ≤ f ∧ H'[f]? = some (.list (rows.map t3)) ∧ (G (n + 4)).call "_law_told" [.ref d, .ref o] H = .ok (.ref f) H' := by
  rw [lk_call (d := d__law_told) (by kernel_rfl)]
  obtain ⟨H', xH, e⟩ := c_tt n x ho hl
  refine ⟨H', xH, ?_⟩
  have f1 : ∀ a b H, builtin "timetable" [a, b] H = .stuck := fun _ _ _ => rfl
  cases ho' : outc w l h s qs os with
  | none =>
    rw [ho'] at e
    simp [runDef, d__law_told, setAll, setL, f1, e, excIs]
  | some wr =>
    cases wr with
    | none =>
      rw [ho'] at e
      simp [runDef, d__law_told, setAll, setL, f1, e, excIs]
    | some rows =>
      rw [ho'] at e
      obtain ⟨f, lf, gf, e⟩ := e
      exact ⟨f, lf, gf, by simp [runDef, d__law_told, setAll, setL, f1, e]⟩

noncomputable def endH : List S := [
    .asg "_law_kinds" (.list [(.isinst (.var "error") "BadRoad"), (.isinst (.var "error") "OffRoad"), (.isinst (.var "error") "BadTime")]),
    .asg "_law_kinds" (.bin .add (.var "_law_kinds") (.list [(.isinst (.var "error") "TooMany"), (.isinst (.var "error") "NoDay")])),
    .expr (.meth (.var "_law_kinds") "append" [(.cmp (.isinst (.var "error") "BadOrder") .eq (.isinst (.var "error") "Missed"))]),
    .iff (.or [(.not (.isinst (.var "error") "ValueError")), (.cmp (.bool true) .isIn (.var "_law_kinds"))]) [
      .ret (.str "other")] [],
    .ret (.menu [(.str "missed"), (.str "order")] (.call "int" [(.isinst (.var "error") "BadOrder")]))]
theorem end_hand (Γ : Fn) (b : Bool) (ρ : Rho) (K : Hp) (he : ρ.lookup "error" = some (.exc (if b then "BadOrder" else "Missed"))) : ∃ K', Ext K K' ∧ exSs { Γ with hd := true } endH ρ K = .ret (.str (Str.ofString (if b then "order" else "missed"))) K' := by
  obtain ⟨c, hc⟩ : ∃ c, c = if b then "BadOrder" else "Missed" := ⟨_, rfl⟩
  rw [← hc] at he
  have is : ∀ T H, (bTypes.contains T = false ∧ exName T = true) → isinst (.exc c) T H = some (excIs c T) := fun T H h => by unfold isinst; rw [h.1]; simp [h.2]
  have a1 := fun H => is "BadRoad" H (by decide)
  have a2 := fun H => is "OffRoad" H (by decide)
  have a3 := fun H => is "BadTime" H (by decide)
  have a4 := fun H => is "TooMany" H (by decide)
  have a5 := fun H => is "NoDay" H (by decide)
  have a6 := fun H => is "BadOrder" H (by decide)
  have a7 := fun H => is "Missed" H (by decide)
  have a8 := fun H => is "ValueError" H (by decide)
  have q : excIs c "BadRoad" = false ∧ excIs c "OffRoad" = false ∧ excIs c "BadTime" = false ∧ excIs c "TooMany" = false ∧ excIs c "NoDay" = false ∧ excIs c "BadOrder" = b ∧ excIs c "Missed" = !b ∧ excIs c "ValueError" = true := by
    rw [hc]; cases b <;> decide
  obtain ⟨q1, q2, q3, q4, q5, q6, q7, q8⟩ := q
  obtain ⟨K1, hK1⟩ : ∃ K1, K1 = K ++ [O.list [V.bool false, .bool false, .bool false]] := ⟨_, rfl⟩
  obtain ⟨K2, hK2⟩ : ∃ K2, K2 = K1 ++ [O.list [V.bool false, .bool false]] := ⟨_, rfl⟩
  have x1 : Ext K K1 := by rw [hK1]; exact ext_app _ _
  have x2 : Ext K1 K2 := by rw [hK2]; exact ext_app _ _
  have g1 : K2[K.length]? = some (.list [V.bool false, .bool false, .bool false]) := x2.get (by rw [hK1]; simp)
  have b1 := bin_add_ref g1 (show K2[K1.length]? = some (.list [V.bool false, .bool false]) by rw [hK2]; simp) (by simp [line])
  have eb : ∀ H, cmp .eq (.bool b) (.bool !b) H = some false := fun H => by cases b <;> rfl
  refine ⟨K2 ++ [O.list ([V.bool false, .bool false, .bool false] ++ [V.bool false, .bool false] ++ [V.bool false])], x1.trans (x2.trans (ext_app _ _)), ?_⟩
  show Is _ _
  refine ss_asg (v := .ref K.length) (H1 := K1) (by simp [he, a1, a2, a3, q1, q2, q3, new, hK1]) ?_
  refine ss_asg (v := .ref K2.length) (H1 := K2 ++ [O.list ([V.bool false, .bool false, .bool false] ++ [V.bool false, .bool false])]) (by simp only [evE_bin, evE_var, evE_list, evE_isinst, evEs_cons, evEs_nil, lookup_setL, String.reduceEq, if_true, if_false, he, a4, a5, q4, q5, ofO_some, Option.map_some, R.bind_ok, new, ← hK2, b1]) ?_
  refine ss_append (k := K2.length) (v := .bool false) (setL_self ..) (len_app1 _ _) (by simp [line]) (by simp [lookup_setL, he, a6, a7, q6, q7, eb]) ?_
  rw [set_app1]
  have ei : cmp .isIn (.bool true) (.ref K2.length) (K2 ++ [O.list ([V.bool false, .bool false, .bool false] ++ [V.bool false, .bool false] ++ [V.bool false])]) = some false := by
    have q : cmp .isIn (.bool true) (.ref K2.length) (K2 ++ [O.list ([V.bool false, .bool false, .bool false] ++ [V.bool false, .bool false] ++ [V.bool false])]) = (match listAt (.ref K2.length) (K2 ++ [O.list ([V.bool false, .bool false, .bool false] ++ [V.bool false, .bool false] ++ [V.bool false])]) with
      | some vs => (do let x ← snap 8 (K2 ++ [O.list ([V.bool false, .bool false, .bool false] ++ [V.bool false, .bool false] ++ [V.bool false])]) (.bool true); let ys ← vs.mapM (snap 8 (K2 ++ [O.list ([V.bool false, .bool false, .bool false] ++ [V.bool false, .bool false] ++ [V.bool false])])); return ys.any fun y => PyData.eqv y x)
      | Option.none => inKeys (K2 ++ [O.list ([V.bool false, .bool false, .bool false] ++ [V.bool false, .bool false] ++ [V.bool false])]) (.bool true) (.ref K2.length)) := rfl
    rw [q, listAt_of (len_app1 _ _)]
    rfl
  refine ss_if (b := false) (H1 := K2 ++ [O.list ([V.bool false, .bool false, .bool false] ++ [V.bool false, .bool false] ++ [V.bool false])]) (evT_of (by simp only [evE_var, evE_not, evE_bool, evE_cmp, evE_or, evOr_cons, evOr_one, evE_isinst, lookup_setL, String.reduceEq, if_true, if_false, he, a8, q8, ofO_some, Option.map_some, R.bind_ok, truthR_ok, Bool.not_true, Bool.false_eq_true, ei])) ?_
  refine ss_ret (v := .str (Str.ofString (if b then "order" else "missed"))) (H1 := K2 ++ [O.list ([V.bool false, .bool false, .bool false] ++ [V.bool false, .bool false] ++ [V.bool false])]) ?_ rfl
  have mc : mayCall true "int" = true := rfl
  have m0 : ∀ H, index (.lst [.str (Str.ofString "missed"), .str (Str.ofString "order")]) (.int 0) H = .ok (.str (Str.ofString "missed")) H := fun _ => rfl
  have m1 : ∀ H, index (.lst [.str (Str.ofString "missed"), .str (Str.ofString "order")]) (.int 1) H = .ok (.str (Str.ofString "order")) H := fun _ => rfl
  cases b <;> simp [lookup_setL, he, a6, q6, mc, bi_int_bool, m0, m1]

theorem c_ended (n : Nat) (x : DayAt w l h s qs d dn k H) {o : Nat} {os : List Int} (ho : H[o]? = some (.list (os.map .int))) (hl : os.length ≤ 100) :
    ∃ H', Ext H H' ∧ match outc w l h s qs os with
      | Option.none => (G (n + 5)).call "_law_ended" [.ref d, .ref o] H = .ok (.str (Str.ofString "order")) H'
      | some Option.none => (G (n + 5)).call "_law_ended" [.ref d, .ref o] H = .ok (.str (Str.ofString "missed")) H'
      | some (some rows) => (G (n + 5)).call "_law_ended" [.ref d, .ref o] H = .ok (.int (endI w l h s qs os rows)) H' := by
  rw [lk_call (d := d__law_ended) (by kernel_rfl)]
  obtain ⟨H', xH, e⟩ := c_ends n x ho hl
  have f1 : ∀ a b H, builtin "ends" [a, b] H = .stuck := fun _ _ _ => rfl
  have off : ∀ b : Bool, (G (n + 4)).call "ends" [.ref d, .ref o] H = .raise (if b then "BadOrder" else "Missed") H' → ∃ K, Ext H K ∧ runDef (G (n + 4)) d__law_ended [.ref d, .ref o] H = .ok (.str (Str.ofString (if b then "order" else "missed"))) K := fun b e => by
    obtain ⟨K, xK, eK⟩ := end_hand (G (n + 4)) b (setL "error" (.exc (if b then "BadOrder" else "Missed")) [("_law_day", .ref d), ("_law_order", .ref o)]) H' (setL_self ..)
    refine ⟨K, xH.trans xK, runDef_is (ρ := [("_law_day", .ref d), ("_law_order", .ref o)]) rfl ?_⟩
    have e1 : exSs (G (n + 4)) [.ret (.call "ends" [(.var "_law_day"), (.var "_law_order")])] [("_law_day", .ref d), ("_law_order", .ref o)] H = .raise (if b then "BadOrder" else "Missed") [("_law_day", .ref d), ("_law_order", .ref o)] H' := by
      simp [f1, e]
    have rt : excIs (if b then "BadOrder" else "Missed") "RouteError" = true := by unfold excIs; simp
    show exSs (G (n + 4)) [.tryE [.ret (.call "ends" [(.var "_law_day"), (.var "_law_order")])] [("RouteError", some "error", endH)]] [("_law_day", .ref d), ("_law_order", .ref o)] H = _
    rw [exSs_cons, exS_tryE, lk_hd', e1]
    simp only [Bool.false_eq_true, if_false, exH_cons, rt, if_true]
    rw [eK]
  cases ho' : outc w l h s qs os with
  | none => rw [ho'] at e; exact off true e
  | some wr =>
    cases wr with
    | none => rw [ho'] at e; exact off false e
    | some rows =>
      rw [ho'] at e
      exact ⟨H', xH, by simp [runDef, d__law_ended, setAll, setL, f1, e]⟩
end
end Mine.L04

/-! P04i -/
namespace Mine.L04
open Mine PySem
noncomputable def RetX (H : Hp) (r : RS) : Prop := ∃ H', Ext H H' ∧ r = .ret (.bool true) H'
theorem ext_set {H H' : Hp} (x : Ext H H') {f : Nat} (o : O) (hf : H.length ≤ f) : Ext H (H'.set f o) := by
  obtain ⟨L, rfl⟩ := x
  exact ⟨L.set (f - H.length) o, by rw [List.set_append_right _ _ hf]⟩
theorem Ext.len {H H' : Hp} (x : Ext H H') : H.length ≤ H'.length := by obtain ⟨L, rfl⟩ := x; simp
theorem get_lt {H : Hp} {m : Nat} {o : O} (h : H[m]? = some o) : m < H.length := (List.getElem?_eq_some_iff.mp h).1
structure RH (w : Str) (l h s : Int) (d j a b : Nat) (vf ve : V) (ρ : Rho) : Prop where
  day : ρ.lookup "_law_day" = some (.ref d)
  stops : ρ.lookup "_law_stops" = some (.ref j)
  order : ρ.lookup "_law_order" = some (.ref a)
  handed : ρ.lookup "_law_handed" = some (.ref b)
  road : ρ.lookup "_law_road" = some (.tup [.str w, .int l])
  home : ρ.lookup "_law_home" = some (.int h)
  start : ρ.lookup "_law_start" = some (.int s)
  found : ρ.lookup "_law_found" = some vf
  ende : ρ.lookup "_law_end" = some ve
section
variable {w : Str} {l h s : Int} {qs : List Q4} {d dn k : Nat} {H : Hp}
theorem c_right (n : Nat) (x : DayAt w l h s qs d dn k H) {j a b : Nat} {os : List Int} (hj : H[j]? = some (.list (qs.map tupQ))) (ha : H[a]? = some (.list (os.map .int))) (hb : H[b]? = some (.list (os.map .int))) (hl : os.length ≤ 100) :
    ∃ H', Ext H H' ∧ (G (n + 6)).call "_law_right" [.ref d, .ref j, .ref a, .ref b] H = .ok (.bool true) H' := by
  rw [lk_call (d := d__law_right) (by kernel_rfl)]
  have f1 : ∀ a b H, builtin "_law_told" [a, b] H = .stuck := fun _ _ _ => rfl
  have f2 : ∀ a b H, builtin "_law_ended" [a, b] H = .stuck := fun _ _ _ => rfl
  have f3 : ∀ a b H, builtin "_law_bad" [a, b] H = .stuck := fun _ _ _ => rfl
  have f4 : ∀ a b c d e H, builtin "_law_rows" [a, b, c, d, e] H = .stuck := fun _ _ _ _ _ _ => rfl
  have f5 : ∀ a b H, builtin "_law_alike" [a, b] H = .stuck := fun _ _ _ => rfl
  have f6 : ∀ a b c H, builtin "_law_apart" [a, b, c] H = .stuck := fun _ _ _ _ => rfl
  have f7 : ∀ a H, builtin "_law_whole" [a] H = .stuck := fun _ _ => rfl
  obtain ⟨H1, x1, e1⟩ := c_told (n + 1) x hb hl
  obtain ⟨H2, x2, e2⟩ := c_ended n (x.ext x1) (x1.get hb) hl
  have x12 := x1.trans x2
  have y2 := x.ext x12
  have lq : builtin "len" [.ref j] H2 = .ok (.int qs.length) H2 := by rw [bi_len_ref (x12.get hj), List.length_map]
  have cb := c_bad (n + 4) (qs.length : Int) (x12.get ha)
  suffices fin : RetX H (exSs (G (n + 5)) d__law_right.body [("_law_day", .ref d), ("_law_stops", .ref j), ("_law_order", .ref a), ("_law_handed", .ref b)] H) by
    obtain ⟨H', xx, e⟩ := fin
    exact ⟨H', xx, runDef_is (ρ := [("_law_day", .ref d), ("_law_stops", .ref j), ("_law_order", .ref a), ("_law_handed", .ref b)]) rfl e⟩
  have start : ∀ vf ve, (G (n + 5)).call "_law_told" [.ref d, .ref b] H = .ok vf H1 → (G (n + 5)).call "_law_ended" [.ref d, .ref b] H1 = .ok ve H2 → (∀ ρ, RH w l h s d j a b vf ve ρ → RetX H (exSs (G (n + 5)) (d__law_right.body.drop 6) ρ H2)) → RetX H (exSs (G (n + 5)) d__law_right.body [("_law_day", .ref d), ("_law_stops", .ref j), ("_law_order", .ref a), ("_law_handed", .ref b)] H) := fun vf ve e1 e2 hT => by
    refine ss_asg (v := .tup [.str w, .int l]) (H1 := H) (by simp [x.road]) ?_
    refine ss_asg (v := .int h) (H1 := H) (by simp [lookup_setL, x.home]) ?_
    refine ss_asg (v := .int s) (H1 := H) (by simp [lookup_setL, x.start]) ?_
    refine ss_asg (v := vf) (H1 := H1) (by simp [lookup_setL, f1, e1]) ?_
    refine ss_asg (v := ve) (H1 := H2) (by simp [lookup_setL, f2, e2]) ?_
    refine ss_if (b := false) (H1 := H2) (evT_of (by simp [lookup_setL, ne_ints (x12.get hb) (x12.get ha), y2.stops, ne_stops y2.list (x12.get hj), y2.road, y2.home, y2.start, ne_rhs])) ?_
    exact hT _ ⟨by simp [lookup_setL], by simp [lookup_setL], by simp [lookup_setL], by simp [lookup_setL], by simp [lookup_setL], by simp [lookup_setL], by simp [lookup_setL], by simp [lookup_setL], by simp [lookup_setL]⟩
  by_cases g : okOrd qs.length [] os = true
  · have ho : outc w l h s qs os = some (walk w l qs os h s) := if_pos g
    rw [g] at cb
    cases hw : walk w l qs os h s with
    | none =>
      rw [ho, hw] at e1 e2
      have cr := c_rows (w := w) (l := l) (h := h) (s := s) (n + 3) (x12.get hj) (x12.get ha) hl g
      rw [hw] at cr
      obtain ⟨H3, x3, cr⟩ := cr
      refine start _ _ e1 e2 fun ρ r => ?_
      refine ss_if (b := false) (H1 := H2) (evT_of (by simp [r.order, r.stops, lq, f3, cb])) ?_
      refine ss_asg (v := .none) (H1 := H3) (by simp [r.road, r.home, r.start, r.stops, r.order, f4, cr]) ?_
      refine ss_if (b := true) (H1 := H3) (evT_of (by simp [lookup_setL, is_none, isNoneV])) ?_
      exact ss_ret (v := .bool true) (H1 := H3) (by simp [lookup_setL, r.found, r.ende, cmp_eq_str]) ⟨H3, x12.trans x3, rfl⟩
    | some rows =>
      rw [ho, hw] at e1 e2
      obtain ⟨f, lf, gf, e1⟩ := e1
      have hlen := walk_len w l qs os h s rows hw
      have cr := c_rows (w := w) (l := l) (h := h) (s := s) (n + 3) (x12.get hj) (x12.get ha) hl g
      rw [hw] at cr
      dsimp only at cr
      obtain ⟨H3, hH3⟩ : ∃ H3, H3 = H2 ++ [O.list (rows.map t3)] := ⟨_, rfl⟩
      rw [← hH3] at cr
      have x3 : Ext H2 H3 := by rw [hH3]; exact ext_app _ _
      have gr : H3[H2.length]? = some (.list (rows.map t3)) := by rw [hH3]; exact len_app1 _ _
      have gf3 := x3.get (x2.get gf)
      have lf1 := get_lt gf
      have l12 := x2.len
      have al := c_alike (n + 3) gf3 gr (by omega)
      obtain ⟨H4, hH4⟩ : ∃ H4, H4 = H3.set f (.list (rows.map t3 ++ [t3 (0, 0, 0)])) := ⟨_, rfl⟩
      have x4 : Ext H H4 := by rw [hH4]; exact ext_set (x12.trans x3) _ lf
      have gr4 : H4[H2.length]? = some (.list (rows.map t3)) := by rw [hH4, List.getElem?_set_ne (by omega)]; exact gr
      obtain ⟨H5, x5, e5⟩ := c_told (n + 1) (x.ext x4) (x4.get hb) hl
      rw [ho, hw] at e5
      obtain ⟨f', lf', gf', e5⟩ := e5
      have al5 := c_alike (n + 3) gf' (x5.get gr4) (by omega)
      have lr : builtin "len" [.ref H2.length] H4 = .ok (.int rows.length) H4 := by rw [bi_len_ref gr4, List.length_map]
      refine start _ _ e1 e2 fun ρ r => ?_
      refine ss_if (b := false) (H1 := H2) (evT_of (by simp [r.order, r.stops, lq, f3, cb])) ?_
      refine ss_asg (v := .ref H2.length) (H1 := H3) (by simp [r.road, r.home, r.start, r.stops, r.order, f4, cr]) ?_
      refine ss_if (b := false) (H1 := H3) (evT_of (by simp [lookup_setL, is_none, isNoneV])) ?_
      refine ss_if (b := false) (H1 := H3) (evT_of (by simp [lookup_setL, r.found, f5, al])) ?_
      refine ss_append (k := f) (v := t3 (0, 0, 0)) (by simp [lookup_setL, r.found]) gf3 (by rw [List.length_map]; unfold line; omega) (by simp [t3]) ?_
      rw [← hH4]
      refine ss_asg (v := .int s) (H1 := H4) (by simp [lookup_setL, r.start]) ?_
      have ew := fun i => c_whole (n + 4) i H5
      have fin : ∀ ρ', RH w l h s d j a b (.ref f) (.int (endI w l h s qs os rows)) ρ' → ρ'.lookup "_law_rows_here" = some (.ref H2.length) → ρ'.lookup "_law_due" = some (.int (endI w l h s qs os rows)) →
          RetX H (exSs (G (n + 5)) [.ret (.and [(.call "_law_alike" [(.call "_law_told" [(.var "_law_day"), (.var "_law_handed")]), (.var "_law_rows_here")]), (.call "_law_whole" [(.var "_law_end")]), (.cmp (.var "_law_end") .eq (.var "_law_due"))])] ρ' H4) := fun ρ' r' g1 g2 =>
        ss_ret (v := .bool true) (H1 := H5) (by simp [r'.day, r'.handed, r'.ende, g1, g2, f1, e5, f5, al5, f7, ew, cmp_eq_int]) ⟨H5, x4.trans x5, rfl⟩
      refine ss_if (b := decide ((0 : Int) < rows.length)) (H1 := H4) (evT_of (by simp [lookup_setL, lr, cmp_gt])) ?_
      cases hos : os.getLast? with
      | none =>
        have hn : os = [] := List.getLast?_eq_none_iff.mp hos
        have hz : rows.length = 0 := by rw [hlen, hn]; rfl
        rw [decide_eq_false (by omega), if_neg (by simp)]
        refine fin _ ⟨by simp [lookup_setL, r.day], by simp [lookup_setL, r.stops], by simp [lookup_setL, r.order], by simp [lookup_setL, r.handed], by simp [lookup_setL, r.road], by simp [lookup_setL, r.home], by simp [lookup_setL, r.start], by simp [lookup_setL, r.found], by simp [lookup_setL, r.ende]⟩ (by simp [lookup_setL]) (by simp [lookup_setL, endI, hos])
      | some z =>
        have hz : z ∈ os := List.mem_of_getLast? hos
        have hne : os.length ≠ 0 := by intro q; rw [List.length_eq_zero_iff.mp q] at hz; cases hz
        obtain ⟨z0, z1⟩ := ((okOrd_iff _ _ _).mp g).1 z hz
        have hzl : z.toNat < qs.length := by omega
        have hq := List.getElem?_eq_getElem hzl
        obtain ⟨q, hqq⟩ : ∃ q, q = qs[z.toNat] := ⟨_, rfl⟩
        rw [← hqq] at hq
        obtain ⟨rr, hr⟩ : ∃ r, rows.getLast? = some r := by
          cases hr : rows.getLast? with
          | some r => exact ⟨r, rfl⟩
          | none => rw [List.getLast?_eq_none_iff.mp hr] at hlen; exact absurd hlen.symm hne
        rw [decide_eq_true (by omega), if_pos rfl]
        have i1 := idx_neg (x4.get ha) (v := .int z) (by rw [List.getLast?_map, hos]; rfl)
        have i2 := stop_at (x4.get hj) z0 hq
        have i3 := idx_neg gr4 (v := t3 rr) (by rw [List.getLast?_map, hr]; rfl)
        have ap := c_lapart (n + 4) w l q.1 h H4
        refine ss_asg (v := .int (rr.2.2 + apartI w l q.1 h)) (H1 := H4) (by simp [lookup_setL, r.road, r.stops, r.order, r.home, i1, i2, i3, t3_2, tq_0, f6, ap]) ?_
        refine fin _ ⟨by simp [lookup_setL, r.day], by simp [lookup_setL, r.stops], by simp [lookup_setL, r.order], by simp [lookup_setL, r.handed], by simp [lookup_setL, r.road], by simp [lookup_setL, r.home], by simp [lookup_setL, r.start], by simp [lookup_setL, r.found], by simp [lookup_setL, r.ende]⟩ (by simp [lookup_setL]) (by simp [lookup_setL, endI, hos, hr, hq])
  · have ho : outc w l h s qs os = Option.none := if_neg g
    rw [ho] at e1 e2
    rw [Bool.eq_false_iff.mpr g] at cb
    refine start _ _ e1 e2 fun ρ r => ?_
    refine ss_if (b := true) (H1 := H2) (evT_of (by simp [r.order, r.stops, lq, f3, cb])) ?_
    exact ss_ret (v := .bool true) (H1 := H2) (by simp [r.found, r.ende, cmp_eq_str]) ⟨H2, x12, rfl⟩
end
end Mine.L04

/-! P04j -/
namespace Mine.L04
open Mine PySem
theorem setL_same {x : String} {v : V} : ∀ {ρ : Rho}, ρ.lookup x = some v → setL x v ρ = ρ
  | [], h => by cases h
  | (y, w) :: r, h => by
    unfold setL
    by_cases hy : y = x
    · subst hy
      rw [lookup_here] at h
      cases h
      rw [if_pos rfl]
    · rw [lookup_next (fun q => hy q.symm)] at h
      rw [if_neg hy, setL_same h]
noncomputable def orderB : List S := [
    .asg "_law_at" (.bin .mod (.call "_law_cell_at" [(.var "_law_script"), (.bin .add (.int 33) (.var "_law_k"))]) (.call "len" [(.var "_law_left")])),
    .expr (.meth (.var "_law_order") "append" [(.idx (.var "_law_left") (.var "_law_at"))]),
    .asg "_law_left" (.bin .add (.slice (.var "_law_left") .none (.var "_law_at")) (.slice (.var "_law_left") (.bin .add (.var "_law_at") (.int 1)) .none))]
structure OB (H : Hp) (ns : List Int) (m : Nat) (i : Nat) (ρ : Rho) (H' : Hp) : Prop where
  ext : Ext H H'
  left : ∃ kl ys, kl ≠ H.length ∧ H'[kl]? = some (.list ((ys : List Int).map .int)) ∧ ys.length + i = m ∧ ρ.lookup "_law_left" = some (.ref kl)
  ord : ∃ zs, H'[H.length]? = some (.list ((zs : List Int).map .int)) ∧ zs.length = i
  script : ρ.lookup "_law_script" = some (.scr ns)
  order : ρ.lookup "_law_order" = some (.ref H.length)
  many : ρ.lookup "_law_many" = some (.int m)
theorem order_body (n : Nat) (ns : List Int) (hns : ns.length ≤ 63) (m : Nat) (hm : m ≤ 7) (H : Hp) (j : Int) (hj : 0 ≤ j) (i : Nat) (hi : i < m) (ρ : Rho) (H' : Hp) (r : OB H ns m i ρ H') :
    ∃ ρ1 H1, OB H ns m (i + 1) ρ1 H1 ∧ exSs (G (n + 1)) orderB (setL "_law_k" (.int j) ρ) H' = .next ρ1 H1 := by
  obtain ⟨xt, ⟨kl, ys, nk, gk, ly, q1⟩, ⟨zs, gz, lz⟩, q2, q3, q4⟩ := r
  have f1 : ∀ a b H, builtin "_law_cell_at" [a, b] H = .stuck := fun _ _ _ => rfl
  obtain ⟨c, ec⟩ := c_cell n ns (33 + j) H' (by omega) hns
  have el := bi_len_ref gk
  rw [List.length_map] at el
  have ny : (ys.length : Int) ≠ 0 := by omega
  have ma := fmod_lt c (b := (ys.length : Int)) (by omega)
  obtain ⟨a, hea⟩ : ∃ a : Nat, (a : Int) = c.fmod ys.length := ⟨(c.fmod ys.length).toNat, by omega⟩
  have hay : a < ys.length := by omega
  have ei : index (.ref kl) (.int (a : Int)) H' = .ok (.int ys[a]) H' := idx_ref gk (by omega) (by rw [Int.toNat_natCast, List.getElem?_map, List.getElem?_eq_getElem hay]; rfl)
  have em := bin_mod (a := c) H' ny
  rw [← hea] at em
  obtain ⟨K, hK⟩ : ∃ K, K = H'.set H.length (.list (zs.map V.int ++ [V.int ys[a]])) := ⟨_, rfl⟩
  have gK : K[H.length]? = some (.list (zs.map V.int ++ [V.int ys[a]])) := by rw [hK, List.getElem?_set_self (get_lt gz)]
  have gkK : K[kl]? = some (.list (ys.map .int)) := by rw [hK, List.getElem?_set_ne (Ne.symm nk)]; exact gk
  obtain ⟨K1, hK1⟩ : ∃ K1, K1 = K ++ [O.list ((ys.map V.int).take a)] := ⟨_, rfl⟩
  have x1 : Ext K K1 := by rw [hK1]; exact ext_app _ _
  obtain ⟨K2, hK2⟩ : ∃ K2, K2 = K1 ++ [O.list ((ys.map V.int).drop (a + 1))] := ⟨_, rfl⟩
  have x2 : Ext K1 K2 := by rw [hK2]; exact ext_app _ _
  have s1 := slice_to gkK (k := a) (by rw [List.length_map]; omega)
  rw [← hK1] at s1
  have s2 := slice_from (x1.get gkK) (k := a + 1) (by rw [List.length_map]; omega)
  rw [← hK2] at s2
  have b := bin_add_ref (H := K2) (x2.get (show K1[K.length]? = some (.list ((ys.map V.int).take a)) by rw [hK1]; exact len_app1 _ _)) (show K2[K1.length]? = some (.list ((ys.map V.int).drop (a + 1))) by rw [hK2]; exact len_app1 _ _) (by simp; unfold line; omega)
  have ea1 : ((a + 1 : Nat) : Int) = (a : Int) + 1 := by omega
  rw [ea1] at s2
  have nK : H.length < K.length := get_lt gK
  have n2 : K.length < K2.length := by rw [hK2, hK1]; simp
  refine ⟨setL "_law_left" (.ref K2.length) (setL "_law_at" (.int a) (setL "_law_k" (.int j) ρ)), K2 ++ [O.list ((ys.map V.int).take a ++ (ys.map V.int).drop (a + 1))], ⟨?_, ⟨K2.length, ys.take a ++ ys.drop (a + 1), by omega, ?_, ?_, by simp [lookup_setL]⟩, ⟨zs ++ [ys[a]], ?_, by simp [lz]⟩, by simp [lookup_setL, q2], by simp [lookup_setL, q3], by simp [lookup_setL, q4]⟩, ?_⟩
  · exact (show Ext H K by rw [hK]; exact ext_set xt _ (Nat.le_refl _)).trans (x1.trans (x2.trans (ext_app _ _)))
  · rw [len_app1]; simp
  · simp; omega
  · rw [(ext_app _ _).get (x2.get (x1.get gK))]; simp
  · show Is _ _
    refine ss_asg (v := .int (a : Int)) (H1 := H') (by simp [lookup_setL, q1, q2, f1, ec, el, em]) ?_
    refine ss_append (k := H.length) (v := .int ys[a]) (by simp [lookup_setL, q3]) gz (by rw [List.length_map]; unfold line; omega) (by simp [lookup_setL, q1, ei]) ?_
    rw [← hK]
    refine ss_asg (v := .ref K2.length) (H1 := K2 ++ [O.list ((ys.map V.int).take a ++ (ys.map V.int).drop (a + 1))]) ?_ rfl
    refine (ev_bin (x := .ref K.length) (H1 := K1) (y := .ref K1.length) (H2 := K2) (by simp [lookup_setL, q1, intO, s1]) (by simp [lookup_setL, q1, intO, s2])).trans b

theorem c_order (n : Nat) (ns : List Int) (hns : ns.length ≤ 63) (m : Nat) (hm : m ≤ 7) (H : Hp) :
    ∃ v H', (G (n + 2)).call "_law_order_by" [.scr ns, .int m] H = .ok v H' ∧ ∃ a b gs os, v = .tup [.ref a, .ref b] ∧ Ext H H' ∧ H'[a]? = some (.list ((gs : List Int).map .int)) ∧ H'[b]? = some (.list ((os : List Int).map .int)) ∧ gs.length ≤ 7 ∧ os.length ≤ 8 := by
  rw [lk_call (d := d__law_order_by) (by kernel_rfl)]
  have f1 : ∀ a b H, builtin "_law_cell_at" [a, b] H = .stuck := fun _ _ _ => rfl
  have f2 : ∀ b H, builtin "range" [.int b] H = .ok (.rng 0 b 1) H := fun _ _ => rfl
  have hr : rngOk 0 (m : Int) 1 = true := by simp [rngOk]; omega
  have f3 : ∀ H, builtin "list" [.rng 0 (m : Int) 1] H = .ok (.ref H.length) (H ++ [.list ((rangeL 0 (m : Int) 1).map .int)]) := fun H => by
    have q : builtin "list" [.rng 0 (m : Int) 1] H = (if rngOk 0 (m : Int) 1 then new (.list ((rangeL 0 (m : Int) 1).map .int)) H else .stuck) := rfl
    rw [q, hr]; rfl
  obtain ⟨H1, hH1⟩ : ∃ H1, H1 = H ++ [O.list []] := ⟨_, rfl⟩
  obtain ⟨H2, hH2⟩ : ∃ H2, H2 = H1 ++ [O.list ((rangeL 0 (m : Int) 1).map .int)] := ⟨_, rfl⟩
  have x1 : Ext H H1 := by rw [hH1]; exact ext_app _ _
  have x2 : Ext H1 H2 := by rw [hH2]; exact ext_app _ _
  have l1 : H1.length = H.length + 1 := by rw [hH1]; simp
  obtain ⟨c, ec⟩ := c_cell n ns 32 H2 (by decide) hns
  have mc := fmod_lt c (b := (m : Int) + 1) (by omega)
  obtain ⟨N, hN⟩ : ∃ N : Nat, (N : Int) = c.fmod ((m : Int) + 1) := ⟨(c.fmod ((m : Int) + 1)).toNat, by omega⟩
  have hrN : rngOk 0 (N : Int) 1 = true := by simp [rngOk]; omega
  have lN : ((rangeL 0 (N : Int) 1).map V.int).length = N := by rw [rangeL_one]; simp
  refine runDef_T (ρ := [("_law_script", .scr ns), ("_law_many", .int m)]) rfl ?_
  refine ss_asg (v := .ref H.length) (H1 := H1) (by simp [new, hH1]) ?_
  refine ss_asg (v := .ref H1.length) (H1 := H2) (by simp [lookup_setL, f2, f3, hH2]) ?_
  obtain ⟨ρ, H3, r, lp⟩ := forL_all (OB H ns m) (fun v ρ1 H2 => exSs (G (n + 1)) orderB (setL "_law_k" v ρ1) H2) (sameO (.rng 0 (N : Int) 1) H2) (fun _ _ _ _ => rfl) N ((rangeL 0 (N : Int) 1).map V.int) 0 (by omega) (by
      intro y hy i ρ H' hi r
      rw [rangeL_one] at hy
      simp only [List.map_map, List.mem_map, List.mem_range, Function.comp] at hy
      obtain ⟨z, _, rfl⟩ := hy
      exact order_body n ns hns m hm H z (by omega) i (by omega) ρ H' r)
    (setL "_law_left" (.ref H1.length) (setL "_law_order" (.ref H.length) [("_law_script", .scr ns), ("_law_many", .int m)])) H2
    ⟨x1.trans x2, ⟨H1.length, rangeL 0 (m : Int) 1, by omega, by rw [hH2]; exact len_app1 _ _, by rw [rangeL_one]; simp, by simp [lookup_setL]⟩, ⟨[], by rw [x2.get (show H1[H.length]? = some (.list []) by rw [hH1]; exact len_app1 _ _)]; rfl, rfl⟩, by simp [lookup_setL], by simp [lookup_setL], by simp [lookup_setL]⟩
  have em := bin_mod (a := c) (b := (m : Int) + 1) H2 (by omega)
  rw [← hN] at em
  refine ss_for (v := .rng 0 (N : Int) 1) (H1 := H2) (lk_hd' _) (by simp [lookup_setL, f1, ec, em, f2]) (by simp only [items, hrN, if_true]) lp ?_
  obtain ⟨x3, _, ⟨zs, gz, lz⟩, q2, q3, q4⟩ := r
  rw [lN, Nat.zero_add] at lz
  obtain ⟨e, ee⟩ := c_cell n ns 41 H3 (by decide) hns
  refine ss_asg (v := .int e) (H1 := H3) (by simp [lookup_setL, q2, f1, ee]) ?_
  refine ss_if (b := e.fmod 3 == 0) (H1 := H3) (t_mod (by simp [lookup_setL]) (by decide)) ?_
  cases he : e.fmod 3 == 0 with
  | false =>
    exact ss_ret (v := .tup [.ref H.length, .ref H.length]) (H1 := H3) (by simp [lookup_setL, q3]) ⟨_, _, rfl, _, _, zs, zs, rfl, x3, gz, gz, by omega, by omega⟩
  | true =>
    have fd := fun (a b : Int) H (h : b ≠ 0) (h2 : b.natAbs < 1073741824) => bin_fdiv (a := a) (b := b) H h h2
    have md := fun (a b : Int) H (h : b ≠ 0) => bin_mod (a := a) (b := b) H h
    have el := bi_len_ref gz
    rw [List.length_map] at el
    have e15 := fun H => bin_pow (a := 10) (b := 15) H (by decide)
    have mt := fmod_lt (e.fdiv 3) (b := (zs.length : Int) + 1) (by omega)
    obtain ⟨t, ht⟩ : ∃ t : Nat, (t : Int) = (e.fdiv 3).fmod ((zs.length : Int) + 1) := ⟨((e.fdiv 3).fmod ((zs.length : Int) + 1)).toNat, by omega⟩
    have e1 := md (e.fdiv 3) ((zs.length : Int) + 1) H3 (by omega)
    rw [← ht] at e1
    refine ss_asg (v := .int (t : Int)) (H1 := H3) (by simp [lookup_setL, q3, el, fd e 3, e1]) ?_
    obtain ⟨v, hv, ev⟩ := menu_at (vs := [.int 1, .int 1000000000000000]) (k := Int.fmod (e.fdiv 864) 2) (H := H3) (Int.fmod_nonneg_of_pos _ (by decide)) (Int.fmod_lt_of_pos _ (by decide))
    obtain ⟨u, rfl⟩ : ∃ u, v = .int u := by
      simp only [List.mem_cons, List.not_mem_nil, or_false] at hv
      rcases hv with rfl | rfl <;> exact ⟨_, rfl⟩
    have m9 := fmod_lt (e.fdiv 96) (b := 9) (by decide)
    have eml := bin_mul_l (a := (e.fdiv 96).fmod 9) (b := u) H3 (by omega)
    refine ss_asg (v := .int ((e.fdiv 96).fmod 9 * u)) (H1 := H3) (by simp [lookup_setL, fd e 96, fd e 864, md (e.fdiv 96) 9, md (e.fdiv 864) 2, e15, ev, eml]) ?_
    obtain ⟨far, hfar⟩ : ∃ far, far = (e.fdiv 96).fmod 9 * u := ⟨_, rfl⟩
    rw [← hfar]
    obtain ⟨v, hv, ev⟩ := menu_at (vs := [.int (-1 - far), .int m, .int (m + far), .int m]) (k := Int.fmod (e.fdiv 24) 4) (H := H3) (Int.fmod_nonneg_of_pos _ (by decide)) (Int.fmod_lt_of_pos _ (by decide))
    obtain ⟨u1, rfl⟩ : ∃ u, v = .int u := by
      simp only [List.mem_cons, List.not_mem_nil, or_false] at hv
      rcases hv with rfl | rfl | rfl | rfl <;> exact ⟨_, rfl⟩
    refine ss_asg (v := .int u1) (H1 := H3) (by simp [lookup_setL, q4, fd e 24, md (e.fdiv 24) 4, ev]) ?_
    have tail : ∀ ρ' u', ρ'.lookup "_law_order" = some (.ref H.length) → ρ'.lookup "_law_at" = some (.int (t : Int)) → ρ'.lookup "_law_bad_here" = some (.int u') →
        RetH (fun v H' => ∃ a b gs os, v = .tup [.ref a, .ref b] ∧ Ext H H' ∧ H'[a]? = some (.list ((gs : List Int).map .int)) ∧ H'[b]? = some (.list ((os : List Int).map .int)) ∧ gs.length ≤ 7 ∧ os.length ≤ 8)
          (exSs (G (n + 1)) [.ret (.tup [(.var "_law_order"), (.bin .add (.bin .add (.slice (.var "_law_order") .none (.var "_law_at")) (.list [(.var "_law_bad_here")])) (.slice (.var "_law_order") (.var "_law_at") .none))]), .ret (.tup [(.var "_law_order"), (.var "_law_order")])] ρ' H3) := fun ρ' u' p1 p2 p3 => by
      obtain ⟨K, hK⟩ : ∃ K, K = H3 ++ [O.list ((zs.map V.int).take t)] := ⟨_, rfl⟩
      have xK : Ext H3 K := by rw [hK]; exact ext_app _ _
      obtain ⟨L, hL⟩ : ∃ L, L = K ++ [O.list [V.int u']] := ⟨_, rfl⟩
      have xL : Ext K L := by rw [hL]; exact ext_app _ _
      have b1 := bin_add_ref (H := L) (xL.get (show K[H3.length]? = some (.list ((zs.map V.int).take t)) by rw [hK]; exact len_app1 _ _)) (show L[K.length]? = some (.list [V.int u']) by rw [hL]; exact len_app1 _ _) (by simp; unfold line; omega)
      obtain ⟨M, hM⟩ : ∃ M, M = L ++ [O.list ((zs.map V.int).take t ++ [V.int u'])] := ⟨_, rfl⟩
      have xM : Ext L M := by rw [hM]; exact ext_app _ _
      rw [← hM] at b1
      obtain ⟨P, hP⟩ : ∃ P, P = M ++ [O.list ((zs.map V.int).drop t)] := ⟨_, rfl⟩
      have xP : Ext M P := by rw [hP]; exact ext_app _ _
      have b2 := bin_add_ref (H := P) (xP.get (show M[L.length]? = some (.list ((zs.map V.int).take t ++ [V.int u'])) by rw [hM]; exact len_app1 _ _)) (show P[M.length]? = some (.list ((zs.map V.int).drop t)) by rw [hP]; exact len_app1 _ _) (by simp; unfold line; omega)
      have s1 := slice_to gz (k := t) (by rw [List.length_map]; omega)
      rw [← hK] at s1
      have s2 := slice_from (xM.get (xL.get (xK.get gz))) (k := t) (by rw [List.length_map]; omega)
      rw [← hP] at s2
      have ee := (ev_bin (Γ := G (n + 1)) (ρ := ρ') (op := .add) (a := .bin .add (.slice (.var "_law_order") .none (.var "_law_at")) (.list [(.var "_law_bad_here")])) (b := .slice (.var "_law_order") (.var "_law_at") .none) (x := .ref L.length) (H := H3) (H1 := M) (y := .ref M.length) (H2 := P) ((ev_bin (x := .ref H3.length) (H1 := K) (y := .ref K.length) (H2 := L) (by simp [p1, p2, intO, s1]) (by simp [p3, new, hL])).trans b1) (by simp [p1, p2, intO, s2])).trans b2
      refine ss_ret (v := .tup [.ref H.length, .ref P.length]) (H1 := P ++ [O.list ((zs.map V.int).take t ++ [V.int u'] ++ (zs.map V.int).drop t)]) (by simp only [evE_tup, evEs_cons, evEs_nil, evE_var, p1, ofO_some, R.bind_ok, ee]) ⟨_, _, rfl, H.length, P.length, zs, zs.take t ++ [u'] ++ zs.drop t, rfl, ?_, ?_, ?_, by omega, by simp; omega⟩
      · exact x3.trans (xK.trans (xL.trans (xM.trans (xP.trans (ext_app _ _)))))
      · exact (ext_app _ _).get (xP.get (xM.get (xL.get (xK.get gz))))
      · rw [len_app1]; simp
    refine ss_iff (b := decide ((0 : Int) < zs.length) && ((e.fdiv 24).fmod 2 == 1)) (o := u1) (fun _ => True) (evT_of ?_) (fun hb => ?_) ?_ (fun _ => trivial) fun u2 _ => ?_
    · by_cases h0 : 0 < zs.length <;> simp [lookup_setL, q3, el, cmp_gt, cmp_eq_int, h0, fd e 24, md (e.fdiv 24) 2]
    · simp only [Bool.and_eq_true, decide_eq_true_eq] at hb
      have m48 := fmod_lt (e.fdiv 48) (b := (zs.length : Int)) hb.1
      have hlt : ((e.fdiv 48).fmod (zs.length : Int)).toNat < zs.length := by omega
      have ei : index (.ref H.length) (.int ((e.fdiv 48).fmod (zs.length : Int))) H3 = .ok (.int zs[((e.fdiv 48).fmod (zs.length : Int)).toNat]) H3 := idx_ref gz m48.1 (by rw [List.getElem?_map, List.getElem?_eq_getElem hlt]; rfl)
      exact ⟨zs[((e.fdiv 48).fmod (zs.length : Int)).toNat], by simp only [evE_idx, evE_var, evE_bin, evE_int, evE_call, evEs_cons, evEs_nil, lookup_setL, String.reduceEq, if_true, if_false, q3, ofO_some, R.bind_ok, lk_hd', mayCall_false, el, fd e 48 H3 (by decide) (by decide), md (e.fdiv 48) (zs.length : Int) H3 (by omega), ei], trivial⟩
    · exact setL_same (by simp [lookup_setL])
    · exact tail _ u2 (by simp [lookup_setL, q3]) (by simp [lookup_setL]) (by simp [lookup_setL])
end Mine.L04

/-! P04k -/
namespace Mine.L04
open Mine PySem
noncomputable def Keep (b : Nat) (H H' : Hp) : Prop := ∀ (m : Nat) (o : O), m ≠ b → H[m]? = some o → H'[m]? = some o
theorem Keep.of_ext {b : Nat} {H H' : Hp} (x : Ext H H') : Keep b H H' := fun _ _ _ e => x.get e
theorem Keep.trans {b : Nat} {H H1 H2 : Hp} (x : Keep b H H1) (y : Keep b H1 H2) : Keep b H H2 := fun m o hm e => y m o hm (x m o hm e)
theorem Keep.set {b : Nat} (H : Hp) (o : O) : Keep b H (H.set b o) := fun m o' hm e => by rw [List.getElem?_set_ne (Ne.symm hm)]; exact e
theorem meth_clear {xs : List V} {k : Nat} {H : Hp} (h : H[k]? = some (.list xs)) : meth "list" (.ref k) "clear" [] H = .ok .none (H.set k (.list [])) := by
  have q : meth "list" (.ref k) "clear" [] H = (match listAt (.ref k) H with | some _ => .ok .none (H.set k (.list [])) | Option.none => .stuck) := rfl
  rw [q, listAt_of h]
theorem meth_extend {xs ys : List V} {k j : Nat} {H : Hp} (h : H[k]? = some (.list xs)) (hj : H[j]? = some (.list ys)) (hl : xs.length + ys.length ≤ line) : meth "list" (.ref k) "extend" [.ref j] H = .ok .none (H.set k (.list (xs ++ ys))) := by
  have q : meth "list" (.ref k) "extend" [.ref j] H = (match listAt (.ref k) H with
    | some xs => (match listAt (.ref j) H with | some ys => if xs.length + ys.length ≤ line then .ok .none (H.set k (.list (xs ++ ys))) else .stuck | Option.none => .stuck)
    | Option.none => .stuck) := rfl
  rw [q, listAt_of h, listAt_of hj]
  exact if_pos hl
theorem quads {w : Str} {l : Int} : ∀ vs : List V, (∀ v ∈ vs, ∃ p o c s, v = .tup [.int p, .int o, .int c, .int s] ∧ StopOk w l p o c s) → ∃ qs : List Q4, vs = qs.map tupQ ∧ ∀ q ∈ qs, StopOk w l q.1 q.2.1 q.2.2.1 q.2.2.2
  | [], _ => ⟨[], rfl, fun _ q => nomatch q⟩
  | v :: vs, h => by
    obtain ⟨p, o, c, s, rfl, ok⟩ := h v (List.mem_cons_self ..)
    obtain ⟨qs, rfl, oks⟩ := quads vs fun u hu => h u (List.mem_cons_of_mem _ hu)
    refine ⟨(p, o, c, s) :: qs, rfl, fun q hq => ?_⟩
    rcases List.mem_cons.mp hq with rfl | hq
    · exact ok
    · exact oks q hq
theorem ints_of : ∀ vs : List V, (∀ v ∈ vs, ∃ i, v = .int i) → ∃ us : List Int, vs = us.map .int
  | [], _ => ⟨[], rfl⟩
  | v :: vs, h => by
    obtain ⟨i, rfl⟩ := h v (List.mem_cons_self ..)
    obtain ⟨us, rfl⟩ := ints_of vs fun u hu => h u (List.mem_cons_of_mem _ hu)
    exact ⟨i :: us, rfl⟩
noncomputable def lawB : List S := [
    .expr (.meth (.var "_law_handed") "clear" []),
    .expr (.meth (.var "_law_handed") "extend" [(.var "_law_other")]),
    .iff (.not (.call "_law_right" [(.var "_law_day"), (.var "_law_stops"), (.var "_law_other"), (.var "_law_handed")])) [
      .ret (.bool false)] []]
structure LB (w : Str) (l h s : Int) (d j b : Nat) (H0 : Hp) (ρ : Rho) (H : Hp) : Prop where
  keep : Keep b H0 H
  hand : ∃ xs : List V, H[b]? = some (.list xs)
  day : ρ.lookup "_law_day" = some (.ref d)
  stops : ρ.lookup "_law_stops" = some (.ref j)
  handed : ρ.lookup "_law_handed" = some (.ref b)
  road : ρ.lookup "_law_road" = some (.tup [.str w, .int l])
  home : ρ.lookup "_law_home" = some (.int h)
  start : ρ.lookup "_law_start" = some (.int s)
section
variable {w : Str} {l h s : Int} {qs : List Q4} {d dn k j b : Nat} {H0 H : Hp}
theorem DayAt.keep (x : DayAt w l h s qs d dn k H0) (kp : Keep b H0 H) (h1 : d ≠ b) (h2 : dn ≠ b) (h3 : k ≠ b) : DayAt w l h s qs d dn k H := ⟨kp _ _ h1 x.inst, kp _ _ h2 x.ns, kp _ _ h3 x.list⟩
theorem law_body (n : Nat) (x : DayAt w l h s qs d dn k H0) (h1 : d ≠ b) (h2 : dn ≠ b) (h3 : k ≠ b) (hj : H0[j]? = some (.list (qs.map tupQ))) (hjb : j ≠ b) {a : Nat} {os : List Int} (ha : H0[a]? = some (.list (os.map .int))) (hab : a ≠ b) (hl : os.length ≤ 100) (ρ : Rho) (r : LB w l h s d j b H0 ρ H) :
    ∃ ρ1 H1, LB w l h s d j b H0 ρ1 H1 ∧ exSs (G (n + 6)) lawB (setL "_law_other" (.ref a) ρ) H = .next ρ1 H1 := by
  obtain ⟨kp, ⟨xs, gb⟩, q1, q2, q3, q4, q5, q6⟩ := r
  have f1 : ∀ a b c d H, builtin "_law_right" [a, b, c, d] H = .stuck := fun _ _ _ _ _ => rfl
  have m1 : methKnown "list" "clear" = true := rfl
  have m2 : methKnown "list" "extend" = true := rfl
  obtain ⟨K, hK⟩ : ∃ K, K = H.set b (.list []) := ⟨_, rfl⟩
  have gK : K[b]? = some (.list []) := by rw [hK, List.getElem?_set_self (get_lt gb)]
  have kK : Keep b H0 K := kp.trans (by rw [hK]; exact Keep.set H _)
  have e1 := meth_clear gb
  have e2 := meth_extend gK (kK a _ hab ha) (by simp; unfold line; omega)
  rw [List.nil_append] at e2
  rw [← hK] at e1
  obtain ⟨L, hL⟩ : ∃ L, L = K.set b (.list (os.map .int)) := ⟨_, rfl⟩
  have gL : L[b]? = some (.list (os.map .int)) := by rw [hL, List.getElem?_set_self (get_lt gK)]
  have kL : Keep b H0 L := kK.trans (by rw [hL]; exact Keep.set K _)
  rw [← hL] at e2
  obtain ⟨M, xM, eM⟩ := c_right n (x.keep kL h1 h2 h3) (kL j _ hjb hj) (kL a _ hab ha) gL hl
  refine ⟨setL "_law_other" (.ref a) ρ, M, ⟨kL.trans (Keep.of_ext xM), ⟨_, xM.get gL⟩, by simp [lookup_setL, q1], by simp [lookup_setL, q2], by simp [lookup_setL, q3], by simp [lookup_setL, q4], by simp [lookup_setL, q5], by simp [lookup_setL, q6]⟩, ?_⟩
  show Is _ _
  refine ss_expr (v := .none) (H1 := K) (by simp [lookup_setL, q3, kind_of gb, m1, e1]) ?_
  refine ss_expr (v := .none) (H1 := L) (by simp [lookup_setL, q3, kind_of gK, m2, e2]) ?_
  exact ss_if (b := false) (H1 := M) (evT_of (by simp [lookup_setL, q1, q2, q3, f1, eM])) rfl
end
theorem law_true (n : Nat) (ns : List Int) (hns : ns.length ≤ 63) : ∃ H', (G (n + 7)).call "law" [.scr ns] [] = .ok (.bool true) H' := by
  rw [lk_call (d := d_law) (by kernel_rfl)]
  have f1 : ∀ a b H, builtin "_law_cell_at" [a, b] H = .stuck := fun _ _ _ => rfl
  have f2 : ∀ a H, builtin "_law_road_by" [a] H = .stuck := fun _ _ => rfl
  have f3 : ∀ a b H, builtin "_law_place_by" [a, b] H = .stuck := fun _ _ _ => rfl
  have f4 : ∀ a b H, builtin "_law_start_by" [a, b] H = .stuck := fun _ _ _ => rfl
  have f5 : ∀ a b c d H, builtin "_law_stops_by" [a, b, c, d] H = .stuck := fun _ _ _ _ _ => rfl
  have f6 : ∀ a b H, builtin "_law_order_by" [a, b] H = .stuck := fun _ _ _ => rfl
  have f7 : ∀ a b c d H, builtin "Day" [a, b, c, d] H = .stuck := fun _ _ _ _ _ => rfl
  have f8 : ∀ a b c d H, builtin "_law_right" [a, b, c, d] H = .stuck := fun _ _ _ _ _ => rfl
  have f9 : ∀ b H, builtin "range" [.int b] H = .ok (.rng 0 b 1) H := fun _ _ => rfl
  obtain ⟨c0, k0⟩ := c_cell (n + 5) ns 0 [] (by decide) hns
  obtain ⟨c1, k1⟩ := c_cell (n + 5) ns 1 [] (by decide) hns
  obtain ⟨c2, k2⟩ := c_cell (n + 5) ns 2 [] (by decide) hns
  obtain ⟨c3, k3⟩ := c_cell (n + 5) ns 3 [] (by decide) hns
  obtain ⟨w, l, er, hw, hl1, hl2⟩ := c_road (n + 4) c0 []
  obtain ⟨s, es, s0, s1⟩ := c_start (n + 4) w l c2 [] hl1 hl2
  obtain ⟨h, ep, p0, p1⟩ := c_place (n + 4) w l c1 [] hl1
  have m8 := fmod_lt c3 (b := 8) (by decide)
  obtain ⟨vs, ev, lv, pv⟩ := c_stops (n + 2) w l s (c3.fmod 8) ns [] hl1 hl2 s0 s1 m8.1 (by omega) hns
  obtain ⟨qs, rfl, oks⟩ := quads vs pv
  rw [List.length_map] at lv
  have hq7 : qs.length ≤ 7 := by omega
  have ok : DayOk w l h s qs := ⟨by rcases hw with rfl | rfl <;> simp [roadOk, hl1, hl2], by simp [inP, p0, p1], by simp [inT, s0, s1], hq7, oks⟩
  obtain ⟨H1, hH1⟩ : ∃ H1 : Hp, H1 = [O.list (qs.map tupQ)] := ⟨_, rfl⟩
  have ev : (G (n + 6)).call "_law_stops_by" [.tup [.str w, .int l], .int s, .scr ns, .int (c3.fmod 8)] [] = .ok (.ref 0) H1 := by rw [hH1]; exact ev
  have g1 : H1[0]? = some (.list (qs.map tupQ)) := by rw [hH1]; rfl
  have lq : builtin "len" [.ref 0] H1 = .ok (.int qs.length) H1 := by rw [bi_len_ref g1, List.length_map]
  obtain ⟨v, H2, eo, a, b, gs, os, rfl, x2, ga, gb, lg, lo⟩ := c_order (n + 4) ns hns qs.length hq7 H1
  have g2 := x2.get g1
  have el := bi_list_ref g2
  obtain ⟨H3, hH3⟩ : ∃ H3, H3 = H2 ++ [O.list (qs.map tupQ)] := ⟨_, rfl⟩
  rw [← hH3] at el
  have x3 : Ext H2 H3 := by rw [hH3]; exact ext_app _ _
  have ed := c_day (n + 1) w l h s qs H2.length H3 (by rw [hH3]; exact len_app1 _ _) ok
  obtain ⟨H4, hH4⟩ : ∃ H4, H4 = DayH H3 (dayFs w l h s (H3.length + 2)) [.list (qs.map tupQ)] := ⟨_, rfl⟩
  rw [← hH4] at ed
  have x4 : Ext H3 H4 := by rw [hH4]; exact dayH_ext _ _ _
  have D4 : DayAt w l h s qs (H3.length + 1) H3.length (H3.length + 2) H4 := ⟨by rw [hH4]; exact dayH_inst _ _ _, by rw [hH4]; exact dayH_ns _ _ _, by rw [hH4]; unfold DayH; rw [List.getElem?_append_right (by omega)]; simp⟩
  have el4 := bi_list_ref (x4.get (x3.get gb))
  obtain ⟨H5, hH5⟩ : ∃ H5, H5 = H4 ++ [O.list (os.map V.int)] := ⟨_, rfl⟩
  rw [← hH5] at el4
  have x5 : Ext H4 H5 := by rw [hH5]; exact ext_app _ _
  have x25 := x3.trans (x4.trans x5)
  obtain ⟨H6, x6, e6⟩ := c_right n (D4.ext x5) (x25.get g2) (x25.get gb) (show H5[H4.length]? = some (.list (os.map .int)) by rw [hH5]; exact len_app1 _ _) (by omega)
  have x26 := x25.trans x6
  have lgs : builtin "len" [.ref a] H6 = .ok (.int gs.length) H6 := by rw [bi_len_ref (x26.get ga), List.length_map]
  have hrg : rngOk 0 (gs.length : Int) 1 = true := by simp [rngOk]; omega
  suffices fin : RetX [] (exSs (G (n + 6)) d_law.body [("_law_script", .scr ns)] []) by
    obtain ⟨H', _, e⟩ := fin
    exact ⟨H', runDef_is (ρ := [("_law_script", .scr ns)]) rfl e⟩
  refine ss_asg (v := .tup [.str w, .int l]) (H1 := []) (by simp [f1, f2, k0, er]) ?_
  refine ss_asg (v := .int h) (H1 := []) (by simp [lookup_setL, f1, f3, k1, ep]) ?_
  refine ss_asg (v := .int s) (H1 := []) (by simp [lookup_setL, f1, f4, k2, es]) ?_
  refine ss_asg (v := .ref 0) (H1 := H1) (by simp [lookup_setL, f1, f5, k3, bin_mod, ev]) ?_
  refine ss_unpack (H1 := H2) (vs := [.ref a, .ref b]) (lk_hd' _) (by simp [lookup_setL, lq, f6, eo]) rfl ?_
  refine ss_asg (v := .ref (H3.length + 1)) (H1 := H4) (by simp [lookup_setL, el, f7, ed]) ?_
  refine ss_if (b := false) (H1 := H4) (evT_of (by simp [lookup_setL, D4.road, D4.home, D4.start, ne_rhs])) ?_
  refine ss_asg (v := .ref H4.length) (H1 := H5) (by simp [lookup_setL, el4]) ?_
  refine ss_if (b := false) (H1 := H6) (evT_of (by simp [lookup_setL, f8, e6])) ?_
  obtain ⟨ρ, hρ⟩ : ∃ ρ, ρ = setL "_law_handed" (.ref H4.length) (setL "_law_day" (.ref (H3.length + 1)) (setL "_law_order" (.ref b) (setL "_law_good" (.ref a) (setL "_law_stops" (.ref 0) (setL "_law_start" (.int s) (setL "_law_home" (.int h) (setL "_law_road" (.tup [.str w, .int l]) [("_law_script", .scr ns)]))))))) := ⟨_, rfl⟩
  have r1 : ρ.lookup "_law_good" = some (.ref a) := by rw [hρ]; simp [lookup_setL]
  have r2 : ρ.lookup "_law_handed" = some (.ref H4.length) := by rw [hρ]; simp [lookup_setL]
  have r3 : ρ.lookup "_law_day" = some (.ref (H3.length + 1)) := by rw [hρ]; simp [lookup_setL]
  have r4 : ρ.lookup "_law_stops" = some (.ref 0) := by rw [hρ]; simp [lookup_setL]
  have r5 : ρ.lookup "_law_start" = some (.int s) := by rw [hρ]; simp [lookup_setL]
  have r6 : ρ.lookup "_law_home" = some (.int h) := by rw [hρ]; simp [lookup_setL]
  have r7 : ρ.lookup "_law_road" = some (.tup [.str w, .int l]) := by rw [hρ]; simp [lookup_setL]
  show RetX [] (exSs (G (n + 6)) (d_law.body.drop 9) (setL "_law_handed" (.ref H4.length) (setL "_law_day" (.ref (H3.length + 1)) (setL "_law_order" (.ref b) (setL "_law_good" (.ref a) (setL "_law_stops" (.ref 0) (setL "_law_start" (.int s) (setL "_law_home" (.int h) (setL "_law_road" (.tup [.str w, .int l]) [("_law_script", .scr ns)])))))))) H6)
  rw [← hρ]
  clear hρ
  obtain ⟨ts, et, lt, pt⟩ := turns_some (fun v => ∃ i, v = .int i) (fun y H2 => (evE (G (n + 6)) (("_law_k", y) :: ρ) (.idx (.var "_law_good") (.bin .sub (.neg (.int 1)) (.var "_law_k"))) H2).bind fun r H4 => .ok (some r) H4)
    (sameO (.rng 0 (gs.length : Int) 1) H6) H6 (fun _ => rfl) ((rangeL 0 (gs.length : Int) 1).map .int) [] (by
      intro y hy ys
      rw [rangeL_one] at hy
      simp only [List.map_map, List.mem_map, List.mem_range, Function.comp, Int.toNat_natCast] at hy
      obtain ⟨z, hz, rfl⟩ := hy
      have gA : (H6 ++ [O.list ys])[a]? = some (.list (gs.map .int)) := (ext_app _ _).get (x26.get ga)
      have hlt : gs.length - 1 - z < gs.length := by omega
      have hp : place (-1 - (z : Int)) (gs.map V.int).length = some (gs.length - 1 - z) := by
        unfold place
        rw [List.length_map, if_neg (by omega), if_pos (by omega)]
        have : (-1 - (z : Int) + (gs.length : Int)).toNat = gs.length - 1 - z := by omega
        rw [this]
      have ei : index (.ref a) (.int (-1 - (z : Int))) (H6 ++ [O.list ys]) = .ok (.int gs[gs.length - 1 - z]) (H6 ++ [O.list ys]) := by
        have q : index (.ref a) (.int (-1 - (z : Int))) (H6 ++ [O.list ys]) = (match (H6 ++ [O.list ys])[a]? with | some (.list xs) => ofO (H6 ++ [O.list ys]) ((place (-1 - (z : Int)) xs.length).bind (xs[·]?)) | _ => .stuck) := rfl
        rw [q, gA]
        show ofO _ ((place (-1 - (z : Int)) (gs.map V.int).length).bind ((gs.map V.int)[·]?)) = _
        rw [hp, Option.bind_some, List.getElem?_map, List.getElem?_eq_getElem hlt]; rfl
      exact ⟨.int gs[gs.length - 1 - z], by simp only [evE_idx, evE_var, evE_bin, evE_neg, evE_int, lookup_here, lookup_next, ne_eq, String.reduceEq, not_false_eq_true, r1, ofO_some, R.bind_ok, bin_sub, ei], _, rfl⟩) (by rw [rangeL_one]; simp; unfold line; omega)
  obtain ⟨us, rfl⟩ := ints_of ts pt
  rw [List.nil_append] at et
  have lus : us.length = gs.length := by rw [rangeL_one] at lt; simpa using lt
  obtain ⟨H7, hH7⟩ : ∃ H7, H7 = H6 ++ [O.list (us.map V.int)] := ⟨_, rfl⟩
  rw [← hH7] at et
  have x7 : Ext H6 H7 := by rw [hH7]; exact ext_app _ _
  have g7 : H7[H6.length]? = some (.list (us.map .int)) := by rw [hH7]; exact len_app1 _ _
  have ec := ev_comp (Γ := G (n + 6)) (H := H6) (it := .call "range" [.call "len" [.var "_law_good"]]) (lk_hd' _) (by simp [r1, lgs, f9]) (by simp [items, hrg]) et
  refine ss_asg ec ?_
  have st : sliceV (.ref H6.length) Option.none (some (1 : Int)) H7 = .ok (.ref H7.length) (H7 ++ [.list ((us.map V.int).take 1)]) := by
    have : sliceL (us.map V.int) Option.none (some (1 : Int)) = some ((us.map V.int).take 1) := rfl
    simp [sliceV, g7, this, new]
  obtain ⟨H8, hH8⟩ : ∃ H8, H8 = H7 ++ [O.list ((us.map V.int).take 1)] := ⟨_, rfl⟩
  rw [← hH8] at st
  have x8 : Ext H7 H8 := by rw [hH8]; exact ext_app _ _
  have g8 : H8[H7.length]? = some (.list ((us.take 1).map .int)) := by rw [hH8, len_app1]; simp
  obtain ⟨H9, hH9⟩ : ∃ H9, H9 = H8 ++ [O.list [.ref a, .ref H7.length, .ref H6.length]] := ⟨_, rfl⟩
  have x9 : Ext H8 H9 := by rw [hH9]; exact ext_app _ _
  have g9 : H9[H8.length]? = some (.list [.ref a, .ref H7.length, .ref H6.length]) := by rw [hH9]; exact len_app1 _ _
  have x59 := x6.trans (x7.trans (x8.trans x9))
  have x69 := x7.trans (x8.trans x9)
  have x79 := x8.trans x9
  have D9 := (D4.ext x5).ext x59
  have gh : H9[H4.length]? = some (.list (os.map .int)) := x59.get (by rw [hH5]; exact len_app1 _ _)
  have l5 : H5.length = H4.length + 1 := by rw [hH5]; simp
  have l6 := x6.len
  have l7 : H7.length = H6.length + 1 := by rw [hH7]; simp
  have l8 : H8.length = H7.length + 1 := by rw [hH8]; simp
  have la : a < H4.length := get_lt (x4.get (x3.get ga))
  have lk : H3.length + 2 < H4.length := get_lt D4.list
  obtain ⟨ρ2, H10, r, lp⟩ := forL_all (fun _ ρ H => LB w l h s (H3.length + 1) 0 H4.length H9 ρ H) (fun v ρ1 H2 => exSs (G (n + 6)) lawB (setL "_law_other" v ρ1) H2) (sameO (.ref H8.length) H9) (fun i ρ H r => by simp [sameO, g9, r.keep H8.length _ (by omega) g9]) 3 [.ref a, .ref H7.length, .ref H6.length] 0 (by simp) (by
      intro y hy i ρ H _ r
      have step := fun {a' : Nat} {os' : List Int} (ha : H9[a']? = some (.list (os'.map .int))) (hab : a' ≠ H4.length) (hl : os'.length ≤ 100) => law_body n D9 (b := H4.length) (by omega) (by omega) (by omega) (x59.get (x25.get g2)) (show 0 ≠ H4.length by omega) ha hab hl ρ r
      simp only [List.mem_cons, List.not_mem_nil, or_false] at hy
      rcases hy with rfl | rfl | rfl
      · exact step (x69.get (x26.get ga)) (by omega) (by omega)
      · exact step (x9.get g8) (by omega) (by simp; omega)
      · exact step (x79.get g7) (by omega) (by omega))
    (setL "_law_turned" (.ref H6.length) ρ) H9 ⟨fun _ _ _ e => e, ⟨_, gh⟩, by simp [lookup_setL, r3], by simp [lookup_setL, r4], by simp [lookup_setL, r2], by simp [lookup_setL, r7], by simp [lookup_setL, r6], by simp [lookup_setL, r5]⟩
  refine ss_for (v := .ref H8.length) (H1 := H9) (xs := [.ref a, .ref H7.length, .ref H6.length]) (lk_hd' _) (by simp [lookup_setL, r1, intO, st, new, hH9]) (by simp only [items, g9]) lp ?_
  have D10 := D9.keep r.keep (by omega) (by omega) (by omega)
  exact ss_ret (v := .bool true) (H1 := H10) (by simp [r.day, r.road, r.home, r.start, D10.road, D10.home, D10.start, eq_rhs]) ⟨H10, ⟨H10, rfl⟩, rfl⟩
end Mine.L04

set_option maxRecDepth 100000
set_option maxHeartbeats 8000000
namespace Mine.L04
open PySem PySem.W PyProof.Rows
noncomputable abbrev r2 : OpenRow := PySem.Challenge.rw_uf040004_04.row
noncomputable abbrev p2 : Program := r2.prog
noncomputable def view : Program := { p2 with main := { p2.main with body := p2.main.body.filter fun s => match s with | .Assign [.Name n _] _ _ => !(n == ("__name__" : Str)) | _ => true } }
noncomputable def U : List String := ["LINE", "RING", "LONGEST", "LATEST", "MOST", "is_within", "is_road", "is_place", "apart", "Day", "looked_at", "need_order", "served", "timetable", "ends", "_law_cell_at", "_law_wide", "_law_whole", "_law_road_by", "_law_places", "_law_place_by", "_law_apart", "_law_start_by", "_law_stop_by", "_law_stops_by", "_law_order_by", "_law_bad", "_law_rows", "_law_told", "_law_ended", "_law_alike", "_law_right", "law", "RouteError", "BadRoad", "OffRoad", "BadTime", "TooMany", "BadOrder", "Missed", "NoDay"]
noncomputable def B : List String := ["len", "abs", "min", "max", "isinstance", "range", "list", "tuple", "int", "bool", "ValueError"]
noncomputable def Xs : List String := ["RouteError", "BadRoad", "OffRoad", "BadTime", "TooMany", "BadOrder", "Missed", "NoDay"]
theorem left : LeftO p2 view ["LONGEST", "LATEST"] (fun s => recOk (RowW.records r2.toRowW) s) (fun s => seenOk U B Xs constL clss (fragOf s.heap)) (fun _ => true) 4000 := fun w => by
  unfold openEnds fencedOpening topFrom
  rw [PySem.W.Fast.te14082659384304107361, PySem.W.Fast.te10274390034422433532, PySem.W.Fast.te14289696077712309145, PySem.W.Fast.te4187177175401517315, PySem.W.Fast.te1435165496053646825, PySem.W.Fast.te14364793385576792824]
  kernel_rfl
theorem isDef : (defOf view r2.name).isSome = true := by kernel_rfl
noncomputable def dk : DefRec × List (Str × Expr) := (defOf view r2.name).get isDef
theorem hd04 (hc : WalkO view ["LONGEST", "LATEST"] (fun _ _ => True) (fun _ h => Says U B Xs constL clss h) r2.toRowW dk.1 dk.2 fun f vs => PySem.call f vs) : PySem.Challenge.rw_uf040004_04.Holds := by
  refine holds_law (by decide +kernel) fun said => ?_
  refine holds_open (q := view) (loose := ["LONGEST", "LATEST"]) (Xt := fun s => recOk (RowW.records r2.toRowW) s) (XP := fun _ _ => True) (Yf := fun s => seenOk U B Xs constL clss (fragOf s.heap)) (Ya := fun _ => true) (YP := fun _ h => Says U B Xs constL clss h) (N := 4000) left
    (fun w s e => ⟨_, fragOf_in _, e⟩) (fun w h h' x k => x.keeps k) (fun s e => trivial) (fun _ _ _ _ _ => trivial) (d := dk.1) (kwd := dk.2) (Option.some_get isDef).symm (by kernel_rfl) (by kernel_rfl) (fun s e => recFacts_of e) (by first | rfl | decide) said (by decide +kernel) ⟨rfl, rfl, rfl, rfl, rfl, by decide +kernel⟩ ?hw hc
  case hw => w_witness2
end Mine.L04
open PySem PySem.W PyProof.Rows Mine in
theorem PySem.Challenge.cw_uf040004_04_holds : PySem.Challenge.rw_uf040004_04.Holds := by
  refine L04.hd04 ?_
  intro w s₀ s₁ mg mb G Y fa o pm cd doc dV kV ho hd hcd hD hmg hg args vals as hpre hlay hrd hwl hlo
  obtain ⟨K, KX, seen⟩ := Y
  have T := G.T
  clear ho hd hcd hD
  wrow_args hpre hlay hrd hwl hlo
  rename_i ns _ _ _ _ _ _ _ l vs _ hL _ _ _ hI _ hlen _
  have hlen' : ns.length ≤ 63 := by omega
  simp only [seenOk, Bool.and_eq_true] at seen
  obtain ⟨⟨⟨⟨⟨hu, hb⟩, hx⟩, hc⟩, hcl⟩, hm⟩ := seen
  have hn : okN L04.U L04.B L04.Xs = true := by kernel_rfl
  let X : Cx := cxOf (U := L04.U) (B := L04.B) (Xs := L04.Xs) Challenge.rw_uf040004_04.row.prog w T KX L04.clss hu hb hx hn hcl hm
  have S : SoundFn X 7 (lk L04.defs L04.clss L04.consts 7) := lk_sound (X := X) T (okC_at T KX hc X rfl) (by kernel_rfl) (cls_at _ w T KX L04.clss hu hb hx hn hcl hm) 7
  obtain ⟨H', run⟩ := L04.law_true 0 ns hlen'
  refine law_call (X := X) rfl S (by decide) hmg run hL hI hlen' fun s' ⟨h', tk, e, k⟩ => ?_
  subst e
  exact GoodW.toG ⟨.inl ⟨_, .bool true, [], rfl, fun cls => rfl, .bool true, (by kernel_rfl), fun _ => ⟨List.nodup_nil, fun _ q => nomatch q⟩⟩, k, rfl, hg⟩

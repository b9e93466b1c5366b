import PyProof.Rows.All
import PyProof.P3Statements
import PyProof.TableCode
import PyProof.StrCalls2
import KE.IntText
import PyProof.DictRoadsH
import PyProof.DictKinds
import PyProof.Rows.Top
import PyProof.Rows.TupIn
import PyProof.RangeIter
import PyProof.Cells
import PyProof.CompFree
import OpenK.KWalk
import OpenK.KOwn
import OpenK.KMake
import PyProof.DictStraight
import KE.KIsAll
import PyProof.StrOps2
import PyProof.DictIter
import PyProof.DictUpdate
import PyProof.DictTruth
import KE.KEqDict
import PyProof.FactsAll.dict_3
import PyProof.Rows.SortWalk
import PyProof.Rows.StrKeys3
import KE.LcSums
import KE.KIntText
import PyProof.TupleOfSeq
import PyProof.RangeFor
import PyProof.Rows.Range3
import PyProof.ListCopy
import PyProof.ListRange
import PyProof.StrLoop
import PyProof.SliceMore
import PyProof.SliceStr
import PyProof.CallRoads
import PyProof.AutoListH
import PyProof.AutoSeq1
import KE.KItem
import PyProof.DictRoads
import PyProof.IsiNone
import PyProof.IsInstanceH
import PyProof.CallRoads3
import PyProof.JoinWalk
import PyProof.MeetsStr
import PyProof.CompMap
import PyProof.WalksMore
import PyProof.StrWalks
import PyProof.Rows.FStr
import PyProof.TupleIter
import PyProof.Rows.TupAssign
import PyProof.ForAny
import PyProof.WalksPairs
import KE.KUnpack
import PyProof.CompUse
import PyProof.ZipIter
import PyProof.FactsAll.range_2
import KE.KRevIter
import PyProof.AssignAttr
import OpenK.KLine
import Wide.All
import OpenK.AllK
import Wide.FinOn
import PyProof.StrLawsTight
import Lean
import PySem.Challenge.RW_uf040004_14
set_option Elab.async false
set_option autoImplicit false
set_option linter.all false
set_option genSizeOf false
namespace Mine
open PySem
noncomputable section
inductive V where
  | none
  | bool (b:Bool)
  | int (i:Int)
  | str (s:Str)
  | tup (vs:List V)
  | ref (n:Nat)
  | rng (a b c:Int)
  | scr (ns:List Int)
  | lst (vs:List V)
noncomputable instance:DecidableEq V:=fun a b=>Classical.propDecidable (a=b)
noncomputable abbrev Key:=List Int×Int
inductive O where
  | list (vs:List V)
  | inst (c:String) (d:Nat)
  | ns (fs:List (String×V))
  | keys (ks:List Int)
  | tab (xs:List ((List Int×Int)×V)) (ep:Nat)
  | own
noncomputable abbrev Hp:=List O
noncomputable abbrev Rho:=List (String×V)
inductive R (α:Type) where
  | ok (a:α) (H:Hp)
  | raise (c:String) (H:Hp)
  | stuck
noncomputable def R.bind {α β:Type}:R α->(α->Hp->R β)->R β
  | .ok a H,f=>f a H
  | .raise c H,_=>.raise c H
  | .stuck,_=>.stuck
@[simp] theorem R.bind_ok {α β:Type} (a:α) (H:Hp) (f:α->Hp->R β):(R.ok a H).bind f=f a H:=rfl
@[simp] theorem R.bind_raise {α β:Type} (c:String) (H:Hp) (f:α->Hp->R β):(R.raise c H:R α).bind f=.raise c H:=rfl
@[simp] theorem R.bind_stuck {α β:Type} (f:α->Hp->R β):(R.stuck:R α).bind f=.stuck:=rfl
inductive RS where
  | next (r:Rho) (H:Hp)
  | cont (r:Rho) (H:Hp)
  | ret (v:V) (H:Hp)
  | raise (c:String) (r:Rho) (H:Hp)
  | stuck
inductive Op | add | sub | mul | fdiv | mod | pow
  deriving DecidableEq
inductive Cm | eq | ne | lt | le | gt | isIn | notIn | is | isNot
  deriving DecidableEq
set_option genInjectivity false in
inductive E where
  | var (x:String)
  | glob (x:String)
  | con (c:Const)
  | bin (op:Op) (l r:E)
  | neg (e:E)
  | not (e:E)
  | bo (k:Bool) (es:List E)
  | cmp (l:E) (op:Cm) (r:E)
  | cmp2 (l:E) (op:Cm) (m:E) (op':Cm) (r:E)
  | call (f:String) (args:List E)
  | isinst (e:E) (T:String)
  | meth (o:E) (m:String) (args:List E)
  | attr (o:E) (a:String)
  | idx (o i:E)
  | slice (o lo hi:E)
  | list (es:List E)
  | tup (es:List E)
  | menu (es:List E) (i:E)
  | comp0 (elt:E) (x:String) (it:E)
  | comp (elt:E) (x:String) (it:E) (l:E) (op:Cm) (r:E)
  | dict (k:Bool)
  | fstr (ps:List (Bool×String))
  | ite (l:E) (op:Cm) (r:E) (a b:E)
noncomputable abbrev E.none:E:=.con .none
noncomputable abbrev E.bool (b:Bool):E:=.con (.bool b)
noncomputable abbrev E.int (i:Int):E:=.con (.int i)
noncomputable abbrev E.str (s:String):E:=.con (.str (Str.ofString s))
noncomputable abbrev E.and (es:List E):E:=.bo true es
noncomputable abbrev E.or (es:List E):E:=.bo false es
set_option genInjectivity false in
inductive S where
  | asg (x:String) (e:E)
  | unpack (xs:List String) (e:E)
  | setattr (o:E) (a:String) (e:E)
  | ret (e:E)
  | iff (t:E) (a b:List S)
  | for1 (x:String) (e:E) (b:List S)
  | forR (x:String) (e:E) (b:List S)
  | forT (xs:List String) (e:E) (b:List S)
  | forZ (xs:List String) (l t:E) (b:List S)
  | whil (t:E) (b:List S)
  | setidx (o i e:E)
  | cont
  | expr (e:E)
  | raise (c:String)
  | tryE (b:List S) (hs:List (String×E))
noncomputable def line:Nat:=4194304
noncomputable def optR {α β:Type} (o:Option α) (f:α->R β):R β:=match o with
  | some a=>f a
  | Option.none=>.stuck
noncomputable def ifR {β:Type} (c:Prop) [Decidable c] (r:R β):R β:=if c then r else .stuck
theorem optR_of {α β:Type} {o:Option α} {a:α} {f:α->R β} (h:o=some a):optR o f=f a:=h▸rfl
theorem ifR_of {β:Type} {c:Prop} [Decidable c] {r:R β} (h:c):ifR c r=r:=if_pos h
noncomputable def new (o:O) (H:Hp):R V:=.ok (.ref H.length) (H++[o])
noncomputable def place (i:Int) (n:Nat):Option Nat :=
  if 0<=i then (if i < n then some i.toNat else none) else (if -(n:Int)<=i then some (i+n).toNat else none)
noncomputable def refAt:V->Option Nat
  | .ref n=>some n
  | _=>Option.none
noncomputable def listO:O->Option (List V)
  | .list xs=>some xs
  | _=>Option.none
noncomputable def keysO:O->Option (List Int)
  | .keys ks=>some ks
  | _=>Option.none
noncomputable def tabO:O->Option (List (Key×V)×Nat)
  | .tab xs ep=>some (xs,ep)
  | _=>Option.none
noncomputable def listAt (v:V) (H:Hp):Option (List V):=(refAt v).bind fun n=>(H[n]?).bind listO
noncomputable def flatD:V->Option PyData
  | .none=>some .none
  | .bool b=>some (.bool b)
  | .int i=>some (.int i)
  | .str s=>some (.str s)
  | _=>Option.none
noncomputable def snap:Nat->Hp->V->Option PyData
  | 0,_,v=>flatD v
  | n+1,H,v=>match v with
    | .tup vs=>(vs.mapM (snap n H)).map .tuple
    | .ref k=>(listAt (.ref k) H).bind fun vs=>(vs.mapM (snap n H)).map .list
    | v=>flatD v
noncomputable def eqData (H:Hp) (a b:V):Option Bool:=do
  let x <- snap 8 H a
  let y <- snap 8 H b
  return PyData.eqv x y
noncomputable def eqV (H:Hp) (a b:V):Option Bool:=eqData H a b
noncomputable def intOp (op:Op) (x y:Int):Option Int:=match op with
  | .add=>some (x+y)
  | .sub=>some (x - y)
  | .mul=>if x.natAbs < 2 ^ 64\/y.natAbs < 2 ^ 64 then some (x * y) else Option.none
  | .fdiv=>if y≠0/\y.natAbs < 1073741824 then some (x.fdiv y) else Option.none
  | .mod=>if y≠0 then some (x.fmod y) else Option.none
  | .pow=>if 0<=x/\x<=10/\0<=y/\y<=100 then some (x ^ y.toNat) else Option.none
noncomputable def intAt:V->Option Int
  | .int i=>some i
  | _=>Option.none
noncomputable def strAt:V->Option Str
  | .str s=>some s
  | _=>Option.none
noncomputable def tupAt:V->Option (List V)
  | .tup vs=>some vs
  | _=>Option.none
noncomputable def addL (a b:V) (H:Hp):R V:=optR (listAt a H) fun x=>optR (listAt b H) fun y=>ifR (x.length+y.length<=line) (new (.list (x++y)) H)
noncomputable def bin (op:Op) (a b:V) (H:Hp):R V:=match intAt a with
  | some x=>optR (intAt b) fun y=>optR (intOp op x y) fun z=>.ok (.int z) H
  | Option.none=>ifR (op=.add) (addL a b H)
noncomputable def keysAt (v:V) (H:Hp):Option (List Int):=(refAt v).bind fun n=>(H[n]?).bind keysO
noncomputable def tabAt (v:V) (H:Hp):Option (List (Key×V)×Nat):=(refAt v).bind fun n=>(H[n]?).bind tabO
noncomputable def intsV (vs:List V):Option (List Int):=vs.mapM intAt
noncomputable def keyAt:V->Option Key
  | .tup [a,b]=>((tupAt a).bind intsV).bind fun ks=>(intAt b).map fun i=>(ks,i)
  | _=>Option.none
noncomputable def keyV (k:Key):V:=.tup [.tup (k.1.map .int),.int k.2]
noncomputable def inKeys (H:Hp) (a b:V):Option Bool:=match keysAt b H with
  | some ks=>(intAt a).map fun k=>ks.contains k
  | Option.none=>(tabAt b H).bind fun p=>(keyAt a).map fun k=>(p.1.map (·.1)).contains k
noncomputable def inTup (H:Hp) (x:V) (vs:List V):Option Bool:=(snap 8 H x).bind fun d=>(vs.mapM (snap 8 H)).map fun ys=>ys.any fun y=>PyData.eqv y d
noncomputable def isIn (H:Hp) (a b:V):Option Bool :=
  match b with
  | .tup vs=>inTup H a vs
  | .str y=>(strAt a).map fun x=>!(Builtin.Str.occurrences y x 0 y.length 1).isEmpty
  | b=>(match listAt b H with
    | some vs=>inTup H a vs
    | Option.none=>inKeys H a b)
noncomputable def isNoneV:V->Bool
  | .none=>true
  | _=>false
noncomputable def cmpI (op:Cm) (x y:Int):Option Bool:=match op with
  | .lt=>some (decide (x < y))
  | .le=>some (decide (x<=y))
  | .gt=>some (decide (y < x))
  | _=>Option.none
noncomputable def eqT (H:Hp) (a b:V):Option Bool:=match tabAt a H with
  | some p=>(tabAt b H).bind fun q=>if p.1=q.1/\(p.1.all fun x=>(snap 8 H x.2).isSome)=true then some true else Option.none
  | Option.none=>eqV H a b
noncomputable def cmp (op:Cm) (a b:V) (H:Hp):Option Bool :=
  match op with
  | .eq=>eqV H a b
  | .ne=>(eqT H a b).map (!·)
  | .isIn=>isIn H a b
  | .notIn=>(isIn H a b).map (!·)
  | .is=>if isNoneV b then some (isNoneV a) else Option.none
  | .isNot=>if isNoneV b then some (!isNoneV a) else Option.none
  | op=>(intAt a).bind fun x=>(intAt b).bind fun y=>cmpI op x y
noncomputable def truth (v:V):Option Bool :=
  match v with
  | .bool b=>some b
  | _=>Option.none
noncomputable def rangeL (a b c:Int):List Int:=(List.range b.toNat).map fun (k:Nat)=>a+c * k
noncomputable def rngOk (a b c:Int):Bool:=decide (a=0)&&decide (c=1)&&decide (0<=b)&&decide (b<=500000)
noncomputable def signs (x:Str):List V:=x.cps.toList.map fun c=>.str ⟨#[c]⟩
noncomputable def items (H:Hp):V->Option (List V)
  | .tup vs=>some vs
  | .str x=>if x.cps.all (· < 128)&&decide (x.length<=line) then some (signs x) else Option.none
  | .rng a b c=>if rngOk a b c then some ((rangeL a b c).map .int) else Option.none
  | v=>(match listAt v H with
    | some xs=>some xs
    | Option.none=>(tabAt v H).map fun p=>p.1.map fun x=>keyV x.1)
noncomputable def arg1 (f:V->Hp->R V) (vs:List V) (H:Hp):R V:=match vs with
  | [v]=>f v H
  | _=>.stuck
noncomputable def arg2 (f:Int->Int->Int) (vs:List V) (H:Hp):R V:=match vs with
  | [a,b]=>optR (intAt a) fun x=>optR (intAt b) fun y=>.ok (.int (f x y)) H
  | _=>.stuck
noncomputable def lenV (v:V) (H:Hp):Option Nat:=match v with
  | .scr xs=>some xs.length
  | .tup xs=>some xs.length
  | .str x=>if x.length<=line then some x.length else Option.none
  | v=>(match listAt v H with
    | some xs=>some xs.length
    | Option.none=>(tabAt v H).map fun p=>p.1.length)
noncomputable def biLen (v:V) (H:Hp):R V:=optR (lenV v H) fun n=>.ok (.int n) H
noncomputable def biAbs (v:V) (H:Hp):R V:=optR (intAt v) fun i=>.ok (.int i.natAbs) H
noncomputable def biRange (v:V) (H:Hp):R V:=optR (intAt v) fun a=>.ok (.rng 0 a 1) H
noncomputable def rngV (v:V):Option (Int×Int×Int):=match v with
  | .rng a b c=>some (a,b,c)
  | _=>Option.none
noncomputable def seqV (v:V) (H:Hp):Option (List V):=match v with
  | .tup xs=>some xs
  | v=>listAt v H
noncomputable def biList (v:V) (H:Hp):R V:=match seqV v H with
  | some xs=>new (.list xs) H
  | Option.none=>optR (rngV v) fun p=>ifR (rngOk p.1 p.2.1 p.2.2=true) (new (.list ((rangeL p.1 p.2.1 p.2.2).map .int)) H)
noncomputable def biTuple (v:V) (H:Hp):R V:=optR (listAt v H) fun xs=>.ok (.tup xs) H
noncomputable def biSorted (v:V) (H:Hp):R V:=optR ((listAt v H).bind intsV) fun ns=>ifR (ns.length < 64) (new (.list ((ns.mergeSort fun a b=>decide (a<=b)).map .int)) H)
noncomputable def boolAt:V->Option Bool
  | .bool b=>some b
  | _=>Option.none
noncomputable def biInt (v:V) (H:Hp):R V:=optR (strAt v) fun x=>ifR (x.length<=640) (optR (intText? x) fun n=>.ok (.int n) H)
noncomputable def bools (vs:List V):Option (List Bool):=vs.mapM boolAt
noncomputable def biAll (v:V) (H:Hp):R V:=optR ((listAt v H).bind bools) fun bs=>.ok (.bool (bs.all id)) H
noncomputable def biFns:List (String×(List V->Hp->R V)):=[("len",arg1 biLen),("min",arg2 fun x y=>if y < x then y else x),("max",arg2 fun x y=>if x < y then y else x),("abs",arg1 biAbs),("range",arg1 biRange),("list",arg1 biList),("tuple",arg1 biTuple),("sorted",arg1 biSorted),("int",arg1 biInt),("all",arg1 biAll)]
noncomputable def builtin (f:String) (vs:List V) (H:Hp):R V:=optR (biFns.lookup f) fun g=>g vs H
noncomputable def kindV (v:V) (H:Hp):Option String:=match v with
  | .none=>some "NoneType"
  | .int _=>some "int"
  | .str _=>some "str"
  | .tup _=>some "tuple"
  | v=>(match listAt v H with
    | some _=>some "list"
    | Option.none=>(tabAt v H).map fun _=>"dict")
noncomputable def lstR (o:V) (H:Hp) (f:Nat->List V->R V):R V:=optR (refAt o) fun n=>optR (listAt (.ref n) H) (f n)
noncomputable def tabR (o:V) (H:Hp) (f:Nat->List (Key×V)×Nat->R V):R V:=optR (refAt o) fun n=>optR (tabAt (.ref n) H) (f n)
noncomputable def mAppend (o v:V) (H:Hp):R V:=lstR o H fun n xs=>ifR (xs.length < line) (.ok .none (H.set n (.list (xs++[v]))))
noncomputable def tabGet (xs:List (Key×V)) (k:Key):Option V:=(xs.find? fun x=>decide (x.1=k)).map (·.2)
noncomputable def tabPut (xs:List (Key×V)) (k:Key) (v:V):List (Key×V):=if (tabGet xs k).isSome then xs.map fun x=>if x.1=k then (x.1,v) else x else xs++[(k,v)]
noncomputable def tabEp (xs:List (Key×V)) (k:Key) (ep:Nat):Nat:=if (tabGet xs k).isSome then ep else ep+1
noncomputable def tabMerge (xs ys:List (Key×V)):List (Key×V):=ys.foldl (fun acc y=>tabPut acc y.1 y.2) xs
noncomputable def tabMEp (xs ys:List (Key×V)) (ep:Nat):Nat:=if xs.isEmpty then (if ys.isEmpty then ep else ep+1) else ep+((tabMerge xs ys).length - xs.length)
noncomputable def firstOk (ys:List (Key×V)):Bool:=ys.all fun y=>decide (y.1.1=[y.1.2])&&(decide (0<=y.1.2)&&decide (y.1.2 < 7))
noncomputable def mUpdate (o v:V) (H:Hp):R V:=tabR o H fun n p=>tabR v H fun m q=>ifR (n≠m/\(p.1.isEmpty=false\/firstOk q.1=true)/\p.1.length+q.1.length<=100000) (.ok .none (H.set n (.tab (tabMerge p.1 q.1) (tabMEp p.1 q.1 p.2))))
noncomputable def mExtend (o v:V) (H:Hp):R V:=lstR o H fun n xs=>optR (listAt v H) fun ys=>ifR (xs.length+ys.length<=line) (.ok .none (H.set n (.list (xs++ys))))
noncomputable def mClearL (o:V) (H:Hp):R V:=lstR o H fun n _=>.ok .none (H.set n (.list []))
noncomputable def mClear (o:V) (H:Hp):R V:=tabR o H fun n p=>.ok .none (H.set n (.tab [] (p.2+1)))
noncomputable def mSplit (o v:V) (H:Hp):R V:=optR (strAt o) fun x=>optR (strAt v) fun y=>ifR (x.length<=line/\y.length≠0/\(Txt.split x y).length<=line/\(Txt.split x y).all PyData.strOk=true) (new (.list ((Txt.split x y).map .str)) H)
noncomputable def textsV (vs:List V):Option (List Str):=vs.mapM strAt
noncomputable def mJoin (o v:V) (H:Hp):R V:=optR (strAt o) fun x=>optR ((listAt v H).bind textsV) fun ys=>ifR (JoinOk x ys=true/\PyData.strOk (Txt.join x ys)=true) (.ok (.str (Txt.join x ys)) H)
noncomputable def me1 (f:V->V->Hp->R V) (o:V) (vs:List V) (H:Hp):R V:=arg1 (f o) vs H
noncomputable def me0 (f:V->Hp->R V) (o:V) (vs:List V) (H:Hp):R V:=match vs with
  | []=>f o H
  | _=>.stuck
noncomputable def mTable:List ((String×String)×(V->List V->Hp->R V)×String):=[(("list","append"),me1 mAppend,"list.append"),(("list","extend"),me1 mExtend,"list.extend"),(("list","clear"),me0 mClearL,"list.clear"),(("dict","update"),me1 mUpdate,"dict.update"),(("dict","clear"),me0 mClear,"dict.clear"),(("str","split"),me1 mSplit,"str.split"),(("str","join"),me1 mJoin,"str.join")]
noncomputable def methK (o:V) (m:String) (H:Hp):Option ((V->List V->Hp->R V)×String):=(kindV o H).bind fun k=>mTable.lookup (k,m)
noncomputable def itemAt (xs:List V) (k:Int) (H:Hp):R V:=optR ((place k xs.length).bind (xs[·]?)) fun v=>.ok v H
noncomputable def rowV (o:V) (H:Hp):Option (List V):=match o with
  | .tup xs=>some xs
  | .scr xs=>some (xs.map .int)
  | .lst xs=>some xs
  | .str x=>if x.length<=line then some (signs x) else Option.none
  | o=>listAt o H
noncomputable def index (o i:V) (H:Hp):R V :=
  match intAt i with
  | some k=>optR (rowV o H) fun xs=>itemAt xs k H
  | Option.none=>optR (tabAt o H) fun p=>optR (keyAt i) fun k=>optR (tabGet p.1 k) fun v=>.ok v H
noncomputable def intO:V->Option (Option Int)
  | .none=>some Option.none
  | .int i=>some (some i)
  | _=>Option.none
noncomputable def clipV (n:Nat) (i:Int):Nat:=(max 0 (min (if i < 0 then i+n else i) n)).toNat
noncomputable def cutL (xs:List V) (a b:Option Int):List V:=(xs.drop (a.elim 0 (clipV xs.length))).take (b.elim xs.length (clipV xs.length) - a.elim 0 (clipV xs.length))
noncomputable def sliceV (o l u:V) (H:Hp):R V:=optR (listAt o H) fun xs=>optR (intO l) fun a=>optR (intO u) fun b=>new (.list (cutL xs a b)) H
noncomputable def attrName (a:String):Bool:=a=="road"||a=="home"||a=="start"||a=="stops"
noncomputable def instO:O->Option Nat
  | .inst _ d=>some d
  | _=>Option.none
noncomputable def nsO:O->Option (List (String×V))
  | .ns fs=>some fs
  | _=>Option.none
noncomputable def fieldsAt (o:V) (H:Hp):Option (Nat×List (String×V)):=(refAt o).bind fun n=>(H[n]?).bind fun x=>(instO x).bind fun d=>(H[d]?).bind fun y=>(nsO y).map fun fs=>(d,fs)
noncomputable def attrV (o:V) (a:String) (H:Hp):R V:=optR (fieldsAt o H) fun p=>optR (p.2.lookup a) fun v=>.ok v H
noncomputable def setL (x:String) (v:V):Rho->Rho
  | []=>[(x,v)]
  | (y,w)::r=>if y=x then (y,v)::r else (y,w)::setL x v r
noncomputable def setA (o:V) (a:String) (v:V) (H:Hp):R Unit:=optR (fieldsAt o H) fun p=>ifR (p.2.length<=20) (.ok () (H.set p.1 (.ns (setL a v p.2))))
noncomputable def setK (o i v:V) (H:Hp):R Unit:=optR (refAt o) fun n=>match keysAt (.ref n) H with
  | some ks=>optR (intAt i) fun k=>ifR (ks.length < line) (.ok () (H.set n (.keys (if ks.contains k then ks else ks++[k]))))
  | Option.none=>(match tabAt (.ref n) H with
    | some p=>optR (keyAt i) fun k=>ifR (p.1.length < 100000) (.ok () (H.set n (.tab (tabPut p.1 k v) (tabEp p.1 k p.2))))
    | Option.none=>optR (listAt (.ref n) H) fun xs=>optR (intAt i) fun k=>ifR (0<=k/\k < xs.length) (.ok () (H.set n (.list (xs.set k.toNat v)))))
noncomputable def excIs (c T:String):Bool:=c==T||T=="RouteError"||T=="ValueError"
noncomputable def exName (T:String):Bool:=T=="RouteError"||T=="BadRoad"||T=="OffRoad"||T=="BadTime"||T=="TooMany"||T=="BadOrder"||T=="Missed"||T=="NoDay"||T=="ValueError"
noncomputable def bTypes:List String:=["int","bool","tuple","list","dict","str"]
noncomputable def isinst (v:V) (T:String) (H:Hp):Option Bool:=if bTypes.contains T then (kindV v H).map fun k=>k==T else Option.none
noncomputable def fmtS:V->Option Str
  | .int i=>if i.natAbs < 10 ^ 30 then some (Str.ofString (toString i)) else Option.none
  | .str x=>if x.length<=line then some x else Option.none
  | _=>Option.none
noncomputable def partS (ρ:Rho) (p:Bool×String):Option Str:=if p.1 then (ρ.lookup p.2).bind fmtS else some (Str.ofString p.2)
noncomputable def catS (ρ:Rho):List (Bool×String)->Str->Option Str
  | [],x=>some x
  | p::ps,x=>(partS ρ p).bind fun y=>if (x++y).length<=line then catS ρ ps (x++y) else Option.none
noncomputable def constV:Const->Option V
  | .none=>some .none
  | .bool b=>some (.bool b)
  | .int i=>some (.int i)
  | .str x=>some (.str x)
  | _=>Option.none
set_option genInjectivity false in
structure Fn where
  call:String->List V->Hp->R V
  const:String->Option V
  hd:Bool:=false
noncomputable def turns (f:V->Hp->R Unit) (chk:Hp->Bool):List V->Hp->R Unit
  | [],H=>ifR (chk H=true) (.ok () H)
  | v::vs,H=>ifR (chk H=true) (match f v H with
    | .ok _ H1=>turns f chk vs H1
    | _=>.stuck)
noncomputable def turnF (g:V->Hp->R Bool) (f:V->Hp->R V) (k:Nat) (v:V) (H:Hp):R Unit:=(g v H).bind fun t H3=>if t then (f v H3).bind fun w H4=>(mAppend (.ref k) w H4).bind fun _ H5=>.ok () H5 else .ok () H3
noncomputable def eqO (a b:O):Bool:=match a with
  | .list xs=>(match b with | .list ys=>decide (xs=ys) | _=>false)
  | .tab xs e=>(match b with | .tab ys f=>decide (xs=ys)&&e==f | _=>false)
  | _=>false
noncomputable def sameO (o:V) (H:Hp) (H':Hp):Bool:=match o with
  | .ref n=>(match H[n]? with
    | some a=>(match H'[n]? with | some b=>eqO a b | Option.none=>false)
    | Option.none=>false)
  | _=>true
noncomputable def truthR (x:R V):R Bool:=x.bind fun v H=>optR (truth v) fun b=>.ok b H
noncomputable def cmpR (op:Cm) (x:R V) (y:Hp->R V):R Bool:=x.bind fun a H1=>(y H1).bind fun b H2=>optR (cmp op a b H2) fun t=>.ok t H2
noncomputable def cmpV (op:Cm) (x:R V) (y:Hp->R V):R V:=x.bind fun a H1=>(y H1).bind fun b H2=>optR (cmp op a b H2) fun t=>.ok (.bool t) H2
noncomputable def compV (g:V->Hp->R Bool) (f:V->Hp->R V) (v:V) (H1:Hp):R V:=optR (items H1 v) fun xs=>(turns (turnF g f H1.length) (sameO v H1) xs (H1++[.list []])).bind fun _ H5=>.ok (.ref H1.length) H5
noncomputable def hdR {α:Type} (Γ:Fn) (r:R α):R α:=if Γ.hd then .stuck else r
noncomputable def callF (Γ:Fn) (f:String) (vs:List V) (H:Hp):R V:=hdR Γ <| match builtin f vs H with
  | .stuck=>Γ.call f vs H
  | r=>r
noncomputable def negV (v:V) (H:Hp):R V:=optR (intAt v) fun i=>.ok (.int (-i)) H
mutual
noncomputable def evE (Γ:Fn) (ρ:Rho):E->Hp->R V
  | .var x,H=>optR (ρ.lookup x) fun v=>.ok v H
  | .glob x,H=>optR (Γ.const x) fun v=>.ok v H
  | .con c,H=>optR (constV c) fun v=>.ok v H
  | .bin op l r,H=>(evE Γ ρ l H).bind fun a H1=>(evE Γ ρ r H1).bind fun b H2=>bin op a b H2
  | .neg e,H=>(evE Γ ρ e H).bind fun v H1=>negV v H1
  | .not e,H=>(truthR (evE Γ ρ e H)).bind fun b H1=>.ok (.bool (!b)) H1
  | .bo k es,H=>evBo Γ ρ k es H
  | .cmp l op r,H=>cmpV op (evE Γ ρ l H) fun H1=>evE Γ ρ r H1
  | .cmp2 l op m op' r,H=>(evE Γ ρ l H).bind fun a H1=>(evE Γ ρ m H1).bind fun b H2=>optR (cmp op a b H2) fun t=>if t then (evE Γ ρ r H2).bind fun c H4=>optR (cmp op' b c H4) fun t=>.ok (.bool t) H4 else .ok (.bool false) H2
  | .call f args,H=>(evEs Γ ρ args H).bind fun vs H1=>callF Γ f vs H1
  | .isinst e T,H=>(evE Γ ρ e H).bind fun v H1=>optR (isinst v T H1) fun b=>.ok (.bool b) H1
  | .meth o m args,H=>(evE Γ ρ o H).bind fun v H1=>optR (methK v m H1) fun g=>(evEs Γ ρ args H1).bind fun vs H2=>g.1 v vs H2
  | .attr o a,H=>(evE Γ ρ o H).bind fun v H1=>attrV v a H1
  | .idx o i,H=>(evE Γ ρ o H).bind fun v H1=>(evE Γ ρ i H1).bind fun k H2=>index v k H2
  | .slice o lo hi,H=>(evE Γ ρ o H).bind fun v H1=>(evE Γ ρ lo H1).bind fun l H2=>(evE Γ ρ hi H2).bind fun u H3=>sliceV v l u H3
  | .list es,H=>(evEs Γ ρ es H).bind fun vs H1=>new (.list vs) H1
  | .tup es,H=>(evEs Γ ρ es H).bind fun vs H1=>.ok (.tup vs) H1
  | .menu es i,H=>(evEs Γ ρ es H).bind fun vs H1=>(evE Γ ρ i H1).bind fun k H2=>index (.lst vs) k H2
  | .comp0 elt x it,H=>hdR Γ <| (evE Γ ρ it H).bind fun v H1=>compV (fun _ H2=>.ok true H2) (fun y H2=>evE Γ ((x,y)::ρ) elt H2) v H1
  | .comp elt x it l op r,H=>hdR Γ <| (evE Γ ρ it H).bind fun v H1=>compV (fun y H2=>cmpR op (evE Γ ((x,y)::ρ) l H2) fun H3=>evE Γ ((x,y)::ρ) r H3) (fun y H2=>evE Γ ((x,y)::ρ) elt H2) v H1
  | .dict k,H=>new (if k then .keys [] else .tab [] 0) H
  | .fstr ps,H=>optR (catS ρ ps Str.empty) fun x=>.ok (.str x) H
  | .ite l op r a b,H=>(cmpR op (evE Γ ρ l H) fun H1=>evE Γ ρ r H1).bind fun t H1=>if t then evE Γ ρ a H1 else evE Γ ρ b H1
noncomputable def evBo (Γ:Fn) (ρ:Rho) (k:Bool):List E->Hp->R V
  | [],_=>.stuck
  | [e],H=>evE Γ ρ e H
  | e::es,H=>(truthR (evE Γ ρ e H)).bind fun t H2=>if t=k then evBo Γ ρ k es H2 else .ok (.bool (!k)) H2
noncomputable def evEs (Γ:Fn) (ρ:Rho):List E->Hp->R (List V)
  | [],H=>.ok [] H
  | e::es,H=>(evE Γ ρ e H).bind fun v H1=>(evEs Γ ρ es H1).bind fun vs H2=>.ok (v::vs) H2
end
theorem evE_var (Γ:Fn) (ρ:Rho) (x:String) (H:Hp):evE Γ ρ (.var x) H=(optR (ρ.lookup x) fun v=>.ok v H):=rfl
theorem evE_glob (Γ:Fn) (ρ:Rho) (x:String) (H:Hp):evE Γ ρ (.glob x) H=(optR (Γ.const x) fun v=>.ok v H):=rfl
theorem evE_con (Γ:Fn) (ρ:Rho) (c:Const) (H:Hp):evE Γ ρ (.con c) H=(optR (constV c) fun v=>.ok v H):=rfl
theorem evE_bin (Γ:Fn) (ρ:Rho) (op:Op) (l r:E) (H:Hp):evE Γ ρ (.bin op l r) H=((evE Γ ρ l H).bind fun a H1=>(evE Γ ρ r H1).bind fun b H2=>bin op a b H2):=rfl
theorem evE_neg (Γ:Fn) (ρ:Rho) (e:E) (H:Hp):evE Γ ρ (.neg e) H=((evE Γ ρ e H).bind fun v H1=>negV v H1):=rfl
theorem evE_not (Γ:Fn) (ρ:Rho) (e:E) (H:Hp):evE Γ ρ (.not e) H=((truthR (evE Γ ρ e H)).bind fun b H1=>.ok (.bool (!b)) H1):=rfl
theorem evE_bo (Γ:Fn) (ρ:Rho) (k:Bool) (es:List E) (H:Hp):evE Γ ρ (.bo k es) H=(evBo Γ ρ k es H):=rfl
theorem evE_cmp (Γ:Fn) (ρ:Rho) (l:E) (op:Cm) (r:E) (H:Hp):evE Γ ρ (.cmp l op r) H=(cmpV op (evE Γ ρ l H) fun H1=>evE Γ ρ r H1):=rfl
theorem evE_cmp2 (Γ:Fn) (ρ:Rho) (l:E) (op:Cm) (m:E) (op':Cm) (r:E) (H:Hp):evE Γ ρ (.cmp2 l op m op' r) H=((evE Γ ρ l H).bind fun a H1=>(evE Γ ρ m H1).bind fun b H2=>optR (cmp op a b H2) fun t=>if t then (evE Γ ρ r H2).bind fun c H4=>optR (cmp op' b c H4) fun t=>.ok (.bool t) H4 else .ok (.bool false) H2):=rfl
theorem evE_call (Γ:Fn) (ρ:Rho) (f:String) (args:List E) (H:Hp):evE Γ ρ (.call f args) H=((evEs Γ ρ args H).bind fun vs H1=>callF Γ f vs H1):=rfl
theorem evE_isinst (Γ:Fn) (ρ:Rho) (e:E) (T:String) (H:Hp):evE Γ ρ (.isinst e T) H=((evE Γ ρ e H).bind fun v H1=>optR (isinst v T H1) fun b=>.ok (.bool b) H1):=rfl
theorem evE_meth (Γ:Fn) (ρ:Rho) (o:E) (m:String) (args:List E) (H:Hp):evE Γ ρ (.meth o m args) H=((evE Γ ρ o H).bind fun v H1=>optR (methK v m H1) fun g=>(evEs Γ ρ args H1).bind fun vs H2=>g.1 v vs H2):=rfl
theorem evE_attr (Γ:Fn) (ρ:Rho) (o:E) (a:String) (H:Hp):evE Γ ρ (.attr o a) H=((evE Γ ρ o H).bind fun v H1=>attrV v a H1):=rfl
theorem evE_idx (Γ:Fn) (ρ:Rho) (o i:E) (H:Hp):evE Γ ρ (.idx o i) H=((evE Γ ρ o H).bind fun v H1=>(evE Γ ρ i H1).bind fun k H2=>index v k H2):=rfl
theorem evE_slice (Γ:Fn) (ρ:Rho) (o lo hi:E) (H:Hp):evE Γ ρ (.slice o lo hi) H=((evE Γ ρ o H).bind fun v H1=>(evE Γ ρ lo H1).bind fun l H2=>(evE Γ ρ hi H2).bind fun u H3=>sliceV v l u H3):=rfl
theorem evE_list (Γ:Fn) (ρ:Rho) (es:List E) (H:Hp):evE Γ ρ (.list es) H=((evEs Γ ρ es H).bind fun vs H1=>new (.list vs) H1):=rfl
theorem evE_tup (Γ:Fn) (ρ:Rho) (es:List E) (H:Hp):evE Γ ρ (.tup es) H=((evEs Γ ρ es H).bind fun vs H1=>.ok (.tup vs) H1):=rfl
theorem evE_menu (Γ:Fn) (ρ:Rho) (es:List E) (i:E) (H:Hp):evE Γ ρ (.menu es i) H=((evEs Γ ρ es H).bind fun vs H1=>(evE Γ ρ i H1).bind fun k H2=>index (.lst vs) k H2):=rfl
theorem evE_comp0 (Γ:Fn) (ρ:Rho) (elt:E) (x:String) (it:E) (H:Hp):evE Γ ρ (.comp0 elt x it) H=(hdR Γ <| (evE Γ ρ it H).bind fun v H1=>compV (fun _ H2=>.ok true H2) (fun y H2=>evE Γ ((x,y)::ρ) elt H2) v H1):=rfl
theorem evE_comp (Γ:Fn) (ρ:Rho) (elt:E) (x:String) (it:E) (l:E) (op:Cm) (r:E) (H:Hp):evE Γ ρ (.comp elt x it l op r) H=(hdR Γ <| (evE Γ ρ it H).bind fun v H1=>compV (fun y H2=>cmpR op (evE Γ ((x,y)::ρ) l H2) fun H3=>evE Γ ((x,y)::ρ) r H3) (fun y H2=>evE Γ ((x,y)::ρ) elt H2) v H1):=rfl
theorem evE_dict (Γ:Fn) (ρ:Rho) (k:Bool) (H:Hp):evE Γ ρ (.dict k) H=(new (if k then .keys [] else .tab [] 0) H):=rfl
theorem evE_fstr (Γ:Fn) (ρ:Rho) (ps:List (Bool×String)) (H:Hp):evE Γ ρ (.fstr ps) H=(optR (catS ρ ps Str.empty) fun x=>.ok (.str x) H):=rfl
theorem evE_ite (Γ:Fn) (ρ:Rho) (l:E) (op:Cm) (r a b:E) (H:Hp):evE Γ ρ (.ite l op r a b) H=((cmpR op (evE Γ ρ l H) fun H1=>evE Γ ρ r H1).bind fun t H1=>if t then evE Γ ρ a H1 else evE Γ ρ b H1):=rfl
theorem evBo_one (Γ:Fn) (ρ:Rho) (k:Bool) (e:E) (H:Hp):evBo Γ ρ k [e] H=evE Γ ρ e H:=rfl
theorem evBo_cons (Γ:Fn) (ρ:Rho) (k:Bool) (e e2:E) (es:List E) (H:Hp):evBo Γ ρ k (e::e2::es) H=(truthR (evE Γ ρ e H)).bind fun t H2=>if t=k then evBo Γ ρ k (e2::es) H2 else .ok (.bool (!k)) H2:=rfl
theorem evEs_nil (Γ:Fn) (ρ:Rho) (H:Hp):evEs Γ ρ [] H=.ok [] H:=rfl
theorem evEs_cons (Γ:Fn) (ρ:Rho) (e:E) (es:List E) (H:Hp):evEs Γ ρ (e::es) H=(evE Γ ρ e H).bind fun v H1=>(evEs Γ ρ es H1).bind fun vs H2=>.ok (v::vs) H2:=rfl
noncomputable def evT (Γ:Fn) (ρ:Rho) (e:E) (H:Hp):R Bool:=truthR (evE Γ ρ e H)
noncomputable def setAll:List String->List V->Rho->Option Rho
  | [],[],ρ=>some ρ
  | x::xs,v::vs,ρ=>setAll xs vs (setL x v ρ)
  | _,_,_=>Option.none
noncomputable def optS {α:Type} (o:Option α) (f:α->RS):RS:=match o with
  | some a=>f a
  | Option.none=>.stuck
noncomputable def ifS (c:Prop) [Decidable c] (r:RS):RS:=if c then r else .stuck
noncomputable def hdS (Γ:Fn) (r:RS):RS:=if Γ.hd then .stuck else r
theorem optS_of {α:Type} {o:Option α} {a:α} {f:α->RS} (h:o=some a):optS o f=f a:=h▸rfl
theorem ifS_of {c:Prop} [Decidable c] {r:RS} (h:c):ifS c r=r:=if_pos h
theorem hdS_of {Γ:Fn} {r:RS} (h:Γ.hd=false):hdS Γ r=r:=by unfold hdS;rw [h];rfl
theorem hdR_of {α:Type} {Γ:Fn} {r:R α} (h:Γ.hd=false):hdR Γ r=r:=by unfold hdR;rw [h];rfl
noncomputable def RS.bind (r:RS) (k:Rho->Hp->RS):RS:=match r with
  | .next ρ H=>k ρ H
  | .cont ρ H=>.cont ρ H
  | .ret v H=>.ret v H
  | .raise c ρ H=>.raise c ρ H
  | .stuck=>.stuck
noncomputable def RS.loop (r:RS):RS:=match r with
  | .cont ρ H=>.next ρ H
  | r=>r
noncomputable def forL (body:V->Rho->Hp->RS) (chk:Hp->Bool):List V->Rho->Hp->RS
  | [],ρ,H=>if chk H then .next ρ H else .stuck
  | v::vs,ρ,H=>if chk H then (body v ρ H).loop.bind fun ρ1 H1=>forL body chk vs ρ1 H1 else .stuck
theorem forL_nil (body:V->Rho->Hp->RS) (chk:Hp->Bool) (ρ:Rho) (H:Hp):forL body chk [] ρ H=if chk H then .next ρ H else .stuck:=rfl
theorem forL_cons (body:V->Rho->Hp->RS) (chk:Hp->Bool) (v:V) (vs:List V) (ρ:Rho) (H:Hp):forL body chk (v::vs) ρ H=if chk H then (body v ρ H).loop.bind fun ρ1 H1=>forL body chk vs ρ1 H1 else .stuck:=rfl
noncomputable def forV (body:V->Rho->Hp->RS) (v:V) (ρ:Rho) (H:Hp):RS:=optS (items H v) fun xs=>forL body (sameO v H) xs ρ H
noncomputable def forRV (body:V->Rho->Hp->RS) (v:V) (ρ:Rho) (H:Hp):RS:=optS (rngV v) fun p=>ifS (rngOk p.1 p.2.1 p.2.2=true) (forL body (fun _=>true) ((rangeL (p.2.1 - 1) p.2.1 (-1)).map .int) ρ H)
noncomputable def ofR {α:Type} (ρ:Rho) (x:R α) (k:α->Hp->RS):RS :=
  match x with
  | .ok a H=>k a H
  | .raise c H=>.raise c ρ H
  | .stuck=>.stuck
noncomputable def partsV (v:V) (H:Hp):Option (List V):=match v with
  | .tup vs=>some vs
  | v=>listAt v H
noncomputable def unpackV (xs:List String) (v:V) (ρ:Rho) (H:Hp) (k:Rho->RS):RS:=optS (partsV v H) fun vs=>optS (setAll xs vs ρ) k
noncomputable def forVL (body:V->Rho->Hp->RS) (v:V) (ρ:Rho) (H:Hp):RS:=optS (listAt v H) fun _=>forV body v ρ H
noncomputable def isOwn:Option O->Bool
  | some .own=>true
  | _=>false
noncomputable def pairsZ (xs ys:List V):List V:=(xs.zip ys).map fun p=>.tup [p.1,p.2]
noncomputable def forZ (body:V->Rho->Hp->RS) (vs:List V) (ρ:Rho) (H:Hp):RS:=match vs with
  | [v,w]=>optS (listAt v H) fun xs=>optS (tupAt w) fun ys=>ifS (xs.length=ys.length) (forL body (fun H'=>sameO v H H'&&isOwn H'[H.length]?) (pairsZ xs ys) ρ (H++[.own]))
  | _=>.stuck
noncomputable def tryV (r:RS) (k:String->Rho->Hp->RS):RS:=match r with
  | .raise c ρ H=>k c ρ H
  | .cont _ _=>.stuck
  | r=>r
noncomputable def exH (Γ:Fn) (c:String):List (String×E)->Rho->Hp->RS
  | [],ρ,H=>.raise c ρ H
  | (T,e)::r,ρ,H=>if excIs c T then (match evE Γ ρ e H with
    | .ok v H1=>.ret v H1
    | _=>.stuck) else exH Γ c r ρ H
theorem exH_cons (Γ:Fn) (c T:String) (e:E) (r:List (String×E)) (ρ:Rho) (H:Hp):exH Γ c ((T,e)::r) ρ H=if excIs c T then (match evE Γ ρ e H with | .ok v H1=>.ret v H1 | _=>.stuck) else exH Γ c r ρ H:=rfl
noncomputable def noR (r:RS):RS:=match r with
  | .raise _ _ _=>.stuck
  | .cont _ _=>.stuck
  | r=>r
noncomputable def whileL (t:Rho->Hp->R Bool) (b:Rho->Hp->RS):Nat->Rho->Hp->RS
  | 0,_,_=>.stuck
  | n+1,ρ,H=>match t ρ H with
    | .ok c H1=>if c then (noR (b ρ H1)).bind fun ρ1 H2=>whileL t b n ρ1 H2 else .next ρ H1
    | _=>.stuck
mutual
noncomputable def exS (Γ:Fn):S->Rho->Hp->RS
  | .asg x e,ρ,H=>ofR ρ (evE Γ ρ e H) fun v H1=>.next (setL x v ρ) H1
  | .unpack xs e,ρ,H=>hdS Γ <| ofR ρ (evE Γ ρ e H) fun v H1=>unpackV xs v ρ H1 fun ρ1=>.next ρ1 H1
  | .setattr o a e,ρ,H=>ofR ρ (evE Γ ρ e H) fun v H1=>ofR ρ (evE Γ ρ o H1) fun w H2=>ofR ρ (setA w a v H2) fun _ H3=>.next ρ H3
  | .ret e,ρ,H=>ofR ρ (evE Γ ρ e H) fun v H1=>.ret v H1
  | .iff t a b,ρ,H=>ofR ρ (evT Γ ρ t H) fun c H1=>if c then exSs Γ a ρ H1 else exSs Γ b ρ H1
  | .for1 x e b,ρ,H=>hdS Γ <| ofR ρ (evE Γ ρ e H) fun v H1=>forV (fun v ρ1 H2=>exSs Γ b (setL x v ρ1) H2) v ρ H1
  | .forR x e b,ρ,H=>hdS Γ <| ofR ρ (evE Γ ρ e H) fun v H1=>forRV (fun v ρ1 H2=>exSs Γ b (setL x v ρ1) H2) v ρ H1
  | .forT xs e b,ρ,H=>hdS Γ <| ofR ρ (evE Γ ρ e H) fun v H1=>forVL (fun v ρ1 H2=>unpackV xs v ρ1 H2 fun ρ2=>exSs Γ b ρ2 H2) v ρ H1
  | .forZ xs l t b,ρ,H=>hdS Γ <| ofR ρ (evEs Γ ρ [l,t] H) fun ws H1=>forZ (fun v ρ1 H2=>unpackV xs v ρ1 H2 fun ρ2=>exSs Γ b ρ2 H2) ws ρ H1
  | .whil t b,ρ,H=>hdS Γ <| whileL (fun ρ H=>evT Γ ρ t H) (fun ρ H=>exSs Γ b ρ H) 64 ρ H
  | .setidx o i e,ρ,H=>ofR ρ (evE Γ ρ e H) fun v H1=>ofR ρ (evE Γ ρ o H1) fun w H2=>ofR ρ (evE Γ ρ i H2) fun k H3=>ofR ρ (setK w k v H3) fun _ H4=>.next ρ H4
  | .cont,ρ,H=>.cont ρ H
  | .expr e,ρ,H=>ofR ρ (evE Γ ρ e H) fun _ H1=>.next ρ H1
  | .raise c,ρ,H=>hdS Γ <| .raise c ρ H
  | .tryE b hs,ρ,H=>hdS Γ <| tryV (exSs Γ b ρ H) fun c ρ1 H1=>exH { Γ with hd:=true } c hs ρ1 H1
noncomputable def exSs (Γ:Fn):List S->Rho->Hp->RS
  | [],ρ,H=>.next ρ H
  | s::ss,ρ,H=>(exS Γ s ρ H).bind fun ρ1 H1=>exSs Γ ss ρ1 H1
end
theorem exS_asg (Γ:Fn) (x:String) (e:E) (ρ:Rho) (H:Hp):exS Γ (.asg x e) ρ H=(ofR ρ (evE Γ ρ e H) fun v H1=>.next (setL x v ρ) H1):=rfl
theorem exS_unpack (Γ:Fn) (xs:List String) (e:E) (ρ:Rho) (H:Hp):exS Γ (.unpack xs e) ρ H=(hdS Γ <| ofR ρ (evE Γ ρ e H) fun v H1=>unpackV xs v ρ H1 fun ρ1=>.next ρ1 H1):=rfl
theorem exS_setattr (Γ:Fn) (o:E) (a:String) (e:E) (ρ:Rho) (H:Hp):exS Γ (.setattr o a e) ρ H=(ofR ρ (evE Γ ρ e H) fun v H1=>ofR ρ (evE Γ ρ o H1) fun w H2=>ofR ρ (setA w a v H2) fun _ H3=>.next ρ H3):=rfl
theorem exS_ret (Γ:Fn) (e:E) (ρ:Rho) (H:Hp):exS Γ (.ret e) ρ H=(ofR ρ (evE Γ ρ e H) fun v H1=>.ret v H1):=rfl
theorem exS_iff (Γ:Fn) (t:E) (a b:List S) (ρ:Rho) (H:Hp):exS Γ (.iff t a b) ρ H=(ofR ρ (evT Γ ρ t H) fun c H1=>if c then exSs Γ a ρ H1 else exSs Γ b ρ H1):=rfl
theorem exS_for1 (Γ:Fn) (x:String) (e:E) (b:List S) (ρ:Rho) (H:Hp):exS Γ (.for1 x e b) ρ H=(hdS Γ <| ofR ρ (evE Γ ρ e H) fun v H1=>forV (fun v ρ1 H2=>exSs Γ b (setL x v ρ1) H2) v ρ H1):=rfl
theorem exS_forR (Γ:Fn) (x:String) (e:E) (b:List S) (ρ:Rho) (H:Hp):exS Γ (.forR x e b) ρ H=(hdS Γ <| ofR ρ (evE Γ ρ e H) fun v H1=>forRV (fun v ρ1 H2=>exSs Γ b (setL x v ρ1) H2) v ρ H1):=rfl
theorem exS_forT (Γ:Fn) (xs:List String) (e:E) (b:List S) (ρ:Rho) (H:Hp):exS Γ (.forT xs e b) ρ H=(hdS Γ <| ofR ρ (evE Γ ρ e H) fun v H1=>forVL (fun v ρ1 H2=>unpackV xs v ρ1 H2 fun ρ2=>exSs Γ b ρ2 H2) v ρ H1):=rfl
theorem exS_forZ (Γ:Fn) (xs:List String) (l t:E) (b:List S) (ρ:Rho) (H:Hp):exS Γ (.forZ xs l t b) ρ H=(hdS Γ <| ofR ρ (evEs Γ ρ [l,t] H) fun ws H1=>forZ (fun v ρ1 H2=>unpackV xs v ρ1 H2 fun ρ2=>exSs Γ b ρ2 H2) ws ρ H1):=rfl
theorem exS_whil (Γ:Fn) (t:E) (b:List S) (ρ:Rho) (H:Hp):exS Γ (.whil t b) ρ H=(hdS Γ <| whileL (fun ρ H=>evT Γ ρ t H) (fun ρ H=>exSs Γ b ρ H) 64 ρ H):=rfl
theorem exS_setidx (Γ:Fn) (o i e:E) (ρ:Rho) (H:Hp):exS Γ (.setidx o i e) ρ H=(ofR ρ (evE Γ ρ e H) fun v H1=>ofR ρ (evE Γ ρ o H1) fun w H2=>ofR ρ (evE Γ ρ i H2) fun k H3=>ofR ρ (setK w k v H3) fun _ H4=>.next ρ H4):=rfl
theorem exS_cont (Γ:Fn)  (ρ:Rho) (H:Hp):exS Γ (.cont) ρ H=(.cont ρ H):=rfl
theorem exS_expr (Γ:Fn) (e:E) (ρ:Rho) (H:Hp):exS Γ (.expr e) ρ H=(ofR ρ (evE Γ ρ e H) fun _ H1=>.next ρ H1):=rfl
theorem exS_raise (Γ:Fn) (c:String) (ρ:Rho) (H:Hp):exS Γ (.raise c) ρ H=(hdS Γ <| .raise c ρ H):=rfl
theorem exS_tryE (Γ:Fn) (b:List S) (hs:List (String×E)) (ρ:Rho) (H:Hp):exS Γ (.tryE b hs) ρ H=(hdS Γ <| tryV (exSs Γ b ρ H) fun c ρ1 H1=>exH { Γ with hd:=true } c hs ρ1 H1):=rfl
theorem exSs_nil (Γ:Fn) (ρ:Rho) (H:Hp):exSs Γ [] ρ H=.next ρ H:=rfl
theorem exSs_cons (Γ:Fn) (s:S) (ss:List S) (ρ:Rho) (H:Hp):exSs Γ (s::ss) ρ H=(exS Γ s ρ H).bind fun ρ1 H1=>exSs Γ ss ρ1 H1:=rfl
set_option genInjectivity false in
structure Def where
  name:String
  params:List String
  body:List S
noncomputable def runDef (Γ:Fn) (d:Def) (vs:List V) (H:Hp):R V :=
  match setAll d.params vs [] with
  | some ρ=>match exSs Γ d.body ρ H with
    | .next _ H1=>.ok .none H1
    | .ret v H1=>.ok v H1
    | .raise c _ H1=>.raise c H1
    | _=>.stuck
  | Option.none=>.stuck
noncomputable def runClass (Γ:Fn) (c:String) (d:Def) (vs:List V) (H:Hp):R V :=
  (runDef Γ d (.ref (H.length+1)::vs) (H++[.ns [],.inst c H.length])).bind fun v H1=>match v with | .none=>.ok (.ref (H.length+1)) H1 | _=>.stuck
noncomputable def lk (defs:List Def) (cls:List (String×Def)) (const:String->Option V):Nat->Fn
  | 0=>{ call:=fun _ _ _=>.stuck,const }
  | n+1=>{ const,call:=fun f vs H=>match defs.find? (fun d=>d.name==f) with
      | some d=>runDef (lk defs cls const n) d vs H
      | Option.none=>match cls.lookup f with
        | some d=>runClass (lk defs cls const n) f d vs H
        | Option.none=>.stuck }
end
theorem at_of {α:Type} {f:O->Option α} {H:Hp} {k:Nat} {o:O} (h:H[k]?=some o):(H[k]?).bind f=f o:=congrArg (·.bind f) h
theorem at_list {H:Hp} {k:Nat} {xs:List V} (e:H[k]?=some (.list xs)):listAt (.ref k) H=some xs:=congrArg (·.bind listO) e
theorem at_tab {H:Hp} {k:Nat} {xs:List (Key×V)} {ep:Nat} (e:H[k]?=some (.tab xs ep)):tabAt (.ref k) H=some (xs,ep):=congrArg (·.bind tabO) e
theorem m_append {H:Hp} {k:Nat} {xs:List V} {v:V} (h:H[k]?=some (.list xs)) (hl:xs.length < line):mAppend (.ref k) v H=.ok .none (H.set k (.list (xs++[v]))):=(optR_of (at_list h)).trans (ifR_of hl)
theorem sort_tr (a b c:Int) (h1:decide (a<=b)=true) (h2:decide (b<=c)=true):decide (a<=c)=true:=decide_eq_true (Int.le_trans (of_decide_eq_true h1) (of_decide_eq_true h2))
theorem sort_tot (a b:Int):(decide (a<=b)||decide (b<=a))=true:=(Int.le_total a b).elim (fun h=>by rw [decide_eq_true h];rfl) fun h=>by rw [decide_eq_true h,Bool.or_true]
noncomputable abbrev PK:=List Int×Int
section
variable (prog:Program) (w:World)
noncomputable def IsPairKey (h:Heap) (k:PK) (a:Addr):Prop:=∃ o items n b t,h.get? a=some o/\o.cls=.type "tuple"/\o.data=.seq items n/\items.toList=[.ref b,.int k.2 t]/\IsTupleKey (intKind prog w) h k.1 b
variable {prog w}
theorem IsPairKey.typeIs {s:Shared} {k:PK} {a:Addr} (x:IsPairKey prog w s.heap k a):s.TypeIs (.ref a) "tuple":=let ⟨o,_,_,_,_,ho,hc,_⟩:=x;⟨o,ho,hc⟩
theorem IsPairKey.inj {h:Heap} {a:Addr} {x y:PK} (hx:IsPairKey prog w h x a) (hy:IsPairKey prog w h y a):x=y:=by
  obtain ⟨o,items,n,b,t,ho,_,hd,hi,hb⟩:=hx
  obtain ⟨o',items',n',b',t',ho',_,hd',hi',hb'⟩:=hy
  rw [ho] at ho';cases ho'
  rw [hd] at hd';cases hd'
  rw [hi] at hi'
  simp only [List.cons.injEq,Value.ref.injEq,Value.int.injEq,and_true] at hi'
  obtain ⟨rfl,h2,_⟩:=hi'
  exact Prod.ext (hb.inj hb') h2
theorem IsPairKey.keeps {h h':Heap} {k:PK} {a d:Addr} {o:Obj} {es ep} (x:IsPairKey prog w h k a) (ho:h.get? d=some o) (hd:o.data=.dict es ep) (hs:Heap.SameBut d h h'):IsPairKey prog w h' k a:=by
  obtain ⟨o',items,n,b,t,ho',hc,hd',hi,hb⟩:=x
  have hne:a≠d:=by
    rintro rfl
    rw [ho'] at ho;cases ho
    rw [hd] at hd';cases hd'
  exact ⟨o',items,n,b,t,(hs.2 a hne).trans ho',hc,hd',hi,hb.keeps ho hd hs⟩
noncomputable def pairHash (k:PK):Int:=reduceHash (Builtin.Tuple.tupleHashOf [tupleKeyHash (intKind prog w) k.1,hashInt k.2])
variable {A:Around} {E:Value->Shared->Prop} {s:Shared}
theorem pyHash_pair {k:PK} {a:Addr} {Q:Int->Shared->Prop} (hu:A.units+2 < cLine) (hk:IsPairKey prog w s.heap k a) (h:Q (pairHash (prog:=prog) (w:=w) k) { s with toks:=s.toks+(k.1.length+3) }) :
    wpAny (model prog w) A (pyHash (.ref a)) Q E s:=by
  have hT:=hk.typeIs
  obtain ⟨o,items,n,b,t,ho,_,hd,hi,hb⟩:=hk
  unfold pyHash
  first | unfold pyHashByItsType | skip
  first | refine wpAny_bind (wpAny_cRoomFor_or (.inr (by omega)) ?_) | skip
  refine wpAny_bind (wpAny_specialOf hT F.slot_tuple_hash.lookup ?_)
  show wpAny _ _ (if (some (Value.builtin "tuple.__hash__")==some Value.none)=true then _ else _) Q E s
  rw [if_neg (by rw [beq_builtin_none];exact Bool.false_ne_true)]
  refine wpAny_bind (wpAny_specialOf hT F.slot_tuple_hash.lookup ?_)
  show wpAny _ _ (callSpecialIfBoundUnlessNone? (.ref a) "__hash__" _ >>= _) Q E s
  refine wpAny_bind (wpAny_callSpecialIfBoundUnlessNone?_slot hT F.slot_tuple_hash (wpAny_call_entry F.slot_tuple_hash hT F.entry_tuple_hash ?_ (F.args_tuple_hash_1 _)))
  show wpAny _ _ (Builtin.Tuple.tupleItemsOf (.ref a) >>= _) _ _ s
  refine wpAny_bind (wpAny_tupleItemsOf ho hd ?_)
  refine wpAny_bind ?_
  rw [<- Array.forIn_toList,hi]
  refine wpAny_forIn_list _
    (fun rest (c:Array Int) s'=>(rest=[.ref b,.int k.2 t]/\c.toList=[]/\s'=s)\/(rest=[.int k.2 t]/\c.toList=[tupleKeyHash (intKind prog w) k.1]/\s'={ s with toks:=s.toks+(k.1.length+1) })\/(rest=[]/\c.toList=[tupleKeyHash (intKind prog w) k.1,hashInt k.2]/\s'={ s with toks:=s.toks+(k.1.length+2) }))
    _ ?_ ?_ _ _ (.inl ⟨rfl,rfl,rfl⟩)
  · rintro x rest c s' (⟨hr,hc,rfl⟩ | ⟨hr,hc,rfl⟩ | ⟨hr,_⟩)
    · cases hr
      refine wpAny_bind (wpAny_pyHash_tuple (knd:=intKind prog w) (by show A.units+1 < cLine;omega) hb ?_)
      first
        | exact wpAny_pure (.inr (.inl ⟨rfl,by simp [hc],rfl⟩))
        | exact wpAny_bind (wpAny_pure (wpAny_pure (.inr (.inl ⟨rfl,by simp [hc],rfl⟩))))
    · cases hr
      refine wpAny_bind (wpAny_pyHash_int ?_)
      first
        | exact wpAny_pure (.inr (.inr ⟨rfl,by simp [hc],rfl⟩))
        | exact wpAny_bind (wpAny_pure (wpAny_pure (.inr (.inr ⟨rfl,by simp [hc],rfl⟩))))
    · cases hr
  · rintro c s' (⟨hr,_⟩ | ⟨hr,_⟩ | ⟨_,hc,rfl⟩)
    · cases hr
    · cases hr
    show wpAny _ _ (retInt (Builtin.Tuple.tupleHashOf c.toList)) _ _ _
    rw [hc]
    refine wpAny_ret_mkInt ?_
    unfold pairHash reduceHash at h
    generalize Builtin.Tuple.tupleHashOf [tupleKeyHash (intKind prog w) k.1,hashInt k.2]=z at h ⊢
    show wpAny _ _ (if (decide (-(2:Int) ^ 63<=z)&&decide (z < 2 ^ 63))=true then _ else _) Q E _
    by_cases hr:(decide (-(2:Int) ^ 63<=z)&&decide (z < 2 ^ 63))=true
    · rw [if_pos hr]
      rw [if_pos hr] at h
      exact wpAny_pure (by simpa [Nat.add_assoc] using h)
    · rw [if_neg hr]
      rw [if_neg hr] at h
      exact wpAny_bind (wpAny_rule (wpAny_pure (by simpa [Nat.add_assoc] using h)))
theorem pair_eq_tree {x y:PK} {a b:Addr} {P:Fin->Shared->Prop} (hu:A.units+1 < cLine) (hx:IsPairKey prog w s.heap x a) (hy:IsPairKey prog w s.heap y b) (h:P (.done (.ret (.bool (decide (x=y))))) s) :
    wpAny (model prog w) A (Builtin.«tuple.__eq__» ⟨[.ref a,.ref b],[]⟩) P E s:=by
  have hTb:=hy.typeIs
  obtain ⟨oa,xs,na,ba,ta,hoa,_,hda,hia,hka⟩:=hx
  obtain ⟨ob,ys,nb,bb,tb,hob,_,hdb,hib,hkb⟩:=hy
  show wpAny _ _ (isInstance (.ref b) (.type "tuple") >>= _) _ _ s
  refine wpAny_bind (wpAny_isInstance hTb isSubtype_tuple_tuple ?_)
  rw [if_neg (show ¬((!true)=true) from Bool.false_ne_true)]
  refine wpAny_bind (wpAny_tupleItemsOf hoa hda ?_)
  refine wpAny_bind (wpAny_tupleItemsOf hob hdb ?_)
  have sx:xs.size=2:=by rw [<- Array.length_toList,hia];rfl
  have sy:ys.size=2:=by rw [<- Array.length_toList,hib];rfl
  refine wpAny_bind ?_
  rw [hia,hib]
  refine wpAny_forIn_list _
    (fun rest r s'=>r.1=none/\s'=s/\((rest=[(.ref ba,.ref bb),(.int x.2 ta,.int y.2 tb)])\/(rest=[(.int x.2 ta,.int y.2 tb)]/\x.1=y.1)\/(rest=[]/\x=y)))
    _ ?_ ?_ _ _ ⟨rfl,rfl,.inl rfl⟩
  · rintro ⟨u,v⟩ rest r s' ⟨hr,rfl,(hz | ⟨hz,e1⟩ | ⟨hz,_⟩)⟩
    · cases hz
      refine wpAny_bind (wpAny_eqBool_tuple (knd:=intKind prog w) (by omega) hka hkb ?_)
      by_cases hk:x.1=y.1
      · rw [decide_eq_true hk]
        rw [if_neg (show ¬((!true)=true) from Bool.false_ne_true)]
        exact wpAny_pure ⟨rfl,rfl,.inr (.inl ⟨by trivial,hk⟩)⟩
      · rw [decide_eq_false hk]
        rw [if_pos (show (!false)=true from rfl)]
        rw [decide_eq_false (fun e=>hk (by rw [e]))] at h
        exact wpAny_bind (wpAny_pure (wpAny_pure (wpAny_pure h)))
    · cases hz
      refine wpAny_bind (wpAny_eqBool_int ?_)
      by_cases hk:x.2=y.2
      · rw [show (x.2==y.2)=true by simpa using hk]
        rw [if_neg (show ¬((!true)=true) from Bool.false_ne_true)]
        exact wpAny_pure ⟨rfl,rfl,.inr (.inr ⟨by trivial,Prod.ext e1 hk⟩)⟩
      · rw [show (x.2==y.2)=false by simpa using hk]
        rw [if_pos (show (!false)=true from rfl)]
        rw [decide_eq_false (fun e=>hk (by rw [e]))] at h
        exact wpAny_bind (wpAny_pure (wpAny_pure (wpAny_pure h)))
    · cases hz
  · rintro ⟨r1,r2⟩ s' ⟨hr,rfl,(hz | ⟨hz,e1⟩ | ⟨_,e1⟩)⟩
    · cases hz
    · cases hz
    simp only at hr
    subst hr
    refine wpAny_pure ?_
    show P (.done (.ret (.bool (xs.size==ys.size)))) s'
    rw [sx,sy]
    rw [decide_eq_true e1] at h
    exact h
theorem eqBool_pair {x y:PK} {a b:Addr} {Q:Bool->Shared->Prop} (hu:A.units+2 < cLine) (hx:IsPairKey prog w s.heap x a) (hy:IsPairKey prog w s.heap y b) (h:Q (decide (x=y)) s) :
    wpAny (model prog w) A (eqBool (.ref a) (.ref b)) Q E s:=by
  unfold eqBool
  try with_reducible refine wpAny_holding ?_
  show wpAny _ _ (if (Value.ref a==Value.ref b)=true then _ else _) Q E s
  by_cases hab:(Value.ref a==Value.ref b)=true
  · rw [if_pos hab]
    have e:a=b:=by have:=eq_of_beq hab;injection this
    subst e
    obtain rfl:=hx.inj hy
    exact wpAny_bind (wpAny_rule (wpAny_pure (by simpa using h)))
  · rw [if_neg hab]
    exact wpAny_bind (wpAny_richCompare_same_room (op:=.Eq) hx.typeIs hy.typeIs F.slot_tuple_eq
      (wpAny_call_entry F.slot_tuple_eq hx.typeIs F.entry_tuple_eq (pair_eq_tree (by first | (show A.units+1+1 < cLine;omega) | (show A.units+1+1+1 < cLine;omega)) hx hy ⟨_,rfl,(fun e=>nomatch e),wpAny_truthy_bool h⟩) (F.args_tuple_eq_2 _ _)) (by omega))
theorem quiet_tuple (m:Nat) {ks:List Int} {a:Addr} {Q:Bool->Shared->Prop} (hk:IsTupleKey (intKind prog w) s.heap ks a) (h:Q true s):wpAny (model prog w) A (eqIsQuiet (m+1) (.ref a)) Q E s:=by
  have hT:=hk.typeIs
  obtain ⟨o,items,n,ho,_,hd,hi⟩:=hk
  unfold eqIsQuiet
  refine wpAny_bind (wpAny_specialOf hT F.slot_tuple_eq.lookup ?_)
  show wpAny _ _ (isInstance (.ref a) (.type "tuple") >>= _) _ _ s
  refine wpAny_bind (wpAny_isInstance hT isSubtype_tuple_tuple ?_)
  rw [if_neg (show ¬((!true)=true) from Bool.false_ne_true)]
  refine wpAny_bind (wpAny_seqItems ho hd ?_)
  refine wpAny_bind ?_
  show wpAny _ _ (forIn items _ _) _ _ s
  rw [<- Array.forIn_toList]
  refine wpAny_forIn_list _ (fun rest r s'=>r.1=none/\s'=s/\∀ v∈rest,carriedByValue v=true) _ ?_ ?_ _ _ ⟨rfl,rfl,hi.byValue⟩
  · rintro v rest r s' ⟨hr,rfl,hall⟩
    rw [eqIsQuiet_byValue _ (hall v List.mem_cons_self)]
    refine wpAny_bind (wpAny_pure ?_)
    rw [if_neg (show ¬((!true)=true) from Bool.false_ne_true)]
    exact wpAny_pure ⟨rfl,rfl,fun u hu'=>hall u (List.mem_cons_of_mem _ hu')⟩
  · rintro ⟨r1,r2⟩ s' ⟨hr,rfl,_⟩
    simp only at hr
    subst hr
    exact wpAny_pure h
theorem quiet_pair {k:PK} {a:Addr} {Q:Bool->Shared->Prop} (hk:IsPairKey prog w s.heap k a) (h:Q true s):wpAny (model prog w) A (eqIsQuiet 8 (.ref a)) Q E s:=by
  have hT:=hk.typeIs
  obtain ⟨o,items,n,b,t,ho,_,hd,hi,hb⟩:=hk
  unfold eqIsQuiet
  refine wpAny_bind (wpAny_specialOf hT F.slot_tuple_eq.lookup ?_)
  show wpAny _ _ (isInstance (.ref a) (.type "tuple") >>= _) _ _ s
  refine wpAny_bind (wpAny_isInstance hT isSubtype_tuple_tuple ?_)
  rw [if_neg (show ¬((!true)=true) from Bool.false_ne_true)]
  refine wpAny_bind (wpAny_seqItems ho hd ?_)
  refine wpAny_bind ?_
  show wpAny _ _ (forIn items _ _) _ _ s
  rw [<- Array.forIn_toList,hi]
  refine wpAny_forIn_list _ (fun rest r s'=>r.1=none/\s'=s/\(rest=[.ref b,.int k.2 t]\/rest=[.int k.2 t]\/rest=[])) _ ?_ ?_ _ _ ⟨rfl,rfl,.inl rfl⟩
  · rintro v rest r s' ⟨hr,rfl,(hz | hz | hz)⟩
    · cases hz
      refine wpAny_bind (quiet_tuple 6 hb ?_)
      rw [if_neg (show ¬((!true)=true) from Bool.false_ne_true)]
      exact wpAny_pure ⟨rfl,rfl,.inr (.inl (by trivial))⟩
    · cases hz
      rw [eqIsQuiet_byValue _ rfl]
      refine wpAny_bind (wpAny_pure ?_)
      rw [if_neg (show ¬((!true)=true) from Bool.false_ne_true)]
      exact wpAny_pure ⟨rfl,rfl,.inr (.inr (by trivial))⟩
    · cases hz
  · rintro ⟨r1,r2⟩ s' ⟨hr,rfl,_⟩
    simp only at hr
    subst hr
    exact wpAny_pure h
noncomputable def pairKind (prog:Program) (w:World):HeapKind prog w PK where
  is:=IsPairKey prog w
  hash:=pairHash (prog:=prog) (w:=w)
  draws:=fun k=>k.1.length+3
  room:=fun A=>A.units+3 < cLine
  inj:=fun hx hy=>hx.inj hy
  keeps:=fun x ho hd hs=>x.keeps ho hd hs
  pyHash:=fun hu hk h=>pyHash_pair (by omega) hk h
  eqBool:=fun hu hx hy h=>eqBool_pair (by omega) hx hy h
  quiet:=fun hk h=>quiet_pair hk h
end
end Mine
namespace Mine
open PySem PyProof.Rows
theorem ofString_inj {a b:String} (h:Str.ofString a=Str.ofString b):a=b:=by
  rw [Str.ofString_eq_toList,Str.ofString_eq_toList] at h
  have h1:=congrArg (fun s:Str=>s.cps.toList) h
  simp only at h1
  have inj:∀ l l':List Char,l.map Char.toNat=l'.map Char.toNat->l=l':=by
    intro l
    induction l with
    | nil=>intro l' h;cases l' with | nil=>rfl | cons=>cases h
    | cons c l ih =>
      intro l' h
      cases l' with
      | nil=>cases h
      | cons d l' =>
        simp only [List.map_cons,List.cons.injEq] at h
        rw [ih l' h.2]
        have:c=d:=by
          have h3:c.val.toNat=d.val.toNat:=h.1
          exact Char.ext (UInt32.toNat_inj.mp h3)
        rw [this]
  exact String.toList_inj.mp (inj _ _ h1)
noncomputable def biTable:List (String×Value):=[("len",.builtin "len"),("min",.builtin "min"),("max",.builtin "max"),("abs",.builtin "abs"),("sorted",.builtin "sorted"),("isinstance",.builtin "isinstance"),("range",.type "range"),("list",.type "list"),("tuple",.type "tuple"),("reversed",.type "reversed"),("all",.builtin "all"),("zip",.type "zip"),("dict",.type "dict"),("int",.type "int"),("bool",.type "bool"),("str",.type "str")]
noncomputable def biVal (f:String):Option Value:=biTable.lookup f
theorem biVal_noRef {f:String} {v:Value} (h:biVal f=some v) (a:Addr):v≠.ref a:=by
  have key:∀ (l:List (String×Value)),(l.all fun p=>match p.2 with | .ref _=>false | _=>true)=true->l.lookup f=some v->v≠.ref a:=by
    intro l
    induction l with
    | nil=>intro _ e;cases e
    | cons p l ih =>
      intro ha e
      rw [List.all_cons,Bool.and_eq_true] at ha
      rw [List.lookup_cons] at e
      cases hb:f==p.1 with
      | true=>rw [hb] at e;cases e;intro q;rw [q] at ha;exact nomatch ha.1
      | false=>rw [hb] at e;exact ih ha.2 e
  exact key biTable (by decide) h
noncomputable def Loads (mg mb:Str->Option Value) (f:String) (v:Value):Prop:=mg (Str.ofString f)=some v\/(mg (Str.ofString f)=Option.none/\mb (Str.ofString f)=some v)
noncomputable abbrev bmVE:List Value:=[.type "ValueError",.type "Exception",.type "BaseException",.type "object"]
inductive OwnExc (mg:Str->Option Value) (h:Heap) (ex:String->Bool) (c:String):Prop
  | mk (C:Addr) (own:OwnCls (Str.ofString c) C bmVE "ValueError.__new__" mg h)
    (hs:∀ T D o cd,ex T=true->mg (Str.ofString T)=some (.ref D)->h.get? C=some o->o.data=.cls cd->cd.mro.contains (.ref D)=excIs c T):OwnExc mg h ex c
structure ClsOk (K:PySem.W.Frag) (C fI:Addr):Prop where
  makes:PySem.W.makesIn K C=true
  init:PySem.W.findIn K (.ref C) "__init__"=some (some (.ref fI))
  fn:PySem.W.typeIn K (.ref fI)=some (.type "function")
  get:PySem.W.findIn K (.ref C) "__getattribute__"=some (some (.builtin "object.__getattribute__"))
  set:PySem.W.findIn K (.ref C) "__setattr__"=some (some (.builtin "object.__setattr__"))
  over:PySem.W.plainOver K C=true
  dict:(PySem.W.clsIn K C).any (·.hasDict)=true
  names:∀ a,attrName a=true->PySem.W.findIn K (.ref C) (Str.ofString a)=some Option.none
set_option genInjectivity false in
structure Cx where
  prog:Program
  w:World
  base:Heap
  mg:Str->Option Value
  mb:Str->Option Value
  g:base.Ns mainGlobals mg
  b:base.Ns builtinsNs mb
  nolimit:base.NoLimit
  kn:String->Bool
  known:∀ f,kn f=true->∃ v,Loads mg mb f v
  bi:∀ f v,biVal f=some v->kn f=true->mg (Str.ofString f)=Option.none/\mb (Str.ofString f)=some v
  ex:String->Bool
  own:∀ c,ex c=true->OwnExc mg base ex c
  K:PySem.W.Frag
  kin:K.In base
  sysm:(K.lookup sysModules).isSome=true
  cl:String->Bool
  cls:∀ c,cl c=true->∃ C fI,mg (Str.ofString c)=some (.ref C)/\ClsOk K C fI
  kp:∀ f v,kn f=true->Loads mg mb f v->∀ h:Heap,(∀ b o,base.get? b=some o->h.get? b=some o) ->
    ∃ k,(k=Keeper.frame\/k=Keeper.machine\/k=Keeper.boundFrame)/\PySem.W.Looks (model prog w) h (keeperOf v) k
noncomputable abbrev Cx.M (X:Cx):Model:=model X.prog X.w
noncomputable def ExCls (X:Cx) (c:String) (C:Addr):Prop:=X.mg (Str.ofString c)=some (.ref C)/\X.ex c=true
noncomputable def ObjCls (o:Obj) (C:Addr):Prop:=o.cls=.ref C/\o.dict=Option.none
mutual
inductive VR (X:Cx) (η:List Addr) (h:Heap):V->Value->Prop
  | none:VR X η h .none .none
  | bool (b:Bool):VR X η h (.bool b) (.bool b)
  | int (i:Int) (t:Tok):VR X η h (.int i) (.int i t)
  | str (s:Str) (t:Tok):PyData.strOk s=true->VR X η h (.str s) (.str s t)
  | tup {a:Addr} {items:Array Value} {n:Nat} {vs:List V}:h.get? a=some { cls:=.type "tuple",data:=.seq items n }->a∉η->VRs X η h vs items.toList->vs.length<=line->VR X η h (.tup vs) (.ref a)
  | ref {n:Nat} {a:Addr}:η[n]?=some a->VR X η h (.ref n) (.ref a)
  | rng {a b c:Int} {t u v:Tok} {r:Addr}:IsRange h r a b c t u v->r∉η->VR X η h (.rng a b c) (.ref r)
  | lst {a:Addr} {items:Array Value} {n:Nat} {vs:List V}:h.get? a=some { cls:=.type "list",data:=.seq items n }->a∉η->VRs X η h vs items.toList->vs.length<=line->VR X η h (.lst vs) (.ref a)
  | scr {a:Addr} {items:Array Value} {ns:List Int}:X.base.IsList a items->IntsAre items.toList ns->ns.length<=line->VR X η h (.scr ns) (.ref a)
inductive VRs (X:Cx) (η:List Addr) (h:Heap):List V->List Value->Prop
  | nil:VRs X η h [] []
  | cons {v:V} {vs:List V} {m:Value} {ms:List Value}:VR X η h v m->VRs X η h vs ms->VRs X η h (v::vs) (m::ms)
end
structure Step (fr own η:List Addr) (h:Heap) (η':List Addr) (h':Heap):Prop where
  pre:∃ l,η'=η++l/\∀ a∈l,h.get? a=Option.none
  alive:∀ b o,h.get? b=some o->∃ o',h'.get? b=some o'
  data:∀ b o,h.get? b=some o->b∉η->b∉own->∃ sl,h'.get? b=some { o with slots:=sl }/\(b∉fr->sl=o.slots)
  dicts:∀ b o,h.get? b=some o->b∉η->∀ es n,o.data=.dict es n->∃ o' es' n',h'.get? b=some o'/\o'.data=.dict es' n'
  cells:∀ b o,h.get? b=some o->b∉η->∀ v,o.data=.cell v->∃ o' v',h'.get? b=some o'/\o'.data=.cell v'
section
variable {fr own η η':List Addr} {h h':Heap}
theorem Step.same (x:Step fr own η h η' h') (b:Addr) (o:Obj) (e:h.get? b=some o) (hb:b∉η) (ho:b∉own) (hf:b∉fr):h'.get? b=some o:=by
  obtain ⟨sl,e',q⟩:=x.data b o e hb ho
  rw [q hf] at e';exact e'
theorem Step.mem (x:Step fr own η h η' h') {b:Addr} {o:Obj} (e:h.get? b=some o) (hb:b∉η):b∉η':=by
  obtain ⟨l,rfl,hl⟩:=x.pre
  intro hm
  rcases List.mem_append.mp hm with hm | hm
  · exact hb hm
  · rw [hl b hm] at e;cases e
theorem Step.old (x:Step fr own η h η' h') {b:Addr} (e:h'.get? b=Option.none):h.get? b=Option.none:=by
  cases q:h.get? b with
  | none=>rfl
  | some o=>obtain ⟨o',e'⟩:=x.alive b o q;rw [e] at e';cases e'
theorem Step.trans {η1 η2:List Addr} {h1 h2:Heap} (x:Step fr own η h η1 h1) (y:Step fr own η1 h1 η2 h2):Step fr own η h η2 h2:=by
  refine ⟨?_,fun b o e=>let ⟨o1,e1⟩:=x.alive b o e;y.alive b o1 e1,fun b o e hb ho=>let ⟨sl,e1,q1⟩:=x.data b o e hb ho;let ⟨sl2,e2,q2⟩:=y.data b _ e1 (x.mem e hb) ho;⟨sl2,e2,fun hf=>(q2 hf).trans (q1 hf)⟩,
    fun b o e hb es k d=>let ⟨o1,es1,n1,e1,d1⟩:=x.dicts b o e hb es k d;y.dicts b o1 e1 (x.mem e hb) es1 n1 d1,fun b o e hb v d=>let ⟨o1,v1,e1,d1⟩:=x.cells b o e hb v d;y.cells b o1 e1 (x.mem e hb) v1 d1⟩
  obtain ⟨l1,rfl,h1'⟩:=x.pre
  obtain ⟨l2,rfl,h2'⟩:=y.pre
  refine ⟨l1++l2,List.append_assoc ..,fun a ha=>?_⟩
  rcases List.mem_append.mp ha with ha | ha
  · exact h1' a ha
  · exact x.old (h2' a ha)
theorem Step.weak {own':List Addr} (x:Step fr own η h η' h') (ho:∀ a∈own,a∈own'):Step fr own' η h η' h' :=
  ⟨x.pre,x.alive,fun b o e hb hb'=>x.data b o e hb (fun q=>hb' (ho b q)),x.dicts,x.cells⟩
end
theorem Step.grow (fr own η:List Addr) {l:List Addr} {h h':Heap} (hl:∀ a∈l,h.get? a=Option.none) (k:∀ b o,h.get? b=some o->h'.get? b=some o):Step fr own η h (η++l) h' :=
  ⟨⟨l,rfl,hl⟩,fun b o e=>⟨o,k b o e⟩,fun b o e _ _=>⟨o.slots,k b o e,fun _=>rfl⟩,fun b o e _ es n d=>⟨o,es,n,k b o e,d⟩,fun b o e _ v d=>⟨o,v,k b o e,d⟩⟩
theorem Step.ext (fr own η:List Addr) {h h':Heap} (k:∀ b o,h.get? b=some o->h'.get? b=some o):Step fr own η h η h':=by
  have:=Step.grow fr own η (l:=[]) (fun _ q=>nomatch q) k
  rwa [List.append_nil] at this
theorem Step.refl (fr own η:List Addr) (h:Heap):Step fr own η h η h:=Step.ext fr own η fun _ _ e=>e
theorem Step.make (fr own η:List Addr) {h h':Heap} {a:Addr} (k:∀ b o,h.get? b=some o->h'.get? b=some o) (ha:h.get? a=Option.none):Step fr own η h (η++[a]) h' :=
  Step.grow fr own η (fun _ hb=>List.mem_singleton.mp hb▸ha) k
noncomputable def Frm (h:Heap) (l:List Addr):Prop:=∀ b∈l,∃ o,h.get? b=some o/\((∃ es n,o.data=.dict es n)\/∃ v,o.data=.cell v)
theorem Frm.not {h:Heap} {l:List Addr} (x:Frm h l) {b:Addr} {o:Obj} (e:h.get? b=some o) (hd:(∀ es n,o.data≠.dict es n)/\∀ v,o.data≠.cell v):b∉l:=by
  intro hm
  obtain ⟨o',e',hq⟩:=x b hm
  rw [e] at e';cases e'
  rcases hq with ⟨es,n,q⟩ | ⟨v,q⟩
  · exact hd.1 es n q
  · exact hd.2 v q
theorem getElem?_pre {η l:List Addr} {n:Nat} {a:Addr} (e:η[n]?=some a):(η++l)[n]?=some a:=by
  rw [List.getElem?_append_left (List.getElem?_eq_some_iff.mp e).1];exact e
structure Holds (η:List Addr) (h:Heap) (η':List Addr) (h':Heap):Prop where
  seq:∀ a o,h.get? a=some o->a∉η->((∃ xs n,o.data=.seq xs n)\/o.cls=.type "range"/\∃ fs,o.data=.fields fs)->h'.get? a=some o/\a∉η'
section
variable {X:Cx} {fr own η η':List Addr} {h h':Heap}
theorem VR.map (hp:∃ l,η'=η++l) (x:Holds η h η' h') {v:V} {m:Value} (r:VR X η h v m):VR X η' h' v m:=by
  refine VR.rec (motive_1:=fun v m _=>VR X η' h' v m) (motive_2:=fun v m _=>VRs X η' h' v m) .none .bool .int .str (fun e hn _ l ih=>?_) (fun e=>?_) (fun e hn=>?_) (fun e hn _ l ih=>?_) (fun e i l=>.scr e i l) .nil (fun _ _ a b=>.cons a b) r
  · exact .tup (x.seq _ _ e hn (.inl ⟨_,_,rfl⟩)).1 (x.seq _ _ e hn (.inl ⟨_,_,rfl⟩)).2 ih l
  · obtain ⟨l,rfl⟩:=hp
    exact .ref (getElem?_pre e)
  · exact .rng (x.seq _ _ e hn (.inr ⟨rfl,_,rfl⟩)).1 (x.seq _ _ e hn (.inr ⟨rfl,_,rfl⟩)).2
  · exact .lst (x.seq _ _ e hn (.inl ⟨_,_,rfl⟩)).1 (x.seq _ _ e hn (.inl ⟨_,_,rfl⟩)).2 ih l
theorem VRs.ind {P:List V->List Value->Prop} (h0:P [] []) (h1:∀ {v m vs ms},VR X η h v m->VRs X η h vs ms->P vs ms->P (v::vs) (m::ms)):∀ {vs:List V} {ms:List Value},VRs X η h vs ms->P vs ms
  | _,_,.nil=>h0
  | _,_,.cons a r=>h1 a r (VRs.ind h0 h1 r)
theorem VRs.map (hp:∃ l,η'=η++l) (x:Holds η h η' h') {v:List V} {m:List Value} (r:VRs X η h v m):VRs X η' h' v m:=VRs.ind (P:=VRs X η' h') .nil (fun a _ ih=>.cons (a.map hp x) ih) r
theorem Frm.of {l l':List Addr} (x:Frm h l) (y:Frm h l'):Frm h (l++l'):=fun b hb=>(List.mem_append.mp hb).elim (x b) (y b)
theorem Step.holds (x:Step fr own η h η' h') (f:Frm h (own++fr)):Holds η h η' h':=by
  have go:∀ a o,h.get? a=some o->a∉η->((∀ es n,o.data≠.dict es n)/\∀ v,o.data≠.cell v)->h'.get? a=some o/\a∉η':=fun a o e hn hd =>
    have q:=f.not e hd
    ⟨x.same a o e hn (fun z=>q (List.mem_append.mpr (.inl z))) (fun z=>q (List.mem_append.mpr (.inr z))),x.mem e hn⟩
  exact ⟨fun a o e hn hs=>go a o e hn (by rcases hs with ⟨xs,n,d⟩ | ⟨_,fs,d⟩ <;> rw [d] <;> exact ⟨fun _ _ q=>(nomatch q),fun _ q=>(nomatch q)⟩)⟩
theorem Step.pre' (x:Step fr own η h η' h'):∃ l,η'=η++l:=let ⟨l,e,_⟩:=x.pre;⟨l,e⟩
theorem Frm.nil (h:Heap):Frm h []:=fun _ q=>nomatch q
theorem VR.step (x:Step fr own η h η' h') (f:Frm h (own++fr)) {v:V} {m:Value} (r:VR X η h v m):VR X η' h' v m:=r.map x.pre' (x.holds f)
theorem VRs.step (x:Step fr own η h η' h') (f:Frm h (own++fr)) {v:List V} {m:List Value} (r:VRs X η h v m):VRs X η' h' v m:=r.map x.pre' (x.holds f)
theorem VR.up (x:Step fr [] η h η' h') (f:Frm h fr) {v:V} {m:Value} (r:VR X η h v m):VR X η' h' v m:=r.step x f
theorem VR.grow (x:Step [] [] η h η' h') {v:V} {m:Value} (r:VR X η h v m):VR X η' h' v m:=r.step x (Frm.nil h)
theorem VRs.grow (x:Step [] [] η h η' h') {v:List V} {m:List Value} (r:VRs X η h v m):VRs X η' h' v m:=r.step x (Frm.nil h)
end
inductive NRs (X:Cx) (η:List Addr) (h:Heap):List (String×V)->List DictEntry->Prop
  | nil:NRs X η h [] []
  | cons {k:String} {v:V} {t:Tok} {es:List (String×V)} {e:DictEntry} {ds:List DictEntry}:e.key=.str (Str.ofString k) t->VR X η h v e.val->NRs X η h es ds->NRs X η h ((k,v)::es) (e::ds)
inductive ZR (X:Cx) (η:List Addr) (h:Heap):List (Key×V)->List (Key×Addr×Value)->Prop
  | nil:ZR X η h [] []
  | cons {k:Key} {v:V} {a:Addr} {m:Value} {xs:List (Key×V)} {ys:List (Key×Addr×Value)}:VR X η h (keyV k) (.ref a)->VR X η h v m->ZR X η h xs ys->ZR X η h ((k,v)::xs) ((k,a,m)::ys)
inductive OR (X:Cx) (η:List Addr) (h:Heap):O->Obj->Prop
  | list {vs:List V} {items:Array Value} {n:Nat}:VRs X η h vs items.toList->vs.length<=line->OR X η h (.list vs) { cls:=.type "list",data:=.seq items n }
  | inst {c:String} {d:Nat} {C dx:Addr}:X.cl c=true->X.mg (Str.ofString c)=some (.ref C)->η[d]?=some dx->OR X η h (.inst c d) { cls:=.ref C,dict:=some dx,data:=.plain }
  | ns {fs:List (String×V)} {ds:Array DictEntry} {n:Nat}:NRs X η h fs ds.toList->fs.length<=21->OR X η h (.ns fs) { cls:=.type "dict",data:=.dict ds n }
  | keys {ks:List Int} {kvs:List (Int×Value)} {ob:Obj}:ob.IsDictOf (intKind X.prog X.w) kvs->kvs.map (·.1)=ks->ks.length<=line->OR X η h (.keys ks) ob
  | tab {xs:List (Key×V)} {ys:List (Key×Addr×Value)} {ds:Array DictEntry} {ep:Nat}:ZR X η h xs ys->ds.toList=ys.map (entryOfKey (pairKind X.prog X.w))->(xs.map (·.1)).Nodup->xs.length<=100000->OR X η h (.tab xs ep) { cls:=.type "dict",data:=.dict ds ep }
  | own {a b:Value}:OR X η h .own { cls:=.type "tuple",data:=.seq #[a,b] }
structure Inv (X:Cx) (η:List Addr) (H:Hp) (h:Heap):Prop where
  keep:∀ b o,X.base.get? b=some o->h.get? b=some o
  len:η.length=H.length
  fresh:∀ a∈η,X.base.get? a=Option.none
  nodup:η.Nodup
  objs:∀ (n:Nat) (a:Addr) (o:O),η[n]?=some a->H[n]?=some o->∃ ob,h.get? a=some ob/\OR X η h o ob
section
variable {X:Cx} {fr own η η':List Addr} {h h':Heap} {H:Hp}
theorem NRs.map (hp:∃ l,η'=η++l) (x:Holds η h η' h') {es:List (String×V)} {ds:List DictEntry} (r:NRs X η h es ds):NRs X η' h' es ds:=by
  induction r with
  | nil=>exact .nil
  | cons a c _ ih=>exact .cons a (c.map hp x) ih
theorem ZR.map (hp:∃ l,η'=η++l) (x:Holds η h η' h') {xs:List (Key×V)} {ys:List (Key×Addr×Value)} (r:ZR X η h xs ys):ZR X η' h' xs ys:=by
  induction r with
  | nil=>exact .nil
  | cons a b _ ih=>exact .cons (a.map hp x) (b.map hp x) ih
theorem OR.map (hp:∃ l,η'=η++l) (x:Holds η h η' h') {o:O} {ob:Obj} (r:OR X η h o ob):OR X η' h' o ob:=by
  cases r with
  | list d e=>exact .list (d.map hp x) e
  | inst a a' b =>
    obtain ⟨l,rfl⟩:=hp
    exact .inst a a' (getElem?_pre b)
  | ns d e=>exact .ns (d.map hp x) e
  | keys d e l=>exact .keys d e l
  | tab a b c d=>exact .tab (a.map hp x) b c d
  | own=>exact .own
theorem Inv.still (i:Inv X η H h) (x:Step fr own η h η h') (f:Frm h (own++fr)) (hm:∀ a∈η,∀ o,h.get? a=some o->h'.get? a=some o) (hf:∀ b∈own++fr,X.base.get? b=Option.none):Inv X η H h':=by
  refine ⟨fun b o e=>?_,i.len,i.fresh,i.nodup,fun n a o ha ho=>?_⟩
  · have no:b∉own++fr:=fun q=>by rw [hf b q] at e;cases e
    exact x.same b o (i.keep b o e) (fun q=>by rw [i.fresh b q] at e;cases e) (fun q=>no (List.mem_append.mpr (.inl q))) fun q=>no (List.mem_append.mpr (.inr q))
  · obtain ⟨ob,e,r⟩:=i.objs n a o ha ho
    exact ⟨ob,hm a (List.mem_of_getElem? ha) ob e,r.map x.pre' (x.holds f)⟩
theorem Inv.ext (i:Inv X η H h) (k:∀ b o,h.get? b=some o->h'.get? b=some o):Inv X η H h' :=
  i.still (fr:=[]) (own:=[]) (Step.ext _ _ _ k) (Frm.nil h) (fun _ _ o e=>k _ o e) fun _ q=>nomatch q
end
theorem Inv.alive {X:Cx} {η:List Addr} {H:Hp} {h:Heap} (i:Inv X η H h) {a:Addr} (ha:a∈η):∃ ob,h.get? a=some ob:=by
  obtain ⟨n,hn,e⟩:=List.getElem_of_mem ha
  have hH:n < H.length:=i.len▸hn
  obtain ⟨ob,e',_⟩:=i.objs n a H[n] (by rw [List.getElem?_eq_getElem hn,e]) (List.getElem?_eq_getElem hH)
  exact ⟨ob,e'⟩
theorem push_keeps (h:Heap) (ob:Obj):∀ b o,h.get? b=some o->(h.push ob).get? b=some o:=fun _ _ e=>Heap.get?_push_of_some ob e
theorem size_none (h:Heap):h.get? h.objs.size=Option.none:=by
  cases e:h.get? h.objs.size with
  | none=>rfl
  | some o=>exact absurd (Heap.lt_size e) (Nat.lt_irrefl _)
theorem Inv.size_off {X:Cx} {η:List Addr} {H:Hp} {h:Heap} (i:Inv X η H h):h.objs.size∉η:=fun q=>by
  obtain ⟨ob,e⟩:=i.alive q
  rw [size_none] at e;cases e
theorem Inv.make {X:Cx} {η:List Addr} {h h':Heap} {H:Hp} {a:Addr} {o:O} {ob:Obj} (i:Inv X η H h) (k:∀ b o,h.get? b=some o->h'.get? b=some o) (ha:h.get? a=Option.none) (e:h'.get? a=some ob) (r:OR X (η++[a]) h' o ob):Inv X (η++[a]) (H++[o]) h':=by
  have an:a∉η:=fun q=>by obtain ⟨ob',z⟩:=i.alive q;rw [ha] at z;cases z
  refine ⟨fun b o e=>k b o (i.keep b o e),by simp [i.len],fun b hb=>?_,?_,fun n b o' hb ho=>?_⟩
  · rcases List.mem_append.mp hb with hb | hb
    · exact i.fresh b hb
    · rw [List.mem_singleton] at hb;subst hb
      cases g:X.base.get? b with
      | none=>rfl
      | some o=>have:=i.keep _ _ g;rw [ha] at this;cases this
  · rw [List.nodup_append]
    refine ⟨i.nodup,List.nodup_cons.mpr ⟨(fun q=>nomatch q),List.nodup_nil⟩,fun b hb c hc=>?_⟩
    rw [List.mem_singleton] at hc;subst hc
    rintro rfl
    exact an hb
  · by_cases hn:n < η.length
    · rw [List.getElem?_append_left hn] at hb
      rw [List.getElem?_append_left (i.len▸hn)] at ho
      obtain ⟨ob',e',r'⟩:=i.objs n b o' hb ho
      exact ⟨ob',k _ _ e',r'.map ⟨_,rfl⟩ ((Step.make [] [] η k ha).holds (Frm.nil h))⟩
    · have hn':=Nat.le_of_not_lt hn
      rw [List.getElem?_append_right hn'] at hb
      rw [List.getElem?_append_right (i.len▸hn')] at ho
      have e0:n - η.length=0:=by
        cases q:n - η.length with
        | zero=>rfl
        | succ j=>rw [q] at hb;cases hb
      rw [e0] at hb
      rw [<- i.len,e0] at ho
      cases hb;cases ho
      exact ⟨ob,e,r⟩
theorem Step.push (fr own η:List Addr) (h:Heap) (ob:Obj):Step fr own η h (η++[h.objs.size]) (h.push ob):=Step.make fr own η (push_keeps h ob) (size_none h)
theorem Inv.alloc {X:Cx} {η:List Addr} {h:Heap} {H:Hp} (i:Inv X η H h) {o:O} {ob:Obj} (r:OR X (η++[h.objs.size]) (h.push ob) o ob) (hfree:ob.isFreed=false):Inv X (η++[h.objs.size]) (H++[o]) (h.push ob) :=
  i.make (push_keeps h ob) (size_none h) (Heap.get?_push_size _ hfree) r
theorem Frm.step {fr own η η':List Addr} {h h':Heap} {l:List Addr} (x:Step fr own η h η' h') (f:Frm h l) (hl:∀ b∈l,b∉η):Frm h' l:=by
  intro b hb
  obtain ⟨o,e,q⟩:=f b hb
  rcases q with ⟨es,n,d⟩ | ⟨v,d⟩
  · obtain ⟨o',es',n',e',d'⟩:=x.dicts b o e (hl b hb) es n d
    exact ⟨o',e',.inl ⟨es',n',d'⟩⟩
  · obtain ⟨o',v',e',d'⟩:=x.cells b o e (hl b hb) v d
    exact ⟨o',e',.inr ⟨v',d'⟩⟩
theorem Step.data' {fr η η':List Addr} {h h':Heap} (x:Step fr [] η h η' h') {b:Addr} {o:Obj} (e:h.get? b=some o) (hb:b∉η):∃ sl,h'.get? b=some { o with slots:=sl }:=let ⟨sl,e,_⟩:=x.data b o e hb (fun q=>nomatch q);⟨sl,e⟩
noncomputable def frs (st:List Env):List Addr:=st.filterMap (·.frame)
structure Stk (X:Cx) (η:List Addr) (A:Around) (st:List Env) (h:Heap):Prop where
  frames:A.frames=some st
  ok:h.FunFrames X.base st
  off:∀ a∈frs st,a∉η
  frm:Frm h (frs st)
noncomputable def ownOf (env:Env):List Addr:=env.locals::env.cells.map (·.2)
noncomputable def isVar (sc:Scope) (x:Str):Bool:=!(x==(".0":Str))&&match sc.names.lookup x with
  | some .local | some .cell | some .free=>true
  | _=>false
noncomputable def Held (h:Heap) (env:Env) (x:Str) (mv:Value):Prop :=
  (env.kindOf x=some .local/\∃ m,h.Ns env.locals m/\m x=some mv) \/
  ((env.kindOf x=some .cell\/env.kindOf x=some .free)/\∃ c o,env.cells.lookup x=some c/\h.get? c=some o/\o.data=.cell (some mv))
structure FrameOK (X:Cx) (η:List Addr) (h:Heap) (env:Env):Prop where
  kind:env.scope.kind=.function
  glob:env.globals=mainGlobals
  blt:env.builtins=builtinsNs
  ns:∃ m,h.Ns env.locals m
  cell:∀ p∈env.cells,∃ o v,h.get? p.2=some o/\o.data=.cell v
  cells:∀ x,env.kindOf x=some .cell->∃ c,env.cells.lookup x=some c
  inj:∀ x y c,env.cells.lookup x=some c->env.cells.lookup y=some c->x=y
  off:∀ a∈ownOf env,a∉η/\X.base.get? a=Option.none
structure Room (n:Nat) (A:Around):Prop where
  depth:A.depth+2 * n < recursionLimit
  units:A.units+8 * n+300 < cLine
noncomputable def RhoR (X:Cx) (η:List Addr) (h:Heap) (env:Env) (ρ:Rho):Prop:=∀ x v,ρ.lookup x=some v->isVar env.scope (Str.ofString x)=true->∃ mv,Held h env (Str.ofString x) mv/\VR X η h v mv
set_option genInjectivity false in
structure Ct where
  X:Cx
  n:Nat
  A:Around
  env:Env
  st:List Env
  Γ:Fn
noncomputable abbrev Ct.inn (κ:Ct) (e:Env):Ct:={ κ with env:=e }
noncomputable abbrev Ct.mark (κ:Ct) (e:Addr):Ct:={ κ with A:=κ.A.mark (some (.ref e)),Γ:={ κ.Γ with hd:=true } }
structure At (κ:Ct) (η:List Addr) (ρ:Rho) (H:Hp) (s:Shared):Prop where
  inv:Inv κ.X η H s.heap
  fok:FrameOK κ.X η s.heap κ.env
  rho:RhoR κ.X η s.heap κ.env ρ
  stk:Stk κ.X η κ.A κ.st s.heap
  room:Room κ.n κ.A
  hand:κ.Γ.hd=false->κ.A.handled=Option.none
theorem lookup_mem {α β:Type} [BEq α] [LawfulBEq α] {l:List (α×β)} {a:α} {b:β} (e:l.lookup a=some b):(a,b)∈l:=by
  induction l with
  | nil=>cases e
  | cons p l ih =>
    obtain ⟨x,y⟩:=p
    rw [List.lookup_cons] at e
    by_cases h:(a==x)=true
    · simp only [h] at e
      cases e
      rw [eq_of_beq h];exact List.Mem.head _
    · simp only [h] at e
      exact List.Mem.tail _ (ih e)
section
variable {X:Cx} {A:Around} {env:Env} {st:List Env} {κ:Ct} {η η':List Addr} {ρ:Rho} {H H':Hp} {s:Shared} {h':Heap} {fr:List Addr}
theorem FrameOK.frm (x:FrameOK X η s.heap env):Frm s.heap (ownOf env):=by
  intro b hb
  rcases List.mem_cons.mp hb with rfl | hb
  · obtain ⟨m,o,es,ep,e,d,_⟩:=x.ns
    exact ⟨o,e,.inl ⟨es,ep,d⟩⟩
  · obtain ⟨p,hp,rfl⟩:=List.mem_map.mp hb
    obtain ⟨o,v,e,d⟩:=x.cell p hp
    exact ⟨o,e,.inr ⟨v,d⟩⟩
theorem Ns.step {a:Addr} {m:Str->Option Value} (x:Step fr [] η s.heap η' h') (hn:s.heap.Ns a m) (ha:a∉η):h'.Ns a m:=by
  obtain ⟨o,es,ep,e,d,r⟩:=hn
  obtain ⟨sl,e'⟩:=x.data' e ha
  exact ⟨_,es,ep,e',d,r⟩
theorem Held.step {x:Str} {mv:Value} (st':Step fr [] η s.heap η' h') (f:FrameOK X η s.heap env) (hh:Held s.heap env x mv):Held h' env x mv:=by
  rcases hh with ⟨hk,m,hn,hm⟩ | ⟨hk,c,o,hc,e,d⟩
  · exact .inl ⟨hk,m,Ns.step st' hn (f.off _ (List.Mem.head _)).1,hm⟩
  · obtain ⟨sl,e'⟩:=st'.data' e (f.off c (List.mem_cons.mpr (.inr (List.mem_map.mpr ⟨(x,c),lookup_mem hc,rfl⟩)))).1
    exact .inr ⟨hk,c,_,hc,e',d⟩
theorem FrameOK.step (st':Step fr [] η s.heap η' h') (f:FrameOK X η s.heap env):FrameOK X η' h' env:=by
  have al:∀ a∈ownOf env,∃ o,s.heap.get? a=some o:=fun a ha=>let ⟨o,e,_⟩:=f.frm a ha;⟨o,e⟩
  refine ⟨f.kind,f.glob,f.blt,?_,fun p hp=>?_,f.cells,f.inj,fun a ha=>⟨?_,(f.off a ha).2⟩⟩
  · obtain ⟨m,hn⟩:=f.ns
    exact ⟨m,Ns.step st' hn (f.off _ (List.Mem.head _)).1⟩
  · obtain ⟨o,v,e,d⟩:=f.cell p hp
    obtain ⟨sl,e'⟩:=st'.data' e (f.off p.2 (List.mem_cons.mpr (.inr (List.mem_map.mpr ⟨p,hp,rfl⟩)))).1
    exact ⟨_,v,e',d⟩
  · obtain ⟨o,e⟩:=al a ha
    exact st'.mem e (f.off a ha).1
theorem Stk.step {own:List Addr} (x:Step fr own η s.heap η' h') (k:Stk X η A st s.heap):Stk X η' A st h':=by
  refine ⟨k.frames,?_,fun a ha=>?_,k.frm.step x k.off⟩
  · have:∀ l:List Env,(∀ a∈frs l,a∉η)->Frm s.heap (frs l)->s.heap.FunFrames X.base l->h'.FunFrames X.base l:=by
      intro l
      induction l with
      | nil=>intro _ _ _;trivial
      | cons e l ih =>
        intro ho hf ⟨hk,⟨L,o,hfr,hn,hg,hd⟩,hr⟩
        have hL:L∈frs (e::l):=by unfold frs;rw [List.filterMap_cons,hfr];exact List.Mem.head _
        have sub:∀ a∈frs l,a∈frs (e::l):=by intro a ha;unfold frs at *;rw [List.filterMap_cons,hfr];exact List.Mem.tail _ ha
        refine ⟨hk,?_,ih (fun a ha=>ho a (sub a ha)) (fun a ha=>hf a (sub a ha)) hr⟩
        obtain ⟨o',e',q⟩:=(Frm.step x hf ho) L hL
        refine ⟨L,o',hfr,hn,e',fun vs z=>?_⟩
        rcases q with ⟨_,_,q⟩ | ⟨_,q⟩ <;> (rw [z] at q;cases q)
    exact this st k.off k.frm k.ok
  · obtain ⟨o,e,_⟩:=k.frm a ha
    exact x.mem e (k.off a ha)
theorem Stk.fresh (k:Stk X η A st s.heap):∀ a∈frs st,X.base.get? a=Option.none:=fun _ ha=>(k.ok.mem ha).1
theorem At.step (a:At κ η ρ H s) (x:Step (frs κ.st) [] η s.heap η' h') (i:Inv κ.X η' H' h') (tk:Nat):At κ η' ρ H' { s with heap:=h',toks:=tk } :=
  ⟨i,a.fok.step x,fun y v e hv=>let ⟨mv,hh,r⟩:=a.rho y v e hv;⟨mv,hh.step x a.fok,r.up x a.stk.frm⟩,a.stk.step x,a.room,a.hand⟩
end
inductive Post (X:Cx) (fr own η:List Addr) (s:Shared) (H':Hp) (P:List Addr->Heap->Prop) (s':Shared):Prop
  | mk (η':List Addr) (h':Heap) (tk:Nat) (e:s'={ s with heap:=h',toks:=tk }) (i:Inv X η' H' h') (x:Step fr own η s.heap η' h') (p:P η' h'):Post X fr own η s H' P s'
inductive TbAt (X:Cx) (st:List Env) (h0:Heap) (e:Addr) (vs:Array Value) (η':List Addr) (h':Heap):Prop
  | mk (T:Addr) (oT:Obj) (ts:Array Value) (fl:Value) (q1:vs[1]?=some (.ref T)) (q2:T≠e) (q3:h'.get? T=some oT) (q4:oT.cls=.type "traceback") (q5:oT.data=.fields ts) (q6:T∉η') (q7:h0.get? T=Option.none) (q8:ts[3]?=some fl)
    (q9:fl=.none\/∃ L,(frs st).head?=some L/\fl=rawInt L):TbAt X st h0 e vs η' h'
inductive ExcAt (X:Cx) (st:List Env) (h0:Heap) (ev:Value) (c:String) (η':List Addr) (h':Heap):Prop
  | mk (e:Addr) (oe:Obj) (vs:Array Value) (C:Addr) (q1:ev=.ref e) (q2:h'.get? e=some oe) (q3:ExCls X c C) (q4:ObjCls oe C) (q5:oe.data=.fields vs) (q6:e∉η') (q7:h0.get? e=Option.none) (q8:4 < vs.size)
    (q9:vs[1]?=some .none\/TbAt X st h0 e vs η' h'):ExcAt X st h0 ev c η' h'
theorem ExcAt.older {X:Cx} {st:List Env} {h0 h1:Heap} {ev:Value} {c:String} {η:List Addr} {h:Heap} (x:ExcAt X st h1 ev c η h) (k:∀ b o,h0.get? b=some o->∃ o',h1.get? b=some o'):ExcAt X st h0 ev c η h:=by
  have old:∀ b,h1.get? b=Option.none->h0.get? b=Option.none:=fun b hb=>by
    cases e:h0.get? b with
    | none=>rfl
    | some o=>obtain ⟨o',e'⟩:=k b o e;rw [hb] at e';cases e'
  obtain ⟨e,oe,vs,C,h1,h2,h3,h4,h5,h6,h7,h8,h9⟩:=x
  refine ⟨e,oe,vs,C,h1,h2,h3,h4,h5,h6,old _ h7,h8,?_⟩
  rcases h9 with h9 | ⟨T,oT,ts,fl,g1,g2,g3,g4,g5,g5',g6,g7,g8⟩
  · exact .inl h9
  · exact .inr ⟨T,oT,ts,fl,g1,g2,g3,g4,g5,g5',old _ g6,g7,g8⟩
noncomputable abbrev noE:Value->Shared->Prop:=fun _ _=>False
theorem monoN {M:Model} {A:Around} {α:Type} {m:Sem α} {Q Q':α->Shared->Prop} {E:Value->Shared->Prop} {s:Shared} (h:wpAny M A m Q noE s) (hq:∀ a s,Q a s->Q' a s):wpAny M A m Q' E s:=wpAny_mono h hq fun _ _ q=>q.elim
inductive OkAt (X:Cx) (st:List Env) {α β:Type} (rel:β->α->Prop×List (V×Value)) (η:List Addr) (s:Shared) (r:R β) (a:α) (s':Shared):Prop
  | mk (b:β) (H':Hp) (e:r=.ok b H') (q:(rel b a).1) (p:Post X (frs st) [] η s H' (fun η' h'=>∀ p∈(rel b a).2,VR X η' h' p.1 p.2) s'):OkAt X st rel η s r a s'
inductive RaiseAt (X:Cx) (st:List Env) {β:Type} (η:List Addr) (s:Shared) (r:R β) (ev:Value) (s':Shared):Prop
  | mk (c:String) (H':Hp) (e:r=.raise c H') (p:Post X (frs st) [] η s H' (fun η' h'=>ExcAt X st s.heap ev c η' h') s'):RaiseAt X st η s r ev s'
noncomputable def Tri (κ:Ct) (ρ:Rho) {α β:Type} (vs:List (V×Value)) (m:Sem α) (H:Hp) (r:R β) (rel:β->α->Prop×List (V×Value)):Prop :=
  r≠.stuck->∀ η s,At κ η ρ H s->(∀ p∈vs,VR κ.X η s.heap p.1 p.2)->wpAny κ.X.M κ.A m (OkAt κ.X κ.st rel η s r) (RaiseAt κ.X κ.st η s r) s
section
variable {X:Cx} {κ:Ct} {ρ:Rho} {α β γ δ:Type} {vs:List (V×Value)} {H:Hp}
theorem Post.trans {fr own η η1:List Addr} {s:Shared} {h1:Heap} {tk:Nat} {H':Hp} {P P':List Addr->Heap->Prop} {s':Shared} (x:Step fr own η s.heap η1 h1)
    (y:Post X fr own η1 { s with heap:=h1,toks:=tk } H' P s') (hp:∀ η' h',P η' h'->P' η' h'):Post X fr own η s H' P' s':=by
  obtain ⟨η',h',tk',rfl,i,st,p⟩:=y
  exact ⟨η',h',tk',rfl,i,x.trans st,hp _ _ p⟩
section
variable {st:List Env} {η η1:List Addr} {s:Shared} {h1:Heap} {tk:Nat} {r:R β} {s':Shared}
theorem OkAt.after {rel:β->α->Prop×List (V×Value)} {a:α} (x:Step (frs st) [] η s.heap η1 h1) (y:OkAt X st rel η1 { s with heap:=h1,toks:=tk } r a s'):OkAt X st rel η s r a s':=by
  obtain ⟨b,H',e,q,p⟩:=y
  exact ⟨b,H',e,q,p.trans x fun _ _ q=>q⟩
theorem RaiseAt.after {ev:Value} (x:Step (frs st) [] η s.heap η1 h1) (y:RaiseAt X st η1 { s with heap:=h1,toks:=tk } r ev s'):RaiseAt X st η s r ev s':=by
  obtain ⟨c,H',e,p⟩:=y
  exact ⟨c,H',e,p.trans x fun _ _ q=>q.older x.alive⟩
end
theorem Tri.via {m:Sem α} {m':Sem γ} {W:α->(γ->Shared->Prop)->(Value->Shared->Prop)->Shared->Prop} {r:R β} {f:β->Hp->R δ} {rel:β->α->Prop×List (V×Value)} {rel':δ->γ->Prop×List (V×Value)}
    (hw:∀ Q E s,wpAny κ.X.M κ.A m (fun a s1=>W a Q E s1) E s->wpAny κ.X.M κ.A m' Q E s) (h1:Tri κ ρ vs m H r rel)
    (h2:∀ b H1 a,r=.ok b H1->(rel b a).1->f b H1≠.stuck->∀ η s Q E,At κ η ρ H1 s->(∀ p∈vs++(rel b a).2,VR κ.X η s.heap p.1 p.2)->(∀ d s',OkAt κ.X κ.st rel' η s (f b H1) d s'->Q d s')->(∀ ev s',RaiseAt κ.X κ.st η s (f b H1) ev s'->E ev s')->W a Q E s) :
    Tri κ ρ vs m' H (r.bind f) rel':=by
  intro hs η s a hv
  have hr:r≠.stuck:=by rintro rfl;exact hs rfl
  refine hw _ _ _ (wpAny_mono (h1 hr η s a hv) (fun x s1 hx=>?_) fun ev s1 hx=>?_)
  · obtain ⟨b,H1,rfl,hrel,η1,h',tk,rfl,i,stp,hp⟩:=hx
    refine h2 b H1 x rfl hrel hs η1 _ _ _ (a.step stp i tk) (fun p hm=>?_) (fun d s' o=>o.after stp) fun ev s' o=>o.after stp
    rcases List.mem_append.mp hm with hm | hm
    · exact (hv p hm).up stp a.stk.frm
    · exact hp p hm
  · obtain ⟨c,H1,rfl,hP⟩:=hx
    exact ⟨c,H1,rfl,hP⟩
theorem Tri.bind {m:Sem α} {k:α->Sem γ} {r:R β} {f:β->Hp->R δ} {rel:β->α->Prop×List (V×Value)} {rel':δ->γ->Prop×List (V×Value)}
    (h1:Tri κ ρ vs m H r rel) (h2:∀ b H1 a,r=.ok b H1->(rel b a).1->Tri κ ρ (vs++(rel b a).2) (k a) H1 (f b H1) rel') :
    Tri κ ρ vs (m >>= k) H (r.bind f) rel' :=
  Tri.via (W:=fun a Q E s=>wpAny κ.X.M κ.A (k a) Q E s) (fun _ _ _ q=>wpAny_bind q) h1 fun b H1 a e q hs η s Q E at' hv hq he=>wpAny_mono (h2 b H1 a e q hs η s at' hv) hq he
theorem Tri.skip {m:Sem α} {k:α->Sem γ} {r:R δ} {rel':δ->γ->Prop×List (V×Value)} {a₀:α}
    (hm:∀ (Q:α->Shared->Prop) (E:Value->Shared->Prop) (s:Shared),Q a₀ s->wpAny κ.X.M κ.A m Q E s) (h:Tri κ ρ vs (k a₀) H r rel'):Tri κ ρ vs (m >>= k) H r rel' :=
  fun hs η s a hv=>wpAny_bind (hm _ _ _ (h hs η s a hv))
theorem Tri.holding {m:Sem α} {l:List Value} {r:R β} {rel:β->α->Prop×List (V×Value)} (h:Tri κ ρ vs m H r rel):Tri κ ρ vs (PySem.holding l m) H r rel :=
  fun hs η s a hv=>wpAny_holding (h hs η s a hv)
theorem Tri.stand {pos:Pos} {k:Unit->Sem γ} {r:R δ} {rel':δ->γ->Prop×List (V×Value)} (h:Tri κ ρ vs (k ()) H r rel'):Tri κ ρ vs (standAt pos >>= k) H r rel' :=
  Tri.skip (a₀:=()) (fun _ _ _ q=>wpAny_standAt q) h
theorem Tri.pure {a:α} {b:β} {rel:β->α->Prop×List (V×Value)} (h1:(rel b a).1) (h2:∀ p∈(rel b a).2,p∈vs):Tri κ ρ vs (Pure.pure a) H (.ok b H) rel :=
  fun _ η s at' hv=>wpAny_pure ⟨b,H,rfl,h1,η,s.heap,s.toks,rfl,at'.inv,Step.refl _ _ _ _,fun p hp=>hv p (h2 p hp)⟩
theorem Tri.fewer {m:Sem α} {r:R β} {rel:β->α->Prop×List (V×Value)} {vs':List (V×Value)} (h:Tri κ ρ vs' m H r rel) (h1:∀ p∈vs',p∈vs):Tri κ ρ vs m H r rel :=
  fun hs η s a hv=>h hs η s a fun p hp=>hv p (h1 p hp)
theorem Tri.any {m:Sem α} {r:R β} {rel:β->α->Prop×List (V×Value)} (h:Tri κ ρ [] m H r rel):Tri κ ρ vs m H r rel:=h.fewer fun _ q=>nomatch q
theorem Tri.rel_of {m:Sem α} {r r':R β} {rel:β->α->Prop×List (V×Value)} (h:Tri κ ρ vs m H r rel) (e:r=r'):Tri κ ρ vs m H r' rel:=e▸h
theorem Tri.stuck {m:Sem α} {rel:β->α->Prop×List (V×Value)}:Tri κ ρ vs m H .stuck rel:=fun h=>absurd rfl h
theorem Tri.opt {σ:Type} {m:Sem α} {rel:β->α->Prop×List (V×Value)} {o:Option σ} {f:σ->R β} (h:∀ x,o=some x->Tri κ ρ vs m H (f x) rel):Tri κ ρ vs m H (optR o f) rel:=by
  cases o with
  | none=>exact Tri.stuck
  | some x=>exact h x rfl
theorem Tri.ifp {m:Sem α} {rel:β->α->Prop×List (V×Value)} {c:Prop} [Decidable c] {r:R β} (h:c->Tri κ ρ vs m H r rel):Tri κ ρ vs m H (ifR c r) rel:=by
  unfold ifR
  split
  · exact h ‹_›
  · exact Tri.stuck
theorem Tri.hdn {m:Sem α} {rel:β->α->Prop×List (V×Value)} {r:R β} (h:κ.Γ.hd=false->Tri κ ρ vs m H r rel):Tri κ ρ vs m H (hdR κ.Γ r) rel:=by
  cases hd:κ.Γ.hd with
  | true=>unfold hdR;rw [hd];exact Tri.stuck
  | false=>rw [hdR_of hd];exact h hd
theorem Tri.operate {m:Sem Value} {l:List Value} {r:R β} {rel:β->Value->Prop×List (V×Value)} (h:Tri κ ρ vs m H r rel):Tri κ ρ vs (PySem.operate l m) H r rel :=
  fun hs η s a hv=>wpAny_operating (h hs η s a hv)
theorem Tri.reads {m:Sem α} {b:β} {rel:β->α->Prop×List (V×Value)}
    (h:∀ (η:List Addr) (s:Shared) (Q:α->Shared->Prop) (E:Value->Shared->Prop),At κ η ρ H s->(∀ p∈vs,VR κ.X η s.heap p.1 p.2) ->
      (∀ a h' tk,(∀ b o,s.heap.get? b=some o->h'.get? b=some o)->(rel b a).1->(∀ p∈(rel b a).2,VR κ.X η h' p.1 p.2)->Q a { s with heap:=h',toks:=tk })->wpAny κ.X.M κ.A m Q E s) :
    Tri κ ρ vs m H (.ok b H) rel :=
  fun _ η s at' hv=>h η s _ _ at' hv fun a h' tk k h1 h2=>⟨b,H,rfl,h1,η,h',tk,rfl,at'.inv.ext k,Step.ext _ _ _ k,h2⟩
end
noncomputable def rV (v:V) (m:Value):Prop×List (V×Value):=(True,[(v,m)])
theorem rV1 {X:Cx} {η:List Addr} {h:Heap} {v:V} {m:Value} {p:V×Value} (hp:p∈(rV v m).2) (r:VR X η h v m):VR X η h p.1 p.2:=List.mem_singleton.mp hp▸r
theorem m0 {α:Type} {a:α} {l:List α}:a∈l++[a]:=List.mem_append.mpr (.inr (List.Mem.head _))
theorem m1 {α:Type} {a:α} {l k:List α} (h:a∈l):a∈l++k:=List.mem_append.mpr (.inl h)
noncomputable def rL (vs:List V) (ms:List Value):Prop×List (V×Value):=(vs.length=ms.length,vs.zip ms)
noncomputable def rB (b:Bool) (a:Bool):Prop×List (V×Value):=(a=b,[])
theorem VRs.of_zip {X:Cx} {η:List Addr} {h:Heap}:∀ {vs:List V} {ms:List Value},vs.length=ms.length->(∀ p∈vs.zip ms,VR X η h p.1 p.2)->VRs X η h vs ms
  | [],[],_,_=>.nil
  | _::_,_::_,e,hp=>.cons (hp (_,_) (List.Mem.head _)) (VRs.of_zip (Nat.succ.inj e) fun p hm=>hp p (List.Mem.tail _ hm))
  | [],_::_,e,_=>nomatch e
  | _::_,[],e,_=>nomatch e
theorem VRs.length {X:Cx} {η:List Addr} {h:Heap} {vs:List V} {ms:List Value} (r:VRs X η h vs ms):vs.length=ms.length:=VRs.ind (P:=fun vs ms=>vs.length=ms.length) rfl (fun _ _ ih=>congrArg Nat.succ ih) r
noncomputable def Ends (X:Cx) (env:Env) (ρ:Rho) (η:List Addr) (h:Heap):Prop:=FrameOK X η h env/\RhoR X η h env ρ
inductive Rd (h:Heap) (n:Nat) (m:Value) (d:PyData):Prop
  | mk (as:List Addr) (r:Reads h m d as) (c:d.canLay0=true) (e:d.depth<=n):Rd h n m d
inductive Rds (h:Heap) (n:Nat) (ms:List Value) (ds:List PyData):Prop
  | mk (as:List Addr) (r:ReadsAll h ms ds as) (c:PyData.canLayAll0 ds=true) (e:PyData.depthAll ds<=n):Rds h n ms ds
section
variable {X:Cx} {η:List Addr} {H:Hp} {h:Heap}
theorem flat_reads {n:Nat} {v:V} {m:Value} {d:PyData} (r:VR X η h v m) (e:flatD v=some d):Rd h n m d:=by
  cases r with
  | none=>cases e;exact ⟨_,.none,by simp [PyData.canLay0],by simp [PyData.depth]⟩
  | bool b=>cases e;exact ⟨_,.bool b,by simp [PyData.canLay0],by simp [PyData.depth]⟩
  | int b t=>cases e;exact ⟨_,.int b t,by simp [PyData.canLay0],by simp [PyData.depth]⟩
  | str b t q=>cases e;exact ⟨_,.str b t,by simp [PyData.canLay0,q],by simp [PyData.depth]⟩
  | _=>cases e
theorem mapM_reads {n:Nat} {f:V->Option PyData} (ih:∀ {v:V} {m:Value} {d:PyData},VR X η h v m->f v=some d->Rd h n m d):∀ {vs:List V} {ms:List Value} {ds:List PyData},VRs X η h vs ms->vs.mapM f=some ds->Rds h n ms ds:=fun {vs ms ds} r e =>
  VRs.ind (P:=fun vs ms=>∀ ds,vs.mapM f=some ds->Rds h n ms ds) (fun ds e=>by
    cases e
    exact ⟨_,.nil,by simp [PyData.canLayAll0],by simp [PyData.depthAll]⟩) (fun a r rec ds e=>by
    rw [List.mapM_cons] at e
    obtain ⟨d,e1,e⟩:=Option.bind_eq_some_iff.mp e
    obtain ⟨es,e2,e⟩:=Option.bind_eq_some_iff.mp e
    cases e
    obtain ⟨as,q,c,dd⟩:=ih a e1
    obtain ⟨bs,p,c',dd'⟩:=rec _ e2
    exact ⟨_,.cons q p,by simp [PyData.canLayAll0,c,c'],by simp only [PyData.depthAll];omega⟩) r ds e
theorem line_lt:line<=sizeLine:=by unfold line sizeLine;decide
theorem vr_of {vs:List (V×Value)} {a:V} {ma:Value} (hv:∀ p∈vs,VR X η h p.1 p.2) (ha:(a,ma)∈vs):VR X η h a ma:=hv _ ha
theorem refAt_inv {v:V} {n:Nat} (e:refAt v=some n):v=.ref n:=by cases v <;> cases e;rfl
theorem vr_obj {α:Type} {P:V->Value->Prop} {f:O->Option α} {x:α} {v:V} {m:Value} (i:Inv X η H h) (r:VR X η h v m) (e:((refAt v).bind fun n=>(H[n]?).bind f)=some x)
    (k:∀ n a o ob,η[n]?=some a->H[n]?=some o->f o=some x->h.get? a=some ob->OR X η h o ob->P (.ref n) (.ref a)):P v m:=by
  obtain ⟨n,e1,e2⟩:=Option.bind_eq_some_iff.mp e
  obtain ⟨o,e3,e4⟩:=Option.bind_eq_some_iff.mp e2
  cases refAt_inv e1
  cases r with
  | ref ea =>
    obtain ⟨ob,g,q⟩:=i.objs n _ o ea e3
    exact k n _ o ob ea e3 e4 g q
inductive LstAt (X:Cx) (η:List Addr) (h:Heap) (xs:List V) (a:Addr):Prop
  | mk (items:Array Value) (c:Nat) (g:h.get? a=some { cls:=.type "list",data:=.seq items c }) (r:VRs X η h xs items.toList) (l:xs.length<=line):LstAt X η h xs a
theorem list_of {n:Nat} {a:Addr} {xs:List V} (i:Inv X η H h) (ea:η[n]?=some a) (eo:H[n]?=some (.list xs)):LstAt X η h xs a:=by
  obtain ⟨ob,g,q⟩:=i.objs n a _ ea eo
  cases q with
  | list r l=>exact ⟨_,_,g,r,l⟩
theorem vr_listN {P:V->Value->Prop} {v:V} {m:Value} {xs:List V} (i:Inv X η H h) (r:VR X η h v m) (e:listAt v H=some xs) (k:∀ n a,η[n]?=some a->H[n]?=some (.list xs)->LstAt X η h xs a->P (.ref n) (.ref a)):P v m :=
  vr_obj i r e fun n a o ob ea eo ef g q=>by
    cases q with
    | list r l=>cases ef;exact k n a ea eo ⟨_,_,g,r,l⟩
    | _=>cases ef
theorem vr_list {P:Value->Prop} {v:V} {m:Value} {xs:List V} (i:Inv X η H h) (r:VR X η h v m) (e:listAt v H=some xs) (k:∀ a items c,h.get? a=some { cls:=.type "list",data:=.seq items c }->VRs X η h xs items.toList->xs.length<=line->P (.ref a)):P m :=
  vr_listN (P:=fun _ m=>P m) i r e fun n a _ _ ⟨items,c,g,r,l⟩=>k a items c g r l
theorem vr_int {P:Value->Prop} {v:V} {m:Value} {i:Int} (r:VR X η h v m) (e:intAt v=some i) (k:∀ t,P (.int i t)):P m:=by
  cases r with
  | int j t=>cases e;exact k t
  | _=>cases e
theorem vr_str {P:Value->Prop} {v:V} {m:Value} {x:Str} (r:VR X η h v m) (e:strAt v=some x) (k:∀ t,PyData.strOk x=true->P (.str x t)):P m:=by
  cases r with
  | str j t q=>cases e;exact k t q
  | _=>cases e
theorem if_some {α:Type} {c:Prop} [Decidable c] {a b:α} (e:(if c then some a else Option.none)=some b):c/\a=b:=by
  split at e
  · exact ⟨‹_›,Option.some.inj e⟩
  · cases e
theorem snap_reads (i:Inv X η H h):∀ (n:Nat) {v:V} {m:Value} {d:PyData},VR X η h v m->snap n H v=some d->Rd h n m d
  | 0,_,_,_,r,e=>flat_reads r e
  | n+1,v,m,d,r,e=>by
    cases v with
    | tup vs =>
      cases r with
      | tup g hn r _ =>
        obtain ⟨ds,e2,rfl⟩:=Option.map_eq_some_iff.mp e
        obtain ⟨as,q,c,dd⟩:=mapM_reads (snap_reads i n) r e2
        exact ⟨as,.tuple g rfl rfl q,by simpa [PyData.canLay0] using c,by simp only [PyData.depth];omega⟩
    | ref k =>
      obtain ⟨vs,e1,e⟩:=Option.bind_eq_some_iff.mp e
      obtain ⟨ds,e2,rfl⟩:=Option.map_eq_some_iff.mp e
      apply vr_list i r e1;intro a items c0 g r _
      obtain ⟨as,q,c,dd⟩:=mapM_reads (snap_reads i n) r e2
      exact ⟨_,.list g rfl rfl q,by simpa [PyData.canLay0] using c,by simp only [PyData.depth];omega⟩
    | _=>exact flat_reads r e
theorem shaped_of {d:PyData} {n:Nat} (c:d.canLay0=true) (e:d.depth<=n) (hn:n<=64):SeqAt.shaped d=true:=by
  unfold SeqAt.shaped
  rw [c,Bool.true_and]
  exact decide_eq_true (Nat.le_trans e hn)
theorem VRs.append {xs ys:List V} {ms ns:List Value} (l:VRs X η h xs ms) (r:VRs X η h ys ns):VRs X η h (xs++ys) (ms++ns):=VRs.ind (P:=fun xs ms=>VRs X η h (xs++ys) (ms++ns)) r (fun a _ ih=>.cons a ih) l
theorem VRs.size {xs:List V} {ms:Array Value} (r:VRs X η h xs ms.toList):ms.size=xs.length:=by rw [r.length];simp
end
section
variable {κ:Ct} {X:Cx} {A:Around} {ρ:Rho} {vs:List (V×Value)} {H:Hp}
theorem Tri.plain {m:Sem Value} {v:V} (h:∀ (η:List Addr) (s:Shared) (Q:Value->Shared->Prop) (E:Value->Shared->Prop),At κ η ρ H s->(∀ p∈vs,VR κ.X η s.heap p.1 p.2) ->
      (∀ a tk,VR κ.X η s.heap v a->Q a { s with toks:=tk })->wpAny κ.X.M κ.A m Q E s):Tri κ ρ vs m H (.ok v H) rV :=
  Tri.reads fun η s Q E at' hv hq=>h η s Q E at' hv fun a tk r=>hq a s.heap tk (fun _ _ e=>e) trivial fun p hp=>rV1 hp r
noncomputable def opOf:Op->Operator
  | .add=>.Add
  | .sub=>.Sub
  | .mul=>.Mult
  | .fdiv=>.FloorDiv
  | .mod=>.Mod
  | .pow=>.Pow
theorem Tri.made {m:Sem Value} {o:O}
    (h:∀ (η:List Addr) (s:Shared) (Q:Value->Shared->Prop) (E:Value->Shared->Prop),At κ η ρ H s->(∀ p∈vs,VR κ.X η s.heap p.1 p.2) ->
      (∀ a h' ob tk,s.heap.get? a=Option.none->(∀ b o,s.heap.get? b=some o->h'.get? b=some o)->h'.get? a=some ob->OR κ.X (η++[a]) h' o ob->Q (.ref a) { s with heap:=h',toks:=tk })->wpAny κ.X.M κ.A m Q E s) :
    Tri κ ρ vs m H (new o H) rV:=by
  intro _ η s a hv
  refine h η s _ _ a hv fun b h' ob tk hb k e r=>⟨_,_,rfl,trivial,η++[b],h',tk,rfl,a.inv.make k hb e r,Step.make _ _ _ k hb,fun p hp=>rV1 hp (.ref ?_)⟩
  rw [<- a.inv.len,List.getElem?_append_right (Nat.le_refl _),Nat.sub_self];rfl
theorem Tri.madeL {m:Sem Value} {ws:List V}
    (h:∀ (η:List Addr) (s:Shared) (Q:Value->Shared->Prop) (E:Value->Shared->Prop),At κ η ρ H s->(∀ p∈vs,VR κ.X η s.heap p.1 p.2) ->
      (∀ a h' items c tk,s.heap.get? a=Option.none->(∀ b o,s.heap.get? b=some o->h'.get? b=some o)->h'.get? a=some { cls:=.type "list",data:=.seq items c }->VRs κ.X η s.heap ws items.toList->ws.length<=line->Q (.ref a) { s with heap:=h',toks:=tk })->wpAny κ.X.M κ.A m Q E s) :
    Tri κ ρ vs m H (new (.list ws) H) rV :=
  Tri.made fun η s Q E at' hv hq=>h η s Q E at' hv fun a h' items c tk ha k e r hl=>hq a h' _ tk ha k e (.list (r.grow (Step.make [] [] η k ha)) hl)
theorem abs10 {x:Int} (h:0<=x) (h2:x<=10):x.natAbs < 2 ^ 64:=by
  obtain ⟨k,rfl⟩:=Int.eq_ofNat_of_zero_le h
  exact Nat.lt_of_le_of_lt (Int.ofNat_le.mp h2) (by decide)
theorem bits64 {x:Int} (h:x.natAbs < 2 ^ 64):Builtin.Int.intBits x<=64:=intBits_le_64 (Int.lt_of_lt_of_le (Int.neg_lt_neg (Int.ofNat_lt.mpr h)) (Int.neg_le_of_neg_le (Int.natAbs_neg x▸Int.le_natAbs))) (Int.lt_of_le_of_lt Int.le_natAbs (Int.ofNat_lt.mpr h))
theorem intOp_ok {op:Op} {x y z:Int} {t u:Tok} {s:Shared} {Q:Value->Shared->Prop} {E:Value->Shared->Prop} (e:intOp op x y=some z) (hq:∀ tk w,Q (.int z w) { s with toks:=tk }):wpAny X.M A (binaryOp (opOf op) (.int x t) (.int y u)) Q E s:=by
  cases op with
  | add=>cases e;exact PyProof.Rows.add_int (hq _ _)
  | sub=>cases e;exact PyProof.Rows.sub_int (hq _ _)
  | mul =>
    obtain ⟨hm,rfl⟩:=if_some e
    exact PyProof.Rows.mul_int (hq _ _) (hm.elim (fun hm=>.of_left (bits64 hm)) fun hm=>.of_right (bits64 hm))
  | fdiv =>
    obtain ⟨hm,rfl⟩:=if_some e
    exact PyProof.Rows.floordiv_int hm.1 (hq _ _) (Or.inl (PyProof.noPylong_small hm.2))
  | mod =>
    obtain ⟨hm,rfl⟩:=if_some e
    exact PyProof.Rows.mod_int' hm (hq _ _)
  | pow =>
    obtain ⟨hm,rfl⟩:=if_some e
    exact PyProof.Rows.pow_int_small hm.2.2.1 (Int.le_trans hm.2.2.2 (by decide)) (abs10 hm.1 hm.2.1) (hq _ _)
theorem addL_ok {a b:V} {ma mb:Value} (ha:(a,ma)∈vs) (hb:(b,mb)∈vs):Tri κ ρ vs (binaryOp .Add ma mb) H (addL a b H) rV :=
  Tri.opt fun x hx=>Tri.opt fun y hy=>Tri.ifp fun hm=>Tri.madeL fun η s Q E at' hv hq=>by
    apply vr_list at'.inv (vr_of hv ha) hx;intro a1 i1 m1 g1 r1 l1
    apply vr_list at'.inv (vr_of hv hb) hy;intro a2 i2 m2 g2 r2 l2
    exact P.add_list g1 g2 (hq _ _ _ _ s.toks (size_none _) (push_keeps _ _) (Heap.get?_push_size _ rfl) (by rw [Array.toList_append];exact r1.append r2) (by rw [List.length_append];exact hm)) (by rw [r1.size,r2.size];exact Nat.le_trans hm line_lt)
theorem bin_ok {op:Op} {a b:V} {ma mb:Value} (ha:(a,ma)∈vs) (hb:(b,mb)∈vs):Tri κ ρ vs (binaryOp (opOf op) ma mb) H (bin op a b H) rV:=by
  unfold bin
  cases hx:intAt a with
  | some x=>exact Tri.opt fun y hy=>Tri.opt fun z hz=>Tri.plain fun η s Q E at' hv hq=>vr_int (P:=fun ma=>wpAny _ _ (binaryOp _ ma mb) Q E s) (hv _ ha) hx fun t=>vr_int (P:=fun mb=>wpAny _ _ (binaryOp _ _ mb) Q E s) (hv _ hb) hy fun u=>intOp_ok hz fun tk w=>hq _ tk (.int _ _)
  | none=>exact Tri.ifp fun ho=>by subst ho;exact addL_ok ha hb
end
end Mine
namespace Mine
open PySem
section
variable {prog:Program} {w:World} {A:Around} {E:Value->Shared->Prop} {s:Shared} {d it:Addr} {o:Obj} {es:Array DictEntry} {i ep:Nat}
theorem dictT (ho:s.heap.get? d=some o) (hc:o.ExactDict):s.TypeIs (.ref d) "dict":=⟨o,ho,hc.1⟩
theorem pyIter_raw {Q:Value->Shared->Prop} (hd:(d==sysModules)=false) (ho:s.heap.get? d=some o) (hc:o.ExactDict) (hdat:o.data=.dict es ep)
    (hQ:Q (.ref s.heap.objs.size) { s with heap:=s.heap.push { cls:=.type "dict_keyiterator",data:=.fields #[.ref d,.int 0 0,.int es.size 0,.int ep 0] } }) :
    wpAny (model prog w) A (pyIter (.ref d)) Q E s:=by
  have hT:=dictT ho hc
  refine wpAny_pyIter_slot hT F.slot_dict_iter (wpAny_call_entry F.slot_dict_iter hT F.entry_dict_iter ?_ (F.args_dict_iter_1 _))
  unfold Builtin.«dict.__iter__»
  refine wpAny_bind ?_
  unfold Builtin.Dict.dictSlotNone
  refine wpAny_bind (wpAny_notOrdered_dict hT ?_)
  show wpAny _ _ (pure (Value.ref d)) _ _ s
  refine wpAny_pure ?_
  show wpAny _ _ (Builtin.Dict.showsAll d >>= _) _ _ s
  unfold Builtin.Dict.showsAll
  rw [if_neg (by rw [hd];exact Bool.false_ne_true)]
  refine wpAny_bind (wpAny_pure ?_)
  refine wpAny_bind (wpAny_dictEntries ho hdat ?_)
  refine wpAny_bind (wpAny_dictEpoch ho hdat ?_)
  refine wpAny_bind (wpAny_newObj_type (wpAny_pure ⟨_,rfl,"dict_keyiterator",_,⟨_,Heap.get?_push_size _ rfl,rfl⟩,F.slot_dict_keyiterator_next.lookup,?_⟩))
  simpa [rawInt] using hQ
theorem pyNext_raw_item {e:DictEntry} {Q:Option Value->Shared->Prop} (hit:s.heap.IsKeyIter it d i es.size ep) (hod:s.heap.get? d=some o) (hdd:o.data=.dict es ep) (hx:es[i]?=some e)
    (hQ:∀ h',h'.IsKeyIter it d (i+1) es.size ep->Heap.SameBut it s.heap h'->Q (some e.key) { s with heap:=h' }) :
    wpAny (model prog w) A (pyNext (.ref it)) Q E s:=by
  obtain ⟨oi,ho,hc,hd⟩:=id hit
  unfold pyNext
  refine wpAny_bind (wpAny_attempt (wpAny_callSpecial?_slot (name:=Str.ofString "__next__") hit.typeIs F.slot_dict_keyiterator_next
    (wpAny_call_entry F.slot_dict_keyiterator_next hit.typeIs F.entry_dict_keyiterator_next ?_ (F.args_dict_keyiterator_next_1 _))))
  refine wpAny_bind (wpAny_pure ?_)
  refine wpAny_bind ?_
  refine wpAny_bind ?_
  first | refine wpAny_bind (wpAny_typeNameOfWhole_keyiter hit.typeIs (wpAny_pure ?_)) | refine wpAny_bind (wpAny_typeNameOf_keyiter hit.typeIs (wpAny_pure ?_))
  refine wpAny_bind (wpAny_fieldsOf ho hd ?_)
  have hown:Builtin.Dict_items.ownsTuple "dict_keyiterator"=false:=by decide
  rw [hown,if_neg Bool.false_ne_true]
  show wpAny _ _ (if (Value.ref d==Value.none)=true then _ else _) _ _ s
  rw [if_neg (show ¬ ((Value.ref d==Value.none)=true) from Bool.false_ne_true)]
  refine wpAny_bind (wpAny_pure ?_)
  refine wpAny_bind (wpAny_dictEntries hod hdd ?_)
  rw [if_neg (by simp)]
  refine wpAny_bind (wpAny_pure ?_)
  refine wpAny_bind (wpAny_dictEpoch hod hdd ?_)
  rw [if_neg (by simp)]
  refine wpAny_pure ?_
  obtain ⟨hlt,he⟩:=Array.getElem?_eq_some_iff.mp hx
  dsimp only
  rw [if_neg (show ¬ ((i:Int) < 0) from Int.not_lt.mpr (Int.natCast_nonneg i)),Int.toNat_natCast,hx]
  dsimp only
  refine wpAny_bind ?_
  first | refine wpAny_bind (wpAny_typeNameOfWhole_keyiter hit.typeIs (wpAny_pure ?_)) | refine wpAny_bind (wpAny_typeNameOf_keyiter hit.typeIs (wpAny_pure ?_))
  refine wpAny_bind (wpAny_isOneOf_keyiter hit.typeIs ?_)
  show wpAny _ _ (setField (.ref it) 1 (rawInt ((i:Int)+1)) >>= _) _ _ s
  refine wpAny_bind (wpAny_setField ho hd (by simp) ?_)
  have hit':(s.heap.update it (Obj.mapFields (·.setIfInBounds 1 (rawInt ((i:Int)+1))))).IsKeyIter it d (i+1) es.size ep :=
    ⟨_,Heap.get?_update_self _ ho (Obj.isFreed_of_fields (Obj.data_mapFields hd _)),(Obj.cls_mapFields ..).trans hc,by rw [Obj.data_mapFields hd];simp [rawInt]⟩
  refine wpAny_bind (wpAny_holding ?_)
  refine wpAny_bind (wpAny_isOneOf_keyiter (s:={ s with heap:=s.heap.update it (Obj.mapFields (·.setIfInBounds 1 (rawInt ((i:Int)+1)))) }) hit'.typeIs ?_)
  show wpAny _ _ (pure e.key) _ _ _
  exact wpAny_pure (wpAny_pure ⟨_,rfl,wpAny_pure (hQ _ hit' (Heap.SameBut.update ..))⟩)
theorem pyNext_raw_end {Q:Option Value->Shared->Prop} (hh:A.handled=Option.none) (hit:s.heap.IsKeyIter it d i es.size ep) (hod:s.heap.get? d=some o) (hdd:o.data=.dict es ep) (hx:es[i]?=Option.none)
    (hQ:∀ h',Heap.ExtBut it s.heap h'->Q Option.none { s with heap:=h' }):wpAny (model prog w) A (pyNext (.ref it)) Q E s:=by
  obtain ⟨oi,ho,hc,hd⟩:=id hit
  unfold pyNext
  refine wpAny_bind (wpAny_attempt (wpAny_callSpecial?_slot (name:=Str.ofString "__next__") hit.typeIs F.slot_dict_keyiterator_next
    (wpAny_call_entry F.slot_dict_keyiterator_next hit.typeIs F.entry_dict_keyiterator_next ?_ (F.args_dict_keyiterator_next_1 _))))
  refine wpAny_bind (wpAny_pure ?_)
  refine wpAny_bind ?_
  refine wpAny_bind ?_
  first | refine wpAny_bind (wpAny_typeNameOfWhole_keyiter hit.typeIs (wpAny_pure ?_)) | refine wpAny_bind (wpAny_typeNameOf_keyiter hit.typeIs (wpAny_pure ?_))
  refine wpAny_bind (wpAny_fieldsOf ho hd ?_)
  have hown:Builtin.Dict_items.ownsTuple "dict_keyiterator"=false:=by decide
  rw [hown,if_neg Bool.false_ne_true]
  show wpAny _ _ (if (Value.ref d==Value.none)=true then _ else _) _ _ s
  rw [if_neg (show ¬ ((Value.ref d==Value.none)=true) from Bool.false_ne_true)]
  refine wpAny_bind (wpAny_pure ?_)
  refine wpAny_bind (wpAny_dictEntries hod hdd ?_)
  rw [if_neg (by simp)]
  refine wpAny_bind (wpAny_pure ?_)
  refine wpAny_bind (wpAny_dictEpoch hod hdd ?_)
  rw [if_neg (by simp)]
  refine wpAny_pure ?_
  dsimp only
  rw [if_neg (show ¬ ((i:Int) < 0) from Int.not_lt.mpr (Int.natCast_nonneg i)),Int.toNat_natCast,hx]
  dsimp only
  refine wpAny_bind ?_
  first | refine wpAny_bind (wpAny_typeNameOfWhole_keyiter hit.typeIs (wpAny_pure ?_)) | refine wpAny_bind (wpAny_typeNameOf_keyiter hit.typeIs (wpAny_pure ?_))
  show wpAny _ _ (setField (.ref it) 0 .none >>= _) _ _ s
  refine wpAny_bind (wpAny_setField ho hd (by simp) ?_)
  show wpAny _ _ (newExc (.type "StopIteration") [] >>= _) _ _ _
  refine wpAny_bind ?_
  unfold newExc newTuple
  refine wpAny_bind (wpAny_newObj_type ?_ (by size_fits))
  refine wpAny_bind (m:=firstArgMember _ _) (wpAny_of_eq (a:=Value.none) (by first | rfl | (simp only [firstArgMember];rfl)) ?_)
  refine wpAny_newObj_type ?_ (by size_fits)
  unfold raiseNew
  refine wpAny_bind (wpAny_handled ?_)
  rw [show A.in1.handled=Option.none from hh]
  refine wpAny_bind (wpAny_pure (wpAny_throw ?_))
  refine wpAny_bind (wpAny_isInstance (T:="StopIteration") (b:=true) ⟨_,Heap.get?_push_size _ rfl,rfl⟩ isSubtype_stop ?_)
  exact wpAny_pure (hQ _ (((Heap.SameBut.update ..).extBut.push _).push _))
end
section
variable {prog:Program} {w:World} {K:Type} [DecidableEq K] {knd:HeapKind prog w K} {A:Around} {E:Value->Shared->Prop} {s:Shared}
noncomputable def mergedH (xs ys:List (K×Addr×Value)):List (K×Addr×Value):=ys.foldl (fun acc y=>storedH acc y.1 y.2.1 y.2.2) xs
theorem storedH_len (xs:List (K×Addr×Value)) (k:K) (a:Addr) (v:Value):(storedH xs k a v).length<=xs.length+1:=by
  unfold storedH
  split
  · rw [List.length_map];exact Nat.le_succ _
  · rw [List.length_append];exact Nat.le_refl _
theorem mergedH_len:∀ (ys xs:List (K×Addr×Value)),(mergedH xs ys).length<=xs.length+ys.length
  | [],xs=>Nat.le_refl _
  | y::ys,xs=>by
    have h1:=mergedH_len ys (storedH xs y.1 y.2.1 y.2.2)
    have h2:=storedH_len xs y.1 y.2.1 y.2.2
    exact Nat.le_trans h1 (Nat.le_trans (Nat.add_le_add_right h2 _) (Nat.le_of_eq (by rw [List.length_cons,Nat.add_assoc,Nat.add_comm 1])))
theorem mergedH_take (xs ys:List (K×Addr×Value)) (i:Nat) (y:K×Addr×Value) (h:ys[i]?=some y):mergedH xs (ys.take (i+1))=storedH (mergedH xs (ys.take i)) y.1 y.2.1 y.2.2:=by
  unfold mergedH
  rw [List.take_add_one,h,List.foldl_append];rfl
theorem mergedH_fresh:∀ (ys xs:List (K×Addr×Value)),((xs++ys).map (·.1)).Nodup->mergedH xs ys=xs++ys
  | [],xs,_=>by simp [mergedH]
  | y::ys,xs,hn=>by
    have hno:atKey xs y.1=Option.none:=by
      refine atKey_none_of_get fun j p hj=>?_
      rw [List.map_append,List.nodup_append] at hn
      exact hn.2.2 y.1 (List.mem_map.mpr ⟨(y.1,p),List.mem_of_getElem? hj,rfl⟩) y.1 (by simp) rfl
    show mergedH (storedH xs y.1 y.2.1 y.2.2) ys=_
    rw [storedH_new hno,mergedH_fresh ys (xs++[(y.1,y.2.1,y.2.2)]) (by simpa using hn)];simp
noncomputable def HashOk (knd:HeapKind prog w K) (ys:List (K×Addr×Value)):Prop:=∀ y∈ys,(ys.filter fun z=>knd.hash z.1==knd.hash y.1).length<=1
theorem entries_heap {id:String} {o:Addr} {oo:Obj} {es:Array DictEntry} {ep:Nat} {ys:List (K×Addr×Value)} {Q:Array DictEntry->Shared->Prop} (ho:s.heap.get? o=some oo) (hd:oo.data=.dict es ep) (he:es.toList=ys.map (entryOfKey knd)) (hT:∀ y∈ys,s.TypeIs (.ref y.2.1) "tuple") (hk:HashOk knd ys) (h:Q es s) :
    wpAny (model prog w) A (Builtin.Dict.entriesForEmpty id o) Q E s:=by
  unfold Builtin.Dict.entriesForEmpty
  refine wpAny_bind (wpAny_dictEntries ho hd ?_)
  refine wpAny_bind ?_
  rw [<- Array.forIn_toList]
  refine wpAny_forIn_list _ (fun rest _ s'=>s'=s/\∀ e∈rest,∃ y∈ys,e=entryOfKey knd y) _ ?_ ?_ _ _ ⟨rfl,fun e hm=>by rw [he] at hm;obtain ⟨y,hy,rfl⟩:=List.mem_map.mp hm;exact ⟨y,hy,rfl⟩⟩
  · rintro e rest b s' ⟨rfl,hall⟩
    obtain ⟨y,hy,rfl⟩:=hall e (List.mem_cons_self ..)
    refine wpAny_bind ?_
    show wpAny _ _ (specialOf (.ref y.2.1) "__eq__" >>= _) _ _ _
    refine wpAny_bind (wpAny_specialOf (hT y hy) F.slot_tuple_eq.lookup ?_)
    refine wpAny_pure ?_
    have hsz:¬ ((es.filter (·.hash==(entryOfKey knd y).hash)).size > 1):=by
      have:=hk y hy
      rw [<- Array.length_toList,Array.toList_filter,he,List.filter_map,List.length_map]
      exact Nat.not_lt.mpr this
    have hq:(some (Value.builtin "tuple.__eq__")==some (Value.builtin "object.__eq__"))=false:=by decide
    rw [hq]
    rw [if_pos (show (!false)=true from rfl)]
    rw [if_neg hsz]
    exact wpAny_pure ⟨rfl,fun e hm=>hall e (List.mem_cons_of_mem _ hm)⟩
  · rintro b s' ⟨rfl,_⟩
    exact wpAny_pure h
end
section
variable {prog:Program} {w:World} {K:Type} [DecidableEq K] (knd:HeapKind prog w K)
noncomputable def DictE (h:Heap) (d:Addr) (xs:List (K×Addr×Value)) (ep:Nat):Prop :=
  ∃ o es,h.get? d=some o/\o.ExactDict/\o.data=.dict es ep/\es.toList=xs.map (entryOfKey knd)/\(∀ x∈xs,knd.is h x.1 x.2.1)/\(xs.map (·.1)).Nodup
variable {knd}
theorem DictE.of {h:Heap} {d:Addr} {xs:List (K×Addr×Value)} {ep:Nat} (x:DictE knd h d xs ep):h.DictOfH knd d xs:=let ⟨o,es,r⟩:=x;⟨o,es,ep,r⟩
variable {A:Around} {E:Value->Shared->Prop} {s:Shared}
noncomputable def epAt (xs:List (K×Addr×Value)) (k:K) (ep:Nat):Nat:=if (atKey xs k).isSome=true then ep else ep+1
theorem setHashedE {d a:Addr} {xs:List (K×Addr×Value)} {k:K} {v:Value} {ep:Nat} {Q:Unit->Shared->Prop} (hu:knd.room A) (hkey:knd.is s.heap k a) (hm:DictE knd s.heap d xs ep)
    (hQ:∀ h',DictE knd h' d (storedH xs k a v) (epAt xs k ep)->Heap.SameBut d s.heap h'->Q () { s with heap:=h' }) (hsz:xs.length<=sizeLine) :
    wpAny (model prog w) A (dictSetHashed d (.ref a) (knd.hash k) v) Q E s:=by
  obtain ⟨o,es,ho,hc,hd,he,his,hn⟩:=hm
  unfold epAt at hQ
  unfold dictSetHashed
  try with_reducible refine wpAny_holding ?_
  refine wpAny_bind (wpAny_dictFind_heap hu hkey ho hd he his hn ?_ ?_)
  · intro hno
    have hnot:k∉xs.map (·.1):=not_mem_keys_of_get hno
    rw [atKey_none_of_get hno] at hQ
    refine wpAny_bind (wpAny_rule (wpAny_updateDictKeys (hz:=size_of_entries he▸hsz) ho hd (hQ _ ⟨_,_,Heap.get?_update_self _ ho (Obj.isFreed_of_dict (Obj.data_mapDictKeys hd _)),
      hc.mapDictKeys _,Obj.data_mapDictKeys hd _,?_,?_,?_⟩ (Heap.SameBut.update ..))))
    · rw [storedH_new (atKey_none_of_get hno)]
      simp [he,entryOfKey]
    · rw [storedH_new (atKey_none_of_get hno)]
      intro x hx
      rcases List.mem_append.mp hx with hx | hx
      · exact knd.keeps (his x hx) ho hd (Heap.SameBut.update ..)
      · simp only [List.mem_singleton] at hx
        subst hx
        exact knd.keeps hkey ho hd (Heap.SameBut.update ..)
    · rw [storedH_new (atKey_none_of_get hno)]
      rw [List.map_append,List.nodup_append]
      refine ⟨hn,by simp,?_⟩
      intro x hx y hy
      simp only [List.map_cons,List.map_nil,List.mem_singleton] at hy
      subst hy
      exact fun e=>hnot (e▸hx)
  · intro j p hj
    rw [atKey_of_get hn hj] at hQ
    refine wpAny_bind (wpAny_rule (wpAny_bind (wpAny_updateDict ho hd (wpAny_point (hQ _ ⟨_,_,Heap.get?_update_self _ ho (Obj.isFreed_of_dict (Obj.data_mapDict hd _)),
      hc.mapDict _,Obj.data_mapDict hd _,?_,?_,?_⟩ (Heap.SameBut.update ..))))))
    · rw [storedH_old (atKey_of_get hn hj)]
      have:=modify_map_putAt (entryOfKey knd) (fun e:DictEntry=>{ e with val:=v }) k v (fun _ _=>rfl) hn hj
      rw [<- he] at this
      obtain ⟨l⟩:=es
      simpa using this
    · rw [storedH_old (atKey_of_get hn hj)]
      intro x hx
      obtain ⟨y,hy,rfl⟩:=List.mem_map.mp hx
      unfold putAt
      split <;> exact knd.keeps (his y hy) ho hd (Heap.SameBut.update ..)
    · rw [storedH_old (atKey_of_get hn hj)]
      rw [keys_map_putAt];exact hn
theorem setItemE {d a:Addr} {xs:List (K×Addr×Value)} {k:K} {v:Value} {ep:Nat} {Q:Unit->Shared->Prop} (hu:knd.room A.in1) (hkey:knd.is s.heap k a) (hm:DictE knd s.heap d xs ep)
    (hQ:∀ h',DictE knd h' d (storedH xs k a v) (epAt xs k ep)->Heap.SameBut d s.heap h'->Q () { s with heap:=h',toks:=s.toks+knd.draws k }) (hsz:xs.length<=sizeLine) :
    wpAny (model prog w) A (setItem (.ref d) (.ref a) v) Q E s:=by
  have hT:=hm.of.typeIs
  unfold setItem
  try with_reducible refine wpAny_holding ?_
  refine wpAny_bind (wpAny_sequenceKey hT (by decide) ?_)
  refine wpAny_bind (wpAny_callSpecial?_slot (name:=Str.ofString "__setitem__") hT slot_dict_setitem
    (wpAny_call_entry slot_dict_setitem hT entry_dict_setitem ?_ (args_dict_setitem _ _ _)))
  show wpAny _ _ (Builtin.Dict.notOrdered "__setitem__" ⟨[.ref d,.ref a,v],[]⟩ >>= _) _ _ s
  refine wpAny_bind (wpAny_notOrdered_dict hT ?_)
  show wpAny _ _ (dictSet d (.ref a) v >>= _) _ _ s
  refine wpAny_bind ?_
  unfold dictSet
  try with_reducible refine wpAny_holding ?_
  refine wpAny_bind (knd.pyHash hu hkey ?_)
  exact setHashedE (s:={ s with toks:=s.toks+knd.draws k }) hu hkey hm (fun h' hm' hs'=>wpAny_pure ⟨.none,rfl,wpAny_pure (hQ h' hm' hs')⟩) hsz
theorem call_lenE {d:Addr} {xs:List (K×Addr×Value)} {ep:Nat} {Q:Value->Shared->Prop} (hd:(d==sysModules)=false) (hm:DictE knd s.heap d xs ep) (hfit:(xs.length:Int) < 2 ^ 63)
    (h:∀ t k,Q (.int xs.length t) { s with toks:=k }):wpAny (model prog w) A (PySem.call (.builtin "len") [.ref d]) Q E s:=by
  have hT:=hm.of.typeIs
  obtain ⟨o,es,ho,hc,hdat,he,_⟩:=hm
  have hsz:=size_of_entries he
  refine Calls.call_function_entry kind_len plain_len entry_len (args_len1 _) ?_
  unfold Builtin.«len»
  refine wpAny_bind (m:=oneArg "len" _) (wpAny_pure ?_)
  refine wpAny_bind (m:=callSpecial? (.ref d) (Str.ofString "__len__")) (wpAny_callSpecial?_slot (name:=Str.ofString "__len__") hT F.slot_dict_len
    (wpAny_call_entry F.slot_dict_len hT F.entry_dict_len ?_ (F.args_dict_len_1 _)))
  show wpAny _ _ (dictSize d >>= _) _ _ s
  unfold dictSize
  refine wpAny_bind (wpAny_bind (wpAny_dictEntries ho hdat (wpAny_pure ?_)))
  show wpAny _ _ (Builtin.Dict.pendingCount d >>= _) _ _ s
  refine wpAny_bind (wpAny_pendingCount_other hd ?_)
  refine wpAny_ret_mkInt ?_
  have hz:((es.size:Int)+((0:Nat):Int))=xs.length:=by rw [hsz];simp
  rw [hz]
  refine wpAny_bind (wpAny_holding (wpAny_pure ?_))
  refine wpAny_bind (wpAny_letGo ?_)
  show wpAny _ _ (if ((xs.length:Nat):Int) < 0 then _ else _) _ _ _
  rw [if_neg (Int.not_lt.mpr (Int.natCast_nonneg _))]
  show wpAny _ _ (if ((xs.length:Nat):Int) ≥ 2 ^ 63 then _ else _) _ _ _
  rw [if_neg (Int.not_le.mpr hfit)]
  exact wpAny_bind (wpAny_mkInt (wpAny_pure ⟨_,rfl,h _ _⟩))
noncomputable def epM (xs ys:List (K×Addr×Value)) (ep:Nat):Nat:=if xs=[] then (if ys=[] then ep else ep+1) else ep+((mergedH xs ys).length - xs.length)
theorem le_stored (xs:List (K×Addr×Value)) (k:K) (a:Addr) (v:Value):xs.length<=(storedH xs k a v).length:=by
  unfold storedH
  split
  · rw [List.length_map];exact Nat.le_refl _
  · rw [List.length_append];exact Nat.le_add_right _ _
theorem le_mergedH:∀ (ys xs:List (K×Addr×Value)),xs.length<=(mergedH xs ys).length
  | [],xs=>Nat.le_refl _
  | y::ys,xs=>Nat.le_trans (le_stored xs y.1 y.2.1 y.2.2) (le_mergedH ys (storedH xs y.1 y.2.1 y.2.2))
theorem epAt_len {zs:List (K×Addr×Value)} {m ep:Nat} {k:K} {a:Addr} {v:Value} (h:m<=zs.length):epAt zs k (ep+(zs.length - m))=ep+((storedH zs k a v).length - m):=by
  unfold epAt storedH
  split
  · rw [List.length_map]
  · rw [List.length_append,List.length_singleton,Nat.sub_add_comm h,Nat.add_assoc]
theorem epM_loop {xs ys:List (K×Addr×Value)} {ep:Nat} (h:xs=[]->ys=[]):epM xs ys ep=ep+((mergedH xs ys).length - xs.length):=by
  unfold epM
  by_cases hx:xs=[]
  · rw [if_pos hx,if_pos (h hx),hx,h hx];simp [mergedH]
  · rw [if_neg hx]
theorem size_step {i n:Nat} (h:i < n):n - i=(n - (i+1))+1:=by rw [Nat.sub_add_eq,Nat.sub_add_cancel (Nat.le_sub_of_add_le' (Nat.succ_le_of_lt h))]
theorem forIn_upto {β:Type} (n:Nat) (b:β) (f:Nat->β->Sem (ForInStep β)):forIn [:n] b f=forIn (List.range' 0 n) b f:=by
  rw [Std.Legacy.Range.forIn_eq_forIn_range']
  simp only [Std.Legacy.Range.size,Nat.sub_zero,Nat.add_sub_cancel,Nat.div_one]
theorem mergeE {nm:String} {d o:Addr} {xs ys:List (K×Addr×Value)} {ep epo:Nat} {Q:Unit->Shared->Prop} (hu:knd.room A) (hdo:d≠o) (hoS:(o==sysModules)=false) (hd:DictE knd s.heap d xs ep) (ho:DictE knd s.heap o ys epo)
    (hT:∀ y∈ys,s.TypeIs (.ref y.2.1) "tuple") (hk:xs=[]->HashOk knd ys) (hsz:xs.length+ys.length<=sizeLine)
    (hQ:∀ h',DictE knd h' d (mergedH xs ys) (epM xs ys ep)->Heap.SameBut d s.heap h'->Q () { s with heap:=h' }) :
    wpAny (model prog w) A (Builtin.Dict.mergeDict nm d o) Q E s:=by
  obtain ⟨od,esd,hod,hcd,hdd,hed,hid,hnd⟩:=id hd
  obtain ⟨oo,eso,hoo,hco,hdo',heo,hio,hno⟩:=id ho
  unfold Builtin.Dict.mergeDict
  rw [if_neg (by simpa using hdo)]
  unfold Builtin.Dict.showsAll
  rw [if_neg (by rw [hoS];exact Bool.false_ne_true)]
  refine wpAny_bind (wpAny_pure ?_)
  refine wpAny_bind (wpAny_dictEntries hoo hdo' ?_)
  have hlen:eso.size=ys.length:=size_of_entries heo
  have loop:(xs=[]->ys=[])->wpAny (model prog w) A (do
      let epoch <- dictEpoch o
      let l <- dictEntries o
      forIn [:l.size] PUnit.unit fun i (_:PUnit)=>(do
          let l' <- dictEntries o
          match l'[i]? with
            | some e=>do
              holding [e.key,e.val] (dictSetHashed d e.key e.hash e.val)
              let ep' <- dictEpoch o
              if (ep' != epoch)=true then do
                  (unsupported (toString nm++toString ":source-changed-during-callback"):Sem PUnit)
                  pure (ForInStep.yield PUnit.unit)
                else pure (ForInStep.yield PUnit.unit)
            | _=>do
              (unsupported "internal:dict-merge":Sem PUnit)
              pure (ForInStep.yield PUnit.unit):Sem (ForInStep PUnit))
      pure ()) Q E s:=fun hloop=>by
    refine wpAny_bind (wpAny_dictEpoch hoo hdo' ?_)
    refine wpAny_bind (wpAny_dictEntries hoo hdo' ?_)
    refine wpAny_bind ?_
    rw [forIn_upto]
    refine wpAny_forIn_list _
      (fun rest _ s'=>∃ h' i,s'={ s with heap:=h' }/\rest=List.range' i (eso.size - i)/\i<=eso.size/\DictE knd h' d (mergedH xs (ys.take i)) (ep+((mergedH xs (ys.take i)).length - xs.length))/\h'.get? o=some oo/\(∀ y∈ys,knd.is h' y.1 y.2.1)/\Heap.SameBut d s.heap h')
      _ ?_ ?_ _ _ ⟨s.heap,0,rfl,by simp,Nat.zero_le _,by simpa [mergedH] using hd,hoo,hio,Heap.SameBut.refl _ _⟩
    · rintro x rest b s' ⟨h',i,rfl,hr,hi,hd',hoo',hio',hs'⟩
      have hlt:i < eso.size:=by
        rcases Nat.lt_or_ge i eso.size with h | h
        · exact h
        · rw [Nat.sub_eq_zero_of_le h] at hr;simp at hr
      obtain ⟨rfl,hrest⟩:x=i/\rest=List.range' (i+1) (eso.size - (i+1)):=by
        rw [size_step hlt,List.range'_succ] at hr
        injection hr with h1 h2
        exact ⟨h1,h2⟩
      refine wpAny_bind (wpAny_dictEntries hoo' hdo' ?_)
      obtain ⟨y,hy⟩:∃ y,ys[x]?=some y:=⟨ys[x]'(hlen▸hlt),List.getElem?_eq_getElem _⟩
      rw [entry_at heo x,hy]
      show wpAny _ _ (holding [.ref y.2.1,y.2.2] (dictSetHashed d (.ref y.2.1) (knd.hash y.1) y.2.2) >>= _) _ _ _
      have hmx:(mergedH xs (ys.take x)).length<=sizeLine:=Nat.le_trans (mergedH_len _ _) (Nat.le_trans (Nat.add_le_add_left (List.length_take_le' ..) _) hsz)
      refine wpAny_bind (wpAny_holding (setHashedE hu (hio' y (List.mem_of_getElem? hy)) hd' (fun h'' hd'' hs''=>?_) hmx))
      have hoo'':h''.get? o=some oo:=(hs''.2 o (Ne.symm hdo)).trans hoo'
      obtain ⟨od',es',hod',_,hdd',_⟩:=hd'
      refine wpAny_bind (wpAny_dictEpoch hoo'' hdo' ?_)
      rw [if_neg (by simp)]
      exact wpAny_pure ⟨h'',x+1,rfl,hrest,hlt,by rw [mergedH_take xs ys x y hy,<- epAt_len (le_mergedH _ _)];exact hd'',hoo'',fun z hz=>knd.keeps (hio' z hz) hod' hdd' hs'',hs'.trans hs''⟩
    · rintro b s' ⟨h',i,rfl,hr,hi,hd',hoo',hio',hs'⟩
      have hin:i=eso.size:=by
        rcases Nat.lt_or_ge i eso.size with h | h
        · rw [size_step h,List.range'_succ] at hr;exact nomatch hr
        · exact Nat.le_antisymm hi h
      refine wpAny_pure (hQ h' ?_ hs')
      rw [hin,hlen,List.take_length] at hd'
      rw [epM_loop hloop];exact hd'
  dsimp only
  split
  · refine wpAny_bind (wpAny_dictEntries hod hdd ?_)
    split
    · rename_i hemp
      have hxs:xs=[]:=by
        have h0:esd=#[]:=Array.isEmpty_iff.mp hemp
        have:=size_of_entries hed;rw [h0] at this;exact List.length_eq_zero_iff.mp (by simpa using this.symm)
      subst hxs
      refine wpAny_bind (entries_heap (knd:=knd) hoo hdo' heo hT (hk rfl) ?_)
      have hm:mergedH [] ys=ys:=by rw [mergedH_fresh ys [] (by simpa using hno)];simp
      rw [hm] at hQ
      unfold epM at hQ
      split
      · rename_i hne
        have hys:ys≠[]:=fun q=>by
          have:eso.size=0:=by rw [hlen,q];rfl
          rw [Array.size_eq_zero_iff.mp this] at hne
          exact absurd hne (by decide)
        rw [if_pos rfl,if_neg hys] at hQ
        have hto:eso.size<=sizeLine+1:=Nat.le_succ_of_le (hlen▸Nat.zero_add ys.length▸hsz)
        refine wpAny_bind (wpAny_updateDictKeysTo hod hdd (wpAny_pure (hQ _ ⟨_,_,Heap.get?_update_self _ hod (Obj.isFreed_of_dict (Obj.data_mapDictKeys hdd _)),hcd.mapDictKeys _,
          Obj.data_mapDictKeys hdd _,heo,fun y hy=>knd.keeps (hio y hy) hod hdd (Heap.SameBut.update ..),hno⟩ (Heap.SameBut.update ..))) hto)
      · rename_i hne
        have h0:eso=#[]:=Array.isEmpty_iff.mp (by simpa using hne)
        have hm0:ys=[]:=List.length_eq_zero_iff.mp (by rw [<- hlen,h0];rfl)
        subst hm0
        exact wpAny_pure (hQ _ hd (Heap.SameBut.refl _ _))
    · rename_i hemp
      refine loop fun q=>absurd ?_ hemp
      subst q
      have:=size_of_entries hed
      rw [Array.isEmpty_iff,<- Array.size_eq_zero_iff,this];rfl
  · rename_i hfew
    refine loop fun _=>?_
    have hf:(decide (eso.size<=8)&&eso.all fun e=>(keyPart e.key).isSome)=true:=by
      cases h:(decide (eso.size<=8)&&eso.all fun e=>(keyPart e.key).isSome) with
      | true=>rfl
      | false=>exact absurd (by rw [h];rfl) hfew
    rw [Bool.and_eq_true,Array.all_eq_true'] at hf
    cases ys with
    | nil=>rfl
    | cons y ys =>
      have hm:entryOfKey knd y∈eso:=Array.mem_toList_iff.mp (by rw [heo];exact List.mem_map.mpr ⟨y,List.mem_cons_self ..,rfl⟩)
      have:=hf.2 _ hm
      exact absurd this Bool.false_ne_true
theorem call_updateE {d o:Addr} {xs ys:List (K×Addr×Value)} {ep epo:Nat} {Q:Value->Shared->Prop} (hu:knd.room A.in1) (hdo:d≠o) (hoS:(o==sysModules)=false) (hd:DictE knd s.heap d xs ep) (ho:DictE knd s.heap o ys epo)
    (hT:∀ y∈ys,s.TypeIs (.ref y.2.1) "tuple") (hk:xs=[]->HashOk knd ys) (hsz:xs.length+ys.length<=sizeLine)
    (hQ:∀ h',DictE knd h' d (mergedH xs ys) (epM xs ys ep)->Heap.SameBut d s.heap h'->Q .none { s with heap:=h' }) :
    wpAny (model prog w) A (PySem.call (.builtin "dict.update") [.ref d,.ref o]) Q E s:=by
  refine wpAny_call_entry F.slot_dict_update hd.of.typeIs F.entry_dict_update ?_ (F.args_dict_update_2 _ _)
  unfold Builtin.«dict.update»
  refine wpAny_bind ?_
  unfold Builtin.Dict.selfAndRest
  refine wpAny_bind (wpAny_notOrdered_dict hd.of.typeIs ?_)
  show wpAny _ _ (pure (d,[Value.ref o])) _ _ s
  refine wpAny_pure ?_
  show wpAny _ _ (Builtin.Dict.updateFrom "dict.update" d (.ref o) [] .none) _ _ s
  unfold Builtin.Dict.updateFrom
  refine wpAny_bind (wpAny_typeOf ho.of.typeIs ?_)
  rw [if_neg (by decide)]
  refine wpAny_bind ?_
  unfold Builtin.Dict.merge
  refine wpAny_bind ?_
  · unfold Builtin.Dict.readDirectly
    refine wpAny_bind (wpAny_isInstance ho.of.typeIs isSubtype_dict_dict ?_)
    simp only [Bool.not_true,Bool.false_eq_true,if_false]
    refine wpAny_bind (wpAny_specialOf ho.of.typeIs F.slot_dict_iter.lookup (wpAny_pure ?_))
    simp only [beq_self_eq_true,if_true]
    refine wpAny_bind (wpAny_pure ?_)
    refine mergeE hu hdo hoS hd ho hT hk hsz fun h' hd' hs'=>?_
    show wpAny _ _ (Builtin.Dict.addKeywords d [] >>= _) _ _ _
    exact wpAny_bind (wpAny_pure (wpAny_pure ⟨.none,rfl,hQ h' hd' hs'⟩))
end
section
variable {prog:Program} {w:World} {K:Type} [DecidableEq K] {knd:HeapKind prog w K} {A:Around} {E:Value->Shared->Prop} {s:Shared}
theorem call_clearE {d:Addr} {xs:List (K×Addr×Value)} {ep:Nat} {Q:Value->Shared->Prop} (hd:DictE knd s.heap d xs ep) (hsz:xs.length<=sizeLine)
    (hQ:∀ h',DictE knd h' d [] (ep+1)->Heap.SameBut d s.heap h'->Q .none { s with heap:=h' }):wpAny (model prog w) A (PySem.call (.builtin "dict.clear") [.ref d]) Q E s:=by
  obtain ⟨o,es,ho,hc,hdat,hes,_,_⟩:=id hd
  refine wpAny_call_entry F.slot_dict_clear hd.of.typeIs F.entry_dict_clear ?_ (F.args_dict_clear_1 _)
  unfold Builtin.«dict.clear»
  refine wpAny_bind ?_
  unfold Builtin.Dict.noArgs
  refine wpAny_bind (wpAny_notOrdered_dict hd.of.typeIs ?_)
  show wpAny _ _ (pure d) _ _ s
  refine wpAny_pure ?_
  refine wpAny_bind (wpAny_dictEntries ho hdat ?_)
  refine wpAny_bind ?_
  unfold bearsInstanceDictMark
  refine wpAny_bind (wpAny_load ho (wpAny_pure ?_))
  refine wpAny_bind (wpAny_updateDictKeys (hz:=size_of_entries hes▸hsz) ho hdat ?_)
  have hnew:DictE knd (s.heap.update d (Obj.mapDictKeys fun _=>#[])) d [] (ep+1) :=
    ⟨_,_,Heap.get?_update_self _ ho (Obj.isFreed_of_dict (Obj.data_mapDictKeys hdat _)),hc.mapDictKeys _,Obj.data_mapDictKeys hdat _,rfl,(fun _ q=>nomatch q),List.nodup_nil⟩
  split
  · exact wpAny_bind (wpAny_letGo (wpAny_pure ⟨.none,rfl,hQ _ hnew (Heap.SameBut.update ..)⟩))
  · exact wpAny_bind (wpAny_pure (wpAny_pure ⟨.none,rfl,hQ _ hnew (Heap.SameBut.update ..)⟩))
theorem samePairsE {nm:String} {a b:Addr} {xs ys:List (K×Addr×Value)} {ep ep':Nat} {Q:Bool->Shared->Prop} (hu:knd.room A) (ha:(a==sysModules)=false) (hb:(b==sysModules)=false) (da:DictE knd s.heap a xs ep) (db:DictE knd s.heap b ys ep') (hl:xs.length=ys.length)
    (hits:∀ x∈xs,∃ p,atKey ys x.1=some p/\PySem.SeqAt.EqAt A s x.2.2 p.2 true) (h:Q true s):wpAny (model prog w) A (Builtin.Dict.samePairs nm a b) Q E s:=by
  obtain ⟨oa,es,hoa,_,hda,hes,hia,_⟩:=da
  obtain ⟨ob,es',hob,_,hdb,hes',hib,hnb⟩:=db
  have la:es.size=xs.length:=size_of_entries hes
  have lb:es'.size=ys.length:=size_of_entries hes'
  unfold Builtin.Dict.samePairs Builtin.Dict.showsAll
  rw [if_neg (show ¬ (a==sysModules)=true by rw [ha];exact Bool.false_ne_true),if_neg (show ¬ (b==sysModules)=true by rw [hb];exact Bool.false_ne_true)]
  refine wpAny_bind (wpAny_pure (wpAny_bind (wpAny_pure ?_)))
  refine wpAny_bind (wpAny_dictEntries hoa hda ?_)
  dsimp only
  refine wpAny_bind (wpAny_dictEntries hob hdb ?_)
  rw [if_neg (by rw [la,lb,hl];simp)]
  refine wpAny_bind (wpAny_dictEpoch hoa hda ?_)
  refine wpAny_bind ?_
  rw [forIn_upto]
  refine wpAny_forIn_list _
    (fun rest q s'=>s'=s/\q=(none,())/\∃ i,rest=List.range' i (es.size - i)/\i<=es.size)
    _ ?_ ?_ _ _ ⟨rfl,rfl,0,rfl,Nat.zero_le _⟩
  · rintro x rest q s' ⟨rfl,rfl,i,hr,hi⟩
    have hlt:i < es.size:=by
      rcases Nat.lt_or_ge i es.size with h | h
      · exact h
      · rw [Nat.sub_eq_zero_of_le h] at hr;cases hr
    obtain ⟨rfl,hrest⟩:x=i/\rest=List.range' (i+1) (es.size - (i+1)):=by
      rw [size_step hlt,List.range'_succ] at hr
      injection hr with h1 h2
      exact ⟨h1,h2⟩
    refine wpAny_bind (wpAny_dictEntries hoa hda ?_)
    obtain ⟨y,hy⟩:∃ y,xs[x]?=some y:=⟨xs[x]'(la▸hlt),List.getElem?_eq_getElem _⟩
    have hm:=List.mem_of_getElem? hy
    rw [entry_at hes x,hy]
    obtain ⟨p,hp,he⟩:=hits y hm
    show wpAny _ _ (holding [.ref y.2.1,y.2.2] (dictFind b (.ref y.2.1) (knd.hash y.1) >>= _) >>= _) _ _ _
    refine wpAny_bind (wpAny_holding (wpAny_bind (wpAny_dictFind_heap hu (hia y hm) hob hdb hes' hib hnb (fun no=>?_) fun j p' hj=>?_)))
    · rw [atKey_none_of_get no] at hp;cases hp
    · rw [atKey_of_get hnb hj] at hp
      cases hp
      refine wpAny_bind (wpAny_dictEntries hob hdb ?_)
      rw [entry_at hes' j,hj]
      refine wpAny_holding (he prog w _ _ ?_)
      show wpAny _ _ (if (!true)=true then _ else _) _ _ _
      rw [if_neg (by decide)]
      refine wpAny_bind (wpAny_dictEpoch hoa hda ?_)
      rw [if_neg (by simp)]
      exact wpAny_pure ⟨rfl,rfl,x+1,hrest,hlt⟩
  · rintro q s' ⟨rfl,rfl,_⟩
    exact wpAny_pure h
theorem neE {a b:Addr} {xs ys:List (K×Addr×Value)} {ep ep':Nat} {Q:Value->Shared->Prop} (hr:knd.room A.in1) (hu:A.units < cLine) (ha:(a==sysModules)=false) (hb:(b==sysModules)=false) (da:DictE knd s.heap a xs ep) (db:DictE knd s.heap b ys ep') (hl:xs.length=ys.length)
    (hits:∀ x∈xs,∃ p,atKey ys x.1=some p/\PySem.SeqAt.EqAt A.in1 s x.2.2 p.2 true) (h:Q (.bool false) s):wpAny (model prog w) A (compareOp .NotEq (.ref a) (.ref b)) Q E s:=by
  refine wpAny_richCompare_same_room (op:=.NotEq) da.of.typeIs db.of.typeIs PySem.F.slot_dict_ne (wpAny_call_entry PySem.F.slot_dict_ne da.of.typeIs PySem.F.entry_dict_ne ?_ (PySem.F.args_dict_ne_2 _ _)) hu
  show wpAny _ _ (Builtin.Dict.dictSlotArgs "__ne__" ⟨[.ref a,.ref b],[]⟩ >>= _) _ _ s
  refine wpAny_bind ?_
  unfold Builtin.Dict.dictSlotArgs
  refine wpAny_bind (wpAny_notOrdered_dict da.of.typeIs ?_)
  show wpAny _ _ (pure (Value.ref a,Value.ref b)) _ _ s
  refine wpAny_pure ?_
  refine wpAny_bind (wpAny_isInstance (T:="dict") db.of.typeIs PySem.F.sub_dict_dict ?_)
  simp only [Bool.not_true,Bool.false_eq_true,if_false]
  refine wpAny_bind (wpAny_pure (wpAny_bind (wpAny_pure ?_)))
  refine wpAny_bind (samePairsE hr ha hb da db hl hits ?_)
  refine wpAny_pure ⟨_,rfl,?_,?_⟩
  · exact fun x=>nomatch x
  · exact h
end
end Mine
namespace Mine
open PySem PyProof.Rows
section
variable {κ:Ct} {ρ:Rho} {vs:List (V×Value)} {H:Hp}
noncomputable def cmOf:Cm->CmpOp
  | .eq=>.Eq
  | .ne=>.NotEq
  | .lt=>.Lt
  | .le=>.LtE
  | .gt=>.Gt
  | .isIn=>.In
  | .notIn=>.NotIn
  | .is=>.Is
  | .isNot=>.IsNot
theorem At.units {η:List Addr} {s:Shared} (a:At κ η ρ H s):κ.A.units+64 < cLine:=by
  exact Nat.lt_of_le_of_lt (Nat.add_le_add (Nat.le_add_right _ _) (by decide)) a.room.units
theorem At.pair {η:List Addr} {s:Shared} (a:At κ η ρ H s):(pairKind κ.X.prog κ.X.w).room κ.A.in1 :=
  Nat.lt_of_le_of_lt (Nat.add_le_add_left (by decide:1+3<=64) κ.A.units) a.units
theorem eqV_ok {op:Cm} {a b:V} {ma mb:Value} {r:Bool} (hop:op=.eq\/op=.ne) (ha:(a,ma)∈vs) (hb:(b,mb)∈vs) (he:eqV H a b=some r) :
    Tri κ ρ vs (compareOp (cmOf op) ma mb) H (.ok (.bool (if op=.eq then r else !r)) H) rV:=by
  refine Tri.plain fun η s Q E at' hv hq=>?_
  obtain ⟨x,e1,he⟩:=Option.bind_eq_some_iff.mp (show (snap 8 H a).bind (fun x=>(snap 8 H b).bind fun y=>some (PyData.eqv x y))=some r from he)
  obtain ⟨y,e2,he⟩:=Option.bind_eq_some_iff.mp he
  cases he
  obtain ⟨as,ra,c1,d1⟩:=snap_reads at'.inv 8 (hv _ ha) e1
  obtain ⟨bs,rb,c2,d2⟩:=snap_reads at'.inv 8 (hv _ hb) e2
  rcases hop with rfl | rfl
  · exact PySem.SeqAt.compareEq_shaped ra rb (shaped_of c1 d1 (by decide)) (shaped_of c2 d2 (by decide)) at'.units (hq _ s.toks (.bool _))
  · exact PySem.SeqAt.compareNe_shaped ra rb (shaped_of c1 d1 (by decide)) (shaped_of c2 d2 (by decide)) at'.units (hq _ s.toks (.bool _))
theorem sys_off {X:Cx} {H:Hp} {η:List Addr} {h:Heap} {k:Nat} {a:Addr} (i:Inv X η H h) (ha:η[k]?=some a):(a==sysModules)=false:=by
  rw [beq_eq_false_iff_ne]
  rintro rfl
  obtain ⟨o,q⟩:=Option.isSome_iff_exists.mp X.sysm
  have:=X.kin _ _ q
  rw [i.fresh _ (List.mem_of_getElem? ha)] at this
  cases this
theorem vr_keys {X:Cx} {P:V->Value->Prop} {H:Hp} {η:List Addr} {h:Heap} {v:V} {m:Value} {ks:List Int} (i:Inv X η H h) (r:VR X η h v m) (e:keysAt v H=some ks)
    (k:∀ n a kvs,η[n]?=some a->h.DictOf (intKind X.prog X.w) a kvs->kvs.map (·.1)=ks->(a==sysModules)=false->P (.ref n) (.ref a)):P v m :=
  vr_obj i r e fun n a o ob ea eo ef g q=>by
    cases q with
    | keys d e l=>cases ef;exact k n a _ ea (Heap.dictOf_iff.mpr ⟨ob,g,d⟩) e (sys_off i ea)
    | _=>cases ef
theorem valueAt_keys (kvs:List (Int×Value)) (k:Int):(valueAt kvs k).isSome=(kvs.map (·.1)).contains k:=by
  unfold valueAt
  induction kvs with
  | nil=>rfl
  | cons p kvs ih =>
    rw [List.find?_cons,List.map_cons,List.contains_cons]
    by_cases hk:p.1=k
    · simp [hk]
    · have:(k==p.1)=false:=by simpa using fun q=>hk q.symm
      simp only [hk,decide_false,this,Bool.false_or]
      exact ih
theorem intsV_inv:∀ {vs:List V} {ns:List Int},intsV vs=some ns->vs=ns.map .int
  | [],ns,e=>by cases e;rfl
  | v::vs,ns,e=>by
    unfold intsV at e
    rw [List.mapM_cons] at e
    obtain ⟨i,h1,e⟩:=Option.bind_eq_some_iff.mp e
    obtain ⟨is,h2,e⟩:=Option.bind_eq_some_iff.mp e
    cases e
    cases v with
    | int j=>cases h1;rw [List.map_cons,intsV_inv (vs:=vs) h2]
    | _=>cases h1
theorem tupAt_inv {v:V} {vs:List V} (e:tupAt v=some vs):v=.tup vs:=by cases v <;> cases e;rfl
theorem intAt_inv {v:V} {i:Int} (e:intAt v=some i):v=.int i:=by cases v <;> cases e;rfl
theorem keyAt_inv {v:V} {k:Key} (e:keyAt v=some k):v=keyV k:=by
  unfold keyAt at e
  split at e
  · obtain ⟨ks,h1,e⟩:=Option.bind_eq_some_iff.mp e
    obtain ⟨i,h2,rfl⟩:=Option.map_eq_some_iff.mp e
    obtain ⟨vs,h3,h4⟩:=Option.bind_eq_some_iff.mp h1
    rw [tupAt_inv h3,intAt_inv h2,intsV_inv h4];rfl
  · cases e
section
variable {X:Cx} {η:List Addr} {h:Heap}
theorem ZR.keys {xs:List (Key×V)} {ys:List (Key×Addr×Value)} (r:ZR X η h xs ys):ys.map (·.1)=xs.map (·.1):=by
  induction r with
  | nil=>rfl
  | cons _ _ _ ih=>rw [List.map_cons,List.map_cons,ih]
theorem ZR.len {xs:List (Key×V)} {ys:List (Key×Addr×Value)} (r:ZR X η h xs ys):ys.length=xs.length:=(List.length_map (as:=ys) (·.1)).symm.trans (r.keys▸List.length_map (as:=xs) (·.1))
theorem items_are:∀ {ks:List Int} {ms:List Value},VRs X η h (ks.map .int) ms->ItemsAre (intKind X.prog X.w) ks ms
  | [],_,r=>by cases r;exact .nil
  | k::ks,_,r=>by
    cases r with
    | cons a b=>cases a;exact .cons (by simp [intKind,Value.isInt]) (items_are b)
theorem key_pair {k:Key} {a:Addr} (r:VR X η h (keyV k) (.ref a)):IsPairKey X.prog X.w h k a:=by
  cases r with
  | @tup a items c _ g n r l =>
    refine ⟨{ cls:=.type "tuple",data:=.seq items c },items,c,?_⟩
    obtain ⟨items⟩:=items
    cases r with
    | cons ra rb =>
      cases rb with
      | cons rc rd =>
        cases rd
        cases rc
        cases ra with
        | tup g2 n2 r2 l2=>exact ⟨_,_,g,rfl,rfl,rfl,_,_,_,g2,rfl,rfl,items_are r2⟩
theorem ZR.pairs {xs:List (Key×V)} {ys:List (Key×Addr×Value)} (r:ZR X η h xs ys):∀ y∈ys,IsPairKey X.prog X.w h y.1 y.2.1:=by
  induction r with
  | nil=>exact fun _ q=>nomatch q
  | cons a _ _ ih=>exact List.forall_mem_cons.mpr ⟨key_pair a,ih⟩
theorem ZR.get {xs:List (Key×V)} {ys:List (Key×Addr×Value)} (r:ZR X η h xs ys) (k:Key):(tabGet xs k=Option.none/\atKey ys k=Option.none)\/∃ v p,tabGet xs k=some v/\atKey ys k=some p/\VR X η h v p.2:=by
  induction r with
  | nil=>exact .inl ⟨rfl,rfl⟩
  | @cons k' v a m xs ys _ b _ ih =>
    unfold tabGet atKey at ih ⊢
    rw [List.find?_cons,List.find?_cons]
    by_cases hk:k'=k
    · rw [decide_eq_true hk];exact .inr ⟨v,(a,m),rfl,rfl,b⟩
    · rw [decide_eq_false hk];exact ih
theorem ZR.hit {xs:List (Key×V)} {ys:List (Key×Addr×Value)} (r:ZR X η h xs ys) (k:Key):(tabGet xs k).isSome=(atKey ys k).isSome:=by
  rcases r.get k with ⟨a,b⟩ | ⟨_,_,a,b,_⟩ <;> rw [a,b] <;> rfl
theorem vr_key {P:Value->Prop} {v:V} {m:Value} {k:Key} (r:VR X η h v m) (e:keyAt v=some k) (K:∀ a,VR X η h (keyV k) (.ref a)->P (.ref a)):P m:=by
  rw [keyAt_inv e] at r
  cases r with
  | tup g n r l=>exact K _ (.tup g n r l)
inductive TabAt (X:Cx) (η:List Addr) (h:Heap) (p:List (Key×V)×Nat) (a:Addr):Prop
  | mk (ys:List (Key×Addr×Value)) (D:DictE (pairKind X.prog X.w) h a ys p.2) (z:ZR X η h p.1 ys) (l:p.1.length<=100000) (s:(a==sysModules)=false):TabAt X η h p a
theorem tab_of {H:Hp} {n:Nat} {a:Addr} {p:List (Key×V)×Nat} (i:Inv X η H h) (ea:η[n]?=some a) (eo:H[n]?=some (.tab p.1 p.2)):TabAt X η h p a:=by
  obtain ⟨ob,g,q⟩:=i.objs n a _ ea eo
  cases q with
  | tab z e1 e2 l=>exact ⟨_,⟨_,_,g,⟨rfl,rfl,rfl⟩,rfl,e1,z.pairs,by rw [z.keys];exact e2⟩,z,l,sys_off i ea⟩
theorem vr_tab {P:V->Value->Prop} {H:Hp} {v:V} {m:Value} {p:List (Key×V)×Nat} (i:Inv X η H h) (r:VR X η h v m) (e:tabAt v H=some p)
    (k:∀ n a,η[n]?=some a->H[n]?=some (.tab p.1 p.2)->TabAt X η h p a->P (.ref n) (.ref a)):P v m :=
  vr_obj i r e fun n a o ob ea eo ef g q=>by
    cases o with
    | tab=>cases ef;exact k n a ea eo (tab_of i ea eo)
    | _=>cases ef
end
theorem contains_heap {prog:Program} {w:World} {K:Type} [DecidableEq K] {knd:HeapKind prog w K} {A:Around} {E:Value->Shared->Prop} {s:Shared} {d a:Addr} {k:K} {xs:List (K×Addr×Value)} {Q:Bool->Shared->Prop} (hu:knd.room A.in1) (hkey:knd.is s.heap k a) (hd:(d==sysModules)=false) (hm:s.heap.DictOfH knd d xs)
    (h:Q (atKey xs k).isSome { s with toks:=s.toks+knd.draws k }):wpAny (model prog w) A (contains (.ref d) (.ref a)) Q E s:=by
  unfold contains
  try with_reducible refine wpAny_holding ?_
  refine wpAny_bind (wpAny_specialOf hm.typeIs slot_dict_contains.lookup ?_)
  show wpAny _ _ (if (some (Value.builtin "dict.__contains__")==some Value.none)=true then _ else _) _ E s
  rw [if_neg (by rw [beq_builtin_none];exact Bool.false_ne_true)]
  refine wpAny_bind (wpAny_callSpecialUnlessNone?_slot (name:=Str.ofString "__contains__") hm.typeIs slot_dict_contains
    (wpAny_call_entry slot_dict_contains hm.typeIs entry_dict_contains ?_ (args_dict_contains _ _)))
  show wpAny _ _ (dictGet d (.ref a) >>= _) _ _ s
  refine wpAny_bind (wpAny_dictGet_heap hu hkey hm ?_)
  cases hf:atKey xs k with
  | some p =>
    rw [hf] at h
    show wpAny _ _ (ret (.bool true)) _ _ _
    exact wpAny_pure ⟨_,rfl,wpAny_truthy_bool h⟩
  | none =>
    rw [hf] at h
    show wpAny _ _ (Builtin.Dict.pendingKey? d (.ref a) >>= _) _ _ _
    exact wpAny_bind (wpAny_pendingKey_other hd (wpAny_pure ⟨_,rfl,wpAny_truthy_bool h⟩))
theorem atKey_mem {K:Type} [DecidableEq K] (xs:List (K×Addr×Value)) (k:K):(atKey xs k).isSome=true ↔ k∈xs.map (·.1):=by
  unfold atKey
  induction xs with
  | nil=>simp
  | cons p xs ih =>
    rw [List.find?_cons,List.map_cons,List.mem_cons]
    by_cases hk:p.1=k
    · simp [hk]
    · simp only [hk,decide_false,ih]
      exact ⟨.inr,fun h=>h.resolve_left fun q=>hk q.symm⟩
theorem notIn_of {M:Model} {A:Around} {E:Value->Shared->Prop} {s:Shared} {a b:Value} {Q:Value->Shared->Prop} (h:wpAny M A (compareOp .In a b) (fun v s'=>∃ c,v=.bool c/\Q (.bool (!c)) s') E s):wpAny M A (compareOp .NotIn a b) Q E s:=fun Γ p hΓ=>by
  have h:=h Γ p hΓ
  change Sem.wp M Γ (contains b a >>= fun c=>pure (Value.bool c)) _ _ p s at h
  show Sem.wp M Γ (contains b a >>= fun c=>pure (Value.bool (!c))) _ _ p s
  rw [Sem.wp_bind'] at h ⊢
  exact Sem.wp_mono M Γ _ (fun c p' s' ⟨_,e,q⟩=>by cases e;exact q) (fun _ _ _ q=>q) p s h
theorem isIn_ok {a b:V} {ma mb:Value} {r:Bool} {η:List Addr} {s:Shared} {Q:Value->Shared->Prop} {E:Value->Shared->Prop} (at':At κ η ρ H s) (va:VR κ.X η s.heap a ma) (vb:VR κ.X η s.heap b mb) (he:isIn H a b=some r) (hq:∀ tk,Q (.bool r) { s with toks:=tk }):wpAny κ.X.M κ.A (compareOp .In ma mb) Q E s:=by
  have seq:∀ {ws:List V} {ms:List Value},VRs κ.X η s.heap ws ms->inTup H a ws=some r->∃ ys x as bs,ReadsAll s.heap ms ys bs/\Reads s.heap ma x as/\PyData.canLayAll0 ys=true/\x.canLay0=true/\κ.A.units+1+min (PyData.depthAll ys) x.depth < cLine/\(ys.any fun y=>PyData.eqv y x)=r:=fun vr he=>by
    obtain ⟨x,e1,he⟩:=Option.bind_eq_some_iff.mp he
    obtain ⟨ys,e2,rfl⟩:=Option.map_eq_some_iff.mp he
    obtain ⟨as,ra,c1,d1⟩:=snap_reads at'.inv 8 va e1
    obtain ⟨bs,rb,c2,d2⟩:=mapM_reads (snap_reads at'.inv 8) vr e2
    exact ⟨ys,x,as,bs,rb,ra,c2,c1,Nat.lt_of_le_of_lt (Nat.add_le_add_left (Nat.le_trans (Nat.min_le_right _ _) d1) _) (Nat.lt_of_le_of_lt (Nat.add_le_add_left (by decide:1+8<=64) κ.A.units) at'.units),rfl⟩
  have key:(match listAt b H with | some vs=>inTup H a vs | Option.none=>inKeys H a b)=some r->wpAny κ.X.M κ.A (compareOp .In ma mb) Q E s:=fun he=>by
    cases hx:listAt b H with
    | some vs =>
      rw [hx] at he
      apply vr_list at'.inv vb hx;intro l items c g vr _
      obtain ⟨ys,x,as,bs,rb,ra,c2,c1,hu,rfl⟩:=seq vr he
      exact PySem.SeqAt.in_list_reads (.list g rfl rfl rb) ra c2 c1 hu (hq s.toks)
    | none =>
      rw [hx] at he
      unfold inKeys at he
      cases hk:keysAt b H with
      | some ks =>
        rw [hk] at he
        obtain ⟨k,hi,rfl⟩:=Option.map_eq_some_iff.mp he
        apply vr_int va hi;intro t
        refine vr_keys (P:=fun _ mb=>wpAny _ _ (compareOp _ _ mb) Q E s) at'.inv vb hk fun n d kvs _ hd e hs=>?_
        refine wpAny_in_of (knd:=intKind κ.X.prog κ.X.w) (intKind_is κ.X.prog κ.X.w k t) hs hd.mapOf ?_
        rw [valueAt_keys,e]
        exact hq _
      | none =>
        rw [hk] at he
        obtain ⟨p,ht,he⟩:=Option.bind_eq_some_iff.mp (show (tabAt b H).bind _=some r from he)
        obtain ⟨k,hi,rfl⟩:=Option.map_eq_some_iff.mp he
        apply vr_key va hi;intro c rk
        refine vr_tab (P:=fun _ mb=>wpAny _ _ (compareOp _ _ mb) Q E s) at'.inv vb ht fun n d _ _ ⟨ys,D,z,_,hs⟩=>?_
        show wpAny _ _ (do return .bool (<- contains (.ref _) (.ref c))) Q E s
        refine wpAny_bind (contains_heap (knd:=pairKind κ.X.prog κ.X.w) at'.pair (key_pair rk) hs D.of (wpAny_pure ?_))
        rw [show (atKey ys k).isSome=(p.1.map (·.1)).contains k from by rw [Bool.eq_iff_iff,atKey_mem,z.keys,List.contains_iff_mem]]
        exact hq _
  cases b with
  | tup ws =>
    cases vb with
    | tup g nn vr _ =>
      obtain ⟨ys,x,as,bs,rb,ra,c2,c1,hu,rfl⟩:=seq vr he
      exact PySem.SeqAt.in_tuple_reads (.tuple g rfl rfl rb) ra c2 c1 hu (hq s.toks)
  | str y =>
    obtain ⟨x,e1,rfl⟩:=Option.map_eq_some_iff.mp (show (strAt a).map _=some _ from he)
    apply vr_str va e1;intro t _
    cases vb
    exact PyProof.Rows.in_str (hq s.toks)
  | _=>exact key he
theorem cmpI_ok {op:Cm} {a b:V} {ma mb:Value} {r:Bool} (ho:op=.lt\/op=.le\/op=.gt) (ha:(a,ma)∈vs) (hb:(b,mb)∈vs) (he:((intAt a).bind fun x=>(intAt b).bind fun y=>cmpI op x y)=some r) :
    Tri κ ρ vs (compareOp (cmOf op) ma mb) H (.ok (.bool r) H) rV:=by
  obtain ⟨x,hx,he⟩:=Option.bind_eq_some_iff.mp he
  obtain ⟨y,hy,he⟩:=Option.bind_eq_some_iff.mp he
  refine Tri.plain fun η s Q E at' hv hq=>?_
  apply vr_int (vr_of hv ha) hx;intro t
  apply vr_int (vr_of hv hb) hy;intro u
  rcases ho with rfl | rfl | rfl <;> cases he
  · exact PyProof.Rows.lt_int (hq _ s.toks (.bool _))
  · exact PyProof.Rows.le_int (hq _ s.toks (.bool _))
  · exact PyProof.Rows.gt_int (hq _ s.toks (.bool _))
theorem VRs.get {X:Cx} {η:List Addr} {h:Heap} {vs:List V} {ms:List Value} (r:VRs X η h vs ms) {j:Nat} {v:V} (e:vs[j]?=some v):∃ m,ms[j]?=some m/\VR X η h v m :=
  VRs.ind (P:=fun vs ms=>∀ (j:Nat) (v:V),vs[j]?=some v->∃ m,ms[j]?=some m/\VR X η h v m) (fun _ _ e=>nomatch e) (fun a _ ih j v e=>by
    cases j with
    | zero=>cases e;exact ⟨_,rfl,a⟩
    | succ j=>exact ih j v e) r j v e
theorem ZR.both {X:Cx} {η:List Addr} {h:Heap} {xs:List (Key×V)} {ys zs:List (Key×Addr×Value)} (r:ZR X η h xs ys):ZR X η h xs zs->∀ y∈ys,∃ (i:Nat) (x:Key×V) (z:Key×Addr×Value),xs[i]?=some x/\zs[i]?=some z/\z.1=y.1/\VR X η h x.2 y.2.2/\VR X η h x.2 z.2.2:=by
  induction r generalizing zs with
  | nil=>exact fun _ _ q=>nomatch q
  | cons a b _ ih =>
    intro r2
    cases r2 with
    | cons a2 b2 r2 =>
      refine List.forall_mem_cons.mpr ⟨⟨0,_,_,rfl,rfl,rfl,b,b2⟩,fun y hy=>?_⟩
      obtain ⟨i,q⟩:=ih r2 y hy
      exact ⟨i+1,q⟩
theorem eqT_ok {a b:V} {ma mb:Value} {r:Bool} (ha:(a,ma)∈vs) (hb:(b,mb)∈vs) (he:eqT H a b=some r):Tri κ ρ vs (compareOp .NotEq ma mb) H (.ok (.bool (!r)) H) rV:=by
  unfold eqT at he
  cases hx:tabAt a H with
  | none=>rw [hx] at he;exact eqV_ok (op:=.ne) (.inr rfl) ha hb he
  | some p =>
    rw [hx] at he
    obtain ⟨q,hy,he⟩:=Option.bind_eq_some_iff.mp (show (tabAt b H).bind _=some r from he)
    obtain ⟨hc,rfl⟩:=if_some he
    refine Tri.plain fun η s Q E at' hv hq=>?_
    refine vr_tab (P:=fun _ ma=>wpAny _ _ (compareOp _ ma _) Q E s) at'.inv (vr_of hv ha) hx fun n d _ _ ⟨ys,D,z,_,hs⟩=>?_
    refine vr_tab (P:=fun _ mb=>wpAny _ _ (compareOp _ _ mb) Q E s) at'.inv (vr_of hv hb) hy fun k d2 _ _ ⟨zs,D2,z2,_,hs2⟩=>?_
    rw [<- hc.1] at z2
    obtain ⟨_,_,_,_,_,_,_,nd⟩:=id D2
    refine neE (knd:=pairKind κ.X.prog κ.X.w) at'.pair (Nat.lt_of_le_of_lt (Nat.le_add_right _ _) at'.units) hs hs2 D D2 (z.len.trans z2.len.symm) (fun y hy=>?_) (hq _ s.toks (.bool _))
    obtain ⟨i,x,w,hxi,hz,kz,v1,v2⟩:=z.both z2 y hy
    obtain ⟨d,hd⟩:=Option.isSome_iff_exists.mp (List.all_eq_true.mp hc.2 x (List.mem_of_getElem? hxi))
    obtain ⟨as,ra,c1,d1⟩:=snap_reads at'.inv 8 v1 hd
    obtain ⟨bs,rb,c2,d2⟩:=snap_reads at'.inv 8 v2 hd
    refine ⟨w.2,atKey_of_get nd (by rw [hz,<- kz]),?_⟩
    have:=PySem.W.keq_at (A:=κ.A) ra rb (shaped_of c1 d1 (by decide)) (shaped_of c2 d2 (by decide)) (Nat.lt_of_le_of_lt (Nat.le_trans (show κ.A.units+1+64<=κ.A.units+300 from (by rw [Nat.add_assoc];exact Nat.add_le_add_left (by decide) _)) (Nat.add_le_add_right (Nat.le_add_right _ _) 300)) at'.room.units)
    rwa [PySem.SeqAt.eqv_refl d c1] at this
theorem none_inv {v:V} (h:isNoneV v=true):v=.none:=by cases v <;> first | rfl | cases h
theorem cmp_ok {op:Cm} {a b:V} {ma mb:Value} {r:Bool} (ha:(a,ma)∈vs) (hb:(b,mb)∈vs) (he:cmp op a b H=some r) :
    Tri κ ρ vs (compareOp (cmOf op) ma mb) H (.ok (.bool r) H) rV:=by
  cases op with
  | eq=>exact eqV_ok (.inl rfl) ha hb he
  | ne =>
    obtain ⟨q,he',rfl⟩:=Option.map_eq_some_iff.mp he
    exact eqT_ok ha hb he'
  | isIn=>exact Tri.plain fun η s Q E at' hv hq=>isIn_ok at' (vr_of hv ha) (vr_of hv hb) he fun tk=>hq _ tk (.bool _)
  | notIn =>
    obtain ⟨q,he',rfl⟩:=Option.map_eq_some_iff.mp he
    exact Tri.plain fun η s Q E at' hv hq=>notIn_of (isIn_ok at' (vr_of hv ha) (vr_of hv hb) he' fun tk=>⟨q,rfl,hq _ tk (.bool _)⟩)
  | is =>
    obtain ⟨hn,rfl⟩:=if_some he
    refine Tri.plain fun η s Q E at' hv hq=>?_
    have va:=vr_of hv ha;have vb:=vr_of hv hb
    rw [none_inv hn] at vb
    cases vb
    cases va
    · exact wpAny_is_self rfl (hq _ s.toks (.bool _))
    all_goals exact PyProof.Rows.is_none_ne (by intro q;cases q) (hq _ s.toks (.bool _))
  | isNot =>
    obtain ⟨hn,rfl⟩:=if_some he
    refine Tri.plain fun η s Q E at' hv hq=>?_
    have va:=vr_of hv ha;have vb:=vr_of hv hb
    rw [none_inv hn] at vb
    cases vb
    cases va <;> exact isNot_none (hq _ s.toks (.bool _))
  | lt=>exact cmpI_ok (.inl rfl) ha hb he
  | le=>exact cmpI_ok (.inr (.inl rfl)) ha hb he
  | gt=>exact cmpI_ok (.inr (.inr rfl)) ha hb he
end
end Mine
namespace Mine
open PySem PyProof.Rows PySem.W
theorem Loads.det {mg mb:Str->Option Value} {f:String} {v w:Value} (a:Loads mg mb f v) (b:Loads mg mb f w):v=w:=by
  rcases a with a | a <;> rcases b with b | b
  · rw [a] at b;exact Option.some.inj b
  · rw [a] at b;cases b.1
  · rw [a.1] at b;cases b
  · exact Option.some.inj (a.2.symm.trans b.2)
noncomputable def Keepable (X:Cx) (f:Value):Prop:=∀ h:Heap,(∀ b o,X.base.get? b=some o->h.get? b=some o)->∃ k,(k=Keeper.frame\/k=Keeper.machine\/k=Keeper.boundFrame)/\Looks X.M h (keeperOf f) k
theorem keepable_builtin (X:Cx) (id:String):Keepable X (.builtin id):=fun _ _=>⟨.machine,.inr (.inl rfl),Looks.now⟩
noncomputable def isGlob (sc:Scope) (x:Str):Bool:=sc.names.lookup x==some .globalImplicit
section
variable {κ:Ct} {X:Cx} {n:Nat} {hd:Bool} {A:Around} {env:Env} {st:List Env} {ρ:Rho} {vs:List (V×Value)} {H:Hp}
noncomputable def rEq (v:Value) (m:Value):Prop×List (V×Value):=(m=v,[])
theorem Tri.name {x:String} {id:Str} {pos:Pos} (hi:id=Str.ofString x) (hv:isVar κ.env.scope id=true) (hd1:(id==("__debug__":Str))=false) (hd2:(id==("__classdict__":Str))=false) :
    Tri κ ρ vs (eval (.Name id pos) κ.env) H (optR (ρ.lookup x) fun v=>.ok v H) rV :=
  Tri.opt fun v e=>Tri.plain fun η s Q E at' _ hq=>wpAny_Name (by
    subst hi
    obtain ⟨mv,hh,r⟩:=at'.rho x v e hv
    rcases hh with ⟨hk,m,hn,hm⟩ | ⟨hk | hk,c,o,hc,g,d⟩
    · exact wpAny_loadName_local at'.fok.kind hk hn hm (hq mv s.toks r)
    · exact wpAny_loadName_cell at'.fok.kind hk hc ⟨o,g,d⟩ (hq mv s.toks r)
    · exact wpAny_loadName_free at'.fok.kind hk hc ⟨o,g,d⟩ (hq mv s.toks r) hd2) hd1
theorem wpAny_glob {id:Str} {pos:Pos} {x:String} {v:Value} {η:List Addr} {s:Shared} {Q:Value->Shared->Prop} {E:Value->Shared->Prop} (at':At κ η ρ H s) (hi:id=Str.ofString x) (hg:isGlob κ.env.scope id=true)
    (hd1:(id==("__debug__":Str))=false) (hl:Loads κ.X.mg κ.X.mb x v) (hq:Q v s):wpAny κ.X.M κ.A (eval (.Name id pos) κ.env) Q E s:=by
  subst hi
  refine PySem.Calls.Name_function_global at'.fok.kind (by unfold isGlob at hg;exact beq_iff_eq.mp hg) ?_ hd1
  have g1:s.heap.Ns κ.env.globals κ.X.mg:=by rw [at'.fok.glob];exact κ.X.g.keeps at'.inv.keep
  have b1:s.heap.Ns κ.env.builtins κ.X.mb:=by rw [at'.fok.blt];exact κ.X.b.keeps at'.inv.keep
  rcases hl with hl | ⟨hl,hl2⟩
  · exact PySem.Calls.loadGlobal_global g1 hl hq
  · exact PySem.Calls.loadGlobal_builtin g1 hl b1 hl2 hq
theorem Tri.glob {x:String} {id:Str} {pos:Pos} {v:Value} (hi:id=Str.ofString x) (hg:isGlob κ.env.scope id=true) (hd1:(id==("__debug__":Str))=false) (hl:Loads κ.X.mg κ.X.mb x v) :
    Tri κ ρ vs (eval (.Name id pos) κ.env) H (.ok v H) rEq :=
  Tri.reads fun _ s _ _ at' _ hq=>wpAny_glob at' hi hg hd1 hl (hq v s.heap s.toks (fun _ _ e=>e) rfl fun _ hp=>nomatch hp)
noncomputable def conOk:Const->Bool
  | .str x=>PyData.strOk x
  | _=>true
theorem Tri.const {c:Const} {k:Nat} {pos:Pos} (ok:conOk c=true):Tri κ ρ vs (eval (.Constant c k pos) κ.env) H (optR (constV c) fun v=>.ok v H) rV :=
  Tri.opt fun v e=>Tri.plain fun _ s _ _ _ _ hq=>by
    cases c with
    | none=>cases e;exact wpAny_pure (hq _ s.toks .none)
    | bool b=>cases e;exact wpAny_pure (hq _ s.toks (.bool b))
    | int i=>cases e;exact wpAny_Constant_int (hq _ _ (.int _ _))
    | str x=>cases e;exact PySem.Calls.Constant_str (hq _ _ (.str _ _ ok))
    | _=>cases e
theorem Tri.truthy {v:V} {m:Value} (hm:(v,m)∈vs):Tri κ ρ vs (PySem.truthy m) H (optR (truth v) fun b=>.ok b H) rB :=
  Tri.opt fun b e=>Tri.reads fun _ s _ _ _ hv hq=>by
    cases vr_of hv hm with
    | bool c=>cases e;exact wpAny_truthy_bool (hq _ s.heap s.toks (fun _ _ e=>e) rfl fun _ hp=>nomatch hp)
    | _=>cases e
theorem Tri.spliced_nil:Tri κ ρ vs (spliced []) H (.ok ([]:List V) H) rL:=Tri.pure rfl (fun _ hp=>nomatch hp)
theorem Tri.spliced_cons {t:Sem Value} {rest:List (Bool×Sem Value)} {r1:R V} {f:V->Hp->R (List V)}
    (h1:Tri κ ρ vs t H r1 rV) (h2:∀ v H1 m,r1=.ok v H1->Tri κ ρ (vs++[(v,m)]) (spliced rest) H1 (f v H1) rL) :
    Tri κ ρ vs (spliced ((false,t)::rest)) H (r1.bind fun v H1=>(f v H1).bind fun ws H2=>.ok (v::ws) H2) rL:=by
  rw [spliced]
  refine Tri.bind h1 fun v H1 m e _=>?_
  simp only [Bool.false_eq_true,if_false]
  show Tri _ _ _ (Pure.pure [m] >>= _) _ _ _
  refine Tri.skip (a₀:=[m]) (fun _ _ _ q=>wpAny_pure q) ?_
  refine Tri.bind (Tri.holding (h2 v H1 m e)) fun ws H2 ms _ hl=>?_
  refine Tri.pure ?_ ?_
  · show (v::ws).length=([m]++ms).length
    have:ws.length=ms.length:=hl
    simp [this]
  · intro p hp
    rcases List.mem_cons.mp hp with rfl | hp
    · exact m1 m0
    · exact List.mem_append.mpr (.inr hp)
theorem backTo_cons {pos:Pos} {t:Sem Value} {rest:List (Bool×Sem Value)}:backTo pos ((false,t)::rest)=(false,t)::backTo pos rest:=rfl
theorem Tri.args {fv:Value} {args:List (Bool×Sem Value)} {r1:R (List V)} (hp:args.any (·.1)=false) (h1:Tri κ ρ vs (spliced args) H r1 rL) :
    Tri κ ρ vs (evalArgs fv true args []) H r1 (fun ws (a:Args)=>(ws.length=a.pos.length/\a.kw=[],ws.zip a.pos)):=by
  intro hs1 η s a hv
  have hm:=h1 hs1 η s a hv
  cases args with
  | nil =>
    unfold evalArgs
    show wpAny κ.X.M κ.A (spliced [] >>= _) _ _ s
    refine wpAny_bind (wpAny_mono hm (fun ms s' ⟨ws,H',e,hl,P⟩=>?_) fun _ _ q=>q)
    refine wpAny_holding ?_
    exact wpAny_bind (wpAny_pure (wpAny_bind (wpAny_pure (wpAny_pure ⟨ws,H',e,⟨hl,rfl⟩,P⟩))))
  | cons x rest =>
    obtain ⟨b,t⟩:=x
    have hb:b=false:=by simp only [List.any_cons,Bool.or_eq_false_iff] at hp;exact hp.1
    subst hb
    exact PySem.Calls.evalArgs_plain (wpAny_mono hm (fun ms s' ⟨ws,H',e,hl,P⟩=>⟨ws,H',e,⟨hl,rfl⟩,P⟩) fun _ _ q=>q)
theorem Tri.callWith {pos:Pos} {fv:Value} {first:List Value} {args:List (Bool×Sem Value)} {r1:R (List V)} {f:List V->Hp->R V} (hk:Keepable κ.X fv) (hp:args.any (·.1)=false)
    (h1:Tri κ ρ vs (spliced args) H r1 rL) (h2:∀ ws H1 ms,r1=.ok ws H1->ws.length=ms.length->Tri κ ρ (vs++ws.zip ms) (PySem.call fv (first++ms)) H1 (f ws H1) rV) :
    Tri κ ρ vs (PySem.callWith pos fv first args []) H (r1.bind f) rV:=by
  refine Tri.via (fun Q E s q=>callWith_of (P:=fun h=>∀ b o,κ.X.base.get? b=some o->h.get? b=some o) (by rw [hp];rfl) hk q) (Tri.args hp h1) fun ws H1 ar e hl hs η s Q E at' hv hq he=>⟨at'.inv.keep,?_⟩
  rw [hl.2]
  exact wpAny_mono (h2 ws H1 ar.pos e hl.1 hs η s at' hv) hq he
end
theorem lng {i:Int} (h0:0<=i) (h1:i<=500001):-2 ^ 63<=i/\i < 2 ^ 63:=⟨Int.le_trans (by decide) h0,Int.lt_of_le_of_lt h1 (by decide)⟩
theorem rng_facts {a b c:Int} (h:rngOk a b c=true):Builtin.Range.rangeSize a b c=((rangeL a b c).length:Int)/\Builtin.Range.small a b c=true/\(rangeL a b c).length<=line:=by
  unfold rngOk at h
  simp only [Bool.and_eq_true,decide_eq_true_eq] at h
  obtain ⟨⟨⟨rfl,rfl⟩,h3⟩,h4⟩:=h
  have hl:(rangeL 0 b 1).length=b.toNat:=by unfold rangeL;rw [List.length_map,List.length_range]
  have e1:Builtin.Range.rangeSize 0 b 1=b:=by
    unfold Builtin.Range.rangeSize
    rw [if_pos (by decide)]
    split <;> omega
  rw [hl,e1,Int.toNat_of_nonneg h3]
  refine ⟨rfl,?_,by unfold line;omega⟩
  unfold Builtin.Range.small
  rw [e1]
  unfold Builtin.Range.rangeFitsLong
  rw [if_pos (by decide)]
  simp only [Bool.and_eq_true,Bool.or_eq_true,decide_eq_true_eq]
  have lb:=lng h3 (Int.le_trans h4 (by decide))
  refine ⟨⟨⟨⟨?_,?_⟩,?_⟩,?_⟩,.inr ?_⟩ <;> first | exact lb | (constructor <;> first | decide | omega)
theorem rangeL_get {a b c:Int} {i:Nat} (h:i < (rangeL a b c).length):(rangeL a b c)[i]=a+c * i:=by simp [rangeL]
section
variable {κ:Ct} {X:Cx} {ρ:Rho} {vs:List (V×Value)} {H:Hp}
theorem line_63:(line:Int) < 2 ^ 63:=by decide
theorem len_63 {n:Nat} (h:n<=line):(n:Int) < 2 ^ 63:=Int.lt_of_le_of_lt (Int.ofNat_le.mpr h) line_63
theorem one_of {α:Type} {v:V} {ms:List α} (h:[v].length=ms.length):∃ m,ms=[m]:=match ms,h with | [m],_=>⟨m,rfl⟩
noncomputable def FnOK (fv:Value) (g:List V->Hp->R V):Prop:=∀ (κ:Ct) (ρ:Rho) (vs:List (V×Value)) (H:Hp) (ws:List V) (ms:List Value),κ.Γ.hd=false->ws.length=ms.length->(∀ p∈ws.zip ms,p∈vs)->Tri κ ρ vs (PySem.call fv ms) H (g ws H) rV
theorem fn1 {fv:Value} {f:V->Hp->R V} (h:∀ (κ:Ct) (ρ:Rho) (vs:List (V×Value)) (H:Hp) (v:V) (m:Value),κ.Γ.hd=false->(v,m)∈vs->Tri κ ρ vs (PySem.call fv [m]) H (f v H) rV):FnOK fv (arg1 f):=fun κ ρ vs H ws ms hh hl hw=>by
  cases ws with
  | nil=>exact Tri.stuck
  | cons v ws =>
    cases ws with
    | cons=>exact Tri.stuck
    | nil =>
      obtain ⟨m,rfl⟩:=one_of hl
      exact h κ ρ vs H v m hh (hw _ (List.Mem.head _))
theorem fn2 {fv:Value} {f:Int->Int->Int} (h:∀ {prog:Program} {w:World} {A:Around} {s:Shared} {x y:Int} {t u:Tok} {Q:Value->Shared->Prop} {E:Value->Shared->Prop},A.handled=Option.none->(∀ h' tk m,(∃ w,m=.int (f x y) w)->(∀ b o,s.heap.get? b=some o->h'.get? b=some o)->Q m { s with heap:=h',toks:=tk })->wpAny (model prog w) A (PySem.call fv [.int x t,.int y u]) Q E s):FnOK fv (arg2 f):=fun κ ρ vs H ws ms hh hl hw=>by
  cases ws with
  | nil=>exact Tri.stuck
  | cons a ws =>
    cases ws with
    | nil=>exact Tri.stuck
    | cons b ws =>
      cases ws with
      | cons=>exact Tri.stuck
      | nil =>
        match ms,hl with
        | [ma,mb],_ =>
          refine Tri.opt fun x hx=>Tri.opt fun y hy=>Tri.reads fun η s Q E at' hv hq=>?_
          apply vr_int (vr_of hv (hw _ (List.Mem.head _))) hx;intro t
          apply vr_int (vr_of hv (hw _ (List.Mem.tail _ (List.Mem.head _)))) hy;intro u
          exact h (at'.hand hh) fun h' tk m ⟨w,e⟩ hk=>hq _ h' tk hk trivial fun q hq=>rV1 hq (e▸.int _ _)
theorem min_ok:FnOK (.builtin "min") (arg2 fun x y=>if y < x then y else x):=fn2 fun hh hq=>min_two_ints hh fun h' tk hk=>hq _ _ _ (by split <;> exact ⟨_,rfl⟩) hk
theorem max_ok:FnOK (.builtin "max") (arg2 fun x y=>if x < y then y else x):=fn2 fun hh hq=>max_two_ints hh fun h' tk hk=>hq _ _ _ (by split <;> exact ⟨_,rfl⟩) hk
theorem len_ok:FnOK (.builtin "len") (arg1 biLen):=fn1 fun κ ρ vs H v m _ hm=>Tri.opt fun n hn=>Tri.plain fun η s Q E at' hv hq=>by
  have r:=vr_of hv hm
  have key:(match listAt v H with | some xs=>some xs.length | Option.none=>(tabAt v H).map fun p=>p.1.length)=some n->wpAny κ.X.M κ.A (PySem.call (.builtin "len") [m]) Q E s:=fun hn=>by
    cases hx:listAt v H with
    | none =>
      rw [hx] at hn
      obtain ⟨p,ht,rfl⟩:=Option.map_eq_some_iff.mp hn
      refine vr_tab (P:=fun _ m=>wpAny _ _ (PySem.call _ [m]) Q E s) at'.inv r ht fun n d _ _ ⟨ys,D,z,hl,hs⟩=>?_
      refine call_lenE hs D (by rw [z.len];exact Int.lt_of_le_of_lt (Int.ofNat_le.mpr hl) (by decide)) fun t k=>?_
      rw [z.len]
      exact hq _ _ (.int _ _)
    | some xs =>
      rw [hx] at hn
      cases hn
      apply vr_list at'.inv r hx;intro a items c g r l
      refine PySem.Calls.call_len_list ⟨_,g,rfl,c,rfl⟩ (by rw [r.size];exact len_63 l) ?_
      rw [r.size]
      exact hq _ _ (.int _ _)
  cases r with
  | @scr a items ns hb hi hln =>
    cases hn
    have e:=(Array.length_toList (xs:=items)).symm.trans hi.length
    refine PySem.Calls.call_len_list (let ⟨o,ho,q⟩:=hb;⟨o,at'.inv.keep _ _ ho,q⟩) (by rw [e];exact len_63 hln) ?_
    rw [e]
    exact hq _ _ (.int _ _)
  | tup g _ r l =>
    cases hn
    refine PyProof.Rows.len_tuple ⟨_,g,rfl,_,rfl⟩ (by rw [r.size];exact len_63 l) ?_
    rw [r.size]
    exact hq _ _ (.int _ _)
  | str x t _ =>
    obtain ⟨hle,rfl⟩:=if_some hn
    exact PyProof.Rows.len_str (Int.not_le.mpr (Int.lt_of_le_of_lt (Int.ofNat_le.mpr hle) (by decide))) (hq _ _ (.int _ _))
  | _=>exact key hn
theorem abs_ok:FnOK (.builtin "abs") (arg1 biAbs):=fn1 fun κ ρ vs H v m _ hm=>Tri.opt fun i hx=>Tri.plain fun η s Q E at' hv hq=>by
  apply vr_int (vr_of hv hm) hx;intro t
  refine PyProof.Rows.call_abs_int fun u tk=>?_
  rw [show (if i < 0 then -i else i)=(i.natAbs:Int) from by split <;> omega]
  exact hq _ _ (.int _ _)
theorem range_ok:FnOK (.type "range") (arg1 biRange):=fn1 fun κ ρ vs H v m _ hm=>Tri.opt fun i hx=>Tri.reads fun η s Q E at' hv hq=>by
  apply vr_int (vr_of hv hm) hx;intro t
  exact call_range_1 (hq _ _ _ (push_keeps _ _) trivial fun p hp=>rV1 hp (.rng (Heap.get?_push_size _ rfl) at'.inv.size_off))
theorem VRs.of_get {η:List Addr} {h:Heap}:∀ {xs:List V} {ms:List Value},xs.length=ms.length->(∀ (i:Nat) v m,xs[i]?=some v->ms[i]?=some m->VR X η h v m)->VRs X η h xs ms
  | [],[],_,_=>.nil
  | [],_::_,h,_=>by cases h
  | _::_,[],h,_=>by cases h
  | x::xs,m::ms,h,k=>.cons (k 0 x m rfl rfl) (VRs.of_get (Nat.succ.inj h) fun i v n h1 h2=>k (i+1) v n h1 h2)
theorem list_ok:FnOK (.type "list") (arg1 biList):=fn1 fun κ ρ vs H v m hh hm=>by
  unfold biList
  cases hx:seqV v H with
  | some xs =>
    refine Tri.madeL fun η s Q E at' hv hq=>?_
    have r:=vr_of hv hm
    have go:∀ {a items c T},T="list"\/T="tuple"->s.heap.get? a=some { cls:=.type T,data:=.seq items c }->VRs κ.X η s.heap xs items.toList->xs.length<=line->wpAny κ.X.M κ.A (PySem.call (.type "list") [.ref a]) Q E s:=fun hT g r l =>
      call_list_seq _ hT g rfl rfl (fun h' c' k e=>hq _ h' _ _ s.toks (size_none _) k e r l) (by rw [r.size];exact Nat.le_trans l line_lt)
    cases v with
    | tup ws =>
      cases hx
      cases r with
      | tup g n r l=>exact go (.inr rfl) g r l
    | _=>apply vr_list at'.inv r hx;intro a items c g r l;exact go (.inl rfl) g r l
  | none =>
    refine Tri.opt fun p hr=>Tri.ifp fun hok=>Tri.madeL fun η s Q E at' hv hq=>?_
    obtain ⟨f1,f2,f3⟩:=rng_facts hok
    cases vr_of hv hm with
    | rng hg hn =>
      cases hr
      refine call_list_range (at'.hand hh) hg f2 f1 (Nat.le_trans f3 line_lt) fun h' tk acc c' k e it=>hq _ h' _ _ tk (size_none _) k e (VRs.of_get ?_ fun i v m h1 h2=>?_) (by rw [List.length_map];exact f3)
      · rw [List.length_map,Array.length_toList];exact it.1.symm
      · rw [List.getElem?_map] at h1
        obtain ⟨j,hj,rfl⟩:=Option.map_eq_some_iff.mp h1
        obtain ⟨hlt,hj'⟩:=List.getElem?_eq_some_iff.mp hj
        rw [rangeL_get] at hj'
        rw [Array.getElem?_toList] at h2
        obtain ⟨t',rfl⟩:=it.2 i m h2
        rw [<- hj',Int.mul_comm]
        exact .int _ _
    | _=>cases hr
theorem ints_are {η:List Addr} {h:Heap}:∀ {ns:List Int} {ms:List Value},VRs X η h (ns.map .int) ms->IntsAre ms ns
  | [],_,r=>by cases r;exact .nil
  | n::ns,_,r=>by
    cases r with
    | cons a b=>cases a;exact .cons _ _ (ints_are b)
theorem of_ints {η:List Addr} {h:Heap} {ns:List Int} {ms:List Value} (r:IntsAre ms ns):VRs X η h (ns.map .int) ms:=by
  induction r with
  | nil=>exact .nil
  | cons _ _ _ ih=>exact .cons (.int _ _) ih
theorem sort_eq {l m:List Int} (h:l.Perm m) (hl:l.Pairwise (·<=·)):l=m.mergeSort fun a b=>decide (a<=b):=by
  refine List.Perm.eq_of_pairwise (fun a b _ _ h1 h2=>Int.le_antisymm h1 h2) hl ?_ (h.trans (List.mergeSort_perm m _).symm)
  have q:=List.pairwise_mergeSort (le:=fun (a b:Int)=>decide (a<=b)) sort_tr sort_tot m
  exact q.imp fun h=>of_decide_eq_true h
theorem sorted_ok:FnOK (.builtin "sorted") (arg1 biSorted):=fn1 fun κ ρ vs H v m _ hm=>Tri.opt fun ns hx=>Tri.ifp fun h64=>by
  obtain ⟨xs,e1,e2⟩:=Option.bind_eq_some_iff.mp hx
  refine Tri.madeL fun η s Q E at' hv hq=>?_
  apply vr_list at'.inv (vr_of hv hm) e1;intro a items c g r l
  rw [intsV_inv e2] at r
  have hI:=ints_are r
  have fresh:s.heap.get? (s.heap.objs.size+1)=Option.none:=by
    cases q:s.heap.get? (s.heap.objs.size+1) with
    | none=>rfl
    | some o=>exact absurd (Heap.lt_size q) (Nat.not_lt.mpr (Nat.le_succ _))
  refine sorted_ints (vs:=items.toList) ⟨_,g,rfl,c,by rw [Array.toArray_toList]⟩ hI (by rw [hI.length];exact h64) fun out ns' a1 a2 a3=>?_
  obtain ⟨e,he⟩:=sortedAll_at s.heap items.toList out
  rw [sort_eq a2 a3] at a1
  exact hq _ _ _ _ s.toks fresh (fun b o q=>sortedAll_old q) he (of_ints a1) (by rw [List.length_map,List.length_mergeSort];exact Nat.le_trans (Nat.le_of_lt h64) (by decide))
theorem tuple_ok:FnOK (.type "tuple") (arg1 biTuple):=fn1 fun κ ρ vs H v m _ hm=>Tri.opt fun xs hx=>Tri.reads fun η s Q E at' hv hq=>by
  apply vr_list at'.inv (vr_of hv hm) hx;intro a items c g r l
  refine call_tuple_list ⟨_,g,rfl,c,rfl⟩ (fun h' k=>?_) (by rw [r.size];exact Nat.le_trans l line_lt)
  have k2:∀ b o,s.heap.get? b=some o->(h'.push { cls:=.type "tuple",data:=.seq items }).get? b=some o:=fun b o e=>push_keeps _ _ b o (k b o e)
  have off:h'.objs.size∉η:=fun q=>by
    obtain ⟨o,e⟩:=at'.inv.alive q
    exact absurd (Heap.lt_size (k _ _ e)) (Nat.lt_irrefl _)
  exact hq _ _ s.toks k2 trivial fun p hp=>rV1 hp (.tup (Heap.get?_push_size _ rfl) off (r.grow (Step.ext [] [] η k2)) l)
theorem int_ok:FnOK (.type "int") (arg1 biInt):=fn1 fun κ ρ vs H v m _ hm=>Tri.opt fun x hx=>Tri.ifp fun hle=>Tri.opt fun n hn=>Tri.plain fun η s Q E at' hv hq=>by
  apply vr_str (vr_of hv hm) hx;intro t _
  exact KIN.call_text hn hle (hq _ _ (.int _ _))
theorem bools_get {η:List Addr} {h:Heap} {xs:List V} {ms:List Value} (r:VRs X η h xs ms):∀ {bs:List Bool},bools xs=some bs->ms.length=bs.length/\∀ (i:Nat) (v:Value),ms[i]?=some v->∃ b:Bool,bs[i]?=some b/\v=Value.bool b :=
  VRs.ind (P:=fun xs ms=>∀ {bs:List Bool},bools xs=some bs->ms.length=bs.length/\∀ (i:Nat) (v:Value),ms[i]?=some v->∃ b:Bool,bs[i]?=some b/\v=Value.bool b)
    (fun e=>by cases e;exact ⟨rfl,fun i v q=>nomatch q⟩) (fun {v m vs ms} a _ ih bs e=>by
      unfold bools at e
      rw [List.mapM_cons] at e
      obtain ⟨b,e1,e⟩:=Option.bind_eq_some_iff.mp e
      obtain ⟨cs,e2,e⟩:=Option.bind_eq_some_iff.mp e
      cases e
      obtain ⟨l,ih⟩:=ih e2
      refine ⟨congrArg Nat.succ l,fun i v q=>?_⟩
      cases i with
      | zero =>
        cases q
        cases a with
        | bool c=>cases e1;exact ⟨_,rfl,rfl⟩
        | _=>cases e1
      | succ i=>exact ih i v q) r
theorem all_ok:FnOK (.builtin "all") (arg1 biAll):=fn1 fun κ ρ vs H v m hh hm=>Tri.opt fun bs hx=>by
  obtain ⟨xs,e1,e2⟩:=Option.bind_eq_some_iff.mp hx
  refine Tri.reads fun η s Q E at' hv hq=>?_
  apply vr_list at'.inv (vr_of hv hm) e1;intro a items c g r l
  obtain ⟨hn,hb⟩:=bools_get r e2
  have hL:s.heap.IsList a items:=⟨_,g,rfl,c,rfl⟩
  refine call_all_walk (wpAny_pyIter_list hL ⟨s.heap.objs.size,[s.heap.objs.size,a],[s.heap.objs.size],items.size,_,_,fun i=>(bs[i]?).getD true,rfl,Walks.list (A:=κ.A.in1) (at'.hand hh) _ a (Nat.ne_of_lt (Heap.lt_size g)) items,
    ⟨⟨_,Heap.get?_push_size _ rfl,rfl,rfl⟩,hL.push _⟩,fun i v s' Q' E' hP hQ=>?_,fun h' tk hk=>?_⟩)
  · obtain ⟨b,e,rfl⟩:=hb i v (by rw [Array.getElem?_toList];exact hP)
    simp only [e,Option.getD_some] at hQ
    exact wpAny_truthy_bool hQ
  · have e:((List.range items.size).all fun i=>(bs[i]?).getD true)=bs.all id:=by
      rw [<- Array.length_toList,hn];exact LSm.range_all bs
    rw [e]
    exact hq _ h' tk (LSm.kept_iter hk) trivial fun p hp=>rV1 hp (.bool _)
theorem builtin_ok {f:String} {g:List V->Hp->R V} (h:biFns.lookup f=some g):∃ fv,biVal f=some fv/\FnOK fv g :=
  (List.forall_mem_cons (p:=fun p:String×(List V->Hp->R V)=>∃ fv,biVal p.1=some fv/\FnOK fv p.2)).mpr ⟨⟨_,rfl,len_ok⟩,List.forall_mem_cons.mpr ⟨⟨_,rfl,min_ok⟩,List.forall_mem_cons.mpr ⟨⟨_,rfl,max_ok⟩,List.forall_mem_cons.mpr ⟨⟨_,rfl,abs_ok⟩,List.forall_mem_cons.mpr ⟨⟨_,rfl,range_ok⟩,List.forall_mem_cons.mpr ⟨⟨_,rfl,list_ok⟩,List.forall_mem_cons.mpr ⟨⟨_,rfl,tuple_ok⟩,List.forall_mem_cons.mpr ⟨⟨_,rfl,sorted_ok⟩,List.forall_mem_cons.mpr ⟨⟨_,rfl,int_ok⟩,List.forall_mem_cons.mpr ⟨⟨_,rfl,all_ok⟩,List.forall_mem_nil _⟩⟩⟩⟩⟩⟩⟩⟩⟩⟩ _ (lookup_mem h)
end
theorem lt_63 {k:Int} {n:Nat} (hn:n<=line) (h:k < n):k < 2 ^ 63:=Int.lt_of_lt_of_le h (Int.le_trans (Int.ofNat_le.mpr hn) (by decide))
theorem gt_63 {k:Int} {n:Nat} (hn:n<=line) (h:-(n:Int)<=k):-2 ^ 63<=k:=Int.le_trans (Int.le_trans (by decide) (Int.neg_le_neg (Int.ofNat_le.mpr hn))) h
theorem place_lt {k:Int} {n j:Nat} (h:place k n=some j):(0<=k/\k < n/\j=k.toNat)\/(k < 0/\-(n:Int)<=k/\j=(k+n).toNat):=by
  unfold place at h
  by_cases h0:0<=k
  · rw [if_pos h0] at h
    by_cases h1:k < n
    · rw [if_pos h1] at h;cases h;exact .inl ⟨h0,h1,rfl⟩
    · rw [if_neg h1] at h;cases h
  · rw [if_neg h0] at h
    by_cases h1:-(n:Int)<=k
    · rw [if_pos h1] at h;cases h;exact .inr ⟨Int.not_le.mp h0,h1,rfl⟩
    · rw [if_neg h1] at h;cases h
theorem seq_of {k:Int} {n j:Nat} (hn:n<=line) (h:place k n=some j):-2 ^ 63<=k/\k < 2 ^ 63/\seqIndex? k n=some j:=by
  unfold seqIndex?
  rcases place_lt h with ⟨h0,h1,rfl⟩ | ⟨h0,h1,rfl⟩
  · refine ⟨Int.le_trans (by decide) h0,lt_63 hn h1,?_⟩
    rw [if_neg (Int.not_lt.mpr h0)]
    exact if_pos (by rw [decide_eq_true h0,decide_eq_true h1];rfl)
  · refine ⟨gt_63 hn h1,Int.lt_trans h0 (by decide),?_⟩
    rw [if_pos h0]
    have k0:0<=k+n:=by clear h;omega
    have k1:k+n < n:=by clear h;omega
    exact if_pos (by rw [decide_eq_true k0,decide_eq_true k1];rfl)
section
variable {κ:Ct} {ρ:Rho} {vs:List (V×Value)} {H:Hp}
theorem wpAny_item_list {X:Cx} {A:Around} {s:Shared} {a:Addr} {items:Array Value} {k:Int} {u:Tok} {j:Nat} {m:Value} {value slice:Expr} {Q:Value->Shared->Prop} {E:Value->Shared->Prop}
    (hl:s.heap.IsList a items) (hn:items.size<=line) (hj:place k items.size=some j) (hm:items[j]?=some m) (hs:subscripted slice false (.ref a) (.int k u)=operate [.ref a,.int k u] (getItem (.ref a) (.int k u))) (hq:Q m s) :
    wpAny X.M A (subscriptTail value slice (.ref a) (.int k u)) Q E s:=by
  refine tail_any hl.typeIs slot_list_getitem.lookup ?_ hs
  rcases place_lt hj with ⟨h0,h1,rfl⟩ | ⟨h0,h1,rfl⟩
  · exact wpAny_getItem_list hl h0 (lt_63 hn h1) hm hq
  · exact wpAny_getItem_list_neg hl h0 h1 (gt_63 hn h1) hm hq
theorem strOk_one {x:Str} {j c:Nat} (o:PyData.strOk x=true) (e:x.cps[j]?=some c):PyData.strOk ⟨#[c]⟩=true:=by
  unfold PyData.strOk at *
  obtain ⟨hj,rfl⟩:=Array.getElem?_eq_some_iff.mp e
  simpa using (Array.all_eq_true.mp o) j hj
theorem index_ok {o i:V} {mo mi:Value} {value slice:Expr} (ho:(o,mo)∈vs) (hi:(i,mi)∈vs) (hs:∀ a b,subscripted slice false a b=operate [a,b] (getItem a b)) :
    Tri κ ρ vs (subscriptTail value slice mo mi) H (index o i H) rV:=by
  unfold index
  cases hk:intAt i with
  | none =>
    refine Tri.opt fun p ht=>Tri.opt fun k hk=>Tri.opt fun v hg=>Tri.plain fun η s Q E at' hv hq=>?_
    apply vr_key (vr_of hv hi) hk;intro c rk
    refine vr_tab (P:=fun _ mo=>wpAny _ _ (subscriptTail value slice mo _) Q E s) at'.inv (vr_of hv ho) ht fun n d _ _ ⟨ys,D,z,_,_⟩=>?_
    rcases z.get k with ⟨e,_⟩ | ⟨v',q,e,e3,rq⟩ <;> rw [hg] at e <;> cases e
    exact tail_any (T:="dict") D.of.typeIs slot_dict_getitem.lookup (wpAny_getItem_heap (knd:=pairKind κ.X.prog κ.X.w) at'.pair (key_pair rk) D.of e3 (hq _ _ rq)) (hs _ _)
  | some k =>
    refine Tri.opt fun xs hx=>Tri.opt fun v e=>?_
    obtain ⟨j,e1,e2⟩:=Option.bind_eq_some_iff.mp e
    refine Tri.plain fun η s Q E at' hv hq=>?_
    apply vr_int (vr_of hv hi) hk;intro u
    have r:=vr_of hv ho
    have lst:∀ {a items},s.heap.IsList a items->VRs κ.X η s.heap xs items.toList->xs.length<=line->wpAny κ.X.M κ.A (subscriptTail value slice (.ref a) (.int k u)) Q E s:=fun hl r l=>by
      obtain ⟨m,e3,rm⟩:=r.get e2
      rw [Array.getElem?_toList] at e3
      exact wpAny_item_list hl (by rw [r.size];exact l) (by rw [r.size];exact e1) e3 (hs _ _) (hq _ s.toks rm)
    cases o with
    | tup ws =>
      cases hx
      cases r with
      | tup g nn r l =>
        obtain ⟨m,e3,rm⟩:=r.get e2
        rw [Array.getElem?_toList] at e3
        obtain ⟨h0,h1,h2⟩:=seq_of l e1
        exact tail_any (T:="tuple") ⟨_,g,rfl⟩ F.slot_tuple_getitem.lookup (P.getItem_tuple g h0 h1 (by rw [r.size];exact h2) e3 (hq _ s.toks rm)) (hs _ _)
    | scr ns =>
      cases hx
      cases r with
      | scr hb hi' hln=>exact lst (let ⟨o,ho,q⟩:=hb;⟨o,at'.inv.keep _ _ ho,q⟩) (of_ints hi') (by rw [List.length_map];exact hln)
    | lst ws =>
      cases hx
      cases r with
      | lst g nn r l=>exact lst ⟨_,g,rfl,_,rfl⟩ r l
    | str x =>
      obtain ⟨hle,rfl⟩:=if_some hx
      unfold signs at e1 e2
      rw [List.length_map,Array.length_toList] at e1
      rw [List.getElem?_map,Array.getElem?_toList] at e2
      obtain ⟨c,e3,rfl⟩:=Option.map_eq_some_iff.mp e2
      apply vr_str r rfl;intro t ok
      obtain ⟨h0,h1,h2⟩:=seq_of hle e1
      refine tail_any (T:="str") (typeIs_str _ _ _) F.slot_str_getitem.lookup (PyProof.Rows.getItem_str ?_ (by show (seqIndex? k x.cps.size).bind _=_;rw [show seqIndex? k x.cps.size=some j from h2];exact e3) (hq _ _ (.str _ _ (strOk_one ok e3)))) (hs _ _)
      rw [Bool.or_eq_false_iff,decide_eq_false_iff_not,decide_eq_false_iff_not]
      exact ⟨Int.not_lt.mpr h0,Int.not_le.mpr h1⟩
    | _=>apply vr_list at'.inv r hx;intro a items c g r l;exact lst ⟨_,g,rfl,c,rfl⟩ r l
theorem Tri.newTuple {ws:List V} {ms:List Value} (hl:ws.length=ms.length) (hw:∀ p∈ws.zip ms,p∈vs) (hln:ws.length<=line):Tri κ ρ vs (PySem.newTuple ms) H (.ok (.tup ws) H) rV :=
  Tri.reads fun η s Q E at' hv hq=>wpAny_newTuple (hq _ _ s.toks (push_keeps _ _) trivial fun p hp=>rV1 hp (.tup (Heap.get?_push_size _ rfl) at'.inv.size_off ((VRs.of_zip hl fun p hp=>hv p (hw p hp)).grow (Step.ext [] [] η (push_keeps _ _))) hln)) (by rw [<- hl];exact Nat.le_trans hln line_lt)
theorem Tri.newList {ws:List V} {ms:List Value} (hl:ws.length=ms.length) (hw:∀ p∈ws.zip ms,p∈vs) (hln:ws.length<=line):Tri κ ρ vs (PySem.newList ms) H (new (.list ws) H) rV :=
  Tri.madeL fun η s Q E at' hv hq=>wpAny_newList (hq _ _ _ _ s.toks (size_none _) (push_keeps _ _) (Heap.get?_push_size _ rfl) (VRs.of_zip hl fun p hp=>hv p (hw p hp)) hln) (by rw [<- hl];exact Nat.le_trans hln line_lt)
theorem Tri.hidden {ws:List V} {ms:List Value} (hl:ws.length=ms.length) (hw:∀ p∈ws.zip ms,p∈vs) (hln:ws.length<=line):Tri κ ρ vs (PySem.newList ms) H (.ok (.lst ws) H) rV :=
  Tri.reads fun η s Q E at' hv hq=>wpAny_newList (hq _ _ s.toks (push_keeps _ _) trivial fun p hp=>rV1 hp (.lst (Heap.get?_push_size _ rfl) at'.inv.size_off ((VRs.of_zip hl fun p hp=>hv p (hw p hp)).grow (Step.ext [] [] η (push_keeps _ _))) hln)) (by rw [<- hl];exact Nat.le_trans hln line_lt)
end
noncomputable def Mach (h:Heap) (b:Addr):Prop:=∃ o,h.get? b=some o/\((∃ T fs,o.cls=.type T/\o.data=.fields fs/\T≠"range")\/∃ es n,o.data=.dict es n)
structure Turn (its η:List Addr) (H:Hp) (h h':Heap):Prop where
  keep:∀ b o,b∉its->h.get? b=some o->h'.get? b=some o
  was:∀ b∈its,(b∉η/\Mach h b)\/∃ (n:Nat) (x y:Value),η[n]?=some b/\H[n]?=some O.own/\h'.get? b=some { cls:=.type "tuple",data:=.seq #[x,y] }
section
variable {X:Cx} {η:List Addr} {h h':Heap} {H:Hp} {it:Addr} {its:List Addr}
theorem Turn.one (hη:it∉η) (hm:Mach h it) (k:∀ b o,b≠it->h.get? b=some o->h'.get? b=some o):Turn [it] η H h h' :=
  ⟨fun b o hb=>k b o fun q=>hb (List.mem_singleton.mpr q),fun b hb=>by rw [List.mem_singleton] at hb;subst hb;exact .inl ⟨hη,hm⟩⟩
theorem Turn.holds (x:Turn its η H h h'):Holds η h η h':=by
  have go:∀ a o,h.get? a=some o->a∉η->¬ ((∃ T fs,o.cls=.type T/\o.data=.fields fs/\T≠"range")\/∃ es n,o.data=.dict es n)->h'.get? a=some o:=fun a o e hn hd=>by
    refine x.keep a o (fun q=>?_) e
    rcases x.was a q with ⟨_,o',e',m⟩ | ⟨n,_,_,e1,_⟩
    · rw [e] at e';cases e';exact hd m
    · exact hn (List.mem_of_getElem? e1)
  refine ⟨fun a o e hn hs=>⟨go a o e hn ?_,hn⟩⟩
  rintro (⟨T,fs,c,d,hT⟩ | ⟨es,n,d⟩) <;> rcases hs with ⟨xs,k,d'⟩ | ⟨c',fs',d'⟩
  · rw [d] at d';cases d'
  · rw [c] at c';cases c';exact hT rfl
  · rw [d] at d';cases d'
  · rw [d] at d';cases d'
theorem Turn.vr (x:Turn its η H h h') {v:V} {m:Value} (r:VR X η h v m):VR X η h' v m:=r.map ⟨[],(List.append_nil _).symm⟩ x.holds
theorem Turn.vrs (x:Turn its η H h h') {v:List V} {m:List Value} (r:VRs X η h v m):VRs X η h' v m:=r.map ⟨[],(List.append_nil _).symm⟩ x.holds
theorem Turn.inv (x:Turn its η H h h') (i:Inv X η H h) (hb:∀ b∈its,X.base.get? b=Option.none):Inv X η H h':=by
  refine ⟨fun b o e=>x.keep b o (fun q=>by rw [hb b q] at e;cases e) (i.keep b o e),i.len,i.fresh,i.nodup,fun n a o ha ho=>?_⟩
  by_cases hi:a∈its
  · rcases x.was a hi with ⟨hn,_⟩ | ⟨k,y,z,e1,e2,e3⟩
    · exact absurd (List.mem_of_getElem? ha) hn
    · have:n=k:=by
        obtain ⟨h1,q1⟩:=List.getElem?_eq_some_iff.mp ha
        obtain ⟨h2,q2⟩:=List.getElem?_eq_some_iff.mp e1
        exact (List.getElem_inj i.nodup (h₀:=h1) (h₁:=h2)).mp (q1.trans q2.symm)
      subst this
      rw [e2] at ho;cases ho
      exact ⟨_,e3,.own⟩
  · obtain ⟨ob,e,r⟩:=i.objs n a o ha ho
    exact ⟨ob,x.keep a ob hi e,r.map ⟨[],(List.append_nil _).symm⟩ x.holds⟩
theorem Turn.step {fr own η0:List Addr} {h0:Heap} (x:Turn its η H h h') (s:Step fr own η0 h0 η h) (h0n:∀ b∈its,h0.get? b=Option.none):Step fr own η0 h0 η h':=by
  have ne:∀ b o,h0.get? b=some o->b∉its:=fun b o e q=>by rw [h0n b q] at e;cases e
  refine ⟨s.pre,fun b o e=>let ⟨o1,e1⟩:=s.alive b o e;⟨o1,x.keep b o1 (ne b o e) e1⟩,fun b o e hb ho=>let ⟨sl,e1,q⟩:=s.data b o e hb ho;⟨sl,x.keep b _ (ne b o e) e1,q⟩,fun b o e hb es' k d=>?_,fun b o e hb v d=>?_⟩
  · obtain ⟨o1,es1,k1,e1,d1⟩:=s.dicts b o e hb es' k d
    exact ⟨o1,es1,k1,x.keep b _ (ne b o e) e1,d1⟩
  · obtain ⟨o1,v1,e1,d1⟩:=s.cells b o e hb v d
    exact ⟨o1,v1,x.keep b _ (ne b o e) e1,d1⟩
theorem Turn.ends {env:Env} {ρ:Rho} (x:Turn its η H h h') (e:Ends X env ρ η h) (hn:∀ b∈ownOf env,b∉its):Ends X env ρ η h':=by
  obtain ⟨fo,ro⟩:=e
  have ns:∀ {m:Str->Option Value},h.Ns env.locals m->h'.Ns env.locals m:=fun {m} ⟨o,es,ep,e,d,r⟩ =>
    ⟨o,es,ep,x.keep _ _ (hn _ (List.Mem.head _)) e,d,r⟩
  have cl:∀ {y:Str} {c:Addr} {o:Obj},(y,c)∈env.cells->h.get? c=some o->h'.get? c=some o:=fun {y c o} m e=>x.keep _ _ (hn c (List.mem_cons.mpr (.inr (List.mem_map.mpr ⟨(y,c),m,rfl⟩)))) e
  refine ⟨⟨fo.kind,fo.glob,fo.blt,let ⟨m,hn⟩:=fo.ns;⟨m,ns hn⟩,fun p hp=>let ⟨o,v,e,d⟩:=fo.cell p hp;⟨o,v,cl (y:=p.1) hp e,d⟩,fo.cells,fo.inj,fo.off⟩,fun y v ey hy=>?_⟩
  obtain ⟨mv,hh,r⟩:=ro y v ey hy
  refine ⟨mv,?_,x.vr r⟩
  rcases hh with ⟨hk,m,hn,hm⟩ | ⟨hk,c,o,hc,g,d⟩
  · exact .inl ⟨hk,m,ns hn,hm⟩
  · exact .inr ⟨hk,c,o,hc,cl (lookup_mem hc) g,d⟩
noncomputable def Recs (its η:List Addr) (h:Heap):Prop:=∀ b∈its,b∈η\/∃ o fs,h.get? b=some o/\o.data=.fields fs
theorem Recs.off {l:List Addr} (x:Recs its η h) (f:Frm h l) (hl:∀ b∈l,b∉η):∀ b∈l,b∉its:=fun b hb q=>by
  rcases x b q with z | ⟨o,fs,e,d⟩
  · exact hl b hb z
  · exact f.not e ⟨fun es n z=>(by rw [d] at z;cases z),fun v z=>(by rw [d] at z;cases z)⟩ hb
theorem Turn.at {κ:Ct} {ρ:Rho} {s:Shared} {tk:Nat} (x:Turn its η H s.heap h') (a:At κ η ρ H s) (hb:∀ b∈its,κ.X.base.get? b=Option.none) (hr:Recs its η s.heap):At κ η ρ H { s with heap:=h',toks:=tk }:=by
  have en:=x.ends ⟨a.fok,a.rho⟩ (hr.off a.fok.frm fun b q=>(a.fok.off b q).1)
  have of:=hr.off a.stk.frm a.stk.off
  refine ⟨x.inv a.inv hb,en.1,en.2,⟨a.stk.frames,?_,a.stk.off,fun b hb=>let ⟨o,e,q⟩:=a.stk.frm b hb;⟨o,x.keep b o (of b hb) e,q⟩⟩,a.room,a.hand⟩
  have key:∀ l:List Env,(∀ b∈frs l,b∉its)->s.heap.FunFrames κ.X.base l->h'.FunFrames κ.X.base l:=by
    intro l
    induction l with
    | nil=>intro _ _;trivial
    | cons e l ih =>
      intro ho ⟨hk,⟨L,o,hfr,hn,hg,hd⟩,hr⟩
      have hL:L∈frs (e::l):=by unfold frs;rw [List.filterMap_cons,hfr];exact List.Mem.head _
      have sub:∀ a∈frs l,a∈frs (e::l):=by intro a ha;unfold frs at *;rw [List.filterMap_cons,hfr];exact List.Mem.tail _ ha
      exact ⟨hk,⟨L,o,hfr,hn,x.keep L o (ho L hL) hg,hd⟩,ih (fun a ha=>ho a (sub a ha)) hr⟩
  exact key _ of a.stk.ok
end
theorem ZR.at {X:Cx} {η:List Addr} {h:Heap} {xs:List (Key×V)} {ys:List (Key×Addr×Value)} (r:ZR X η h xs ys):∀ i:Nat,(xs[i]?=Option.none/\ys[i]?=Option.none)\/∃ (x:Key×V) (y:Key×Addr×Value),xs[i]?=some x/\ys[i]?=some y/\VR X η h (keyV x.1) (.ref y.2.1):=by
  induction r with
  | nil=>exact fun _=>.inl ⟨rfl,rfl⟩
  | cons a _ _ ih =>
    intro i
    cases i with
    | zero=>exact .inr ⟨_,_,rfl,rfl,a⟩
    | succ i=>exact ih i
inductive ItR (X:Cx) (η:List Addr) (h:Heap) (it:Addr) (H:Hp):V->List V->Nat->Prop
  | list {n i:Nat} {l:Addr} {xs:List V}:η[n]?=some l->H[n]?=some (.list xs)->h.IsListIter it l i->ItR X η h it H (.ref n) xs i
  | tab {n i ep:Nat} {d:Addr} {ps:List (Key×V)}:η[n]?=some d->H[n]?=some (.tab ps ep)->h.IsKeyIter it d i ps.length ep->ItR X η h it H (.ref n) (ps.map fun x=>keyV x.1) i
  | tup {t:Addr} {i k:Nat} {items:Array Value} {xs:List V}:h.get? t=some { cls:=.type "tuple",data:=.seq items k }->t∉η->VRs X η h xs items.toList->h.IsTupleIter it t i->ItR X η h it H (.tup xs) xs i
  | rng {a b c:Int} {i:Nat}:IsRangeIter h it (a+c * i) ((rangeL a b c).length - i) c->ItR X η h it H (.rng a b c) ((rangeL a b c).map .int) i
  | str {x:Str} {t:Tok} {i:Nat}:PyData.strOk x=true->h.IsStrIter it "str_ascii_iterator" x t i->ItR X η h it H (.str x) (signs x) i
section
variable {X:Cx} {η η':List Addr} {h h':Heap} {it:Addr} {H0:Hp} {src:V} {xs:List V} {i:Nat}
theorem ItR.obj (r:ItR X η h it H0 src xs i):∃ o T fs,h.get? it=some o/\o.cls=.type T/\o.data=.fields fs/\T≠"range":=by
  cases r with
  | list _ _ q=>obtain ⟨o,a,b,c⟩:=q;exact ⟨o,_,_,a,b,c,by decide⟩
  | tab _ _ q=>obtain ⟨o,a,b,c⟩:=q;exact ⟨o,_,_,a,b,c,by decide⟩
  | tup _ _ _ q=>obtain ⟨o,a,b,c⟩:=q;exact ⟨o,_,_,a,b,c,by decide⟩
  | rng q=>exact ⟨_,_,_,q,rfl,rfl,by decide⟩
  | str _ q=>obtain ⟨o,a,b,c⟩:=q;exact ⟨o,_,_,a,b,c,by decide⟩
theorem ItR.mach (r:ItR X η h it H0 src xs i):Mach h it:=let ⟨o,T,fs,e,c,d,q⟩:=r.obj;⟨o,e,.inl ⟨T,fs,c,d,q⟩⟩
theorem ItR.recs (r:ItR X η h it H0 src xs i):Recs [it] η h:=fun b hb=>let ⟨o,_,fs,e,_,d,_⟩:=r.obj;.inr ⟨o,fs,by rw [List.mem_singleton.mp hb];exact e,d⟩
theorem ItR.move (r:ItR X η h it H0 src xs i) (hp:∃ l,η'=η++l) (x:Holds η h η' h') (same:∀ o,h.get? it=some o->h'.get? it=some o):ItR X η' h' it H0 src xs i:=by
  cases r with
  | list e1 e2 q1 =>
    obtain ⟨o,a,b,c⟩:=q1
    obtain ⟨l',rfl⟩:=hp
    exact .list (getElem?_pre e1) e2 ⟨o,same o a,b,c⟩
  | tab e1 e2 q1 =>
    obtain ⟨o,a,b,c⟩:=q1
    obtain ⟨l',rfl⟩:=hp
    exact .tab (getElem?_pre e1) e2 ⟨o,same o a,b,c⟩
  | tup e1 e2 e3 q1 =>
    obtain ⟨o,a,b,c⟩:=q1
    exact .tup (x.seq _ _ e1 e2 (.inl ⟨_,_,rfl⟩)).1 (x.seq _ _ e1 e2 (.inl ⟨_,_,rfl⟩)).2 (e3.map hp x) ⟨o,same o a,b,c⟩
  | rng q1=>exact .rng (same _ q1)
  | str ok q1 =>
    obtain ⟨o,a,b,c⟩:=q1
    exact .str ok ⟨o,same o a,b,c⟩
theorem ItR.keep {fr own:List Addr} (r:ItR X η h it H0 src xs i) (x:Step fr own η h η' h') (f:Frm h (own++fr)) (hη:it∉η):ItR X η' h' it H0 src xs i:=by
  obtain ⟨o0,T,fs,e0,c0,d0,_⟩:=r.obj
  exact r.move x.pre' (x.holds f) fun o e=>have q:=f.not e0 ⟨fun es n q=>(by rw [d0] at q;cases q),fun v q=>(by rw [d0] at q;cases q)⟩;x.same it o e hη (fun z=>q (List.mem_append.mpr (.inl z))) fun z=>q (List.mem_append.mpr (.inr z))
theorem next_ok {A:Around} {H:Hp} {s:Shared} {Q:Option Value->Shared->Prop} {E:Value->Shared->Prop} (r:ItR X η s.heap it H0 src xs i) (iv:Inv X η H s.heap) (hη:it∉η) (hh:A.handled=Option.none) (hsrc:∀ n,src=.ref n->H[n]?=H0[n]?)
    (h1:∀ v mv h' tk,xs[i]?=some v->Turn [it] η H s.heap h'->VR X η h' v mv->ItR X η h' it H0 src xs (i+1)->Q (some mv) { s with heap:=h',toks:=tk })
    (h2:∀ h',xs[i]?=Option.none->Turn [it] η H s.heap h'->Q Option.none { s with heap:=h' }):wpAny X.M A (pyNext (.ref it)) Q E s:=by
  have sb:∀ {h'},Heap.SameBut it s.heap h'->Turn [it] η H s.heap h':=fun {h'} q=>Turn.one hη r.mach fun b o hb e=>(q.2 b hb).trans e
  have eb:∀ {h'},Heap.ExtBut it s.heap h'->Turn [it] η H s.heap h':=fun {h'} q=>Turn.one hη r.mach fun b o hb e=>q b o hb e
  cases r with
  | list e1 e0 q1 =>
    rename_i n l
    obtain ⟨items,k,g,vr,le⟩:=list_of iv e1 ((hsrc n rfl).trans e0)
    have hl:s.heap.IsList l items:=⟨_,g,rfl,k,rfl⟩
    cases e:xs[i]? with
    | none =>
      refine wpAny_pyNext_list_end hh q1 hl ?_ fun h' k=>h2 h' e (eb k)
      rw [List.getElem?_eq_none_iff] at e
      rw [Array.getElem?_eq_none_iff,<- Array.length_toList,<- vr.length];exact e
    | some v =>
      obtain ⟨mv,em,rv⟩:=vr.get e
      rw [Array.getElem?_toList] at em
      exact wpAny_pyNext_list_item q1 hl em fun h' k1 k2=>h1 v mv h' s.toks e (sb k2) ((sb k2).vr rv) (.list e1 e0 k1)
  | tab e1 e0 q1 =>
    rename_i n ep d ps
    obtain ⟨ys,⟨o,es,g,hc,hd,hes,_,_⟩,z,_,_⟩:=tab_of (p:=(ps,ep)) iv e1 ((hsrc n rfl).trans e0)
    have hl:es.size=ps.length:=by rw [<- Array.length_toList,hes,List.length_map];exact z.len
    rw [<- hl] at q1
    rcases z.at i with ⟨e,q⟩ | ⟨x,y,e,e',ry⟩
    · refine pyNext_raw_end hh q1 g hd ?_ fun h' k=>h2 h' ?_ (eb k)
      · rw [<- Array.getElem?_toList,hes,List.getElem?_map,q];rfl
      · rw [List.getElem?_map,e];rfl
    · exact pyNext_raw_item q1 g hd (by rw [<- Array.getElem?_toList,hes,List.getElem?_map,e'];rfl) fun h' k1 k2=>h1 _ _ h' s.toks (by rw [List.getElem?_map,e];rfl) (sb k2) ((sb k2).vr ry) (.tab e1 e0 (hl▸k1))
  | tup e1 e2 e3 q1 =>
    rename_i t k items
    have ht:s.heap.IsTuple t items:=⟨_,e1,rfl,k,rfl⟩
    cases e:xs[i]? with
    | none =>
      refine wpAny_pyNext_tuple_end hh q1 ht ?_ fun h' k=>h2 h' e (eb k)
      rw [List.getElem?_eq_none_iff] at e
      rw [Array.getElem?_eq_none_iff,<- Array.length_toList,<- e3.length];exact e
    | some v =>
      obtain ⟨mv,em,rv⟩:=e3.get e
      rw [Array.getElem?_toList] at em
      exact wpAny_pyNext_tuple_item q1 ht em fun h' k1 k2=>h1 v mv h' s.toks e (sb k2) ((sb k2).vr rv) (.tup ((sb k2).holds.seq _ _ e1 e2 (.inl ⟨_,_,rfl⟩)).1 e2 ((sb k2).vrs e3) k1)
  | rng q1 =>
    rename_i a b c
    by_cases hi:i < (rangeL a b c).length
    · refine wpAny_pyNext_range_item q1 (Int.sub_pos_of_lt (Int.ofNat_lt.mpr hi)) fun h' k1 k2=>h1 (.int (a+c * i)) _ h' _ ?_ (sb k2) (.int _ _) (.rng ?_)
      · rw [List.getElem?_map,List.getElem?_eq_getElem hi,Option.map_some,rangeL_get]
      · have e1:a+c * ((i+1:Nat):Int)=a+c * i+c:=by
          rw [Int.natCast_succ,Int.mul_add,Int.mul_one,Int.add_assoc]
        have e2:((rangeL a b c).length:Int) - ((i+1:Nat):Int)=(rangeL a b c).length - i - 1:=by rw [Int.natCast_succ,Int.sub_sub]
        rw [e2,e1];exact k1
    · refine wpAny_pyNext_range_end hh q1 (Int.sub_nonpos_of_le (Int.ofNat_le.mpr (Nat.not_lt.mp hi))) fun h' k=>h2 h' ?_ (eb k)
      rw [List.getElem?_eq_none_iff,List.length_map];exact Nat.not_lt.mp hi
  | str ok q1 =>
    rename_i x t
    have e0:(signs x)[i]?=(x.cps[i]?).map fun c=>V.str ⟨#[c]⟩:=by unfold signs;rw [List.getElem?_map,Array.getElem?_toList]
    cases e:x.cps[i]? with
    | none=>exact wpAny_pyNext_ascii_end hh q1 e fun h' k=>h2 h' (by rw [e0,e];rfl) (eb k)
    | some c=>exact wpAny_pyNext_ascii_item q1 e fun h' k1 k2=>h1 (.str ⟨#[c]⟩) _ h' _ (by rw [e0,e];rfl) (sb k2) (.str _ _ (strOk_one ok e)) (.str ok k1)
end
section
variable {X:Cx} {A:Around} {η:List Addr} {H:Hp} {s:Shared}
theorem items_ref {H:Hp} {n:Nat} {xs:List V} (h:items H (.ref n)=some xs):H[n]?=some (.list xs)\/∃ ps ep,H[n]?=some (.tab ps ep)/\xs=ps.map fun x=>keyV x.1:=by
  have h:(match listAt (.ref n) H with | some xs=>some xs | Option.none=>(tabAt (.ref n) H).map fun p=>p.1.map fun x=>keyV x.1)=some xs:=h
  have e1:listAt (.ref n) H=(H[n]?).bind listO:=rfl
  have e2:tabAt (.ref n) H=(H[n]?).bind tabO:=rfl
  rw [e1,e2] at h
  cases e:H[n]? with
  | none=>rw [e] at h;cases h
  | some o =>
    rw [e] at h
    cases o with
    | list=>cases h;exact .inl rfl
    | tab=>cases h;exact .inr ⟨_,_,rfl,rfl⟩
    | _=>cases h
theorem eqO_eq {a b:O} (h:eqO a b=true):b=a:=by
  cases a with
  | list xs =>
    cases b with
    | list ys=>rw [of_decide_eq_true h]
    | _=>cases h
  | tab xs e =>
    cases b with
    | tab ys f =>
      have h:(decide (xs=ys)&&e==f)=true:=h
      rw [Bool.and_eq_true] at h
      rw [of_decide_eq_true h.1,eq_of_beq h.2]
    | _=>cases h
  | _=>cases h
theorem sameO_ref {n:Nat} {H H':Hp} (h:sameO (.ref n) H H'=true):H'[n]?=H[n]?:=by
  have h:(match H[n]? with | some a=>(match H'[n]? with | some b=>eqO a b | Option.none=>false) | Option.none=>false)=true:=h
  cases e1:H[n]? with
  | none=>rw [e1] at h;cases h
  | some a =>
    rw [e1] at h
    cases e2:H'[n]? with
    | none=>rw [e2] at h;cases h
    | some b=>rw [e2] at h;rw [eqO_eq h]
theorem iter_ok {v:V} {mv:Value} {xs:List V} {Q:Value->Shared->Prop} {E:Value->Shared->Prop} (i:Inv X η H s.heap) (r:VR X η s.heap v mv) (e:items H v=some xs)
    (hq:∀ ob,ItR X η (s.heap.push ob) s.heap.objs.size H v xs 0->Q (.ref s.heap.objs.size) { s with heap:=s.heap.push ob }):wpAny X.M A (pyIter mv) Q E s:=by
  cases r with
  | tup g hn r l =>
    cases e
    exact wpAny_pyIter_tuple ⟨_,g,rfl,_,rfl⟩ (hq _ (.tup (push_keeps _ _ _ _ g) hn (r.grow (Step.ext _ _ _ (push_keeps _ _))) ⟨_,Heap.get?_push_size _ rfl,rfl,rfl⟩))
  | ref e1 =>
    rcases items_ref e with q | ⟨ps,ep,q,rfl⟩
    · obtain ⟨it,c,g,vr,le⟩:=list_of i e1 q
      exact wpAny_pyIter_list ⟨_,g,rfl,_,rfl⟩ (hq _ (.list e1 q ⟨_,Heap.get?_push_size _ rfl,rfl,rfl⟩))
    · obtain ⟨ys,⟨o,es,g,hc,hd,hes,_,_⟩,z,_,hs⟩:=tab_of (p:=(ps,ep)) i e1 q
      have hl:es.size=ps.length:=by rw [<- Array.length_toList,hes,List.length_map];exact z.len
      refine pyIter_raw hs g hc hd (hq _ (.tab e1 q ⟨_,Heap.get?_push_size _ rfl,rfl,?_⟩))
      rw [hl];rfl
  | rng hr hn =>
    rename_i a b c t u w r
    obtain ⟨ok,rfl⟩:=if_some (show (if rngOk a b c=true then some ((rangeL a b c).map V.int) else Option.none)=some xs from e)
    obtain ⟨f1,f2,f3⟩:=rng_facts ok
    refine wpAny_pyIter_range hr f2 (hq _ (.rng ?_))
    rw [f1,show a+c * ((0:Nat):Int)=a from (congrArg (a+·) (Int.mul_zero c)).trans (Int.add_zero a),show ((rangeL a b c).length:Int) - ((0:Nat):Int)=(rangeL a b c).length from Int.sub_zero _]
    exact Heap.get?_push_size _ rfl
  | str x t ok =>
    obtain ⟨hc,rfl⟩:=if_some (show (if (x.cps.all (· < 128)&&decide (x.length<=line))=true then some (signs x) else Option.none)=some xs from e)
    rw [Bool.and_eq_true] at hc
    exact wpAny_pyIter_ascii hc.1 (hq _ (.str ok ⟨_,Heap.get?_push_size _ rfl,rfl,rfl⟩))
  | _=>cases e
end
section
variable {X:Cx} {η:List Addr} {h:Heap}
theorem VRs.drop {xs:List V} {ms:List Value} (r:VRs X η h xs ms) (k:Nat):VRs X η h (xs.drop k) (ms.drop k) :=
  VRs.ind (P:=fun xs ms=>∀ k,VRs X η h (xs.drop k) (ms.drop k)) (fun k=>by rw [List.drop_nil,List.drop_nil];exact .nil) (fun a r ih k=>by
    cases k with
    | zero=>exact .cons a r
    | succ k=>exact ih k) r k
theorem VRs.take {xs:List V} {ms:List Value} (r:VRs X η h xs ms) (k:Nat):VRs X η h (xs.take k) (ms.take k) :=
  VRs.ind (P:=fun xs ms=>∀ k,VRs X η h (xs.take k) (ms.take k)) (fun k=>by rw [List.take_nil,List.take_nil];exact .nil) (fun a r ih k=>by
    cases k with
    | zero=>exact .nil
    | succ k=>exact .cons a (ih k)) r k
theorem part_of {l:V} {ml:Value} {a:Option Int} (r:VR X η h l ml) (e:intO l=some a):∃ q:Option (Int×Tok),ml=partValue q/\q.map (·.1)=a:=by
  cases r with
  | none=>cases e;exact ⟨Option.none,rfl,rfl⟩
  | int i t=>cases e;exact ⟨some (i,t),rfl,rfl⟩
  | _=>cases e
theorem RaiseAt.bind {st:List Env} {α β:Type} {s:Shared} {r:R α} {f:α->Hp->R β} {ev:Value} {s':Shared} (x:RaiseAt X st η s r ev s'):RaiseAt X st η s (r.bind f) ev s':=by
  obtain ⟨c,H',rfl,p⟩:=x
  exact ⟨c,H',rfl,p⟩
end
section
variable {κ:Ct} {ρ:Rho} {vs:List (V×Value)} {H:Hp}
noncomputable abbrev sliceObj (vl vu:Value):Obj:={ cls:=.type "slice",data:=.fields #[vl,vu,.none] }
theorem wpAny_slice {prog:Program} {w:World} {A:Around} {env:Env} {value:Expr} {lower upper:Option Expr} {p pos:Pos} {Q:Value->Shared->Prop} {E:Value->Shared->Prop} {s:Shared}
    (h:wpAny (model prog w) A (eval value env) (fun o s1=>wpAny (model prog w) A (evalPart lower env) (fun vl s2=>wpAny (model prog w) A (evalPart upper env) (fun vu s3 =>
      ∃ T id,typeLookup (.type T) "__getitem__"=pure (some (.builtin id))/\s3.TypeIs o T/\wpAny (model prog w) A (getItem o (.ref s3.heap.objs.size)) Q E { s3 with heap:=s3.heap.push (sliceObj vl vu) }) E s2) E s1) E s) :
    wpAny (model prog w) A (eval (.Subscript value (.Slice lower upper Option.none p) pos) env) Q E s:=by
  show wpAny _ _ (eval value env >>= fun a=>PySem.holding [a] (eval (.Slice lower upper Option.none p) env) >>= fun b=>standAt pos >>= fun _=>subscriptTail value (.Slice lower upper Option.none p) a b) _ _ _
  refine wpAny_bind (wpAny_mono h (fun o s1 h1=>wpAny_bind (wpAny_holding (wpAny_Slice (wpAny_mono h1 (fun vl s2 h2=>wpAny_mono h2 (fun vu s3 h3=>?_) fun _ _ e=>e) fun _ _ e=>e)))) fun _ _ e=>e)
  obtain ⟨T,id,hl,hT,hg⟩:=h3
  rw [evalPart_none]
  refine wpAny_pure (wpAny_bind (wpAny_standAt (tail_any (T:=T) ?_ hl hg rfl)))
  cases o with
  | ref a=>obtain ⟨ob,e,c⟩:=hT;exact ⟨ob,push_keeps _ _ _ _ e,c⟩
  | _=>exact hT
theorem pick_part (items:Array Value) (lo hi:Option Int) :
    (slicePick items lo hi Option.none).toList=(items.toList.drop (lo.elim 0 (clipV items.size))).take (hi.elim items.size (clipV items.size) - lo.elim 0 (clipV items.size)):=by
  rw [slicePick_plain];rfl
theorem isPart_of (q:Option (Int×Tok)):IsPart (partValue q) (q.map (·.1)):=by
  cases q with
  | none=>exact .none
  | some p=>exact .int _ _
theorem sliceV_ok {o l u:V} {mo ml mu:Value} {η:List Addr} {s:Shared} {Q:Value->Shared->Prop} {E:Value->Shared->Prop} (at':At κ η ρ H s) (vo:VR κ.X η s.heap o mo) (vl:VR κ.X η s.heap l ml) (vu:VR κ.X η s.heap u mu) (hs:sliceV o l u H≠.stuck)
    (hq:∀ d s',OkAt κ.X κ.st rV η s (sliceV o l u H) d s'->Q d s') :
    ∃ T id,typeLookup (.type T) "__getitem__"=pure (some (.builtin id))/\s.TypeIs mo T/\wpAny κ.X.M κ.A (getItem mo (.ref s.heap.objs.size)) Q E { s with heap:=s.heap.push (sliceObj ml mu) }:=by
  unfold sliceV at hs hq
  cases hx:listAt o H with
  | none=>rw [hx] at hs;exact absurd rfl hs
  | some xs =>
    cases hl:intO l with
    | none=>rw [hx,hl] at hs;exact absurd rfl hs
    | some a =>
      cases hu:intO u with
      | none=>rw [hx,hl,hu] at hs;exact absurd rfl hs
      | some b =>
        rw [hx,hl,hu] at hs hq
        dsimp only [optR] at hs hq
        obtain ⟨t,rfl,rfl⟩:=part_of vl hl
        obtain ⟨w,rfl,rfl⟩:=part_of vu hu
        apply vr_list at'.inv vo hx;intro x items c g r le
        refine ⟨"list",_,list_getitem_lookup,⟨_,g,rfl⟩,wpAny_getItem_list_slice (st:=Option.none) ((show s.heap.IsList x items from ⟨_,g,rfl,c,rfl⟩).push _) (Heap.IsSliceOf.new ..) (isPart_of t) (isPart_of w) .none (by simp) (hq _ _ ?_) (by rw [r.size];exact Nat.le_trans le line_lt)⟩
        have ez:(s.heap.push (sliceObj (partValue t) (partValue w))).objs.size=s.heap.objs.size+1:=Heap.size_push ..
        generalize hh:(s.heap.push (sliceObj (partValue t) (partValue w)))=h1 at ez ⊢
        have kp:∀ z o,s.heap.get? z=some o->(h1.push { cls:=.type "list",data:=.seq (slicePick items (t.map (·.1)) (w.map (·.1)) Option.none) }).get? z=some o:=fun z o e=>push_keeps _ _ _ _ (by rw [<- hh];exact push_keeps _ _ _ _ e)
        have nw:s.heap.get? h1.objs.size=Option.none:=by
          cases e:s.heap.get? h1.objs.size with
          | none=>rfl
          | some o=>exact absurd (Heap.lt_size e) (by rw [ez];exact Nat.not_lt.mpr (Nat.le_succ _))
        have ep:=pick_part items (t.map (·.1)) (w.map (·.1))
        rw [r.size] at ep
        refine ⟨_,_,rfl,trivial,η++[h1.objs.size],_,s.toks,rfl,at'.inv.make kp nw (Heap.get?_push_size _ rfl) (.list ?_ ?_),Step.make _ _ _ kp nw,fun p hp=>rV1 hp (.ref ?_)⟩
        · rw [ep]
          exact ((r.drop _).take _).grow (Step.make [] [] η kp nw)
        · unfold cutL;rw [List.length_take,List.length_drop];exact Nat.le_trans (Nat.min_le_right _ _) (Nat.le_trans (Nat.sub_le _ _) le)
        · rw [<- at'.inv.len];simp
theorem slice_ok {value:Expr} {lower upper:Option Expr} {p pos:Pos} {r1:R V} {lo hi:Hp->R V} (h1:Tri κ ρ vs (eval value κ.env) H r1 rV)
    (h2:∀ H1,Tri κ ρ [] (evalPart lower κ.env) H1 (lo H1) rV) (h3:∀ H1,Tri κ ρ [] (evalPart upper κ.env) H1 (hi H1) rV) :
    Tri κ ρ vs (eval (.Subscript value (.Slice lower upper Option.none p) pos) κ.env) H (r1.bind fun v H1=>(lo H1).bind fun l H2=>(hi H2).bind fun u H3=>sliceV v l u H3) rV:=by
  refine Tri.via (fun Q E s q=>wpAny_slice q) h1 fun v H1 mo _ _ hs η s Q E a hv hq he=>?_
  have hr2:lo H1≠.stuck:=fun q=>by rw [q] at hs;exact hs rfl
  refine wpAny_mono (h2 H1 hr2 η s a fun _ q=>nomatch q) (fun ml s2 hx2=>?_) fun ev s' q=>he ev s' q.bind
  obtain ⟨l,H2,e2,_,η2,h2',tk2,rfl,i2,st2,p2⟩:=hx2
  have a2:=a.step st2 i2 tk2
  rw [e2,R.bind_ok] at hs hq he
  have hr3:hi H2≠.stuck:=fun q=>by rw [q] at hs;exact hs rfl
  refine wpAny_mono (h3 H2 hr3 η2 _ a2 fun _ q=>nomatch q) (fun mu s3 hx3=>?_) fun ev s' q=>he ev s' (q.bind.after st2)
  obtain ⟨u,H3,e3,_,η3,h3',tk3,rfl,i3,st3,p3⟩:=hx3
  have a3:=a2.step st3 i3 tk3
  rw [e3,R.bind_ok] at hs hq
  exact sliceV_ok a3 (((hv _ m0).up st2 a.stk.frm).up st3 a2.stk.frm) ((p2 _ (List.Mem.head _)).up st3 a2.stk.frm) (p3 _ (List.Mem.head _)) hs fun d s' ok=>hq d s' ((ok.after st3).after st2)
end
section
variable {X:Cx} {fr own η:List Addr} {h h':Heap} {H:Hp}
theorem Step.put (fr own:List Addr) {a:Addr} {ob:Obj} (ha:a∈η) (sb:Heap.SameBut a h h') (g:h'.get? a=some ob):Step fr own η h η h':=by
  have ne:∀ b,b∉η->b≠a:=fun b hb q=>hb (q▸ha)
  refine ⟨⟨[],by simp,fun _ q=>nomatch q⟩,fun b o e=>?_,fun b o e hb _=>⟨o.slots,(sb.2 b (ne b hb)).trans e,fun _=>rfl⟩,fun b o e hb es k d=>⟨o,es,k,(sb.2 b (ne b hb)).trans e,d⟩,fun b o e hb v d=>⟨o,v,(sb.2 b (ne b hb)).trans e,d⟩⟩
  by_cases hb:b=a
  · exact ⟨ob,hb▸g⟩
  · exact ⟨o,(sb.2 b hb).trans e⟩
theorem Inv.put (i:Inv X η H h) {n:Nat} {a:Addr} {o:O} {ob:Obj} (e:η[n]?=some a) (sb:Heap.SameBut a h h') (g:h'.get? a=some ob) (r:OR X η h' o ob):Inv X η (H.set n o) h':=by
  have ha:a∈η:=List.mem_of_getElem? e
  have x:Step [] [] η h η h':=Step.put [] [] ha sb g
  refine ⟨fun b o e=>(sb.2 b (fun q=>by rw [q,i.fresh a ha] at e;cases e)).trans (i.keep b o e),by rw [List.length_set];exact i.len,i.fresh,i.nodup,fun m b o' hb ho=>?_⟩
  by_cases hm:m=n
  · subst hm
    rw [e] at hb;cases hb
    have hlt:m < H.length:=i.len▸(List.getElem?_eq_some_iff.mp e).1
    rw [List.getElem?_set_self hlt] at ho
    cases ho
    exact ⟨ob,g,r⟩
  · rw [List.getElem?_set_ne (Ne.symm hm)] at ho
    obtain ⟨ob',e',r'⟩:=i.objs m b o' hb ho
    have hba:b≠a:=fun q=>by
      subst q
      obtain ⟨h1,q1⟩:=List.getElem?_eq_some_iff.mp e
      obtain ⟨h2,q2⟩:=List.getElem?_eq_some_iff.mp hb
      exact hm (by
        have:=(List.getElem_inj i.nodup (h₀:=h2) (h₁:=h1)).mp (q2.trans q1.symm)
        exact this)
    exact ⟨ob',(sb.2 b hba).trans e',r'.map x.pre' (x.holds (Frm.nil h))⟩
end
section
variable {κ:Ct} {ρ:Rho} {vs:List (V×Value)} {H:Hp}
theorem Tri.putO {α β:Type} {m:Sem α} {b:β} {x:α} {rel:β->α->Prop×List (V×Value)} {n:Nat} {o:O} (hx:(rel b x).1/\∀ η h,∀ p∈(rel b x).2,VR κ.X η h p.1 p.2)
    (h:∀ (η:List Addr) (s:Shared) (Q:α->Shared->Prop) (E:Value->Shared->Prop),At κ η ρ H s->(∀ p∈vs,VR κ.X η s.heap p.1 p.2) ->
      (∀ a ob h' tk,η[n]?=some a->Heap.SameBut a s.heap h'->h'.get? a=some ob->(Step (frs κ.st) [] η s.heap η h'->OR κ.X η h' o ob)->Q x { s with heap:=h',toks:=tk })->wpAny κ.X.M κ.A m Q E s):Tri κ ρ vs m H (.ok b (H.set n o)) rel :=
  fun _ η s at' hv=>h η s _ _ at' hv fun a ob h' tk e sb g r=>have st:=Step.put (frs κ.st) [] (List.mem_of_getElem? e) sb g;⟨b,_,rfl,hx.1,η,h',tk,rfl,at'.inv.put e sb g (r st),st,hx.2 _ _⟩
theorem none_rV {X:Cx}:(rV .none .none).1/\∀ η h,∀ p∈(rV .none .none).2,VR X η h p.1 p.2:=⟨trivial,fun _ _ _ hp=>rV1 hp .none⟩
theorem size_line {n:Nat} (h:n<=line):n<=sizeLine:=Nat.le_trans h line_lt
theorem Tri.onL {m:Sem Value} {o:V} {ov:Value} {f:Nat->List V->R V} (ho:(o,ov)∈vs) (h:∀ n xs,(V.ref n,ov)∈vs->H[n]?=some (.list xs)->Tri κ ρ vs m H (f n xs) rV):Tri κ ρ vs m H (lstR o H f) rV :=
  Tri.opt fun n hn=>Tri.opt fun xs hx=>h n xs (refAt_inv hn▸ho) (by
    obtain ⟨o,e1,e2⟩:=Option.bind_eq_some_iff.mp (show (H[n]?).bind listO=some xs from hx)
    cases o <;> cases e2;exact e1)
theorem Tri.onT {m:Sem Value} {o:V} {ov:Value} {f:Nat->List (Key×V)×Nat->R V} (ho:(o,ov)∈vs) (h:∀ n p,(V.ref n,ov)∈vs->H[n]?=some (.tab p.1 p.2)->Tri κ ρ vs m H (f n p) rV):Tri κ ρ vs m H (tabR o H f) rV :=
  Tri.opt fun n hn=>Tri.opt fun p hx=>h n p (refAt_inv hn▸ho) (by
    obtain ⟨o,e1,e2⟩:=Option.bind_eq_some_iff.mp (show (H[n]?).bind tabO=some p from hx)
    cases o <;> cases e2;exact e1)
theorem append_ok {o v:V} {ov mv:Value} (ho:(o,ov)∈vs) (hx:(v,mv)∈vs):Tri κ ρ vs (PySem.call (.builtin "list.append") [ov,mv]) H (mAppend o v H) rV :=
  Tri.onL ho fun k xs hm hk=>Tri.ifp fun hlt=>Tri.putO none_rV fun η s Q E at' hv hq=>by
    cases vr_of hv hm with
    | ref e =>
      obtain ⟨items,c,g,vr,le⟩:=list_of at'.inv e hk
      exact call_meets F.slot_list_append ⟨_,g,rfl⟩ F.entry_list_append (F.args_list_append_2 _ _) (PySem.AutoListH.list_append_list_val_0 _ items c mv (by rw [vr.size];exact size_line le)) ⟨g,hq _ _ _ s.toks e (Heap.SameBut.update ..) (Heap.get?_update_self _ g rfl) fun st=>.list ((by rw [Array.toList_push];exact vr.append (.cons (hv _ hx) .nil):VRs _ _ _ _ _).step st at'.stk.frm) (by rw [List.length_append];exact hlt)⟩
theorem clearL_ok {o:V} {ov:Value} (ho:(o,ov)∈vs):Tri κ ρ vs (PySem.call (.builtin "list.clear") [ov]) H (mClearL o H) rV :=
  Tri.onL ho fun k xs hm hk=>Tri.putO none_rV fun η s Q E at' hv hq=>by
    cases vr_of hv hm with
    | ref e =>
      obtain ⟨items,c,g,vr,le⟩:=list_of at'.inv e hk
      exact call_meets F.slot_list_clear ⟨_,g,rfl⟩ F.entry_list_clear (F.args_list_clear_1 _) (PySem.AutoSeq1.list_clear_list_0 _ items c (by rw [vr.size];exact size_line le)) ⟨g,hq _ _ _ s.toks e (Heap.SameBut.update ..) (Heap.get?_update_self _ g rfl) fun _=>.list .nil (Nat.zero_le _)⟩
theorem extend_ok {o v:V} {ov mv:Value} (ho:(o,ov)∈vs) (hx:(v,mv)∈vs):Tri κ ρ vs (PySem.call (.builtin "list.extend") [ov,mv]) H (mExtend o v H) rV :=
  Tri.onL ho fun k xs hm hk=>Tri.opt fun ys hy=>Tri.ifp fun hl=>Tri.putO none_rV fun η s Q E at' hv hq=>by
    cases vr_of hv hm with
    | ref e =>
      obtain ⟨items,c,g,vr,le⟩:=list_of at'.inv e hk
      apply vr_list at'.inv (vr_of hv hx) hy;intro b items2 c2 g2 vr2 le2
      have sz:items.size+items2.size<=line:=by rw [vr.size,vr2.size];exact hl
      refine call_meets F.slot_list_extend ⟨_,g,rfl⟩ F.entry_list_extend (F.args_list_extend_2 _ _) (PySem.AutoSeq1.list_extend_list_list_0 _ items c b items2 c2 (fun q=>?_) (by rw [vr.size];exact size_line le) (Nat.le_succ_of_le (size_line sz))) ⟨g,g2,hq _ _ _ s.toks e (Heap.SameBut.update ..) (Heap.get?_update_self _ g rfl) fun st=>.list ((by rw [Array.toList_append];exact vr.append vr2:VRs _ _ _ _ _).step st at'.stk.frm) (by rw [List.length_append];exact hl)⟩
      rw [Bool.and_eq_true] at q
      exact absurd (of_decide_eq_true q.2) (Nat.not_lt.mpr (size_line sz))
end
section
variable {X:Cx} {η η':List Addr} {h h':Heap}
theorem ZR.append {xs xs':List (Key×V)} {ys ys':List (Key×Addr×Value)} (r:ZR X η h xs ys) (r':ZR X η h xs' ys'):ZR X η h (xs++xs') (ys++ys'):=by
  induction r with
  | nil=>exact r'
  | cons a b _ ih=>exact .cons a b ih
theorem ZR.put {xs:List (Key×V)} {ys:List (Key×Addr×Value)} (r:ZR X η h xs ys) {k:Key} {v:V} {a:Addr} {m:Value} (hk:VR X η h (keyV k) (.ref a)) (hv:VR X η h v m):ZR X η h (tabPut xs k v) (storedH ys k a m):=by
  unfold tabPut storedH
  rw [r.hit k]
  split
  · have:∀ {xs:List (Key×V)} {ys:List (Key×Addr×Value)},ZR X η h xs ys->ZR X η h (xs.map fun x=>if x.1=k then (x.1,v) else x) (ys.map (putAt k m)):=fun {xs ys} r=>by
      induction r with
      | nil=>exact .nil
      | @cons k' v' a' m' xs ys p q _ ih =>
        rw [List.map_cons,List.map_cons]
        unfold putAt
        dsimp only
        by_cases e:k'=k
        · rw [if_pos e,if_pos e];exact .cons p hv ih
        · rw [if_neg e,if_neg e];exact .cons p q ih
    exact this r
  · exact r.append (.cons hk hv .nil)
theorem ZR.ep {xs:List (Key×V)} {ys:List (Key×Addr×Value)} (r:ZR X η h xs ys) (k:Key) (ep:Nat):epAt ys k ep=tabEp xs k ep:=by
  unfold epAt tabEp
  rw [r.hit k]
theorem tabPut_len (xs:List (Key×V)) (k:Key) (v:V):(tabPut xs k v).length<=xs.length+1/\xs.length<=(tabPut xs k v).length:=by
  unfold tabPut
  split
  · rw [List.length_map];exact ⟨Nat.le_succ _,Nat.le_refl _⟩
  · rw [List.length_append];exact ⟨Nat.le_refl _,Nat.le_add_right _ _⟩
theorem or_tab {d:Addr} {xs:List (Key×V)} {ys:List (Key×Addr×Value)} {ep:Nat} (D:DictE (pairKind X.prog X.w) h d ys ep) (hl:xs.length<=100000):∃ ob,h.get? d=some ob/\(ZR X η h xs ys->OR X η h (.tab xs ep) ob):=by
  obtain ⟨⟨c,di,da,sl⟩,es,g,⟨c1,c2,c3⟩,hd,he,_,hn⟩:=D
  cases c1;cases c2;cases c3;cases hd
  exact ⟨_,g,fun r=>.tab r he (by rw [<- r.keys];exact hn) hl⟩
theorem ZR.merge {zs:List (Key×V)} {ws:List (Key×Addr×Value)} (r':ZR X η h zs ws):∀ {xs:List (Key×V)} {ys:List (Key×Addr×Value)},ZR X η h xs ys->ZR X η h (tabMerge xs zs) (mergedH ys ws):=by
  induction r' with
  | nil=>exact fun r=>r
  | cons a b _ ih=>exact fun r=>ih (r.put a b)
theorem tabMerge_len:∀ (ys xs:List (Key×V)),(tabMerge xs ys).length<=xs.length+ys.length
  | [],xs=>Nat.le_refl _
  | y::ys,xs=>by
    have h1:=tabMerge_len ys (tabPut xs y.1 y.2)
    have h2:=(tabPut_len xs y.1 y.2).1
    show (tabMerge (tabPut xs y.1 y.2) ys).length<=_
    exact Nat.le_trans h1 (Nat.le_trans (Nat.add_le_add_right h2 _) (Nat.le_of_eq (by rw [List.length_cons,Nat.add_assoc,Nat.add_comm 1])))
theorem ZR.epM {xs zs:List (Key×V)} {ys ws:List (Key×Addr×Value)} (r:ZR X η h xs ys) (r':ZR X η h zs ws) (ep:Nat):Mine.epM ys ws ep=tabMEp xs zs ep:=by
  unfold Mine.epM tabMEp
  have l1:=(r'.merge r).len
  rw [l1,r.len]
  cases r with
  | nil =>
    cases r' with
    | nil=>rfl
    | cons _ _ _=>rfl
  | cons _ _ _=>rfl
end
theorem isStr_iff {v:Value} {x:Str}:v.isStr x=true ↔ ∃ t,v=.str x t:=by
  cases v with
  | str s t =>
    constructor
    · intro h
      have:s=x:=by simpa [Value.isStr] using h
      exact ⟨t,by rw [this]⟩
    · rintro ⟨t',e⟩
      cases e
      simp [Value.isStr]
  | _=>simp [Value.isStr]
section
variable {X:Cx} {η:List Addr} {h:Heap}
theorem NRs.find {a:String} {v:V} {fs:List (String×V)} {ds:List DictEntry} (q:NRs X η h fs ds) (el:fs.lookup a=some v):∃ e,ds.find? (·.key.isStr (Str.ofString a))=some e/\VR X η h v e.val:=by
  induction q with
  | nil=>cases el
  | @cons k w t0 fs e ds ek r rs ih =>
    rw [List.lookup_cons] at el
    by_cases hk:a=k
    · subst hk
      simp only [beq_self_eq_true] at el
      cases el
      refine ⟨e,?_,r⟩
      rw [List.find?_cons,isStr_iff.mpr ⟨_,ek⟩]
    · have hb:(a==k)=false:=by simpa using hk
      rw [hb] at el
      obtain ⟨e',h1,h2⟩:=ih el
      refine ⟨e',?_,h2⟩
      have:e.key.isStr (Str.ofString a)=false:=Bool.eq_false_iff.mpr fun q=>by
        obtain ⟨t,q⟩:=isStr_iff.mp q
        rw [ek] at q
        exact hk (ofString_inj (Value.str.inj q).1).symm
      rw [List.find?_cons,this];exact h1
theorem NRs.noRef {fs:List (String×V)} {ds:List DictEntry} (r:NRs X η h fs ds):ds.any (·.refKey)=false:=by
  induction r with
  | nil=>rfl
  | cons ek r rs ih =>
    rw [List.any_cons,ih]
    unfold DictEntry.refKey
    rw [ek];rfl
theorem NRs.len {fs:List (String×V)} {ds:List DictEntry} (r:NRs X η h fs ds):fs.length=ds.length:=by
  induction r with
  | nil=>rfl
  | cons _ _ _ ih=>exact congrArg Nat.succ ih
inductive InsAt (X:Cx) (η:List Addr) (h:Heap) (d:Nat) (fs:List (String×V)) (x:Addr):Prop
  | mk (C dx fI:Addr) (ds:Array DictEntry) (k:Nat) (ok:ClsOk X.K C fI) (ed:η[d]?=some dx) (g:h.get? x=some { cls:=.ref C,dict:=some dx,data:=.plain }) (g2:h.get? dx=some { cls:=.type "dict",data:=.dict ds k }) (nr:NRs X η h fs ds.toList) (le:fs.length<=21):InsAt X η h d fs x
theorem vr_inst {P:Value->Prop} {H:Hp} {v:V} {m:Value} {p:Nat×List (String×V)} (i:Inv X η H h) (r:VR X η h v m) (e:fieldsAt v H=some p) (k:∀ x,InsAt X η h p.1 p.2 x->P (.ref x)):P m :=
  vr_obj (P:=fun _ m=>P m) i r e fun n a o ob ea eo ef g q=>by
    obtain ⟨d,e1,ef⟩:=Option.bind_eq_some_iff.mp ef
    obtain ⟨y,e2,ef⟩:=Option.bind_eq_some_iff.mp ef
    obtain ⟨fs,e3,rfl⟩:=Option.map_eq_some_iff.mp ef
    cases q with
    | inst hc hm hd =>
      cases e1
      cases y with
      | ns =>
        cases e3
        obtain ⟨od,g2,r2⟩:=i.objs _ _ _ hd e2
        cases r2 with
        | ns nr le =>
          obtain ⟨C',fI,e1,ok⟩:=X.cls _ hc
          rw [hm] at e1;cases e1
          exact k a ⟨_,_,fI,_,_,ok,hd,g,g2,nr,le⟩
      | _=>cases e3
    | _=>cases e1
end
section
variable {κ:Ct} {X:Cx} {ρ:Rho} {vs:List (V×Value)} {H:Hp}
theorem handed_vr {η:List Addr} {h:Heap} {v:V} {m:Value} (r:VR X η h v m):handedIn m=true:=by cases r <;> rfl
theorem attr_ok {o:V} {a:String} {m:Value} (hm:(o,m)∈vs) (ha:attrName a=true):Tri κ ρ vs (getAttr m (Str.ofString a) true) H (attrV o a H) rV :=
  Tri.opt fun p hp=>Tri.opt fun v hl=>Tri.plain fun η s Q E at' hv hq=>vr_inst (P:=fun m=>wpAny _ _ (getAttr m _ _) Q E s) at'.inv (vr_of hv hm) hp fun x ⟨C,dx,fI,ds,k2,ok,ed,g1,g2,nr,le⟩=>by
    obtain ⟨en,ef,rv⟩:=nr.find hl
    refine get_value (K:=κ.X.K) (C:=C) (od:=some _) (κ.X.kin.keeps at'.inv.keep) ⟨g1,rfl,rfl,g2⟩ ok.get ?_ (handed_vr rv) (hq _ _ rv)
    obtain ⟨cd,hcd,hdd⟩:=any_some ok.dict
    have hlk:lookIn (Str.ofString a) { cls:=.type "dict",data:=.dict ds k2 }=some (some en.val):=by unfold lookIn;simp only [ef]
    unfold findObj
    rw [hcd,Option.bind_some,ok.names a ha]
    simp only [Option.bind_some,PySem.W.ownOf,hdd,if_true,hlk]
noncomputable def rU (_:Unit) (_:Unit):Prop×List (V×Value):=(True,[])
theorem unit_rU {X:Cx}:(rU () ()).1/\∀ η h,∀ p∈(rU () ()).2,VR X η h p.1 p.2:=⟨trivial,fun _ _ _ q=>nomatch q⟩
theorem keys_map_store (kvs:List (Int×Value)) (z:Int) (mv:Value):(kvs.map fun kv=>if kv.1=z then (kv.1,mv) else kv).map (·.1)=kvs.map (·.1):=by
  rw [List.map_map]
  refine List.map_congr_left fun p _=>?_
  show (if p.1=z then (p.1,mv) else p).1=p.1
  split <;> rfl
theorem VRs.set {η:List Addr} {h:Heap} {vs:List V} {ms:List Value} (r:VRs X η h vs ms) {v:V} {m:Value} (rv:VR X η h v m) {n:Nat}:VRs X η h (vs.set n v) (ms.set n m) :=
  VRs.ind (P:=fun vs ms=>∀ n,VRs X η h (vs.set n v) (ms.set n m)) (fun _=>.nil) (fun a r ih n=>by
    cases n with
    | zero=>exact .cons rv r
    | succ n=>exact .cons a (ih n)) r n
theorem setK_ok {o i v:V} {mo mi mv:Value} (ho:(o,mo)∈vs) (hi:(i,mi)∈vs) (hv:(v,mv)∈vs):Tri κ ρ vs (setItem mo mi mv) H (setK o i v H) rU:=by
  refine Tri.opt fun n hn=>?_
  rw [refAt_inv hn] at ho
  cases hx:keysAt (.ref n) H with
  | some ks =>
    refine Tri.opt fun z hk=>Tri.ifp fun hlen=>Tri.putO unit_rU fun η s Q E at' hvs hq=>?_
    apply vr_int (vr_of hvs hi) hk;intro t
    refine vr_keys (P:=fun v mo=>v=.ref n->wpAny _ _ (setItem mo _ _) Q E s) at'.inv (vr_of hvs ho) hx (fun n' d kvs e hdk ek hs q=>?_) rfl
    cases q
    refine wpAny_setItem_pairs (knd:=intKind κ.X.prog κ.X.w) (intKind_is κ.X.prog κ.X.w z t) hdk (fun h' hd' sb=>?_) (by rw [<- List.length_map (·.1),ek];exact Nat.le_trans (Nat.le_of_lt hlen) line_lt)
    obtain ⟨ob,g,dk⟩:=Heap.dictOf_iff.mp hd'
    refine hq _ _ _ _ e sb g fun _=>.keys dk ?_ ?_
    · subst ek
      unfold stored
      have ea:kvs.any (fun kv=>decide (kv.1=z))=(kvs.map (·.1)).contains z:=by
        rw [List.contains_eq_any_beq,List.any_map]
        exact congrArg kvs.any (funext fun p=>decide_eq_decide.mpr ⟨Eq.symm,Eq.symm⟩)
      rw [ea]
      split
      · exact keys_map_store kvs z mv
      · rw [List.map_append];rfl
    · split
      · exact Nat.le_of_lt hlen
      · rw [List.length_append];exact hlen
  | none =>
    cases hy:tabAt (.ref n) H with
    | some p =>
      refine Tri.opt fun z hk=>Tri.ifp fun hlen=>Tri.putO unit_rU fun η s Q E at' hvs hq=>?_
      apply vr_key (vr_of hvs hi) hk;intro c rk
      refine vr_tab (P:=fun v mo=>v=.ref n->wpAny _ _ (setItem mo _ _) Q E s) at'.inv (vr_of hvs ho) hy (fun n' d e _ ⟨ys,D,zr,_,hs⟩ q=>?_) rfl
      cases q
      refine setItemE (knd:=pairKind κ.X.prog κ.X.w) at'.pair (key_pair rk) D (fun h' D' sb=>?_) (by rw [zr.len,sizeLine_eq];exact Nat.le_trans (Nat.le_of_lt hlen) (by decide))
      rw [zr.ep] at D'
      obtain ⟨ob,g,r⟩:=or_tab D' (Nat.le_trans (tabPut_len _ _ _).1 hlen)
      exact hq _ _ h' _ e sb g fun st=>r ((zr.put rk (hvs _ hv)).map st.pre' (st.holds at'.stk.frm))
    | none =>
      refine Tri.opt fun xs hz=>Tri.opt fun z hk=>Tri.ifp fun hlt=>Tri.putO unit_rU fun η s Q E at' hvs hq=>?_
      apply vr_int (vr_of hvs hi) hk;intro t
      refine vr_listN (P:=fun v mo=>v=.ref n->wpAny _ _ (setItem mo _ _) Q E s) at'.inv (vr_of hvs ho) hz (fun n' l e _ ⟨items,c,g,vr,le⟩ q=>?_) rfl
      cases q
      exact PySem.W.ki_setAt g hlt.1 (Int.lt_trans hlt.2 (len_63 le)) (by rw [vr.size];exact hlt.2) (hq _ _ _ s.toks e (Heap.SameBut.update ..) (Heap.get?_update_self _ g rfl) fun st=>.list ((by rw [Array.toList_setIfInBounds];exact vr.set (hvs _ hv):VRs _ _ _ _ _).step st at'.stk.frm) (by rw [List.length_set];exact le))
theorem NRs.put {η:List Addr} {h:Heap} {a:String} {v:V} {mv:Value} {hsh:Int} {t:Tok} (rv:VR X η h v mv) {fs:List (String×V)} {ds:List DictEntry} (q:NRs X η h fs ds):NRs X η h (setL a v fs) (putL (Str.ofString a) hsh (.str (Str.ofString a) t) mv ds):=by
  induction q with
  | nil=>exact .cons rfl rv .nil
  | @cons k w t0 fs e ds ek r rs ih =>
    unfold setL putL
    by_cases hk:k=a
    · subst hk
      rw [if_pos rfl,if_pos (isStr_iff.mpr ⟨_,ek⟩)]
      exact .cons ek rv rs
    · have:¬ e.key.isStr (Str.ofString a)=true:=fun q=>by
        obtain ⟨t,q⟩:=isStr_iff.mp q
        rw [ek] at q
        exact hk (ofString_inj (Value.str.inj q).1)
      rw [if_neg hk,if_neg this]
      exact .cons ek r ih
theorem setL_len (x:String) (v:V):∀ ρ:List (String×V),(setL x v ρ).length<=ρ.length+1
  | []=>Nat.le_refl _
  | (y,w)::r=>by
    show (if y=x then (y,v)::r else (y,w)::setL x v r).length<=_
    by_cases h:y=x
    · rw [if_pos h];exact Nat.le_succ _
    · rw [if_neg h];exact Nat.succ_le_succ (setL_len x v r)
theorem set_ok {o v:V} {a:String} {mo mv:Value} (ho:(o,mo)∈vs) (hv:(v,mv)∈vs) (ha:attrName a=true):Tri κ ρ vs (setAttr mo (Str.ofString a) mv) H (setA o a v H) rU :=
  Tri.opt fun p hp=>Tri.ifp fun hlen=>Tri.putO unit_rU fun η s Q E at' hvs hq=>vr_inst (P:=fun mo=>wpAny _ _ (setAttr mo _ _) Q E s) at'.inv (vr_of hvs ho) hp fun x ⟨C,dx,fI,ds,k2,ok,ed,g1,g2,nr,le⟩=>by
    have hK:=κ.X.kin.keeps at'.inv.keep
    have I:InstAt s.heap x { cls:=.ref C,dict:=some dx,data:=.plain } C (some { cls:=.type "dict",data:=.dict ds k2 }):=⟨g1,rfl,rfl,g2⟩
    refine set_plain (K:=κ.X.K) hK I ok.set ?_
    have ht:takerIn κ.X.K C (Str.ofString a)=some Option.none:=by unfold takerIn;rw [ok.names a ha];rfl
    refine osa_open (s:={ s with toks:=s.toks+1 }) hK I ok.over ht fun b=>?_
    obtain ⟨cd,hcd,hdd⟩:=any_some ok.dict
    have ep:∀ hsh key,Obj.putName (Str.ofString a) hsh key mv { cls:=.type "dict",data:=.dict ds k2 }={ cls:=.type "dict",data:=.dict (putL (Str.ofString a) hsh key mv ds.toList).toArray (putN (Str.ofString a) ds.toList k2) }:=fun hsh key=>by
      have:=putName_dict (Str.ofString a) hsh key mv ds.toList k2
      unfold dictOf at this
      rw [Array.toArray_toList] at this
      exact this
    have fin:∀ hsh t tk,∃ od',(s.heap.update dx (Obj.putName (Str.ofString a) hsh (.str (Str.ofString a) t) mv)).get? dx=some od'/\od'.data.pastItsLine=Option.none /\
        Q () { s with heap:=s.heap.update dx (Obj.putName (Str.ofString a) hsh (.str (Str.ofString a) t) mv),toks:=tk }:=fun hsh t tk=>by
      have g3:(s.heap.update dx (Obj.putName (Str.ofString a) hsh (.str (Str.ofString a) t) mv)).get? dx=some { cls:=.type "dict",data:=.dict (putL (Str.ofString a) hsh (.str (Str.ofString a) t) mv ds.toList).toArray (putN (Str.ofString a) ds.toList k2) }:=by
        rw [Heap.get?_update_self _ g2 (by rw [ep];rfl),ep]
      have nr':=nr.put (a:=a) (hsh:=hsh) (t:=t) (hvs _ hv)
      have ln:=Nat.le_trans (setL_len a v p.2) (Nat.succ_le_succ hlen)
      refine ⟨_,g3,pastItsLine_dict (by rw [List.size_toArray,<- nr'.len,sizeLine_eq];exact Nat.le_trans ln (by decide)),hq _ _ _ tk ed (Heap.SameBut.update ..) g3 fun st=>.ns (nr'.map st.pre' (st.holds at'.stk.frm)) ln⟩
    refine wpAny_bind (wpAny_pure (wpAny_bind (wpAny_bind (wpAny_loadPart g1 (wpAny_bind (looks_clsIn hK hcd _ _ _ _ (fun _ _ e=>e) ?_))))))
    rw [hdd]
    refine wpAny_pure (a:=some dx) (wpAny_bind (wpAny_pure (wpAny_bind ?_)))
    unfold nsSet
    refine wpAny_bind (wpAny_bind (wpAny_askSetting (wpAny_pure (wpAny_bind (wpAny_mkText (wpAny_bind (wpAny_loadPart g2 ?_)))))))
    dsimp only
    rw [aRefKeyMayBeTheName_at,show ds.any (·.refKey)=false by rw [<- Array.any_toList];exact nr.noRef,Bool.and_false]
    simp only [Bool.false_eq_true,if_false]
    obtain ⟨od',g3,hp,out⟩:=fin _ _ _
    exact wpAny_updatePart g2 (wpAny_bind (wpAny_lookBehind g3 hp (wpAny_pure out)))
end
end Mine
set_option maxRecDepth 100000
namespace Mine
open PySem PyProof.Rows PySem.W
noncomputable def firstKey (n:Nat):Key:=([(n:Int)],(n:Int))
theorem seven_apart {prog:Program} {w:World}:∀ i < 7,∀ j < 7,pairHash (prog:=prog) (w:=w) (firstKey i)=pairHash (prog:=prog) (w:=w) (firstKey j)->i=j:=by
  have e:∀ i,pairHash (prog:=prog) (w:=w) (firstKey i)=reduceHash (Builtin.Tuple.tupleHashOf [reduceHash (Builtin.Tuple.tupleHashOf [hashInt i]),hashInt i]):=fun i=>rfl
  simp only [e]
  decide +kernel
theorem hashOk_of {prog:Program} {w:World} {ys:List (Key×Addr×Value)} (hn:(ys.map (·.1)).Nodup) (hf:∀ y∈ys,∃ n < 7,y.1=firstKey n):HashOk (pairKind prog w) ys:=by
  intro y hy
  have hs:∀ z∈ys.filter (fun z=>(pairKind prog w).hash z.1==(pairKind prog w).hash y.1),z.1=y.1:=fun z hz=>by
    obtain ⟨hz1,hz2⟩:=List.mem_filter.mp hz
    obtain ⟨i,hi,e1⟩:=hf z hz1
    obtain ⟨j,hj,e2⟩:=hf y hy
    have q:pairHash (prog:=prog) (w:=w) z.1=pairHash (prog:=prog) (w:=w) y.1:=eq_of_beq hz2
    rw [e1,e2] at q
    rw [e1,e2,seven_apart i hi j hj q]
  have hd:((ys.filter (fun z=>(pairKind prog w).hash z.1==(pairKind prog w).hash y.1)).map (·.1)).Nodup:=List.Nodup.sublist (List.Sublist.map _ List.filter_sublist) hn
  generalize ys.filter (fun z=>(pairKind prog w).hash z.1==(pairKind prog w).hash y.1)=l at hs hd
  match l,hs,hd with
  | [],_,_=>exact Nat.zero_le _
  | [a],_,_=>exact Nat.le_refl _
  | a::b::l,hs,hd =>
    rw [List.map_cons,List.map_cons,List.nodup_cons] at hd
    exact absurd ((hs a (List.Mem.head _)).trans (hs b (List.Mem.tail _ (List.Mem.head _))).symm) fun q=>hd.1 (q▸List.Mem.head _)
theorem firstOk_key {ys:List (Key×V)} (h:firstOk ys=true):∀ k∈ys.map (·.1),∃ n < 7,k=firstKey n:=fun k hk=>by
  obtain ⟨y,hy,rfl⟩:=List.mem_map.mp hk
  have:=List.all_eq_true.mp h y hy
  rw [Bool.and_eq_true,Bool.and_eq_true,decide_eq_true_eq,decide_eq_true_eq,decide_eq_true_eq] at this
  obtain ⟨e,h1,h2⟩:=this
  refine ⟨y.1.2.toNat,(Int.toNat_lt h1).mpr h2,?_⟩
  unfold firstKey
  rw [Int.toNat_of_nonneg h1]
  exact Prod.ext e rfl
section
variable {κ:Ct} {ρ:Rho} {vs:List (V×Value)} {H:Hp}
theorem ZR.types {X:Cx} {η:List Addr} {s:Shared} {xs:List (Key×V)} {ys:List (Key×Addr×Value)} (r:ZR X η s.heap xs ys):∀ y∈ys,s.TypeIs (.ref y.2.1) "tuple":=by
  induction r with
  | nil=>exact fun _ q=>nomatch q
  | cons a _ _ ih =>
    intro y hy
    rcases List.mem_cons.mp hy with rfl | hy
    · unfold keyV at a
      cases a with
      | tup g _ _ _=>exact ⟨_,g,rfl⟩
    · exact ih y hy
theorem update_ok {o v:V} {ov mv:Value} (ho:(o,ov)∈vs) (hm:(v,mv)∈vs):Tri κ ρ vs (PySem.call (.builtin "dict.update") [ov,mv]) H (mUpdate o v H) rV :=
  Tri.onT ho fun n p ho hp=>Tri.onT hm fun m q hm hq=>Tri.ifp fun ⟨hnm,hf,hlen⟩=>Tri.putO none_rV fun η s Q E at' hv hq'=>by
    cases vr_of hv ho with
    | @ref _ d e1 =>
    cases vr_of hv hm with
    | @ref _ o e2 =>
    obtain ⟨xs,D,zr,_,hs⟩:=tab_of at'.inv e1 hp
    obtain ⟨ys,D2,zr2,_,hs2⟩:=tab_of at'.inv e2 hq
    have hdo:d≠o:=fun q=>by
      subst q
      obtain ⟨h1,q1⟩:=List.getElem?_eq_some_iff.mp e1
      obtain ⟨h2,q2⟩:=List.getElem?_eq_some_iff.mp e2
      exact hnm ((List.getElem_inj at'.inv.nodup (h₀:=h1) (h₁:=h2)).mp (q1.trans q2.symm))
    refine call_updateE (knd:=pairKind κ.X.prog κ.X.w) at'.pair hdo hs2 D D2 zr2.types (fun hx=>?_) (by rw [zr.len,zr2.len,sizeLine_eq];exact Nat.le_trans hlen (by decide)) fun h' D' sb=>?_
    · rcases hf with hf | hf
      · have:=zr.len
        rw [hx] at this
        rw [List.eq_nil_of_length_eq_zero this.symm] at hf;cases hf
      · obtain ⟨_,_,_,_,_,_,_,hn⟩:=D2
        refine hashOk_of hn fun y hy=>firstOk_key hf y.1 ?_
        rw [<- zr2.keys]
        exact List.mem_map.mpr ⟨y,hy,rfl⟩
    · rw [zr.epM zr2] at D'
      obtain ⟨ob,g,r⟩:=or_tab D' (Nat.le_trans (tabMerge_len _ _) hlen)
      exact hq' _ _ h' s.toks e1 sb g fun st=>r ((zr2.merge zr).map st.pre' (st.holds at'.stk.frm))
theorem clear_ok {o:V} {ov:Value} (ho:(o,ov)∈vs):Tri κ ρ vs (PySem.call (.builtin "dict.clear") [ov]) H (mClear o H) rV :=
  Tri.onT ho fun n p ho hp=>Tri.putO none_rV fun η s Q E at' hv hq=>by
    cases vr_of hv ho with
    | ref e1 =>
      obtain ⟨xs,D,zr,l,hs⟩:=tab_of at'.inv e1 hp
      refine call_clearE (knd:=pairKind κ.X.prog κ.X.w) D (by rw [zr.len,sizeLine_eq];exact Nat.le_trans l (by decide)) fun h' D' sb=>?_
      obtain ⟨ob,g,r⟩:=or_tab (xs:=[]) D' (Nat.zero_le _)
      exact hq _ _ h' s.toks e1 sb g fun _=>r .nil
end
end Mine
set_option maxRecDepth 100000
namespace Mine
open PySem PyProof.Rows PySem.W PySem.Calls PySem.Builtin PySem.Builtin.Str
section
variable {prog:Program} {w:World} {A:Around} {E:Value->Shared->Prop} {s:Shared}
theorem call_split {x y:Str} {t u:Tok} {Q:Value->Shared->Prop} (hx:x.length<=sizeLine) (hy:y.length≠0) (hn:(Txt.split x y).length<=sizeLine)
    (hq:∀ l tk,l.map (·.1)=Txt.split x y->Q (.ref s.heap.objs.size) { s with heap:=s.heap.push { cls:=.type "list",data:=.seq (strValues l).toArray },toks:=tk }) :
    wpAny (model prog w) A (call (.builtin "str.split") [.str x t,.str y u]) Q E s:=by
  have hy':(y.length==0)=false:=beq_eq_false_iff_ne.mpr hy
  cases h1:(decide (x.length < y.length)||decide (strKind x < strKind y))
  · cases hf:(occurrences x y 0 x.length (x.length+1)).isEmpty
    · have es:Txt.split x y=partsBetween x (occurrences x y 0 x.length (x.length+1)) y.length:=(if_neg (ne_true_of_eq_false h1)).trans (if_neg (ne_true_of_eq_false hf))
      refine call_meets F.slot_str_split (typeIs_str _ _ _) F.entry_str_split (F.args_str_split_2 _ _) (meets_str_split_sep x y t u h1 hy' hf hx (es▸hn)) ?_
      have q:=hq (numbered s.toks (partsBetween x (occurrences x y 0 x.length (x.length+1)) y.length)) (s.toks+(partsBetween x (occurrences x y 0 x.length (x.length+1)) y.length).length) ((numbered_texts _ _).trans es.symm)
      rw [<- strsFrom_eq] at q
      exact q
    · exact call_meets F.slot_str_split (typeIs_str _ _ _) F.entry_str_split (F.args_str_split_2 _ _) (meets_str_split_not_found x y t u h1 hy' hf)
        (hq [(x,t)] s.toks ((if_neg (ne_true_of_eq_false h1)).trans (if_pos hf)).symm)
  · exact call_meets F.slot_str_split (typeIs_str _ _ _) F.entry_str_split (F.args_str_split_2 _ _) (meets_str_split_cannot_occur x y t u h1) (hq [(x,t)] s.toks (if_pos h1).symm)
end
inductive KindAt (h:Heap):Value->String->Prop
  | none:KindAt h .none "NoneType"
  | int (i:Int) (t:Tok):KindAt h (.int i t) "int"
  | str (x:Str) (t:Tok):KindAt h (.str x t) "str"
  | obj {a:Addr} {o:Obj} {k:String}:h.get? a=some o->o.cls=.type k->o.dict=Option.none->k="tuple"\/k="list"\/k="dict"->KindAt h (.ref a) k
theorem KindAt.type {s:Shared} {m:Value} {k:String} (q:KindAt s.heap m k):s.TypeIs m k:=by
  cases q with
  | obj g c _ _=>exact ⟨_,g,c⟩
  | _=>rfl
section
variable {κ:Ct} {X:Cx} {ρ:Rho} {vs:List (V×Value)} {H:Hp}
theorem kind_at {η:List Addr} {h:Heap} {v:V} {m:Value} {k:String} (i:Inv X η H h) (r:VR X η h v m) (e:kindV v H=some k):KindAt h m k:=by
  cases r with
  | none=>cases e;exact .none
  | int i t=>cases e;exact .int i t
  | str x t=>cases e;exact .str x t
  | tup g _ _ _=>cases e;exact .obj g rfl rfl (.inl rfl)
  | @ref n a ea =>
    have e:(match listAt (.ref n) H with | some _=>some "list" | Option.none=>(tabAt (.ref n) H).map fun _=>"dict")=some k:=e
    cases hx:listAt (.ref n) H with
    | some xs =>
      rw [hx] at e;cases e
      exact vr_list (P:=fun m=>KindAt h m "list") i (.ref ea) hx fun a items c g _ _=>.obj g rfl rfl (.inr (.inl rfl))
    | none =>
      rw [hx] at e
      obtain ⟨p,hy,rfl⟩:=Option.map_eq_some_iff.mp e
      exact vr_tab (P:=fun _ m=>KindAt h m "dict") i (.ref ea) hy fun _ _ _ _ ⟨_,⟨_,_,g,hc,_⟩,_,_,_⟩=>.obj g hc.1 hc.2.1 (.inr (.inr rfl))
  | _=>cases e
theorem sub_kinds {k T:String} (hk:k∈["NoneType","int","str","tuple","list","dict"]) (hT:T∈bTypes):isSubtype (.type k) (.type T)=pure (k==T):=by
  have key:∀ k∈["NoneType","int","str","tuple","list","dict"],∃ mro,fastBuiltinMro k=some mro/\∀ T∈bTypes,mro.contains (.type T)=(k==T):=by decide +kernel
  obtain ⟨mro,e,q⟩:=key k hk
  rw [isSubtype_type,e]
  exact congrArg pure (q T hT)
theorem meta_types {T:String} (hT:T∈bTypes):typeOf (.type T)=pure (.type "type") :=
  (List.forall_mem_cons (p:=fun T=>typeOf (.type T)=pure (.type "type"))).mpr ⟨F.isi_meta_int,List.forall_mem_cons.mpr ⟨F.isi_meta_bool,List.forall_mem_cons.mpr ⟨F.isi_meta_tuple,List.forall_mem_cons.mpr ⟨F.isi_meta_list,List.forall_mem_cons.mpr ⟨F.isi_meta_dict,List.forall_mem_cons.mpr ⟨F.isi_meta_str,List.forall_mem_nil _⟩⟩⟩⟩⟩⟩ T hT
theorem type_ne {k T:String} (h:¬ k=T):(Value.type k==Value.type T)=false:=beq_eq_false_iff_ne.mpr fun q=>h (Value.type.inj q)
theorem isinst_T {v:V} {T:String} {b:Bool} (he:isinst v T H=some b):bTypes.contains T=true/\biVal T=some (.type T):=by
  unfold isinst at he
  cases hT:bTypes.contains T with
  | false=>rw [hT] at he;cases he
  | true=>exact ⟨rfl,(show ∀ T∈bTypes,biVal T=some (.type T) by decide) T (List.contains_iff_mem.mp hT)⟩
theorem isinst_ok {v:V} {m:Value} {T:String} {b:Bool} (hm:(v,m)∈vs) (he:isinst v T H=some b) :
    Tri κ ρ vs (PySem.call (.builtin "isinstance") [m,.type T]) H (.ok (.bool b) H) rV:=by
  have hT:=(isinst_T he).1
  unfold isinst at he
  rw [if_pos hT] at he
  obtain ⟨k,hk,rfl⟩:=Option.map_eq_some_iff.mp he
  rw [List.contains_iff_mem] at hT
  have mt:=meta_types hT
  refine Tri.plain fun η s Q E at' hv hq=>?_
  have ka:=kind_at at'.inv (hv _ hm) hk
  by_cases hb:k=T
  · have hk6:k∈["NoneType","int","str","tuple","list","dict"]:=by cases ka with
      | obj _ _ _ h=>rcases h with rfl | rfl | rfl <;> decide
      | _=>decide
    have sb:=sub_kinds hk6 hT
    rw [beq_iff_eq.mpr hb] at sb hq
    exact call_isinstance (isinstance_true mt sb) ⟨ka.type,hq _ s.toks (.bool _)⟩
  · have nb:(k==T)=false:=beq_eq_false_iff_ne.mpr hb
    have ne:=type_ne hb
    rw [nb] at hq
    cases ka with
    | none=>exact call_isinstance (isinstance_false_none ne mt (nb▸sub_kinds (by decide) hT)) (hq _ _ (.bool _))
    | int i t=>exact call_isinstance (isinstance_false_int ne mt (nb▸sub_kinds (by decide) hT)) (hq _ _ (.bool _))
    | str x t=>exact call_isinstance (isinstance_false_str ne mt (nb▸sub_kinds (by decide) hT)) (hq _ _ (.bool _))
    | obj g c d h =>
      rcases h with rfl | rfl | rfl
      · exact call_isinstance (isinstance_false_tuple ne mt (nb▸sub_kinds (by decide) hT)) ⟨⟨_,g,c⟩,hq _ _ (.bool _)⟩
      · exact call_isinstance (isinstance_false_list ne mt (nb▸sub_kinds (by decide) hT)) ⟨⟨_,g,c⟩,hq _ _ (.bool _)⟩
      · exact call_isinstance (isinstance_false_dict ne mt (nb▸sub_kinds (by decide) hT)) ⟨⟨_,g,c⟩,hq _ _ (.bool _)⟩
theorem VRs.texts {η:List Addr} {h:Heap}:∀ (l:List (Str×Tok)),(l.map (·.1)).all PyData.strOk=true->VRs X η h ((l.map (·.1)).map .str) (strValues l)
  | [],_=>.nil
  | p::l,e=>by
    rw [List.map_cons,List.all_cons,Bool.and_eq_true] at e
    exact .cons (.str _ _ e.1) (VRs.texts l e.2)
theorem strs_values {η:List Addr} {h:Heap} {xs:List V} {ms:List Value} {ys:List Str} (r:VRs X η h xs ms) (e:textsV xs=some ys):∃ l,strValues l=ms/\l.map (·.1)=ys :=
  VRs.ind (P:=fun xs ms=>∀ ys,textsV xs=some ys->∃ l,strValues l=ms/\l.map (·.1)=ys) (fun ys e=>by cases e;exact ⟨[],rfl,rfl⟩) (fun {v m vs ms} a _ ih ys e=>by
    unfold textsV at e
    rw [List.mapM_cons] at e
    obtain ⟨b,e1,e⟩:=Option.bind_eq_some_iff.mp e
    obtain ⟨cs,e2,e⟩:=Option.bind_eq_some_iff.mp e
    cases e
    obtain ⟨l,rfl,rfl⟩:=ih cs e2
    exact vr_str (P:=fun m=>∃ l',strValues l'=m::strValues l/\l'.map (·.1)=b::l.map (·.1)) a e1 fun t _=>⟨(b,t)::l,rfl,rfl⟩) r ys e
noncomputable def MethOK (id:String) (g:V->List V->Hp->R V):Prop:=∀ (κ:Ct) (ρ:Rho) (vs:List (V×Value)) (H:Hp) (o:V) (ov:Value) (ws:List V) (ms:List Value),(o,ov)∈vs->ws.length=ms.length->(∀ p∈ws.zip ms,p∈vs)->Tri κ ρ vs (PySem.call (.builtin id) (ov::ms)) H (g o ws H) rV
theorem MethOK.one {id:String} {f:V->V->Hp->R V} (h:∀ {κ:Ct} {ρ:Rho} {vs:List (V×Value)} {H:Hp} {o:V} {ov:Value} {v:V} {mv:Value},(o,ov)∈vs->(v,mv)∈vs->Tri κ ρ vs (PySem.call (.builtin id) [ov,mv]) H (f o v H) rV):MethOK id (me1 f):=fun κ ρ vs H o ov ws ms ho hl hw=>by
  cases ws with
  | nil=>exact Tri.stuck
  | cons v ws =>
    cases ws with
    | cons=>exact Tri.stuck
    | nil =>
      obtain ⟨mv,rfl⟩:=one_of hl
      exact h ho (hw _ (List.Mem.head _))
theorem MethOK.none {id:String} {f:V->Hp->R V} (h:∀ {κ:Ct} {ρ:Rho} {vs:List (V×Value)} {H:Hp} {o:V} {ov:Value},(o,ov)∈vs->Tri κ ρ vs (PySem.call (.builtin id) [ov]) H (f o H) rV):MethOK id (me0 f):=fun κ ρ vs H o ov ws ms ho hl hw=>by
  cases ws with
  | cons=>exact Tri.stuck
  | nil=>cases List.length_eq_zero_iff.mp hl.symm;exact h ho
theorem split_ok {o v:V} {ov mv:Value} (ho:(o,ov)∈vs) (hm:(v,mv)∈vs):Tri κ ρ vs (PySem.call (.builtin "str.split") [ov,mv]) H (mSplit o v H) rV :=
  Tri.opt fun x hx=>Tri.opt fun y hy=>Tri.ifp fun hc=>Tri.madeL fun η s Q E at' hv hq=>by
    apply vr_str (vr_of hv ho) hx;intro t _
    apply vr_str (vr_of hv hm) hy;intro u _
    refine call_split (Nat.le_trans hc.1 line_lt) hc.2.1 (Nat.le_trans hc.2.2.1 line_lt) fun l tk e=>hq _ _ _ _ tk (size_none _) (push_keeps _ _) (Heap.get?_push_size _ rfl) ?_ (by rw [List.length_map];exact hc.2.2.1)
    exact e▸VRs.texts (X:=κ.X) (η:=η) (h:=s.heap) l (by rw [e];exact hc.2.2.2)
theorem join_ok {o v:V} {ov mv:Value} (ho:(o,ov)∈vs) (hm:(v,mv)∈vs):Tri κ ρ vs (PySem.call (.builtin "str.join") [ov,mv]) H (mJoin o v H) rV :=
  Tri.opt fun x hx=>Tri.opt fun ys hy=>Tri.ifp fun hc=>Tri.plain fun η s Q E at' hv hq=>by
    obtain ⟨xs,e1,e2⟩:=Option.bind_eq_some_iff.mp hy
    apply vr_str (vr_of hv ho) hx;intro t _
    apply vr_list at'.inv (vr_of hv hm) e1;intro a items c g r l
    obtain ⟨l,e3,e4⟩:=strs_values r e2
    exact SC.join (l:=l) ⟨_,g,rfl,c,by rw [e3]⟩ e4 hc.1 fun t' k=>hq _ k (.str _ _ hc.2)
noncomputable def MethAt (p:(String×String)×(V->List V->Hp->R V)×String):Prop:=(Slot p.1.1 (Str.ofString p.1.2) p.2.2/\typeOf (.builtin p.2.2)=pure (.type "method_descriptor"))/\PlainAttrs p.1.1/\MethOK p.2.2 p.2.1
theorem meth_at {k m:String} {g:(V->List V->Hp->R V)×String} (h:mTable.lookup (k,m)=some g):MethAt ((k,m),g) :=
  (List.forall_mem_cons (p:=MethAt)).mpr ⟨⟨⟨F.slot_list_append,F.type_list_append⟩,F.plainAttrs_list,.one append_ok⟩,List.forall_mem_cons.mpr ⟨⟨⟨F.slot_list_extend,F.type_list_extend⟩,F.plainAttrs_list,.one extend_ok⟩,List.forall_mem_cons.mpr ⟨⟨⟨F.slot_list_clear,F.type_list_clear⟩,F.plainAttrs_list,.none clearL_ok⟩,
    List.forall_mem_cons.mpr ⟨⟨⟨F.slot_dict_update,F.type_dict_update⟩,F.plainAttrs_dict,.one update_ok⟩,List.forall_mem_cons.mpr ⟨⟨⟨F.slot_dict_clear,F.type_dict_clear⟩,F.plainAttrs_dict,.none clear_ok⟩,List.forall_mem_cons.mpr ⟨⟨⟨F.slot_str_split,F.type_str_split⟩,F.plainAttrs_str,.one split_ok⟩,List.forall_mem_cons.mpr ⟨⟨⟨F.slot_str_join,F.type_str_join⟩,F.plainAttrs_str,.one join_ok⟩,List.forall_mem_nil _⟩⟩⟩⟩⟩⟩⟩ _ (lookup_mem h)
end
end Mine
namespace Mine
open PySem PyProof.Rows PySem.W
noncomputable def relabelS (scope sc:Scope):Scope :=
  { scope with names:=scope.names.map fun (n,k)=>if (k==.free&&sc.kind==.function&&sc.names.lookup n==some .cell) then (n,.cell) else (n,k) }
noncomputable def compName (sc scope:Scope) (x:Str) (p:Str×NameKind):Bool:=match p.2 with
  | .cell=>false
  | .local=>(p.1==x||p.1==(".0":Str))&&scope.names.lookup p.1==some .local
  | .free=>sc.names.lookup p.1==some .cell
  | _=>true
noncomputable def compOk (sc scope:Scope) (x:Str):Bool:=scope.kind==.function&&sc.kind==.function&&scope.names.lookup x==some .local&&scope.names.all (compName sc scope x)
theorem forIn_cells {env:Env}:∀ (names:List (Str×NameKind)) (cs:List (Str×Addr)),(∀ p∈names,p.2=.free->∃ c,env.cells.lookup p.1=some c)->(∀ p∈cs,env.cells.lookup p.1=some p.2) ->
    ∃ cl,(forIn names cs (fun x __s=>if (x.2==NameKind.free)=true then do let __do_lift <- cellOf env x.1;pure (ForInStep.yield ((x.1,__do_lift)::__s)) else pure (ForInStep.yield __s)):Sem _)=pure cl /\
      (∀ p∈cl,env.cells.lookup p.1=some p.2)/\(∀ y,(∃ c,cs.lookup y=some c)\/(y,NameKind.free)∈names->∃ c,cl.lookup y=some c)
  | [],cs,_,hc=>⟨cs,by simp,hc,fun y h=>h.elim (fun h=>h) (fun h=>nomatch h)⟩
  | (n,k)::names,cs,h,hc=>by
    by_cases hk:k=.free
    · subst hk
      obtain ⟨c,e⟩:=h (n,.free) (List.Mem.head _) rfl
      obtain ⟨cl,e1,h1,h2⟩:=forIn_cells names ((n,c)::cs) (fun p hp=>h p (List.Mem.tail _ hp)) (fun p hp=>by
        rcases List.mem_cons.mp hp with rfl | hp
        · exact e
        · exact hc p hp)
      refine ⟨cl,?_,h1,fun y hy=>h2 y ?_⟩
      · rw [List.forIn_cons]
        have:cellOf env n=pure c:=by unfold cellOf;rw [e]
        simp only [beq_self_eq_true,if_true,this,pure_bind]
        exact e1
      · rcases hy with ⟨c',hy⟩ | hy
        · by_cases hyn:y=n
          · exact .inl ⟨c,by rw [hyn];simp⟩
          · have hb:(y==n)=false:=by simpa using hyn
            exact .inl ⟨c',by rw [List.lookup_cons,hb];exact hy⟩
        · rcases List.mem_cons.mp hy with hy | hy
          · cases hy;exact .inl ⟨c,by simp⟩
          · exact .inr hy
    · obtain ⟨cl,e1,h1,h2⟩:=forIn_cells names cs (fun p hp=>h p (List.Mem.tail _ hp)) hc
      refine ⟨cl,?_,h1,fun y hy=>h2 y ?_⟩
      · rw [List.forIn_cons]
        have:(k==NameKind.free)=false:=by simpa using hk
        simp only [this,Bool.false_eq_true,if_false,pure_bind]
        exact e1
      · rcases hy with hy | hy
        · exact .inl hy
        · rcases List.mem_cons.mp hy with hy | hy
          · cases hy;exact absurd rfl hk
          · exact .inr hy
theorem relabel_lookup {sc:Scope} {y:Str}:∀ {names:List (Str×NameKind)},(∀ p∈names,p.2=.free->sc.names.lookup p.1=some .cell)->sc.kind=.function ->
    (names.map fun (n,k)=>if (k==NameKind.free&&sc.kind==.function&&sc.names.lookup n==some .cell) then (n,NameKind.cell) else (n,k)).lookup y=(names.lookup y).map fun k=>if k=.free then .cell else k
  | [],_,_=>rfl
  | (n,k)::names,h,hs=>by
    have ih:=relabel_lookup (sc:=sc) (y:=y) (names:=names) (fun p hp=>h p (List.Mem.tail _ hp)) hs
    show List.lookup y ((if (k==NameKind.free&&sc.kind==.function&&sc.names.lookup n==some .cell)=true then (n,NameKind.cell) else (n,k))::_)=_
    by_cases hk:k=.free
    · subst hk
      have:=h (n,.free) (List.Mem.head _) rfl
      rw [if_pos (by rw [hs,this];rfl),List.lookup_cons,List.lookup_cons]
      cases y==n
      · exact ih
      · rfl
    · have hb:(k==NameKind.free)=false:=by simpa using hk
      rw [if_neg (by rw [hb];simp),List.lookup_cons,List.lookup_cons]
      cases y==n
      · exact ih
      · simp [hk]
section
variable {κ:Ct} {X:Cx} {A:Around} {ρ:Rho} {H:Hp} {η:List Addr} {s:Shared}
theorem comp_at {scope:Scope} {x:String} {cl:List (Str×Addr)} {C:Addr} {m:Str->Option Value} {v:V} {mv:Value} (hc:compOk κ.env.scope scope (Str.ofString x)=true) (a:At κ η ρ H s) (hcl:∀ p∈cl,κ.env.cells.lookup p.1=some p.2)
    (hfr:∀ y,scope.names.lookup y=some .free->∃ c,cl.lookup y=some c) (hC:s.heap.Ns C m) (hm:m (Str.ofString x)=some mv) (hv:VR κ.X η s.heap v mv) (hCη:C∉η) (hCb:κ.X.base.get? C=Option.none) :
    At (κ.inn (compEnvC scope cl C κ.env)) η ((x,v)::ρ) H s:=by
  unfold compOk at hc
  simp only [Bool.and_eq_true,beq_iff_eq] at hc
  obtain ⟨⟨⟨hk,hsk⟩,hx⟩,hall⟩:=hc
  have hfree:∀ p∈scope.names,p.2=.free->κ.env.scope.names.lookup p.1=some .cell:=fun p hp e=>by
    have:=List.all_eq_true.mp hall p hp
    unfold compName at this
    rw [e] at this
    exact beq_iff_eq.mp this
  have kd:∀ y,(compEnvC scope cl C κ.env).kindOf y=(scope.names.lookup y).map fun k=>if k=.free then .cell else k:=fun y=>relabel_lookup (sc:=κ.env.scope) hfree hsk
  have cell:∀ y,(compEnvC scope cl C κ.env).kindOf y=some .cell->scope.names.lookup y=some .free:=fun y hy=>by
    rw [kd] at hy
    obtain ⟨k,e,q⟩:=Option.map_eq_some_iff.mp hy
    by_cases hkf:k=.free
    · rw [e,hkf]
    · rw [if_neg hkf] at q
      have:=List.all_eq_true.mp hall (y,k) (lookup_mem e)
      unfold compName at this
      rw [q] at this;cases this
  refine ⟨a.inv,⟨?_,a.fok.glob,a.fok.blt,⟨m,hC⟩,fun p hp=>a.fok.cell p (lookup_mem (hcl p hp)),fun y hy=>hfr y (cell y hy),fun y z c h1 h2=>?_,fun b hb=>?_⟩,fun y w ey hy=>?_,a.stk,a.room,a.hand⟩
  · show (relabel scope κ.env).kind=_
    exact hk
  · exact a.fok.inj y z c (hcl _ (lookup_mem h1)) (hcl _ (lookup_mem h2))
  · rcases List.mem_cons.mp hb with rfl | hb
    · exact ⟨hCη,hCb⟩
    · obtain ⟨p,hp,rfl⟩:=List.mem_map.mp hb
      exact a.fok.off _ (List.mem_cons.mpr (.inr (List.mem_map.mpr ⟨p,lookup_mem (hcl p hp),rfl⟩)))
  · by_cases hyx:y=x
    · subst hyx
      rw [List.lookup_cons,beq_self_eq_true] at ey
      cases ey
      exact ⟨mv,.inl ⟨by rw [kd,hx];rfl,m,hC,hm⟩,hv⟩
    · have hb:(y==x)=false:=by simpa using hyx
      rw [List.lookup_cons,hb] at ey
      unfold isVar at hy
      rw [Bool.and_eq_true,Bool.not_eq_true'] at hy
      obtain ⟨hy0,hy⟩:=hy
      have hkd:(compEnvC scope cl C κ.env).scope.names.lookup (Str.ofString y)=_:=kd (Str.ofString y)
      rw [hkd] at hy
      have:scope.names.lookup (Str.ofString y)=some .free:=by
        cases e:scope.names.lookup (Str.ofString y) with
        | none=>rw [e] at hy;cases hy
        | some k =>
          rw [e] at hy
          have q:=List.all_eq_true.mp hall (Str.ofString y,k) (lookup_mem e)
          unfold compName at q
          cases k with
          | free=>rfl
          | «local» =>
            simp only [Bool.and_eq_true,Bool.or_eq_true,beq_iff_eq] at q
            rcases q.1 with q | q
            · exact absurd (ofString_inj q) hyx
            · rw [q] at hy0;cases hy0
          | cell=>cases q
          | _=>cases hy
      have hoc:=hfree _ (lookup_mem this) rfl
      obtain ⟨mw,hh,rw'⟩:=a.rho y w ey (by unfold isVar;rw [hy0,hoc];rfl)
      obtain ⟨c,hcc⟩:=hfr _ this
      refine ⟨mw,.inr ⟨.inl (by rw [kd,this];rfl),c,?_⟩,rw'⟩
      rcases hh with ⟨hk',_⟩ | ⟨_,c',o,hc',g,d⟩
      · unfold Env.kindOf at hk';rw [hoc] at hk';cases hk'
      · have e1:=hcl _ (lookup_mem hcc)
        rw [hc'] at e1;cases e1
        exact ⟨o,hcc,g,d⟩
theorem iter_self {it:Addr} {H0:Hp} {src:V} {xs:List V} {i:Nat} {Q:Value->Shared->Prop} {E:Value->Shared->Prop} (r:ItR X η s.heap it H0 src xs i) (h:Q (.ref it) s):wpAny X.M A (pyIter (.ref it)) Q E s:=by
  cases r with
  | list _ _ q=>exact wpAny_pyIter_listiter q h
  | tab _ _ q=>exact wpAny_pyIter_keyiter q h
  | tup _ _ _ q=>exact wpAny_pyIter_tupleiter q h
  | rng q=>exact wpAny_pyIter_rangeiter q h
  | str _ q=>exact wpAny_pyIter_striter_ascii q h
inductive CompEnd (X:Cx) (fr η0:List Addr) (s0:Shared) (k:Nat) (D C:Addr) (H':Hp) (s':Shared):Prop
  | mk (η':List Addr) (h':Heap) (tk:Nat) (e:s'={ s0 with heap:=h',toks:=tk }) (i:Inv X η' H' h') (x:Step fr [] η0 s0.heap η' h') (d:η'[k]?=some D) (c:C∉η') (n:s0.heap.get? C=Option.none) (m:Str->Option Value) (ns:h'.Ns C m):CompEnd X fr η0 s0 k D C H' s'
inductive CompI (X:Cx) (fr η0:List Addr) (s0:Shared) (it D C:Addr) (H0:Hp) (src:V) (xs:List V) (k:Nat) (F:Nat->Hp->Prop) (mm:Nat) (s:Shared):Prop
  | mk (i:Nat) (H:Hp) (η:List Addr) (m:Str->Option Value) (e:mm=xs.length - i) (iv:Inv X η H s.heap) (es:s={ s0 with heap:=s.heap,toks:=s.toks }) (x:Step fr [] η0 s0.heap η s.heap) (r:ItR X η s.heap it H0 src xs i) (ni:it∉η) (dk:η[k]?=some D) (cn:C∉η) (ns:s.heap.Ns C m) (hf:F i H):CompI X fr η0 s0 it D C H0 src xs k F mm s
theorem ifR_ne {α:Type} {c:Prop} [Decidable c] {r:R α} (h:ifR c r≠.stuck):c:=Classical.byContradiction fun q=>h (if_neg q)
theorem turns_chk {f:V->Hp->R Unit} {chk:Hp->Bool} {xs:List V} {H:Hp} (h:turns f chk xs H≠.stuck):chk H=true:=by
  cases xs <;> exact ifR_ne h
theorem turns_cons {f:V->Hp->R Unit} {chk:Hp->Bool} {v:V} {xs:List V} {H:Hp} (h:turns f chk (v::xs) H≠.stuck):∃ H1,f v H=.ok () H1/\turns f chk (v::xs) H=turns f chk xs H1:=by
  have ck:=turns_chk h
  have e:turns f chk (v::xs) H=(match f v H with | .ok _ H1=>turns f chk xs H1 | _=>.stuck):=ifR_of ck
  rw [e] at h ⊢
  cases e:f v H with
  | ok w H1=>exact ⟨H1,rfl,rfl⟩
  | _=>rw [e] at h;exact absurd rfl h
theorem bind_ok_ne {α β:Type} {x:R α} {f:α->Hp->R β} {b:β} {H:Hp} (h:x.bind f=.ok b H):x≠.stuck:=fun q=>by rw [q] at h;cases h
noncomputable abbrev testsOf (ifs:List Expr) (env:Env):Sem Bool:=forIn ifs true fun c r=>if r=true then do let ok <- isTrue c env (eval c env);pure (ForInStep.yield ok) else pure (ForInStep.yield r)
theorem turn_lt {α:Type} {xs:List α} {i:Nat} {v:α} (h:xs[i]?=some v):xs.length - (i+1) < xs.length - i:=Nat.sub_lt_sub_left (List.getElem?_eq_some_iff.mp h).1 (Nat.lt_succ_self i)
theorem drop_at {α:Type} {xs:List α} {i:Nat} {v:α} (hv:xs[i]?=some v):xs.drop i=v::xs.drop (i+1):=by
  obtain ⟨hlt,e⟩:=List.getElem?_eq_some_iff.mp hv
  rw [List.drop_eq_getElem_cons hlt,e]
theorem drop_end {α:Type} {xs:List α} {i:Nat} (hv:xs[i]?=Option.none):xs.drop i=[]:=List.drop_eq_nil_of_le (List.getElem?_eq_none_iff.mp hv)
theorem RaiseAt.no {X:Cx} {st:List Env} {α:Type} {η:List Addr} {s:Shared} {r:R α} {b:α} {H:Hp} {ev:Value} {s':Shared} {P:Prop} (x:RaiseAt X st η s r ev s') (e:r=.ok b H):P:=by
  obtain ⟨c,H',e',_⟩:=x
  rw [e] at e';cases e'
theorem At.new_fr (a:At κ η ρ H s) {b:Addr} (q:s.heap.get? b=Option.none):b∉frs κ.st:=fun hb=>by obtain ⟨o,e,_⟩:=a.stk.frm b hb;rw [q] at e;cases e
theorem At.new (a:At κ η ρ H s) {b:Addr} (q:s.heap.get? b=Option.none):κ.X.base.get? b=Option.none:=by
  cases g:κ.X.base.get? b with
  | none=>rfl
  | some o=>have:=a.inv.keep b o g;rw [q] at this;cases this
theorem Ns.mach {h:Heap} {C:Addr} {m:Str->Option Value} (ns:h.Ns C m):Mach h C:=let ⟨o,es',ep,g,d,_⟩:=ns;⟨o,g,.inr ⟨es',ep,d⟩⟩
theorem one_none {h:Heap} {b:Addr} (e:h.get? b=Option.none):∀ c∈[b],h.get? c=Option.none:=fun _ hc=>List.mem_singleton.mp hc▸e
theorem comp_loop (hh:κ.Γ.hd=false) {elt iter:Expr} {x:String} {px pos:Pos} {scope:Scope} {cl:List (Str×Addr)} {ifs:List Expr} {g:V->Hp->R Bool} {f:V->Hp->R V} {H0:Hp} {src:V} {xs:List V} {chk:Hp->Bool} {k:Nat} {it D C:Addr} {RR:Result->Shared->Prop} {η0:List Addr} {s0:Shared}
    (hc:compOk κ.env.scope scope (Str.ofString x)=true) (hcl:∀ p∈cl,κ.env.cells.lookup p.1=some p.2) (hfr:∀ y,scope.names.lookup y=some .free->∃ c,cl.lookup y=some c)
    (helt:∀ v C' H',Tri (κ.inn (compEnvC scope cl C' κ.env)) ((x,v)::ρ) [] (eval elt (compEnvC scope cl C' κ.env)) H' (f v H') rV)
    (htest:∀ v C' H',Tri (κ.inn (compEnvC scope cl C' κ.env)) ((x,v)::ρ) [] (testsOf ifs (compEnvC scope cl C' κ.env)) H' (g v H') rB)
    (hchk:∀ H,chk H=true->∀ n,src=.ref n->H[n]?=H0[n]?) (h0C:s0.heap.get? C=Option.none) (h0I:s0.heap.get? it=Option.none)
    {H1:Hp} {η1:List Addr} {s1:Shared} {m1:Str->Option Value} (a0:At κ η0 ρ H s0) (i1:Inv κ.X η1 H1 s1.heap) (e1:s1={ s0 with heap:=s1.heap,toks:=s1.toks }) (x1:Step (frs κ.st) [] η0 s0.heap η1 s1.heap) (r1:ItR κ.X η1 s1.heap it H0 src xs 0) (n1:it∉η1) (d1:η1[k]?=some D) (c1:C∉η1) (ns1:s1.heap.Ns C m1)
    (hne:turns (turnF g f k) chk xs H1≠.stuck) (hR:∀ H' s',turns (turnF g f k) chk xs H1=.ok () H'->CompEnd κ.X (frs κ.st) η0 s0 k D C H' s'->RR (.ok .next) s') :
    codeAny κ.X.M κ.A (.compLoop (.ListComp elt [⟨.Name (Str.ofString x) px,iter,ifs,0⟩] scope pos) 0 (.ref it) (.ref D) (compEnvC scope cl C κ.env)) RR s1:=by
  generalize hres:turns (turnF g f k) chk xs H1=res at hne hR
  have hc':=hc
  unfold compOk at hc'
  simp only [Bool.and_eq_true,beq_iff_eq] at hc'
  have hx:(compEnvC scope cl C κ.env).kindOf (Str.ofString x)=some .local:=lookup_relabel_local hc'.1.2
  have hkind:(relabel scope κ.env).kind=.function:=hc'.1.1.1
  refine codeAny_compLoop_tests (env:=compEnvC scope cl C κ.env) (CompI κ.X (frs κ.st) η0 s0 it D C H0 src xs k (fun i H=>turns (turnF g f k) chk (xs.drop i) H=res))
    (fun mm s hI=>?_) xs.length ⟨0,H1,η1,m1,rfl,i1,e1,x1,r1,n1,d1,c1,ns1,hres⟩
  obtain ⟨i,H',η,m,rfl,iv,es,xx,r,ni,dk,cn,ns,hf⟩:=hI
  have ck:chk H'=true:=turns_chk (by rw [hf];exact hne)
  have nCit:C≠it:=fun q=>by
    obtain ⟨o,es',ep,g,d,_⟩:=ns
    obtain ⟨o',_,fs,g',_,d',_⟩:=r.obj
    rw [q,g'] at g;cases g;rw [d'] at d;cases d
  have nC:∀ {b:Addr},b=C->b∉[it]:=fun q z=>nCit (q.symm.trans (List.mem_singleton.mp z))
  refine next_ok r iv ni (a0.hand hh) (hchk H' ck) (fun v mv h' tk hv t rv r'=>?_) (fun h' hv t=>?_)
  · rw [drop_at hv] at hf
    obtain ⟨H40,g1,g4⟩:=turns_cons (by rw [hf];exact hne)
    rw [g4] at hf
    have iv2:Inv κ.X η H' h':=t.inv iv (one_none (a0.new h0I))
    have xx2:Step (frs κ.st) [] η0 s0.heap η h':=t.step xx (one_none h0I)
    have ns2:h'.Ns C m:=by
      obtain ⟨o,es',ep,g,d,q⟩:=ns
      exact ⟨o,es',ep,t.keep C o (nC rfl) g,d,q⟩
    show wpAny _ κ.A (assign (.Name (Str.ofString x) px) (compEnvC scope cl C κ.env) mv) _ _ _
    refine wpAny_assign_Name (wpAny_storeName_local hx ns2 (fun h2 hn2 hs2=>?_) ?_)
    rotate_left
    · show ((relabel scope κ.env).kind==.class||((relabel scope κ.env).kind==.module&&_))=false
      rw [hkind];rfl
    have t2:Turn [C] η H' h' h2:=Turn.one cn (Ns.mach ns2) fun b o hb e=>(hs2.2 b hb).trans e
    have iv3:Inv κ.X η H' h2:=t2.inv iv2 (one_none (a0.new h0C))
    have xx3:Step (frs κ.st) [] η0 s0.heap η h2:=t2.step xx2 (one_none h0C)
    have out:At κ η ρ H' { s0 with heap:=h2,toks:=tk+1 }:=a0.step xx3 iv3 (tk+1)
    have inn:=comp_at (s:={ s0 with heap:=h2,toks:=tk+1 }) hc out hcl hfr hn2 (by simp) (t2.vr rv) cn (a0.new h0C)
    have es':({ s with heap:=h2,toks:=tk+1 }:Shared)={ s0 with heap:=h2,toks:=tk+1 }:=by rw [es]
    show wpAny _ κ.A (testsOf ifs (compEnvC scope cl C κ.env)) _ _ (⟨h2,s.gens,s.drawn,tk+1,s.os⟩:Shared)
    rw [es']
    have r2:ItR κ.X η h2 it H0 src xs (i+1):=r'.move ⟨[],(List.append_nil _).symm⟩ t2.holds fun o g=>t2.keep it o (fun z=>nCit (List.mem_singleton.mp z).symm) g
    have done:∀ {η5:List Addr} {h5:Heap} {H5:Hp} {tk5:Nat},Inv κ.X η5 H5 h5->Step (frs κ.st) [] η h2 η5 h5->turns (turnF g f k) chk (xs.drop (i+1)) H5=res->∃ m,m < xs.length - i/\CompI κ.X (frs κ.st) η0 s0 it D C H0 src xs k (fun i H=>turns (turnF g f k) chk (xs.drop i) H=res) m { s0 with heap:=h5,toks:=tk5 }:=fun {η5 h5 H5 tk5} iv5 xx7 hf=>by
      have nCx:∀ o,h2.get? C=some o->h5.get? C=some o:=fun o g=>xx7.same C o g cn (fun q=>nomatch q) (a0.new_fr h0C)
      have r5:ItR κ.X η5 h5 it H0 src xs (i+1):=r2.keep xx7 out.stk.frm ni
      obtain ⟨oC,esC,epC,gC,dC,qC⟩:=id hn2
      obtain ⟨oI,_,fI,gI,_⟩:=r2.obj
      exact ⟨xs.length - (i+1),turn_lt hv,i+1,_,η5,_,rfl,iv5,rfl,xx3.trans xx7,r5,xx7.mem gI ni,by obtain ⟨l,rfl,_⟩:=xx7.pre;exact getElem?_pre dk,xx7.mem gC cn,⟨oC,esC,epC,nCx _ gC,dC,qC⟩,hf⟩
    unfold turnF at g1
    refine wpAny_mono (htest v C H' (bind_ok_ne g1) η _ inn fun _ q=>nomatch q) (fun mb s3 hx3=>?_) fun _ _ q=>q.bind.no g1
    obtain ⟨b,H3,e3,eb,η3,h3,tk3,rfl,iv3',xx3',_⟩:=hx3
    cases (show mb=b from eb)
    rw [e3,R.bind_ok] at g1
    cases mb with
    | false=>cases g1;exact done iv3' xx3' hf
    | true =>
      have g1:((f v H3).bind fun w H4=>(mAppend (.ref k) w H4).bind fun _ H5=>.ok () H5)=.ok () H40:=g1
      refine wpAny_mono (helt v C H3 (bind_ok_ne g1) η3 _ (inn.step xx3' iv3' tk3) fun _ q=>nomatch q) (fun mw s4 hx4=>?_) fun _ _ q=>q.bind.no g1
      obtain ⟨w,H4,e4,_,η4,h4,tk4,rfl,iv4,xx4,pv⟩:=hx4
      rw [e4,R.bind_ok] at g1
      have xx34:=xx3'.trans xx4
      refine wpAny_mono (append_ok (κ:=κ) (ρ:=ρ) (H:=H4) (vs:=[(.ref k,.ref D),(w,mw)]) (o:=.ref k) (v:=w) (ov:=.ref D) (mv:=mw) (List.Mem.head _) (List.Mem.tail _ (List.Mem.head _)) (bind_ok_ne g1) η4 _ (out.step xx34 iv4 tk4) (fun p hp=>?_)) (fun y s5 hy=>?_) fun _ _ q=>q.bind.no g1
      · rcases List.mem_cons.mp hp with rfl | hp
        · exact .ref (by obtain ⟨l,rfl,_⟩:=xx34.pre;exact getElem?_pre dk)
        · rw [List.mem_singleton] at hp;subst hp;exact pv (w,mw) (List.Mem.head _)
      · obtain ⟨_,H5,e5,_,η5,h5,tk5,rfl,iv5,xx6,_⟩:=hy
        rw [e5,R.bind_ok] at g1
        cases g1
        exact done iv5 (xx34.trans xx6) hf
  · rw [drop_end hv,turns,ifR_of ck] at hf
    refine hR H' _ hf.symm ⟨η,h',s.toks,by rw [es],t.inv iv (one_none (a0.new h0I)),t.step xx (one_none h0I),dk,cn,h0C,m,?_⟩
    obtain ⟨o,es',ep,g,d,q⟩:=ns
    exact ⟨o,es',ep,t.keep C o (nC rfl) g,d,q⟩
end
noncomputable def noSet:Expr->Bool
  | .Set ..=>false
  | _=>true
theorem folded_no {e:Expr} {env:Env} (h:noSet e=true) (x:Value):foldedSetIterable e env x=pure x:=by
  cases e <;> first | rfl | cases h
section
variable {κ:Ct} {ρ:Rho} {H:Hp}
theorem comp_run (hh:κ.Γ.hd=false) {η:List Addr} {s:Shared} {elt iter:Expr} {x:String} {px pos cpos:Pos} {scope:Scope} {ifs:List Expr} {g:V->Hp->R Bool} {f:V->Hp->R V} {r1:R V} {use:Option (Value->Sem Unit)} {Q:Value->Shared->Prop} {E:Value->Shared->Prop} (hc:compOk κ.env.scope scope (Str.ofString x)=true) (hn:noSet iter=true)
    (h1:Tri κ ρ [] (eval iter κ.env) H r1 rV) (helt:∀ cl v C' H',Tri (κ.inn (compEnvC scope cl C' κ.env)) ((x,v)::ρ) [] (eval elt (compEnvC scope cl C' κ.env)) H' (f v H') rV) (htest:∀ cl v C' H',Tri (κ.inn (compEnvC scope cl C' κ.env)) ((x,v)::ρ) [] (testsOf ifs (compEnvC scope cl C' κ.env)) H' (g v H') rB) (a:At κ η ρ H s)
    (hne:(r1.bind fun v H1=>compV g f v H1)≠.stuck) (hE:∀ ev s',RaiseAt κ.X κ.st η s r1 ev s'->E ev s')
    (hK:∀ v H1 xs H' s' D C,r1=.ok v H1->items H1 v=some xs->turns (turnF g f H1.length) (sameO v H1) xs (H1++[.list []])=.ok () H'->CompEnd κ.X (frs κ.st) η s H1.length D C H' s'->compPost κ.X.M κ.A E use Q (.ref D) C (.ok .next) s') :
    wpAny κ.X.M κ.A (comprehension (.ListComp elt [⟨.Name (Str.ofString x) px,iter,ifs,0⟩] scope pos) scope κ.env cpos (newList []) false (eval iter κ.env) use) Q E s:=by
  have hc':=hc
  unfold compOk at hc'
  simp only [Bool.and_eq_true,beq_iff_eq] at hc'
  obtain ⟨⟨⟨hk,hsk⟩,hx⟩,hall⟩:=hc'
  have hnm:∀ p∈scope.names,compName κ.env.scope scope (Str.ofString x) p=true:=fun p hp=>List.all_eq_true.mp hall p hp
  obtain ⟨cl,ecl,hcl,hfr0⟩:=forIn_cells (env:=κ.env) scope.names [] (fun p hp e=>by
    have:=hnm p hp
    unfold compName at this
    rw [e] at this
    exact a.fok.cells _ (beq_iff_eq.mp this)) (fun _ q=>nomatch q)
  have hclos:closureFor scope κ.env=pure cl:=by
    unfold closureFor
    dsimp only
    rw [ecl];rfl
  have hfr:∀ y,scope.names.lookup y=some .free->∃ c,cl.lookup y=some c:=fun y hy=>hfr0 y (.inr (lookup_mem hy))
  have hcell:∀ p∈scope.names,p.2≠.cell:=fun p hp q=>by
    have:=hnm p hp
    unfold compName at this
    rw [q] at this;cases this
  have hnames:∀ p∈scope.names,p.2=.local->scope.names.lookup p.1=some .local:=fun p hp q=>by
    have:=hnm p hp
    unfold compName at this
    rw [q] at this
    simp only [Bool.and_eq_true,beq_iff_eq] at this
    exact this.2
  refine wpAny_comprehension_free (use:=use) rfl (fun x=>folded_no hn x) hclos hk hnames ?_
  have hr:r1≠.stuck:=by rintro rfl;exact hne rfl
  refine wpAny_mono (h1 hr η s a fun _ q=>nomatch q) (fun mv s1 hx1=>?_) hE
  obtain ⟨v,H1,rfl,_,η1,h1',tk1,rfl,iv1,st1,p1⟩:=hx1
  rw [R.bind_ok] at hne
  unfold compV at hne
  cases hi:items H1 v with
  | none=>rw [hi] at hne;exact absurd rfl hne
  | some xs =>
    rw [optR_of hi] at hne
    refine iter_ok (s:={ s with heap:=h1',toks:=tk1 }) iv1 (p1 (v,mv) (List.Mem.head _)) hi fun ob rI=>?_
    obtain ⟨h2,eh2⟩:∃ h2,h2=h1'.push ob:=⟨_,rfl⟩
    obtain ⟨it,eit⟩:∃ it,it=h1'.objs.size:=⟨_,rfl⟩
    have k2:∀ b o,h1'.get? b=some o->h2.get? b=some o:=fun b o e=>by rw [eh2];exact push_keeps _ _ _ _ e
    show wpAny _ κ.A (newList []) _ _ { s with heap:=h1'.push ob,toks:=tk1 }
    have rI':ItR κ.X η1 h2 it H1 v xs 0:=by rw [eh2,eit];exact rI
    rw [<- eh2]
    show wpAny _ κ.A (newList []) (fun acc s3=>wpAny _ κ.A (newFunctionEnv scope κ.env.globals cl [] κ.env.qual Option.none .none (some κ.env)) (fun cenv s4=>codeAny _ κ.A (.compStart _ 0 (.ref h1'.objs.size) acc _) _ s4) _ s3) _ _
    rw [<- eit]
    refine wpAny_newObj_type (wpAny_newFunctionEnv hcell (by intro y hy;simp at hy) (fun h4 hn4 hs4=>?_) hk)
    dsimp only at hn4 hs4 ⊢
    obtain ⟨h3,eh3⟩:∃ h3,h3=h2.push { cls:=.type "list",data:=.seq ([]:List Value).toArray }:=⟨_,rfl⟩
    have hn4':h4.Ns h3.objs.size (fun x=>([]:List (Str×Value)).reverse.lookup x):=by rw [eh3];exact hn4
    have hs4':Heap.SameBut h3.objs.size (h3.push { cls:=.type (if (some κ.env).isSome then "dict" else "frame"),data:=.dict #[] }) h4:=by rw [eh3];exact hs4
    have sz3:h3.objs.size=h2.objs.size+1:=by rw [eh3,Heap.size_push]
    have k3:∀ b o,h2.get? b=some o->h3.get? b=some o:=fun b o e=>by rw [eh3];exact push_keeps _ _ _ _ e
    have k4:∀ b o,h3.get? b=some o->h4.get? b=some o:=fun b o e=>(hs4'.2 b (Nat.ne_of_lt (Heap.lt_size e))).trans (push_keeps _ _ _ _ e)
    have kk:∀ b o,h1'.get? b=some o->h4.get? b=some o:=fun b o e=>k4 b o (k3 b o (k2 b o e))
    have nD:h2.get? h2.objs.size=Option.none:=size_none h2
    have gD:h4.get? h2.objs.size=some { cls:=.type "list",data:=.seq ([]:List Value).toArray }:=k4 _ _ (by rw [eh3];exact Heap.get?_push_size _ rfl)
    have back:∀ b,h2.objs.size<=b->h1'.get? b=Option.none:=fun b hb=>by
      cases e:h1'.get? b with
      | none=>rfl
      | some o=>exact absurd (Heap.lt_size (k2 b o e)) (Nat.not_lt.mpr hb)
    have nI:h1'.get? it=Option.none:=by rw [eit];exact size_none h1'
    have offη:∀ b,h1'.get? b=Option.none->b∉η1:=fun b hb q=>by obtain ⟨ob,e⟩:=iv1.alive q;rw [hb] at e;cases e
    have iv2:Inv κ.X (η1++[h2.objs.size]) (H1++[.list []]) h4:=iv1.make kk (back _ (Nat.le_refl _)) gD (.list .nil (by simp [line]))
    have neID:it≠h2.objs.size:=by obtain ⟨o,_,_,e,_⟩:=rI'.obj;exact Nat.ne_of_lt (Heap.lt_size e)
    have st2:Step (frs κ.st) [] η1 h1' (η1++[h2.objs.size]) h4:=Step.make _ _ _ kk (back _ (Nat.le_refl _))
    have rI4:ItR κ.X (η1++[h2.objs.size]) h4 it H1 v xs 0:=rI'.keep (fr:=[]) (own:=[]) (Step.make _ _ _ (fun b o e=>k4 b o (k3 b o e)) nD) (Frm.nil _) (offη it nI)
    have neDC:h2.objs.size≠h3.objs.size:=by rw [sz3];exact Nat.ne_of_lt (Nat.lt_succ_self _)
    have nC:h1'.get? h3.objs.size=Option.none:=back _ (by rw [sz3];exact Nat.le_succ _)
    have off2:∀ b,h1'.get? b=Option.none->b≠h2.objs.size->b∉η1++[h2.objs.size]:=fun b hb hd q=>by
      rcases List.mem_append.mp q with q | q
      · exact offη b hb q
      · exact hd (List.mem_singleton.mp q)
    have key:=comp_loop hh (η0:=η) (s0:=s) (k:=H1.length) (chk:=sameO v H1) (g:=g) (f:=f) (H0:=H1) (src:=v) (xs:=xs) (H1:=H1++[.list []]) (η1:=η1++[h2.objs.size]) (elt:=elt) (iter:=iter) (px:=px) (pos:=pos) (s1:={ s with heap:=h4,toks:=tk1+([]:List (Str×Value)).length }) (D:=h2.objs.size) (C:=h3.objs.size)
      hc hcl hfr (helt cl) (htest cl) (fun H' hck n hv=>by subst hv;exact sameO_ref hck) (st1.old nC) (st1.old nI) a iv2 rfl (st1.trans st2) rI4 (off2 it nI neID) (by rw [<- iv1.len];simp) (off2 _ nC neDC.symm) hn4' (fun q=>hne (by rw [q];rfl))
      (RR:=compPost κ.X.M κ.A E use Q (.ref h2.objs.size) h3.objs.size) fun H' s' et ce=>?_
    · have fin:=codeAny_compStart_list key (iter_self (s:={ s with heap:=h4,toks:=tk1+([]:List (Str×Value)).length }) rI4 key)
      rw [eh3] at fin
      exact fin
    · exact hK v H1 xs H' s' _ _ rfl hi et ce
theorem comp_ok (hh:κ.Γ.hd=false) {elt iter:Expr} {x:String} {px pos:Pos} {scope:Scope} {ifs:List Expr} {g:V->Hp->R Bool} {f:V->Hp->R V} {r1:R V} (hc:compOk κ.env.scope scope (Str.ofString x)=true) (hn:noSet iter=true)
    (h1:Tri κ ρ [] (eval iter κ.env) H r1 rV) (helt:∀ cl v C' H',Tri (κ.inn (compEnvC scope cl C' κ.env)) ((x,v)::ρ) [] (eval elt (compEnvC scope cl C' κ.env)) H' (f v H') rV) (htest:∀ cl v C' H',Tri (κ.inn (compEnvC scope cl C' κ.env)) ((x,v)::ρ) [] (testsOf ifs (compEnvC scope cl C' κ.env)) H' (g v H') rB) :
    Tri κ ρ [] (eval (.ListComp elt [⟨.Name (Str.ofString x) px,iter,ifs,0⟩] scope pos) κ.env) H (r1.bind fun v H1=>compV g f v H1) rV:=by
  intro hne η s a _
  rw [eval_ListComp]
  refine comp_run hh (use:=Option.none) hc hn h1 helt htest a hne (fun ev s' q=>q.bind) fun v H1 xs H' s' D C e hi et ce=>?_
  obtain ⟨η',h',tk,rfl,iv,stp,dk,cn,c0,m,ns⟩:=ce
  refine ⟨m,ns,fun h'' sb=>⟨.ref H1.length,H',by rw [e,R.bind_ok,compV,optR_of hi,et];rfl,trivial,?_⟩⟩
  have t:Turn [C] η' H' h' h'':=Turn.one cn (Ns.mach ns) fun b o hb e=>(sb.2 b hb).trans e
  exact ⟨η',h'',tk,rfl,t.inv iv (one_none (a.new c0)),t.step stp (one_none c0),fun p hp=>rV1 hp (.ref dk)⟩
end
theorem ff {P:Prop} (h:false=true):P:=nomatch h
noncomputable def no1 {α0:Type}:α0->Bool:=fun _=>false
theorem na1 {α0:Type} {P:α0->Prop} (a0:α0) (h:no1 a0=true):P a0:=nomatch h
noncomputable def no2 {α0:Type} {α1:Type}:α0->α1->Bool:=fun _ _=>false
theorem na2 {α0:Type} {α1:Type} {P:α0->α1->Prop} (a0:α0) (a1:α1) (h:no2 a0 a1=true):P a0 a1:=nomatch h
noncomputable def no3 {α0:Type} {α1:Type} {α2:Type}:α0->α1->α2->Bool:=fun _ _ _=>false
theorem na3 {α0:Type} {α1:Type} {α2:Type} {P:α0->α1->α2->Prop} (a0:α0) (a1:α1) (a2:α2) (h:no3 a0 a1 a2=true):P a0 a1 a2:=nomatch h
noncomputable def no4 {α0:Type} {α1:Type} {α2:Type} {α3:Type}:α0->α1->α2->α3->Bool:=fun _ _ _ _=>false
theorem na4 {α0:Type} {α1:Type} {α2:Type} {α3:Type} {P:α0->α1->α2->α3->Prop} (a0:α0) (a1:α1) (a2:α2) (a3:α3) (h:no4 a0 a1 a2 a3=true):P a0 a1 a2 a3:=nomatch h
noncomputable def no5 {α0:Type} {α1:Type} {α2:Type} {α3:Type} {α4:Type}:α0->α1->α2->α3->α4->Bool:=fun _ _ _ _ _=>false
theorem na5 {α0:Type} {α1:Type} {α2:Type} {α3:Type} {α4:Type} {P:α0->α1->α2->α3->α4->Prop} (a0:α0) (a1:α1) (a2:α2) (a3:α3) (a4:α4) (h:no5 a0 a1 a2 a3 a4=true):P a0 a1 a2 a3 a4:=nomatch h
noncomputable def onE (e:Expr) (f0:Str->Pos->Bool) (f1:Const->Nat->Pos->Bool) (f2:Expr->Operator->Expr->Pos->Bool) (f3:UnaryOp->Expr->Pos->Bool) (f4:BoolOp->List Expr->Pos->Bool) (f5:Expr->List CmpOp->List Expr->Pos->Bool) (f6:Expr->List Expr->List Keyword->Pos->Bool) (f7:Expr->Str->Pos->Bool) (f8:Expr->Expr->Pos->Bool) (f9:List Expr->Pos->Bool) (f10:List Expr->Nat->Pos->Bool) (f11:Expr->List Comprehension->Scope->Pos->Bool) (f12:Option Expr->Option Expr->Option Expr->Pos->Bool) (f13:List (Option Expr)->List Expr->Pos->Bool) (f14:Expr->Expr->Expr->Pos->Bool) (f15:List Expr->Pos->Bool) (f16:Expr->Int->Option Expr->Pos->Bool):Bool:=match e with
  | .Name id p=>f0 id p
  | .Constant c k p=>f1 c k p
  | .BinOp l op r p=>f2 l op r p
  | .UnaryOp op a p=>f3 op a p
  | .BoolOp op es p=>f4 op es p
  | .Compare l ops rs p=>f5 l ops rs p
  | .Call fn args kws p=>f6 fn args kws p
  | .Attribute o nm p=>f7 o nm p
  | .Subscript o i p=>f8 o i p
  | .List es p=>f9 es p
  | .Tuple es k p=>f10 es k p
  | .ListComp elt gs scope p=>f11 elt gs scope p
  | .Slice l u st p=>f12 l u st p
  | .Dict ks vs p=>f13 ks vs p
  | .IfExp t a b p=>f14 t a b p
  | .JoinedStr es p=>f15 es p
  | .FormattedValue v cv fs p=>f16 v cv fs p
  | _=>false
theorem onE_inv {P:Expr->Prop} {e:Expr} {f0:Str->Pos->Bool} {f1:Const->Nat->Pos->Bool} {f2:Expr->Operator->Expr->Pos->Bool} {f3:UnaryOp->Expr->Pos->Bool} {f4:BoolOp->List Expr->Pos->Bool} {f5:Expr->List CmpOp->List Expr->Pos->Bool} {f6:Expr->List Expr->List Keyword->Pos->Bool} {f7:Expr->Str->Pos->Bool} {f8:Expr->Expr->Pos->Bool} {f9:List Expr->Pos->Bool} {f10:List Expr->Nat->Pos->Bool} {f11:Expr->List Comprehension->Scope->Pos->Bool} {f12:Option Expr->Option Expr->Option Expr->Pos->Bool} {f13:List (Option Expr)->List Expr->Pos->Bool} {f14:Expr->Expr->Expr->Pos->Bool} {f15:List Expr->Pos->Bool} {f16:Expr->Int->Option Expr->Pos->Bool} (h:onE e f0 f1 f2 f3 f4 f5 f6 f7 f8 f9 f10 f11 f12 f13 f14 f15 f16=true) (k0:∀ id p,f0 id p=true->P (.Name id p)) (k1:∀ c k p,f1 c k p=true->P (.Constant c k p)) (k2:∀ l op r p,f2 l op r p=true->P (.BinOp l op r p)) (k3:∀ op a p,f3 op a p=true->P (.UnaryOp op a p)) (k4:∀ op es p,f4 op es p=true->P (.BoolOp op es p)) (k5:∀ l ops rs p,f5 l ops rs p=true->P (.Compare l ops rs p)) (k6:∀ fn args kws p,f6 fn args kws p=true->P (.Call fn args kws p)) (k7:∀ o nm p,f7 o nm p=true->P (.Attribute o nm p)) (k8:∀ o i p,f8 o i p=true->P (.Subscript o i p)) (k9:∀ es p,f9 es p=true->P (.List es p)) (k10:∀ es k p,f10 es k p=true->P (.Tuple es k p)) (k11:∀ elt gs scope p,f11 elt gs scope p=true->P (.ListComp elt gs scope p)) (k12:∀ l u st p,f12 l u st p=true->P (.Slice l u st p)) (k13:∀ ks vs p,f13 ks vs p=true->P (.Dict ks vs p)) (k14:∀ t a b p,f14 t a b p=true->P (.IfExp t a b p)) (k15:∀ es p,f15 es p=true->P (.JoinedStr es p)) (k16:∀ v cv fs p,f16 v cv fs p=true->P (.FormattedValue v cv fs p)):P e:=by
  cases e with
  | Name id p=>exact k0 id p h
  | Constant c k p=>exact k1 c k p h
  | BinOp l op r p=>exact k2 l op r p h
  | UnaryOp op a p=>exact k3 op a p h
  | BoolOp op es p=>exact k4 op es p h
  | Compare l ops rs p=>exact k5 l ops rs p h
  | Call fn args kws p=>exact k6 fn args kws p h
  | Attribute o nm p=>exact k7 o nm p h
  | Subscript o i p=>exact k8 o i p h
  | List es p=>exact k9 es p h
  | Tuple es k p=>exact k10 es k p h
  | ListComp elt gs scope p=>exact k11 elt gs scope p h
  | Slice l u st p=>exact k12 l u st p h
  | Dict ks vs p=>exact k13 ks vs p h
  | IfExp t a b p=>exact k14 t a b p h
  | JoinedStr es p=>exact k15 es p h
  | FormattedValue v cv fs p=>exact k16 v cv fs p h
  | _=>exact ff h
noncomputable def onName (e:Expr) (f:Str->Pos->Bool):Bool:=onE e f no3 no4 no3 no3 no4 no4 no3 no3 no2 no3 no4 no4 no3 no4 no2 no4
theorem onName_inv {P:Expr->Prop} {e:Expr} {f:Str->Pos->Bool} (h:onName e f=true) (k:∀ id p,f id p=true->P (.Name id p)):P e:=onE_inv h k na3 na4 na3 na3 na4 na4 na3 na3 na2 na3 na4 na4 na3 na4 na2 na4
noncomputable def onConstant (e:Expr) (f:Const->Nat->Pos->Bool):Bool:=onE e no2 f no4 no3 no3 no4 no4 no3 no3 no2 no3 no4 no4 no3 no4 no2 no4
theorem onConstant_inv {P:Expr->Prop} {e:Expr} {f:Const->Nat->Pos->Bool} (h:onConstant e f=true) (k:∀ c k p,f c k p=true->P (.Constant c k p)):P e:=onE_inv h na2 k na4 na3 na3 na4 na4 na3 na3 na2 na3 na4 na4 na3 na4 na2 na4
noncomputable def onBinOp (e:Expr) (f:Expr->Operator->Expr->Pos->Bool):Bool:=onE e no2 no3 f no3 no3 no4 no4 no3 no3 no2 no3 no4 no4 no3 no4 no2 no4
theorem onBinOp_inv {P:Expr->Prop} {e:Expr} {f:Expr->Operator->Expr->Pos->Bool} (h:onBinOp e f=true) (k:∀ l op r p,f l op r p=true->P (.BinOp l op r p)):P e:=onE_inv h na2 na3 k na3 na3 na4 na4 na3 na3 na2 na3 na4 na4 na3 na4 na2 na4
noncomputable def onUnaryOp (e:Expr) (f:UnaryOp->Expr->Pos->Bool):Bool:=onE e no2 no3 no4 f no3 no4 no4 no3 no3 no2 no3 no4 no4 no3 no4 no2 no4
theorem onUnaryOp_inv {P:Expr->Prop} {e:Expr} {f:UnaryOp->Expr->Pos->Bool} (h:onUnaryOp e f=true) (k:∀ op a p,f op a p=true->P (.UnaryOp op a p)):P e:=onE_inv h na2 na3 na4 k na3 na4 na4 na3 na3 na2 na3 na4 na4 na3 na4 na2 na4
noncomputable def onBoolOp (e:Expr) (f:BoolOp->List Expr->Pos->Bool):Bool:=onE e no2 no3 no4 no3 f no4 no4 no3 no3 no2 no3 no4 no4 no3 no4 no2 no4
theorem onBoolOp_inv {P:Expr->Prop} {e:Expr} {f:BoolOp->List Expr->Pos->Bool} (h:onBoolOp e f=true) (k:∀ op es p,f op es p=true->P (.BoolOp op es p)):P e:=onE_inv h na2 na3 na4 na3 k na4 na4 na3 na3 na2 na3 na4 na4 na3 na4 na2 na4
noncomputable def onCompare (e:Expr) (f:Expr->List CmpOp->List Expr->Pos->Bool):Bool:=onE e no2 no3 no4 no3 no3 f no4 no3 no3 no2 no3 no4 no4 no3 no4 no2 no4
theorem onCompare_inv {P:Expr->Prop} {e:Expr} {f:Expr->List CmpOp->List Expr->Pos->Bool} (h:onCompare e f=true) (k:∀ l ops rs p,f l ops rs p=true->P (.Compare l ops rs p)):P e:=onE_inv h na2 na3 na4 na3 na3 k na4 na3 na3 na2 na3 na4 na4 na3 na4 na2 na4
noncomputable def onCall (e:Expr) (f:Expr->List Expr->List Keyword->Pos->Bool):Bool:=onE e no2 no3 no4 no3 no3 no4 f no3 no3 no2 no3 no4 no4 no3 no4 no2 no4
theorem onCall_inv {P:Expr->Prop} {e:Expr} {f:Expr->List Expr->List Keyword->Pos->Bool} (h:onCall e f=true) (k:∀ fn args kws p,f fn args kws p=true->P (.Call fn args kws p)):P e:=onE_inv h na2 na3 na4 na3 na3 na4 k na3 na3 na2 na3 na4 na4 na3 na4 na2 na4
noncomputable def onAttribute (e:Expr) (f:Expr->Str->Pos->Bool):Bool:=onE e no2 no3 no4 no3 no3 no4 no4 f no3 no2 no3 no4 no4 no3 no4 no2 no4
theorem onAttribute_inv {P:Expr->Prop} {e:Expr} {f:Expr->Str->Pos->Bool} (h:onAttribute e f=true) (k:∀ o nm p,f o nm p=true->P (.Attribute o nm p)):P e:=onE_inv h na2 na3 na4 na3 na3 na4 na4 k na3 na2 na3 na4 na4 na3 na4 na2 na4
noncomputable def onSubscript (e:Expr) (f:Expr->Expr->Pos->Bool):Bool:=onE e no2 no3 no4 no3 no3 no4 no4 no3 f no2 no3 no4 no4 no3 no4 no2 no4
theorem onSubscript_inv {P:Expr->Prop} {e:Expr} {f:Expr->Expr->Pos->Bool} (h:onSubscript e f=true) (k:∀ o i p,f o i p=true->P (.Subscript o i p)):P e:=onE_inv h na2 na3 na4 na3 na3 na4 na4 na3 k na2 na3 na4 na4 na3 na4 na2 na4
noncomputable def onList (e:Expr) (f:List Expr->Pos->Bool):Bool:=onE e no2 no3 no4 no3 no3 no4 no4 no3 no3 f no3 no4 no4 no3 no4 no2 no4
theorem onList_inv {P:Expr->Prop} {e:Expr} {f:List Expr->Pos->Bool} (h:onList e f=true) (k:∀ es p,f es p=true->P (.List es p)):P e:=onE_inv h na2 na3 na4 na3 na3 na4 na4 na3 na3 k na3 na4 na4 na3 na4 na2 na4
noncomputable def onTuple (e:Expr) (f:List Expr->Nat->Pos->Bool):Bool:=onE e no2 no3 no4 no3 no3 no4 no4 no3 no3 no2 f no4 no4 no3 no4 no2 no4
theorem onTuple_inv {P:Expr->Prop} {e:Expr} {f:List Expr->Nat->Pos->Bool} (h:onTuple e f=true) (k:∀ es k p,f es k p=true->P (.Tuple es k p)):P e:=onE_inv h na2 na3 na4 na3 na3 na4 na4 na3 na3 na2 k na4 na4 na3 na4 na2 na4
noncomputable def onListComp (e:Expr) (f:Expr->List Comprehension->Scope->Pos->Bool):Bool:=onE e no2 no3 no4 no3 no3 no4 no4 no3 no3 no2 no3 f no4 no3 no4 no2 no4
theorem onListComp_inv {P:Expr->Prop} {e:Expr} {f:Expr->List Comprehension->Scope->Pos->Bool} (h:onListComp e f=true) (k:∀ elt gs scope p,f elt gs scope p=true->P (.ListComp elt gs scope p)):P e:=onE_inv h na2 na3 na4 na3 na3 na4 na4 na3 na3 na2 na3 k na4 na3 na4 na2 na4
noncomputable def onSlice (e:Expr) (f:Option Expr->Option Expr->Option Expr->Pos->Bool):Bool:=onE e no2 no3 no4 no3 no3 no4 no4 no3 no3 no2 no3 no4 f no3 no4 no2 no4
theorem onSlice_inv {P:Expr->Prop} {e:Expr} {f:Option Expr->Option Expr->Option Expr->Pos->Bool} (h:onSlice e f=true) (k:∀ l u st p,f l u st p=true->P (.Slice l u st p)):P e:=onE_inv h na2 na3 na4 na3 na3 na4 na4 na3 na3 na2 na3 na4 k na3 na4 na2 na4
noncomputable def onDict (e:Expr) (f:List (Option Expr)->List Expr->Pos->Bool):Bool:=onE e no2 no3 no4 no3 no3 no4 no4 no3 no3 no2 no3 no4 no4 f no4 no2 no4
theorem onDict_inv {P:Expr->Prop} {e:Expr} {f:List (Option Expr)->List Expr->Pos->Bool} (h:onDict e f=true) (k:∀ ks vs p,f ks vs p=true->P (.Dict ks vs p)):P e:=onE_inv h na2 na3 na4 na3 na3 na4 na4 na3 na3 na2 na3 na4 na4 k na4 na2 na4
noncomputable def onIfExp (e:Expr) (f:Expr->Expr->Expr->Pos->Bool):Bool:=onE e no2 no3 no4 no3 no3 no4 no4 no3 no3 no2 no3 no4 no4 no3 f no2 no4
theorem onIfExp_inv {P:Expr->Prop} {e:Expr} {f:Expr->Expr->Expr->Pos->Bool} (h:onIfExp e f=true) (k:∀ t a b p,f t a b p=true->P (.IfExp t a b p)):P e:=onE_inv h na2 na3 na4 na3 na3 na4 na4 na3 na3 na2 na3 na4 na4 na3 k na2 na4
noncomputable def onJoinedStr (e:Expr) (f:List Expr->Pos->Bool):Bool:=onE e no2 no3 no4 no3 no3 no4 no4 no3 no3 no2 no3 no4 no4 no3 no4 f no4
theorem onJoinedStr_inv {P:Expr->Prop} {e:Expr} {f:List Expr->Pos->Bool} (h:onJoinedStr e f=true) (k:∀ es p,f es p=true->P (.JoinedStr es p)):P e:=onE_inv h na2 na3 na4 na3 na3 na4 na4 na3 na3 na2 na3 na4 na4 na3 na4 k na4
noncomputable def onFormattedValue (e:Expr) (f:Expr->Int->Option Expr->Pos->Bool):Bool:=onE e no2 no3 no4 no3 no3 no4 no4 no3 no3 no2 no3 no4 no4 no3 no4 no2 f
theorem onFormattedValue_inv {P:Expr->Prop} {e:Expr} {f:Expr->Int->Option Expr->Pos->Bool} (h:onFormattedValue e f=true) (k:∀ v cv fs p,f v cv fs p=true->P (.FormattedValue v cv fs p)):P e:=onE_inv h na2 na3 na4 na3 na3 na4 na4 na3 na3 na2 na3 na4 na4 na3 na4 na2 k
noncomputable def vName (sc:Scope) (x:String) (id:Str):Bool:=id==Str.ofString x&&(isVar sc id&&(!(id==("__debug__":Str))&&!(id==("__classdict__":Str))))
noncomputable def gName (kn:String->Bool) (sc:Scope) (f:String) (e:Expr):Bool:=onName e fun id _=>id==Str.ofString f&&(isGlob sc id&&(!(id==("__debug__":Str))&&kn f))
noncomputable def one {α:Type} (l:List α) (f:α->Bool):Bool:=match l with
  | []=>false
  | a::r=>r.isEmpty&&f a
noncomputable def two {α:Type} (l:List α) (f g:α->Bool):Bool:=match l with
  | []=>false
  | a::r=>f a&&one r g
theorem and_k {a b:Bool} {Q:Prop} (h:(a&&b)=true) (k:a=true->b=true->Q):Q:=by
  rw [Bool.and_eq_true] at h;exact k h.1 h.2
theorem and_inv {a b:Bool} (h:(a&&b)=true):a=true/\b=true:=and_k h And.intro
theorem nil_k {α:Type} {P:List α->Prop} {l:List α} (h:l.isEmpty=true) (k:P []):P l:=List.isEmpty_iff.mp h▸k
theorem beq_k {α:Type} [BEq α] [LawfulBEq α] {P:α->Prop} {a b:α} (h:(a==b)=true) (k:P b):P a:=eq_of_beq h▸k
theorem none_k {α:Type} {P:Option α->Prop} {e:Option α} (h:e.isNone=true) (k:P Option.none):P e:=by
  cases e with
  | none=>exact k
  | some a=>exact ff h
theorem not_k {b:Bool} (h:(!b)=true):b=false:=by rwa [Bool.not_eq_true'] at h
theorem one_inv {α:Type} {P:List α->Prop} {l:List α} {f:α->Bool} (h:one l f=true) (k:∀ a,f a=true->P [a]):P l:=by
  cases l with
  | nil=>exact ff h
  | cons a r=>exact and_k h fun h1 h2=>nil_k (P:=fun r=>P (a::r)) h1 (k a h2)
theorem two_inv {α:Type} {P:List α->Prop} {l:List α} {f g:α->Bool} (h:two l f g=true) (k:∀ a b,f a=true->g b=true->P [a,b]):P l:=by
  cases l with
  | nil=>exact ff h
  | cons a r=>exact and_k h fun h1 h2=>one_inv (P:=fun r=>P (a::r)) h2 fun b h3=>k a b h1 h3
theorem vName_inv {P:Expr->Prop} {sc:Scope} {x:String} {e:Expr} (h:(onName e fun id _=>vName sc x id)=true) (k:∀ p,isVar sc (Str.ofString x)=true->(Str.ofString x==("__debug__":Str))=false->(Str.ofString x==("__classdict__":Str))=false->P (.Name (Str.ofString x) p)):P e :=
  onName_inv h fun id p h=>and_k h fun h1 h2=>by cases eq_of_beq h1;exact and_k h2 fun h3 h4=>and_k h4 fun h5 h6=>k p h3 (not_k h5) (not_k h6)
theorem gName_inv {P:Expr->Prop} {kn:String->Bool} {sc:Scope} {f:String} {e:Expr} (h:gName kn sc f e=true) (k:∀ pos,isGlob sc (Str.ofString f)=true->(Str.ofString f==("__debug__":Str))=false->kn f=true->P (.Name (Str.ofString f) pos)):P e :=
  onName_inv h fun id p h=>and_k h fun h1 h2=>by cases eq_of_beq h1;exact and_k h2 fun h3 h4=>and_k h4 fun h5 h6=>k p h3 (not_k h5) h6
noncomputable def genName (x:Str) (g:Comprehension):Bool:=onName g.target (fun id _=>id==x)&&(noSet g.iter&&g.is_async==0)
theorem genName_inv {P:Comprehension->Prop} {x:Str} {g:Comprehension} (h:genName x g=true) (k:∀ p iter ifs,noSet iter=true->P ⟨.Name x p,iter,ifs,0⟩):P g:=by
  obtain ⟨t,iter,ifs,as⟩:=g
  exact and_k h fun h1 h2=>and_k h2 fun h3 h4=>onName_inv (P:=fun t=>P ⟨t,iter,ifs,as⟩) h1 fun id p h5=>by cases eq_of_beq h5;cases eq_of_beq h4;exact k p iter ifs h3
noncomputable def isNone:E->Bool
  | .con .none=>true
  | _=>false
theorem isNone_inv {c:E} (h:isNone c=true):c=.none:=by
  unfold isNone at h
  split at h
  · rfl
  · cases h
noncomputable def part (l:Option Expr) (c:E) (f:Expr->Bool):Bool:=match l with
  | some e=>f e
  | Option.none=>isNone c
noncomputable def baseOk (e:Expr):Bool:=!onCall e fun _ _ _ _=>true
theorem base_of {o:Expr} {nm:Str} {env:Env} {w:Sem Value} (h:baseOk o=true):attributeBase o nm env w=w:=by
  cases o <;> first | rfl | cases h
noncomputable def boOf (k:Bool):BoolOp:=if k then .And else .Or
noncomputable def isCm (op:Cm) (f g:Expr->Bool) (e:Expr):Bool:=onCompare e fun l' ops rs _=>ops==[cmOf op]&&(f l'&&one rs g)
theorem isCm_inv {P:Expr->Prop} {op:Cm} {f g:Expr->Bool} {e:Expr} (h:isCm op f g e=true) (k:∀ l' r' p,f l'=true->g r'=true->P (.Compare l' [cmOf op] [r'] p)):P e :=
  onCompare_inv h fun l' ops rs p h=>and_k h fun h1 h2=>and_k h2 fun h3 h4=>beq_k (P:=fun o=>P (.Compare l' o rs p)) h1 (one_inv (P:=fun rs=>P (.Compare l' [cmOf op] rs p)) h4 fun r' h5=>k l' r' p h3 h5)
noncomputable def isCp (sc:Scope) (x:String) (f:Expr->Bool) (g:Scope->List Expr->Bool) (h:Scope->Expr->Bool) (e:Expr):Bool:=onListComp e fun elt' gs scope _=>one gs (fun c=>genName (Str.ofString x) c&&(f c.iter&&g (relabelS scope sc) c.ifs))&&(compOk sc scope (Str.ofString x)&&h (relabelS scope sc) elt')
theorem isCp_inv {P:Expr->Prop} {sc:Scope} {x:String} {f:Expr->Bool} {g:Scope->List Expr->Bool} {h:Scope->Expr->Bool} {e:Expr} (q:isCp sc x f g h e=true) (k:∀ elt px iter ifs scope p,f iter=true->noSet iter=true->compOk sc scope (Str.ofString x)=true->h (relabelS scope sc) elt=true->g (relabelS scope sc) ifs=true->P (.ListComp elt [⟨.Name (Str.ofString x) px,iter,ifs,0⟩] scope p)):P e :=
  onListComp_inv q fun elt gs scope p h=>and_k h fun h1 h2=>and_k h2 fun h3 h4=>one_inv (P:=fun gs=>P (.ListComp elt gs scope p)) h1 fun c h5=>and_k h5 fun h6 h7=>and_k h7 fun h8 h9 =>
    genName_inv (P:=fun c=>f c.iter=true->g (relabelS scope sc) c.ifs=true->P (.ListComp elt [c] scope p)) h6 (fun px iter ifs h10 h8 h9=>k elt px iter ifs scope p h8 h10 h3 h4 h9) h8 h9
noncomputable def isPs (sc:Scope):List (Bool×String)->List Expr->Bool
  | [],es=>es.isEmpty
  | p::ps,es=>match es with
    | []=>false
    | e::es=>(if p.1 then onFormattedValue e fun v c sp _=>c==-1&&(sp.isNone&&onName v fun id _=>vName sc p.2 id) else onConstant e fun c _ _=>c==.str (Str.ofString p.2)&&PyData.strOk (Str.ofString p.2))&&isPs sc ps es
mutual
noncomputable def isE (kn:String->Bool) (sc:Scope):E->Expr->Bool
  | .var x,e=>onName e fun id _=>vName sc x id
  | .glob x,e=>gName kn sc x e
  | .con c,e=>onConstant e fun c' _ _=>c'==c&&conOk c
  | .bin op l r,e=>onBinOp e fun l' op' r' _=>op'==opOf op&&(isE kn sc l l'&&isE kn sc r r')
  | .neg a,e=>onUnaryOp e fun op a' _=>op==.USub&&isE kn sc a a'
  | .not a,e=>onUnaryOp e fun op a' _=>op==.Not&&isE kn sc a a'
  | .bo k es,e=>onBoolOp e fun op es' _=>op==boOf k&&isEs kn sc es es'
  | .cmp l op r,e=>isCm op (isE kn sc l) (isE kn sc r) e
  | .cmp2 l o1 m o2 r,e=>onCompare e fun l' ops rs _=>ops==[cmOf o1,cmOf o2]&&(isE kn sc l l'&&two rs (isE kn sc m) (isE kn sc r))
  | .call f args,e=>onCall e fun fn args' kws _=>kws.isEmpty&&(gName kn sc f fn&&isEs kn sc args args')
  | .isinst a T,e=>onCall e fun fn args' kws _=>kws.isEmpty&&(gName kn sc "isinstance" fn&&two args' (isE kn sc a) (gName kn sc T))
  | .meth o m args,e=>onCall e fun fn args' kws p=>kws.isEmpty&&(onAttribute fn (fun o' nm ap=>nm==Str.ofString m&&(isE kn sc o o'&&(baseOk o'&&ap.endLine==p.line)))&&(isEs kn sc args args'&&decide (args'.length < 30)))
  | .attr o a,e=>onAttribute e fun o' nm _=>baseOk o'&&(nm==Str.ofString a&&(isE kn sc o o'&&attrName a))
  | .idx o i,e=>onSubscript e fun o' i' _=>isE kn sc o o'&&isE kn sc i i'
  | .slice o lo hi,e=>onSubscript e fun o' i' _=>isE kn sc o o'&&onSlice i' fun l u st _=>st.isNone&&(part l lo (isE kn sc lo)&&part u hi (isE kn sc hi))
  | .list es,e=>onList e fun es' _=>isEs kn sc es es'&&decide (es.length < 100)
  | .tup es,e=>onTuple e fun es' _ _=>isEs kn sc es es'&&decide (es.length < 100)
  | .menu es i,e=>onSubscript e fun o' i' _=>onList o' (fun es' _=>isEs kn sc es es'&&decide (es.length < 100))&&isE kn sc i i'
  | .comp0 elt x it,e=>isCp sc x (isE kn sc it) (fun _ ifs=>ifs.isEmpty) (fun sc=>isE kn sc elt) e
  | .comp elt x it l op r,e=>isCp sc x (isE kn sc it) (fun sc ifs=>one ifs (isCm op (isE kn sc l) (isE kn sc r))) (fun sc=>isE kn sc elt) e
  | .dict _,e=>onDict e fun ks vs _=>ks.isEmpty&&vs.isEmpty
  | .fstr ps,e=>onJoinedStr e fun es _=>isPs sc ps es&&decide (2<=ps.length)
  | .ite l op r a b,e=>onIfExp e fun t a' b' _=>isCm op (isE kn sc l) (isE kn sc r) t&&(isE kn sc a a'&&isE kn sc b b')
noncomputable def isEs (kn:String->Bool) (sc:Scope):List E->List Expr->Bool
  | [],es=>match es with | []=>true | _=>false
  | c::cs,es=>match es with | e::es=>isE kn sc c e&&isEs kn sc cs es | []=>false
end
noncomputable def plainE:Expr->Bool
  | .Starred ..=>false
  | .Set ..=>false
  | .Slice ..=>false
  | _=>true
theorem star_plain {e:Expr} {rest:List Expr} {env:Env} (h:plainE e=true):starEach (e::rest) env=(false,eval e env)::starEach rest env:=by
  cases e <;> first | rfl | cases h
theorem marks_plain {op:CmpOp} {e:Expr} (h:plainE e=true):behindInMarks op e=false:=by
  cases e <;> first | rfl | cases h
theorem subscripted_plain {e:Expr} (h:plainE e=true) (a b:Value):subscripted e false a b=operate [a,b] (getItem a b):=by
  cases e <;> first | rfl | cases h
inductive RetAt (X:Cx) (st:List Env) (η:List Addr) (s:Shared) (r:R V) (mv:Value) (s':Shared):Prop
  | mk (v:V) (H':Hp) (e:r=.ok v H') (p:Post X (frs st) [] η s H' (fun η' h'=>VR X η' h' v mv) s'):RetAt X st η s r mv s'
noncomputable def CallOK (X:Cx) (n:Nat) (f:String) (ws:List V) (H:Hp) (r:R V):Prop :=
  ∃ fv,X.mg (Str.ofString f)=some fv/\∀ (A:Around) (st:List Env) (η:List Addr) (s:Shared) (ms:List Value),Room n A->A.handled=Option.none->Inv X η H s.heap->Stk X η A st s.heap ->
    ws.length=ms.length->(∀ p∈ws.zip ms,VR X η s.heap p.1 p.2) ->
    codeAny X.M A (.call fv ⟨ms,[]⟩) (fun res s'=>match res with
      | .ok (.ret mv)=>RetAt X st η s r mv s'
      | .ok _=>False
      | .error ev=>RaiseAt X st η s r ev s') s
structure SoundFn (X:Cx) (n:Nat) (Γ:Fn):Prop where
  const:∀ x v,Γ.const x=some v->∃ mv,Loads X.mg X.mb x mv/\∀ η h,VR X η h v mv
  call:∀ f ws H,Γ.call f ws H≠.stuck->CallOK X n f ws H (Γ.call f ws H)
theorem R.bind_assoc {α β γ:Type} (x:R α) (f:α->Hp->R β) (g:β->Hp->R γ):(x.bind f).bind g=x.bind fun a H=>(f a H).bind g:=by cases x <;> rfl
theorem R.bind_ok_self {α:Type} (x:R α):(x.bind fun a H=>.ok a H)=x:=by cases x <;> rfl
theorem truthR_bind {α:Type} (x:R α) (f:α->Hp->R V):truthR (x.bind f)=x.bind fun a H=>truthR (f a H):=R.bind_assoc _ _ _
theorem truth_cmpV (op:Cm) (x:R V) (y:Hp->R V):truthR (cmpV op x y)=cmpR op x y:=by
  unfold cmpV cmpR
  rw [truthR_bind]
  refine congrArg (R.bind x) (funext fun a=>funext fun H1=>?_)
  rw [truthR_bind]
  refine congrArg (R.bind (y H1)) (funext fun b=>funext fun H2=>?_)
  cases cmp op a b H2 <;> rfl
structure Snd (κ:Ct) (c:E) (e:Expr):Prop where
  pl:plainE e=true
  val:∀ ρ H,Tri κ ρ [] (eval e κ.env) H (evE κ.Γ ρ c H) rV
  test:∀ ρ H,Tri κ ρ [] (isTrue e κ.env (eval e κ.env)) H (truthR (evE κ.Γ ρ c H)) rB
structure SndS (κ:Ct) (cs:List E) (es:List Expr):Prop where
  any:∀ pos,(backTo pos (starEach es κ.env)).any (·.1)=false
  len:cs.length=es.length
  val:∀ pos ρ H,Tri κ ρ [] (spliced (backTo pos (starEach es κ.env))) H (evEs κ.Γ ρ cs H) rL
section
variable {κ:Ct} {ρ:Rho} {vs:List (V×Value)} {H:Hp}
theorem Tri.callF (hh:κ.Γ.hd=false) {f:String} {fv:Value} {ws:List V} {ms:List Value} {r:R V} (C:CallOK κ.X κ.n f ws H r) (hf:κ.X.mg (Str.ofString f)=some fv) (hl:ws.length=ms.length) (hw:∀ p∈ws.zip ms,p∈vs) :
    Tri κ ρ vs (PySem.call fv ms) H r rV:=by
  intro hs η s a hv
  obtain ⟨fv',e,C⟩:=C
  rw [hf] at e;cases e
  refine wpAny_call (codeAny_mono (C κ.A κ.st η s ms a.room (a.hand hh) a.inv a.stk hl fun p hp=>hv p (hw p hp)) fun res s' q=>?_)
  cases res with
  | error ev=>exact q
  | ok fl =>
    cases fl with
    | ret mv =>
      obtain ⟨v,H',e,η',h',tk,q1,q2,q3,q4⟩:=q
      exact ⟨v,H',e,trivial,η',h',tk,q1,q2,q3,fun p hp=>rV1 hp q4⟩
    | _=>exact q
theorem Tri.truthy' {r:R V} {m:Sem Value} (h:Tri κ ρ vs m H r rV):Tri κ ρ vs (m >>= fun c=>PySem.holding [c] (PySem.truthy c)) H (truthR r) rB :=
  Tri.bind h fun v H1 mv _ _=>Tri.holding (Tri.truthy m0)
theorem Tri.let {m:Sem Value} {value:Expr} {o:Value} {r:R V} (h:Tri κ ρ vs m H r rV):Tri κ ρ vs (m >>= fun r=>letTemporaryGo value o r >>= fun _=>Pure.pure r) H r rV :=
  Tri.rel_of (Tri.bind h fun w H1 mw _ _=>Tri.skip (a₀:=()) (fun _ _ _ q=>wpAny_letTemporaryGo q) (Tri.pure trivial fun _ hp=>List.mem_append.mpr (.inr hp))) (R.bind_ok_self r)
end
section
variable {κ:Ct} {a b c:E} {e e' e2 e3:Expr} {pos:Pos}
theorem Snd.plain (pl:plainE e=true) (ht:∀ w,isTrue e κ.env w=(w >>= fun v=>standAt e.pos >>= fun _=>PySem.holding [v] (truthy v))) (val:∀ ρ H,Tri κ ρ [] (eval e κ.env) H (evE κ.Γ ρ c H) rV):Snd κ c e :=
  ⟨pl,val,fun ρ H=>by rw [ht];exact Tri.bind (val ρ H) fun v H1 mv _ _=>Tri.stand (Tri.holding (Tri.truthy m0))⟩
theorem Snd.bin {op:Op} (h1:Snd κ a e) (h2:Snd κ b e'):Snd κ (.bin op a b) (.BinOp e (opOf op) e' pos):=.plain rfl (fun _=>rfl) fun ρ H=>by
  show Tri _ _ _ (eval e κ.env >>= fun a=>PySem.holding [a] (eval e' κ.env) >>= fun b=>standAt pos >>= fun _=>PySem.operate [a,b] (binaryOp (opOf op) a b)) _ _ _
  exact Tri.bind (h1.val ρ H) fun a H1 ma _ _=>Tri.bind (Tri.holding (h2.val ρ H1).any) fun b H2 mb _ _=>Tri.stand (Tri.operate (bin_ok (m1 m0) m0))
theorem Snd.neg (h1:Snd κ a e):Snd κ (.neg a) (.UnaryOp .USub e pos):=.plain rfl (fun _=>rfl) fun ρ H=>by
  show Tri _ _ _ (eval e κ.env >>= fun v=>standAt pos >>= fun _=>PySem.holding [v] (unaryOp .USub v)) _ _ _
  exact Tri.bind (h1.val ρ H) fun v H1 mv _ _=>Tri.stand (Tri.holding (Tri.opt fun i hx=>Tri.plain fun η s Q E at' hv hq=>vr_int (P:=fun m=>wpAny _ _ (unaryOp .USub m) Q E s) (vr_of hv m0) hx fun t=>PyProof.Rows.neg_int (hq _ _ (.int _ _))))
theorem Snd.not (h1:Snd κ a e):Snd κ (.not a) (.UnaryOp .Not e pos):=⟨rfl,fun ρ H=>by
    rw [evE_not];simp only [truthR,R.bind_assoc]
    show Tri _ _ _ (eval e κ.env >>= fun v=>standAt pos >>= fun _=>PySem.holding [v] (PySem.holding [v] (PySem.truthy v >>= fun b=>Pure.pure (Value.bool (!b))))) _ _ _
    refine Tri.bind (h1.val ρ H) fun v H1 mv _ _=>Tri.stand (Tri.holding (Tri.holding (Tri.bind (Tri.truthy m0) fun b H2 b' _ hb=>?_)))
    cases (show b'=b from hb)
    exact Tri.plain fun η s Q E at' hv hq=>wpAny_pure (hq _ s.toks (.bool _)),fun ρ H=>by
    show Tri _ _ _ (isTrue e κ.env (eval e κ.env) >>= fun b=>Pure.pure (!b)) _ _ _
    refine Tri.rel_of (Tri.bind (f:=fun b H1=>.ok (!b) H1) (h1.test ρ H) fun b H1 b' _ hb=>?_) (truthR_bind (truthR (evE κ.Γ ρ a H)) fun b H1=>R.ok (V.bool (!b)) H1).symm
    cases (show b'=b from hb)
    exact Tri.pure rfl fun _ q=>nomatch q⟩
theorem cmpT {op:Cm} (h1:Snd κ a e) (h2:Snd κ b e') (ρ:Rho) (H:Hp) (w:Sem Value):Tri κ ρ [] (isTrue (.Compare e [cmOf op] [e'] pos) κ.env w) H (cmpR op (evE κ.Γ ρ a H) fun H1=>evE κ.Γ ρ b H1) rB:=by
  rw [isTrue_Compare1,markedBehindIn_of_false (marks_plain h2.pl)]
  exact Tri.bind (h1.val ρ H) fun a H1 ma _ _=>Tri.bind (Tri.holding (h2.val ρ H1).any) fun b H2 mb _ _=>Tri.stand (Tri.opt fun t ec=>Tri.truthy' (Tri.operate (cmp_ok (m1 m0) m0 ec)))
theorem Snd.cmp {op:Cm} (h1:Snd κ a e) (h2:Snd κ b e'):Snd κ (.cmp a op b) (.Compare e [cmOf op] [e'] pos):=⟨rfl,fun ρ H=>by
    rw [eval_Compare1,markedBehindIn_of_false (marks_plain h2.pl)]
    exact Tri.bind (h1.val ρ H) fun a H1 ma _ _=>Tri.bind (Tri.holding (h2.val ρ H1).any) fun b H2 mb _ _=>Tri.stand (Tri.operate (Tri.opt fun t ec=>cmp_ok (m1 m0) m0 ec)),fun ρ H=>(cmpT h1 h2 ρ H _).rel_of (truth_cmpV _ _ _).symm⟩
theorem chain {α β:Type} {rel:β->α->Prop×List (V×Value)} {o1:Cm} {T F:Value->Sem α} {fT:V->Hp->R β} {f0:β} (h1:Snd κ a e) (h2:Snd κ b e') (ρ:Rho) (H:Hp)
    (hT:∀ b mb H1 vs,(b,mb)∈vs->Tri κ ρ vs (T mb) H1 (fT b H1) rel) (hF:∀ mc H1 vs,(V.bool false,mc)∈vs->Tri κ ρ vs (F mc) H1 (.ok f0 H1) rel) :
    Tri κ ρ [] (eval e κ.env >>= fun a=>PySem.holding [a] (eval e' κ.env) >>= fun b=>standAt pos >>= fun _=>PySem.holding [a,b] (compareOp (cmOf o1) a b) >>= fun c=>release [a,b] [c] >>= fun _=>PySem.holding [c,b] (PySem.truthy c) >>= fun t=>if t=true then T b else F c) H
      ((evE κ.Γ ρ a H).bind fun a H1=>(evE κ.Γ ρ b H1).bind fun b H2=>optR (Mine.cmp o1 a b H2) fun t=>if t then fT b H2 else .ok f0 H2) rel:=by
  refine Tri.bind (h1.val ρ H) fun a H1 ma _ _=>Tri.bind (Tri.holding (h2.val ρ H1).any) fun b H2 mb _ _=>Tri.stand (Tri.opt fun t ec=>?_)
  refine Tri.rel_of (r:=R.bind (.ok (.bool t) H2) fun v H3=>(truthR (.ok v H3)).bind fun t H3=>if t=true then fT b H3 else .ok f0 H3) (Tri.bind (Tri.holding (cmp_ok (m1 m0) m0 ec)) fun v H3 mv ev _=>?_) rfl
  cases ev
  refine Tri.skip (a₀:=()) (fun Q E s q Γ' p _=>by show Sem.wp _ _ (release _ _) _ _ _ _;unfold release;rw [Sem.wp_release_go];exact q) (Tri.bind (Tri.holding (Tri.truthy m0)) fun t2 H4 t2' et ht=>?_)
  cases (show t2'=t2 from ht)
  cases (show R.ok t H2=R.ok t2 H4 from et)
  cases t with
  | false=>exact hF _ _ _ (m1 m0)
  | true=>exact hT _ _ _ _ (m1 (m1 m0))
theorem Snd.cmp2 {o1 o2:Cm} (h1:Snd κ a e) (h2:Snd κ b e') (h3:Snd κ c e2):Snd κ (.cmp2 a o1 b o2 c) (.Compare e [cmOf o1,cmOf o2] [e',e2] pos):=⟨rfl,fun ρ H=>by
    refine chain (pos:=pos) h1 h2 ρ H (T:=fun mb=>PySem.holding [mb] (markedBehindIn (cmOf o2) e2 (eval e2 κ.env)) >>= fun c=>standAt pos >>= fun _=>PySem.operate [mb,c] (compareOp (cmOf o2) mb c)) (F:=Pure.pure) (fun b mb H1 vs hm=>?_) fun mc H1 vs hm=>Tri.pure trivial fun p hp=>List.mem_singleton.mp hp▸hm
    rw [markedBehindIn_of_false (marks_plain h3.pl)]
    exact Tri.bind (Tri.holding (h3.val ρ H1).any) fun c H5 mc _ _=>Tri.stand (Tri.operate (Tri.opt fun t ec=>cmp_ok (m1 hm) m0 ec)),fun ρ H=>by
    refine Tri.rel_of (chain (pos:=pos) (o1:=o1) h1 h2 ρ H (T:=fun mb=>PySem.holding [mb] (markedBehindIn (cmOf o2) e2 (eval e2 κ.env)) >>= fun c=>standAt pos >>= fun _=>PySem.operate [mb,c] (compareOp (cmOf o2) mb c) >>= fun c=>PySem.holding [c] (PySem.truthy c)) (F:=fun _=>Pure.pure false)
      (fT:=fun b H2=>(evE κ.Γ ρ c H2).bind fun c H4=>optR (Mine.cmp o2 b c H4) fun t=>.ok t H4) (f0:=false) (rel:=rB) (fun b mb H1 vs hm=>?_) fun mc H1 vs hm=>Tri.pure rfl fun _ q=>nomatch q) ?_
    · rw [markedBehindIn_of_false (marks_plain h3.pl)]
      exact Tri.bind (Tri.holding (h3.val ρ H1).any) fun c H5 mc _ _=>Tri.stand (Tri.opt fun t ec=>Tri.truthy' (Tri.operate (cmp_ok (m1 hm) m0 ec)))
    · rw [evE_cmp2,truthR_bind]
      refine congrArg (R.bind _) (funext fun a=>funext fun H1=>?_)
      rw [truthR_bind]
      refine congrArg (R.bind _) (funext fun b=>funext fun H2=>?_)
      cases Mine.cmp o1 a b H2 with
      | none=>rfl
      | some t =>
        cases t with
        | false=>rfl
        | true =>
          show _=truthR ((evE κ.Γ ρ c H2).bind _)
          rw [truthR_bind]
          refine congrArg (R.bind _) (funext fun c=>funext fun H4=>?_)
          cases Mine.cmp o2 b c H4 <;> rfl⟩
end
section
variable {κ:Ct} {Γ:Fn} {a b c o i:E} {e e' e2 e3:Expr} {pos:Pos} {cs:List E} {es:List Expr}
theorem SndS.nil:SndS κ [] []:=⟨fun _=>rfl,rfl,fun _ _ _=>Tri.spliced_nil⟩
theorem SndS.cons (h1:Snd κ c e) (h2:SndS κ cs es):SndS κ (c::cs) (e::es):=⟨fun pos=>by rw [star_plain h1.pl,backTo_cons,List.any_cons,h2.any];rfl,congrArg Nat.succ h2.len,fun pos ρ H=>by
  rw [star_plain h1.pl]
  exact Tri.spliced_cons (h1.val ρ H) fun v H1 m _=>(h2.val pos ρ H1).any⟩
theorem evEs_length {ρ:Rho}:∀ {cs:List E} {H H1:Hp} {ws:List V},evEs Γ ρ cs H=.ok ws H1->ws.length=cs.length
  | [],H,H1,ws,e=>by rw [evEs_nil] at e;cases e;rfl
  | c::cs,H,H1,ws,e=>by
    rw [evEs_cons] at e
    cases h1:evE Γ ρ c H with
    | ok v H2 =>
      rw [h1,R.bind_ok] at e
      cases h2:evEs Γ ρ cs H2 with
      | ok vs H3 =>
        rw [h2] at e
        cases e
        rw [List.length_cons,List.length_cons,evEs_length h2]
      | stuck=>rw [h2] at e;cases e
      | raise=>rw [h2] at e;cases e
    | stuck=>rw [h1] at e;cases e
    | raise=>rw [h1] at e;cases e
theorem isinst_tail {ρ:Rho} {vs:List (V×Value)} {H:Hp} {T:String} {pt:Pos} {tv:Value} {r:R V} {a':Expr} (hgt:isGlob κ.env.scope (Str.ofString T)=true)
    (hdt:(Str.ofString T==("__debug__":Str))=false) (hlt:Loads κ.X.mg κ.X.mb T tv) (hkt:κ.X.kn T=true) (pos:Pos) (ih:Tri κ ρ vs (eval a' κ.env) H r rV) :
    Tri κ ρ vs (PySem.callWith pos (.builtin "isinstance") [] (backTo pos ((false,eval a' κ.env)::starEach [.Name (Str.ofString T) pt] κ.env)) []) H
      (r.bind fun v H1=>optR (isinst v T H1) fun b=>.ok (.bool b) H1) rV:=by
  refine Tri.via (fun Q E s q=>PySem.Calls.callWith_builtin rfl (PySem.Calls.evalArgs_plain (PySem.Calls.spliced_cons q))) ih fun v H1 m _ _ hs η s Q E a1 hv hq he=>?_
  refine PySem.Calls.spliced_cons (wpAny_glob a1 rfl hgt hdt hlt (PySem.Calls.spliced_nil ?_))
  cases hi:isinst v T H1 with
  | none=>rw [hi] at hs;exact absurd rfl hs
  | some b =>
    rw [hi] at hq
    have key:Tri κ ρ (vs++(rV v m).2) (PySem.call (.builtin "isinstance") [m,tv]) H1 (.ok (.bool b) H1) rV:=by
      have:tv=.type T:=hlt.det (.inr (κ.X.bi T _ (isinst_T hi).2 hkt))
      subst this
      exact isinst_ok m0 hi
    exact wpAny_mono (key (fun q=>nomatch q) η s a1 hv) hq fun _ _ q=>q.no rfl
theorem Snd.call {f:String} {fn:Expr} (S:SoundFn κ.X κ.n κ.Γ) (h0:gName κ.X.kn κ.env.scope f fn=true) (ha:SndS κ cs es):Snd κ (.call f cs) (.Call fn es [] pos):=gName_inv (P:=fun fn=>Snd κ (.call f cs) (.Call fn es [] pos)) h0 fun pf hg hd1 hk=>.plain rfl (fun _=>rfl) fun ρ H=>by
  obtain ⟨fv,hl⟩:=κ.X.known f hk
  show Tri _ _ _ (eval (.Name (Str.ofString f) pf) κ.env >>= fun g=>PySem.callWith pos g [] (backTo pos (starEach es κ.env)) []) _ (R.bind (.ok fv H) fun _ H1=>R.bind (evEs κ.Γ ρ cs H1) fun ws H1=>callF κ.Γ f ws H1) _
  refine Tri.bind (Tri.glob rfl hg hd1 hl) fun g H1 mg eg hg'=>?_
  cases eg
  cases (show mg=fv from hg')
  refine Tri.callWith (κ.X.kp f fv hk hl) (ha.any pos) (ha.val pos ρ H).any fun ws H2 ms _ hlen=>Tri.hdn fun hh=>?_
  have hw:∀ p∈ws.zip ms,p∈[]++(rEq fv fv).2++ws.zip ms:=fun p hp=>List.mem_append.mpr (.inr hp)
  have own:Tri κ ρ ([]++(rEq fv fv).2++ws.zip ms) (PySem.call fv ms) H2 (κ.Γ.call f ws H2) rV:=fun hs=>by
    obtain ⟨fv',e',C⟩:=S.call f ws H2 hs
    cases hl.det (.inl e')
    exact Tri.callF hh ⟨_,e',C⟩ e' hlen hw hs
  unfold builtin
  cases hb:biFns.lookup f with
  | none=>exact own
  | some g =>
    obtain ⟨bv,hbv,ok⟩:=builtin_ok hb
    cases hl.det (.inr (κ.X.bi f bv hbv hk))
    have t:=ok κ ρ _ H2 ws ms hh hlen hw
    rw [optR_of rfl]
    cases hr:g ws H2 with
    | stuck=>exact own
    | _=>rw [hr] at t;exact t
theorem Snd.isinst {fn T':Expr} {T:String} (h0:gName κ.X.kn κ.env.scope "isinstance" fn=true) (h1:Snd κ a e) (h2:gName κ.X.kn κ.env.scope T T'=true):Snd κ (.isinst a T) (.Call fn [e,T'] [] pos) :=
  gName_inv (P:=fun fn=>Snd κ (.isinst a T) (.Call fn [e,T'] [] pos)) h0 fun pf hg hd1 hk=>gName_inv (P:=fun T'=>Snd κ (.isinst a T) (.Call (.Name (Str.ofString "isinstance") pf) [e,T'] [] pos)) h2 fun pt hgt hdt hkt=>.plain rfl (fun _=>rfl) fun ρ H=>by
    have hl:Loads κ.X.mg κ.X.mb "isinstance" (.builtin "isinstance"):=.inr (κ.X.bi _ _ rfl hk)
    obtain ⟨tv,hlt⟩:=κ.X.known T hkt
    show Tri _ _ _ (eval (.Name (Str.ofString "isinstance") pf) κ.env >>= fun g=>PySem.callWith pos g [] (backTo pos (starEach [e,.Name (Str.ofString T) pt] κ.env)) []) _ (R.bind (.ok (Value.builtin "isinstance") H) fun _ H1=>(evE κ.Γ ρ a H1).bind fun v H1=>optR (Mine.isinst v T H1) fun b=>.ok (V.bool b) H1) _
    refine Tri.bind (Tri.glob rfl hg hd1 hl) fun g H1 mg eg hg'=>?_
    cases eg
    cases (show mg=.builtin "isinstance" from hg')
    rw [star_plain h1.pl]
    exact isinst_tail hgt hdt hlt hkt pos (h1.val ρ H).any
theorem wpAny_meth {prog:Program} {w:World} {A:Around} {E:Value->Shared->Prop} {s:Shared} {env:Env} {name:Str} {ap:Pos} {Q:Value->Shared->Prop} (hn:baseOk e=true) (ha:(backTo pos (starEach es env)).any (·.1)=false) (hlen:es.length < 30) (hline:(ap.endLine==pos.line)=true)
    (h:wpAny (model prog w) A (eval e env) (fun ov s₁=>∃ T id,((Slot T name id/\typeOf (.builtin id)=pure (.type "method_descriptor"))/\PlainAttrs T)/\KindAt s₁.heap ov T/\wpAny (model prog w) A (callWith pos (.builtin id) [ov] (backTo pos (starEach es env)) []) Q E s₁) E s) :
    wpAny (model prog w) A (eval (.Call (.Attribute e name ap) es [] pos) env) Q E s:=by
  have hall:(backTo pos (starEach es env)).all (fun x=>!x.1)=true:=by
    rw [List.all_eq_true]
    exact fun y hy=>(Bool.not_eq_true' _).mpr (Bool.eq_false_iff.mpr (List.any_eq_false.mp ha y hy))
  rw [arm_eval_Call,base_of hn]
  refine wpAny_bind (wpAny_mono h (fun ov s₁ ⟨T,id,⟨⟨q1,q2⟩,q3⟩,hk,hc⟩=>wpAny_bind (wpAny_standAt ?_)) fun _ _ e=>e)
  unfold methodCall
  rw [show methodCallForm (es.length+([]:List Keyword).length) (backTo pos (starEach es env)) (backToKw pos (keywordEach [] env))=true from by
    show ((backTo pos (starEach es env)).all (fun x=>!x.1)&&true&&decide (es.length+0+0 < 30))=true
    rw [hall,decide_eq_true (show es.length+0+0 < 30 from hlen)];rfl]
  refine wpAny_bind (wpAny_holding (getMethod_builtin hk.type q3 q1 q2 (fun a q=>?_) (wpAny_bind (wpAny_of_eq (by unfold methodCallPos;simp [hline]) hc))))
  cases q
  cases hk with
  | obj g _ d _=>exact ⟨_,g,d⟩
theorem Snd.meth {m:String} {ap:Pos} (h1:Snd κ o e) (hn:baseOk e=true) (hline:(ap.endLine==pos.line)=true) (ha:SndS κ cs es) (hlen:es.length < 30):Snd κ (.meth o m cs) (.Call (.Attribute e (Str.ofString m) ap) es [] pos):=.plain rfl (fun _=>rfl) fun ρ H =>
  Tri.via (fun Q E s q=>wpAny_meth hn (ha.any pos) hlen hline q) (h1.val ρ H) fun v H1 mo _ _ hs η s Q E a1 hv hq he=>by
    cases hg:methK v m H1 with
    | none=>rw [hg] at hs;exact absurd rfl hs
    | some g =>
      rw [hg] at hs hq he
      obtain ⟨k,hk,hl⟩:=Option.bind_eq_some_iff.mp hg
      obtain ⟨q1,q2,ok⟩:=meth_at hl
      exact ⟨k,g.2,⟨q1,q2⟩,kind_at a1.inv (vr_of hv m0) hk,wpAny_mono ((Tri.callWith (keepable_builtin κ.X _) (ha.any pos) (ha.val pos ρ H1).any fun ws H2 ms _ hl=>ok κ ρ _ H2 v mo ws ms (m1 m0) hl fun q hq=>List.mem_append.mpr (.inr hq)) hs η s a1 hv) hq he⟩
theorem Snd.attr {x:String} (h1:Snd κ o e) (hn:baseOk e=true) (hx:attrName x=true):Snd κ (.attr o x) (.Attribute e (Str.ofString x) pos):=.plain rfl (fun _=>rfl) fun ρ H=>by
  show Tri _ _ _ (attributeBase e (Str.ofString x) κ.env (eval e κ.env) >>= fun v=>standAt pos.atName >>= fun _=>PySem.holding [v] (getAttr v (Str.ofString x) true) >>= fun r=>letTemporaryGo e v r >>= fun _=>Pure.pure r) _ _ _
  rw [base_of hn]
  exact Tri.bind (h1.val ρ H) fun v H1 mv _ _=>Tri.stand (Tri.let (Tri.holding (attr_ok m0 hx)))
theorem Snd.idx (h1:Snd κ o e) (h2:Snd κ i e'):Snd κ (.idx o i) (.Subscript e e' pos):=.plain rfl (fun _=>rfl) fun ρ H=>by
  show Tri _ _ _ (eval e κ.env >>= fun a=>PySem.holding [a] (eval e' κ.env) >>= fun b=>standAt pos >>= fun _=>subscriptTail e e' a b) _ _ _
  exact Tri.bind (h1.val ρ H) fun a H1 ma _ _=>Tri.bind (Tri.holding (h2.val ρ H1).any) fun b H2 mb _ _=>Tri.stand (index_ok (m1 m0) m0 (subscripted_plain h2.pl))
theorem lt_line {n:Nat} {ws:List V} {H H1:Hp} {ρ:Rho} (h:n < 100) (e:evEs Γ ρ cs H=.ok ws H1) (hn:cs.length=n):ws.length<=line:=by rw [evEs_length e,hn];exact Nat.le_trans (Nat.le_of_lt h) (by decide)
theorem Snd.tup {k:Nat} (h1:SndS κ cs es) (h2:cs.length < 100):Snd κ (.tup cs) (.Tuple es k pos):=.plain rfl (fun _=>rfl) fun ρ H=>by
  show Tri _ _ _ (standAt pos >>= fun _=>spliced (backTo pos (starEach es κ.env)) >>= fun ms=>PySem.newTuple ms) _ _ _
  exact Tri.stand (Tri.bind (h1.val pos ρ H) fun ws H1 ms ew hl=>Tri.newTuple hl (fun p hp=>List.mem_append.mpr (.inr hp)) (lt_line h2 ew rfl))
theorem Snd.list (h1:SndS κ cs es) (h2:cs.length < 100):Snd κ (.list cs) (.List es pos):=.plain rfl (fun _=>rfl) fun ρ H=>by
  show Tri _ _ _ (standAt pos >>= fun _=>spliced (backTo pos (starEach es κ.env)) >>= fun ms=>PySem.newList ms) _ _ _
  exact Tri.stand (Tri.bind (h1.val pos ρ H) fun ws H1 ms ew hl=>Tri.newList hl (fun p hp=>List.mem_append.mpr (.inr hp)) (lt_line h2 ew rfl))
theorem Snd.menu {lpos:Pos} (h1:SndS κ cs es) (h2:cs.length < 100) (h3:Snd κ i e'):Snd κ (.menu cs i) (.Subscript (.List es lpos) e' pos):=.plain rfl (fun _=>rfl) fun ρ H=>by
  show Tri _ _ _ ((standAt lpos >>= fun _=>spliced (backTo lpos (starEach es κ.env)) >>= fun ms=>PySem.newList ms) >>= fun a=>PySem.holding [a] (eval e' κ.env) >>= fun b=>standAt pos >>= fun _=>subscriptTail (.List es lpos) e' a b) _ _ _
  refine Tri.rel_of (Tri.bind (f:=fun o H1=>(evE κ.Γ ρ i H1).bind fun k H2=>index o k H2) (Tri.stand (Tri.bind (f:=fun ws H1=>.ok (V.lst ws) H1) (h1.val lpos ρ H) fun ws H1 ms ew hl=>Tri.hidden hl (fun p hp=>List.mem_append.mpr (.inr hp)) (lt_line h2 ew rfl))) fun a H1 ma _ _=>?_) (R.bind_assoc _ _ _)
  exact Tri.bind (Tri.holding (h3.val ρ H1).any) fun b H2 mb _ _=>Tri.stand (index_ok (m1 m0) m0 (subscripted_plain h3.pl))
theorem Snd.slice {lo hi:E} {l u:Option Expr} {p:Pos} (h1:Snd κ o e) (h2:∀ ρ H1,Tri κ ρ [] (evalPart l κ.env) H1 (evE κ.Γ ρ lo H1) rV) (h3:∀ ρ H1,Tri κ ρ [] (evalPart u κ.env) H1 (evE κ.Γ ρ hi H1) rV):Snd κ (.slice o lo hi) (.Subscript e (.Slice l u Option.none p) pos):=.plain rfl (fun _=>rfl) fun ρ H=>slice_ok (h1.val ρ H) (h2 ρ) (h3 ρ)
theorem part_ok {lo:E} {l:Option Expr} (h:part l lo (isE κ.X.kn κ.env.scope lo)=true) (k:∀ e,isE κ.X.kn κ.env.scope lo e=true->Snd κ lo e) (ρ:Rho) (H:Hp):Tri κ ρ [] (evalPart l κ.env) H (evE κ.Γ ρ lo H) rV:=by
  cases l with
  | none=>rw [isNone_inv h];exact Tri.plain fun _ s _ _ _ _ hq=>wpAny_pure (hq _ s.toks .none)
  | some e=>exact (k e h).val ρ H
theorem Snd.dict {k:Bool}:Snd κ (.dict k) (.Dict [] [] pos):=.plain rfl (fun _=>rfl) fun ρ H=>Tri.made fun η s Q E at' hv hq=>wpAny_Dict_empty (by
  cases k with
  | false=>exact hq _ _ _ s.toks (size_none _) (push_keeps _ _) (Heap.get?_push_size _ rfl) (.tab .nil rfl List.nodup_nil (Nat.zero_le _))
  | true =>
    obtain ⟨o,es,ep,ho,r⟩:=Heap.DictOf.new (knd:=intKind κ.X.prog κ.X.w) s.heap
    rw [Heap.get?_push_size _ rfl] at ho
    cases ho
    exact hq _ _ _ s.toks (size_none _) (push_keeps _ _) (Heap.get?_push_size _ rfl) (.keys ⟨es,ep,r⟩ rfl (Nat.zero_le _)))
theorem Snd.ite {op:Cm} {cpos:Pos} (h1:Snd κ a e) (h2:Snd κ b e') (h3:Snd κ c e2) (h4:Snd κ i e3):Snd κ (.ite a op b c i) (.IfExp (.Compare e [cmOf op] [e'] cpos) e2 e3 pos):=⟨rfl,fun ρ H=>by
    show Tri _ _ _ (isTrue (.Compare e [cmOf op] [e'] cpos) κ.env (eval (.Compare e [cmOf op] [e'] cpos) κ.env) >>= fun t=>if t=true then eval e2 κ.env else eval e3 κ.env) _ _ _
    refine Tri.bind (cmpT h1 h2 ρ H _) fun t H1 t' _ ht=>?_
    cases (show t'=t from ht)
    cases t with
    | true=>exact (h3.val ρ H1).any
    | false=>exact (h4.val ρ H1).any,fun ρ H=>by
    show Tri _ _ _ (isTrue (.Compare e [cmOf op] [e'] cpos) κ.env (eval (.Compare e [cmOf op] [e'] cpos) κ.env) >>= fun t=>if t=true then isTrue e2 κ.env (eval e2 κ.env) else isTrue e3 κ.env (eval e3 κ.env)) _ _ _
    rw [evE_ite,truthR_bind]
    refine Tri.bind (cmpT h1 h2 ρ H _) fun t H1 t' _ ht=>?_
    cases (show t'=t from ht)
    cases t with
    | true=>exact (h3.test ρ H1).any
    | false=>exact (h4.test ρ H1).any⟩
theorem strOk_append {x y:Str} (a:PyData.strOk x=true) (b:PyData.strOk y=true):PyData.strOk (x++y)=true:=by
  unfold PyData.strOk at *
  show (x.cps++y.cps).all _=true
  rw [Array.all_append,a,b];rfl
theorem strOk_of (x:String):PyData.strOk (Str.ofString x)=true:=by
  unfold PyData.strOk
  rw [Str.ofString_eq_toList,<- Array.all_toList,List.all_eq_true]
  intro c hc
  obtain ⟨ch,_,rfl⟩:=List.mem_map.mp (show c∈x.toList.map Char.toNat from hc)
  have:=ch.valid
  have h2:ch.toNat=ch.val.toNat:=rfl
  rcases this with q | q <;> (rw [decide_eq_true_eq,h2];omega)
theorem fmt_ok {ρ:Rho} {vs:List (V×Value)} {H:Hp} {v:V} {mv:Value} {x:Str} (hm:(v,mv)∈vs) (e:fmtS v=some x):Tri κ ρ vs (formatField mv Str.empty) H (.ok (.str x) H) rV:=Tri.plain fun η s Q E at' hv hq=>by
  cases vr_of hv hm with
  | int i t =>
    obtain ⟨hi,rfl⟩:=if_some e
    refine formatField_int_small ?_ (hq _ _ (.str _ _ (strOk_of _)))
    by_cases h0:i.natAbs=0
    · rw [h0];decide
    · exact (Nat.log2_lt h0).mpr (Nat.lt_of_lt_of_le hi (by decide +kernel))
  | str y t ok =>
    obtain ⟨hx,rfl⟩:=if_some e
    exact formatField_str (fun t' tk=>hq _ tk (.str _ _ ok)) (Nat.le_trans hx line_lt)
  | _=>cases e
theorem cat_ok:∀ (ps:List (Bool×String)) (es:List Expr) (out:Str) {x:Str},isPs κ.env.scope ps es=true->PyData.strOk out=true->out.length<=line->∀ (ρ:Rho) (H:Hp),catS ρ ps out=some x->Tri κ ρ [] (joinParts out (evalEach es κ.env)) H (.ok (.str x) H) rV
  | [],es,out,x,h,ok,hl,ρ,H,e=>by
    cases e
    exact nil_k (P:=fun es=>Tri κ ρ [] (joinParts out (evalEach es κ.env)) H (.ok (.str out) H) rV) h (Tri.plain fun η s Q E at' hv hq=>joinParts_nil (hq _ _ (.str _ _ ok)) (Nat.le_trans hl line_lt))
  | p::ps,es,out,x,h,ok,hl,ρ,H,e=>by
    cases es with
    | nil=>exact ff h
    | cons e1 es =>
      obtain ⟨y,hy,e⟩:=Option.bind_eq_some_iff.mp e
      have e:(if (out++y).length<=line then catS ρ ps (out++y) else Option.none)=some x:=e
      have key:Tri κ ρ [] (eval e1 κ.env) H (.ok (.str y) H) rV:=and_k h fun h1 _=>by
        obtain ⟨b,t⟩:=p
        cases b with
        | true =>
          refine onFormattedValue_inv (P:=fun e1=>Tri κ ρ [] (eval e1 κ.env) H (.ok (.str y) H) rV) h1 fun v c sp q h3=>and_k h3 fun q1 h4=>and_k h4 fun q2 h5=>?_
          cases eq_of_beq q1
          obtain ⟨u,eu,ef⟩:=Option.bind_eq_some_iff.mp (show (ρ.lookup t).bind fmtS=some y from hy)
          refine none_k (P:=fun sp=>Tri κ ρ [] (eval (.FormattedValue v (-1) sp q) κ.env) H (.ok (.str y) H) rV) q2 (vName_inv (P:=fun v=>Tri κ ρ [] (eval (.FormattedValue v (-1) Option.none q) κ.env) H (.ok (.str y) H) rV) h5 fun p hv hd1 hd2=>?_)
          refine Tri.via (r:=.ok u H) (f:=fun _ H1=>.ok (V.str y) H1) (fun Q E s q=>FormattedValue_plain q) ((Tri.name rfl hv hd1 hd2).rel_of (optR_of eu)) fun u' H1 mv e1 _ hs η s Q E at' hv hq he=>?_
          cases e1
          exact wpAny_mono (fmt_ok m0 ef hs η s at' hv) hq he
        | false=>exact onConstant_inv (P:=fun e1=>Tri κ ρ [] (eval e1 κ.env) H (.ok (.str y) H) rV) h1 fun c n q h=>and_k h fun q1 q2=>by cases eq_of_beq q1;cases hy;exact Tri.const (c:=.str _) q2
      split at e
      · rename_i hle
        refine Tri.via (r:=.ok (V.str y) H) (f:=fun _ H1=>.ok (V.str x) H1) (fun Q E s q=>joinParts_cons q) key fun v H1 mv ev _ hs η s Q E at' hv hq he=>?_
        cases ev
        have vy:VR κ.X η s.heap (.str y) mv:=vr_of hv m0
        cases vy with
        | str _ t oky=>exact ⟨Nat.le_trans hle line_lt,wpAny_mono (cat_ok ps es (out++y) (and_inv h).2 (strOk_append ok oky) hle ρ H e hs η s at' (fun _ q=>nomatch q)) hq he⟩
      · cases e
theorem Snd.fstr {ps:List (Bool×String)} (h1:isPs κ.env.scope ps es=true) (h2:2<=ps.length):Snd κ (.fstr ps) (.JoinedStr es pos):=.plain rfl (fun _=>rfl) fun ρ H=>Tri.opt fun x e=>by
  have q:=cat_ok ps es Str.empty h1 (strOk_of "") (by decide) ρ H e
  match ps,h2,es,h1 with
  | _::_::_,_,_::_::_,_=>exact fun hs η s at' hv=>JoinedStr_many (q hs η s at' hv)
  | _::_::_,_,[_],h=>exact ff (and_inv h).2
  | _::_::_,_,[],h=>exact ff h
end
inductive AllS (κ:Ct):List E->List Expr->Prop
  | nil:AllS κ [] []
  | cons {c:E} {e:Expr} {cs:List E} {es:List Expr}:Snd κ c e->AllS κ cs es->AllS κ (c::cs) (e::es)
section
variable {κ:Ct} {c:E} {e:Expr} {cs:List E} {es:List Expr} {pos:Pos}
theorem AllS.row (h:AllS κ cs es):SndS κ cs es:=by
  induction h with
  | nil=>exact .nil
  | cons a _ ih=>exact .cons a ih
theorem AllS.bo (k:Bool) (h:AllS κ cs es):(∀ pos ρ H,Tri κ ρ [] (boolOp pos (boOf k) (evalEach es κ.env)) H (evBo κ.Γ ρ k cs H) rV)/\∀ ρ H,Tri κ ρ [] (allTrue (boOf k) es κ.env) H (truthR (evBo κ.Γ ρ k cs H)) rB:=by
  induction h with
  | nil=>exact ⟨fun _ _ _=>Tri.stuck,fun _ _=>Tri.stuck⟩
  | @cons c e cs es a h ih =>
    have tst:∀ (X:Sem Bool) (Y:Hp->R Bool) ρ H,(∀ H1,Tri κ ρ [] X H1 (Y H1) rB)->Tri κ ρ [] (isTrue e κ.env (eval e κ.env) >>= fun t=>match boOf k,t with | .And,false=>Pure.pure false | .Or,true=>Pure.pure true | _,_=>X) H ((truthR (evE κ.Γ ρ c H)).bind fun t H2=>if t=k then Y H2 else .ok (!k) H2) rB:=fun X Y ρ H hX=>by
      refine Tri.bind (a.test ρ H) fun b H1 b' _ hb=>?_
      cases (show b'=b from hb)
      cases k <;> cases b
      · exact (hX H1).any
      · exact Tri.pure rfl fun _ q=>nomatch q
      · exact Tri.pure rfl fun _ q=>nomatch q
      · exact (hX H1).any
    cases h with
    | nil =>
      refine ⟨fun _ ρ H=>a.val ρ H,fun ρ H=>(tst (allTrue (boOf k) [] κ.env) (fun H1=>.ok k H1) ρ H fun H1=>?_).rel_of ?_⟩
      · cases k <;> exact Tri.pure rfl fun _ q=>nomatch q
      · refine Eq.trans (congrArg (R.bind _) (funext fun t=>funext fun H2=>?_)) (R.bind_ok_self _)
        cases k <;> cases t <;> rfl
    | @cons c2 e2 cs es a2 h2 =>
      refine ⟨fun pos ρ H=>?_,fun ρ H=>(tst (allTrue (boOf k) (e2::es) κ.env) (fun H1=>truthR (evBo κ.Γ ρ k (c2::cs) H1)) ρ H (ih.2 ρ)).rel_of ?_⟩
      · rw [evBo_cons];simp only [truthR,R.bind_assoc]
        show Tri _ _ _ (eval e κ.env >>= fun v=>standAt pos >>= fun _=>PySem.holding [v] (PySem.truthy v) >>= fun t=>match boOf k,t with
          | .And,false | .Or,true=>Pure.pure v
          | _,_=>boolOp pos (boOf k) (evalEach (e2::es) κ.env)) _ _ _
        refine Tri.bind (a.val ρ H) fun v H1 mv _ _=>Tri.stand (Tri.bind (Tri.holding (Tri.truthy m0)) fun t H2 t' et ht=>?_)
        cases (show t'=t from ht)
        cases hv:truth v with
        | none=>rw [hv] at et;cases et
        | some b =>
          rw [hv] at et
          cases et
          have ev:v=.bool t:=by cases v <;> cases hv;rfl
          subst ev
          cases k <;> cases t
          · exact (ih.1 pos ρ H1).any
          · exact Tri.pure trivial fun p hp=>List.mem_singleton.mp hp▸m1 m0
          · exact Tri.pure trivial fun p hp=>List.mem_singleton.mp hp▸m1 m0
          · exact (ih.1 pos ρ H1).any
      · rw [evBo_cons,truthR_bind]
        refine congrArg (R.bind _) (funext fun t=>funext fun H2=>?_)
        cases k <;> cases t <;> rfl
theorem Snd.bo {k:Bool} (h:AllS κ cs es):Snd κ (.bo k cs) (.BoolOp (boOf k) es pos):=⟨rfl,(h.bo k).1 pos,(h.bo k).2⟩
inductive CpAt (κ:Ct) (c:E):Expr->Prop
  | mk {el it:E} {x:String} {elt iter:Expr} {ifs:List Expr} {scope:Scope} {px pos:Pos} {g:Rho->V->Hp->R Bool} (hc:compOk κ.env.scope scope (Str.ofString x)=true) (hn:noSet iter=true) (h1:Snd κ it iter) (h2:∀ cl C',Snd (κ.inn (compEnvC scope cl C' κ.env)) el elt)
    (h3:∀ cl C' ρ v H',Tri (κ.inn (compEnvC scope cl C' κ.env)) ((x,v)::ρ) [] (testsOf ifs (compEnvC scope cl C' κ.env)) H' (g ρ v H') rB) (he:∀ ρ H,evE κ.Γ ρ c H=hdR κ.Γ ((evE κ.Γ ρ it H).bind fun v H1=>compV (g ρ) (fun y H2=>evE κ.Γ ((x,y)::ρ) el H2) v H1)):CpAt κ c (.ListComp elt [⟨.Name (Str.ofString x) px,iter,ifs,0⟩] scope pos)
theorem CpAt.snd (h:CpAt κ c e):Snd κ c e:=by
  obtain ⟨hc,hn,h1,h2,h3,he⟩:=h
  refine .plain rfl (fun _=>rfl) fun ρ H=>?_
  rw [he]
  exact Tri.hdn fun hh=>comp_ok hh hc hn (h1.val ρ H) (fun cl v C' H'=>(h2 cl C').val (_::ρ) H') fun cl v C' H'=>h3 cl C' ρ v H'
theorem tests_one {a b:E} {l r:Expr} {op:Cm} (h1:Snd κ a l) (h2:Snd κ b r) (ρ:Rho) (H:Hp):Tri κ ρ [] (testsOf [.Compare l [cmOf op] [r] pos] κ.env) H (cmpR op (evE κ.Γ ρ a H) fun H1=>evE κ.Γ ρ b H1) rB:=by
  rw [show testsOf [.Compare l [cmOf op] [r] pos] κ.env=(isTrue (.Compare l [cmOf op] [r] pos) κ.env (eval (.Compare l [cmOf op] [r] pos) κ.env) >>= fun b=>Pure.pure b) from by unfold testsOf;simp,bind_pure]
  exact cmpT h1 h2 ρ H _
end
noncomputable def PartOk (κ:Ct) (c:E):Prop:=∀ e,isE κ.X.kn κ.env.scope c e=true->Snd κ c e
noncomputable def InnOk (κ:Ct) (c:E):Prop:=∀ scope cl C' e,isE κ.X.kn (relabelS scope κ.env.scope) c e=true->Snd (κ.inn (compEnvC scope cl C' κ.env)) c e
theorem cp0_at {κ:Ct} {elt it:E} {x:String} {e:Expr} (h:isE κ.X.kn κ.env.scope (.comp0 elt x it) e=true) (k1:PartOk κ it) (k2:InnOk κ elt):CpAt κ (.comp0 elt x it) e :=
  isCp_inv (P:=CpAt κ (.comp0 elt x it)) h fun elt' px iter ifs scope p h1 h2 h3 h4 h5=>nil_k (P:=fun ifs=>CpAt κ (.comp0 elt x it) (.ListComp elt' [⟨.Name (Str.ofString x) px,iter,ifs,0⟩] scope p)) h5 (.mk h3 h2 (k1 iter h1) (fun cl C'=>k2 scope cl C' elt' h4) (fun _ _ _ _ _=>Tri.pure rfl fun _ q=>nomatch q) fun _ _=>rfl)
theorem cp_at {κ:Ct} {elt it l r:E} {op:Cm} {x:String} {e:Expr} (h:isE κ.X.kn κ.env.scope (.comp elt x it l op r) e=true) (k1:PartOk κ it) (k2:InnOk κ elt) (k3:InnOk κ l) (k4:InnOk κ r):CpAt κ (.comp elt x it l op r) e :=
  isCp_inv (P:=CpAt κ (.comp elt x it l op r)) h fun elt' px iter ifs scope p h1 h2 h3 h4 h5=>one_inv (P:=fun ifs=>CpAt κ (.comp elt x it l op r) (.ListComp elt' [⟨.Name (Str.ofString x) px,iter,ifs,0⟩] scope p)) h5 fun t h6=>isCm_inv (P:=fun t=>CpAt κ (.comp elt x it l op r) (.ListComp elt' [⟨.Name (Str.ofString x) px,iter,[t],0⟩] scope p)) h6 fun l' r' _ h7 h8 =>
    .mk h3 h2 (k1 iter h1) (fun cl C'=>k2 scope cl C' elt' h4) (fun cl C' ρ v H'=>tests_one (k3 scope cl C' l' h7) (k4 scope cl C' r' h8) ((x,v)::ρ) H') fun _ _=>rfl
theorem glob_ok {κ:Ct} {x:String} {e:Expr} (S:SoundFn κ.X κ.n κ.Γ) (h:gName κ.X.kn κ.env.scope x e=true):Snd κ (.glob x) e:=gName_inv (P:=Snd κ (.glob x)) h fun pos hg hd1 hk=>.plain rfl (fun _=>rfl) fun ρ H=>Tri.opt fun v ec=>by
  obtain ⟨mv,hl,hr⟩:=S.const x v ec
  exact Tri.reads fun η s Q E at' hv hq=>wpAny_glob at' rfl hg hd1 hl (hq mv s.heap s.toks (fun _ _ e=>e) trivial fun p hp=>rV1 hp (hr _ _))
mutual
theorem evE_ok:∀ (c:E) (e:Expr) (κ:Ct),SoundFn κ.X κ.n κ.Γ->isE κ.X.kn κ.env.scope c e=true->Snd κ c e
  | .var x,_,κ,_,h=>vName_inv (P:=Snd κ (.var x)) h fun _ hv hd1 hd2=>.plain rfl (fun _=>rfl) fun _ _=>Tri.name rfl hv hd1 hd2
  | .glob _,_,_,S,h=>glob_ok S h
  | .con c,_,κ,_,h=>onConstant_inv (P:=Snd κ (.con c)) h fun c' _ _ h=>and_k h fun h1 h2=>by cases eq_of_beq h1;exact .plain rfl (fun _=>rfl) fun _ _=>Tri.const h2
  | .bin op l r,_,κ,S,h=>onBinOp_inv (P:=Snd κ (.bin op l r)) h fun l' _ r' _ h=>and_k h fun h1 h2=>and_k h2 fun h3 h4=>by cases eq_of_beq h1;exact .bin (evE_ok l l' κ S h3) (evE_ok r r' κ S h4)
  | .neg a,_,κ,S,h=>onUnaryOp_inv (P:=Snd κ (.neg a)) h fun _ a' _ h=>and_k h fun h1 h2=>by cases eq_of_beq h1;exact .neg (evE_ok a a' κ S h2)
  | .not a,_,κ,S,h=>onUnaryOp_inv (P:=Snd κ (.not a)) h fun _ a' _ h=>and_k h fun h1 h2=>by cases eq_of_beq h1;exact .not (evE_ok a a' κ S h2)
  | .bo k es,_,κ,S,h=>onBoolOp_inv (P:=Snd κ (.bo k es)) h fun _ es' _ h=>and_k h fun h1 h2=>by cases eq_of_beq h1;exact .bo (evAll_ok es es' κ S h2)
  | .cmp l op r,_,κ,S,h=>isCm_inv (P:=Snd κ (.cmp l op r)) h fun l' r' _ h1 h2=>.cmp (evE_ok l l' κ S h1) (evE_ok r r' κ S h2)
  | .cmp2 l o1 m o2 r,_,κ,S,h=>onCompare_inv (P:=Snd κ (.cmp2 l o1 m o2 r)) h fun l' _ rs p h=>and_k h fun h1 h2=>and_k h2 fun h3 h4=>by cases eq_of_beq h1;exact two_inv (P:=fun rs=>Snd κ (.cmp2 l o1 m o2 r) (.Compare l' [cmOf o1,cmOf o2] rs p)) h4 fun m' r' h5 h6=>.cmp2 (evE_ok l l' κ S h3) (evE_ok m m' κ S h5) (evE_ok r r' κ S h6)
  | .call f args,_,κ,S,h=>onCall_inv (P:=Snd κ (.call f args)) h fun fn args' kws p h=>and_k h fun h1 h2=>and_k h2 fun h3 h4=>nil_k (P:=fun kws=>Snd κ (.call f args) (.Call fn args' kws p)) h1 (.call S h3 (evAll_ok args args' κ S h4).row)
  | .isinst a T,_,κ,S,h=>onCall_inv (P:=Snd κ (.isinst a T)) h fun fn args' kws p h=>and_k h fun h1 h2=>and_k h2 fun h3 h4=>nil_k (P:=fun kws=>Snd κ (.isinst a T) (.Call fn args' kws p)) h1 (two_inv (P:=fun args'=>Snd κ (.isinst a T) (.Call fn args' [] p)) h4 fun a' _ h5 h6=>.isinst h3 (evE_ok a a' κ S h5) h6)
  | .meth o m args,_,κ,S,h=>onCall_inv (P:=Snd κ (.meth o m args)) h fun fn args' kws p h=>and_k h fun h1 h2=>and_k h2 fun h3 h4=>and_k h4 fun h5 h6=>nil_k (P:=fun kws=>Snd κ (.meth o m args) (.Call fn args' kws p)) h1 (onAttribute_inv (P:=fun fn=>Snd κ (.meth o m args) (.Call fn args' [] p)) h3 fun o' _ _ h=>and_k h fun g1 g2=>and_k g2 fun g3 g4=>and_k g4 fun g5 g6=>by
      cases eq_of_beq g1;exact .meth (evE_ok o o' κ S g3) g5 g6 (evAll_ok args args' κ S h5).row (of_decide_eq_true h6))
  | .attr o a,_,κ,S,h=>onAttribute_inv (P:=Snd κ (.attr o a)) h fun o' _ _ h=>and_k h fun h1 h2=>and_k h2 fun h3 h4=>and_k h4 fun h5 h6=>by cases eq_of_beq h3;exact .attr (evE_ok o o' κ S h5) h1 h6
  | .idx o i,_,κ,S,h=>onSubscript_inv (P:=Snd κ (.idx o i)) h fun o' i' _ h=>and_k h fun h1 h2=>.idx (evE_ok o o' κ S h1) (evE_ok i i' κ S h2)
  | .slice o lo hi,_,κ,S,h=>onSubscript_inv (P:=Snd κ (.slice o lo hi)) h fun o' i' p h=>and_k h fun h1 h2=>onSlice_inv (P:=fun i'=>Snd κ (.slice o lo hi) (.Subscript o' i' p)) h2 fun l u _ q h=>and_k h fun h3 h4=>and_k h4 fun h5 h6=>none_k (P:=fun st=>Snd κ (.slice o lo hi) (.Subscript o' (.Slice l u st q) p)) h3 (.slice (evE_ok o o' κ S h1) (part_ok h5 fun e=>evE_ok lo e κ S) (part_ok h6 fun e=>evE_ok hi e κ S))
  | .list es,_,κ,S,h=>onList_inv (P:=Snd κ (.list es)) h fun es' _ h=>and_k h fun h1 h2=>.list (evAll_ok es es' κ S h1).row (of_decide_eq_true h2)
  | .tup es,_,κ,S,h=>onTuple_inv (P:=Snd κ (.tup es)) h fun es' _ _ h=>and_k h fun h1 h2=>.tup (evAll_ok es es' κ S h1).row (of_decide_eq_true h2)
  | .menu es i,_,κ,S,h=>onSubscript_inv (P:=Snd κ (.menu es i)) h fun _ i' p h=>and_k h fun h1 h2=>onList_inv (P:=fun o'=>Snd κ (.menu es i) (.Subscript o' i' p)) h1 fun es' _ h=>and_k h fun h3 h4=>.menu (evAll_ok es es' κ S h3).row (of_decide_eq_true h4) (evE_ok i i' κ S h2)
  | .comp0 elt _ it,_,κ,S,h=>(cp0_at h (fun e=>evE_ok it e κ S) fun scope cl C' e=>evE_ok elt e (κ.inn (compEnvC scope cl C' κ.env)) S).snd
  | .comp elt _ it l _ r,_,κ,S,h=>(cp_at h (fun e=>evE_ok it e κ S) (fun scope cl C' e=>evE_ok elt e (κ.inn (compEnvC scope cl C' κ.env)) S) (fun scope cl C' e=>evE_ok l e (κ.inn (compEnvC scope cl C' κ.env)) S) fun scope cl C' e=>evE_ok r e (κ.inn (compEnvC scope cl C' κ.env)) S).snd
  | .dict k,_,κ,_,h=>onDict_inv (P:=Snd κ (.dict k)) h fun ks vs p h=>and_k h fun h1 h2=>nil_k (P:=fun ks=>Snd κ (.dict k) (.Dict ks vs p)) h1 (nil_k (P:=fun vs=>Snd κ (.dict k) (.Dict [] vs p)) h2 .dict)
  | .fstr ps,_,κ,_,h=>onJoinedStr_inv (P:=Snd κ (.fstr ps)) h fun _ _ h=>and_k h fun h1 h2=>.fstr h1 (of_decide_eq_true h2)
  | .ite l op r a b,_,κ,S,h=>onIfExp_inv (P:=Snd κ (.ite l op r a b)) h fun t a' b' p h=>and_k h fun h1 h2=>and_k h2 fun h3 h4=>isCm_inv (P:=fun t=>Snd κ (.ite l op r a b) (.IfExp t a' b' p)) h1 fun l' r' _ h5 h6=>.ite (evE_ok l l' κ S h5) (evE_ok r r' κ S h6) (evE_ok a a' κ S h3) (evE_ok b b' κ S h4)
theorem evAll_ok:∀ (cs:List E) (es:List Expr) (κ:Ct),SoundFn κ.X κ.n κ.Γ->isEs κ.X.kn κ.env.scope cs es=true->AllS κ cs es
  | [],[],_,_,_=>.nil
  | [],_::_,_,_,h=>nomatch h
  | _::_,[],_,_,h=>ff h
  | c::cs,e::es,κ,S,h=>and_k h fun h1 h2=>.cons (evE_ok c e κ S h1) (evAll_ok cs es κ S h2)
end
noncomputable def isComp:E->Bool
  | .comp0 ..=>true
  | .comp ..=>true
  | _=>false
theorem comp_at' {κ:Ct} {c:E} {e:Expr} (S:SoundFn κ.X κ.n κ.Γ) (hc:isComp c=true) (h:isE κ.X.kn κ.env.scope c e=true):CpAt κ c e:=by
  have k1:∀ c,PartOk κ c:=fun c e=>evE_ok c e κ S
  have k2:∀ c,InnOk κ c:=fun c scope cl C' e=>evE_ok c e (κ.inn (compEnvC scope cl C' κ.env)) S
  cases c with
  | comp0 elt x it=>exact cp0_at h (k1 it) (k2 elt)
  | comp elt x it l op r=>exact cp_at h (k1 it) (k2 elt) (k2 l) (k2 r)
  | _=>exact ff hc
theorem lookup_setL (x:String) (v:V):∀ (ρ:Rho) (y:String),(setL x v ρ).lookup y=if y=x then some v else ρ.lookup y
  | [],y=>by
    simp only [setL,List.lookup_cons,List.lookup_nil]
    by_cases h:y=x
    · subst h;simp
    · have:(y==x)=false:=by simpa using h
      simp [this,h]
  | (z,w)::r,y=>by
    simp only [setL]
    split
    · rename_i hz
      subst hz
      simp only [List.lookup_cons]
      by_cases h:y=z
      · subst h;simp
      · have:(y==z)=false:=by simpa using h
        simp [this,h]
    · rename_i hz
      simp only [List.lookup_cons,lookup_setL x v r y]
      by_cases h:y=z
      · subst h;simp [hz]
      · have:(y==z)=false:=by simpa using h
        simp [this]
inductive NextS (κ:Ct) (η:List Addr) (s:Shared) (r:RS) (k:Rho->Hp->RS) (s':Shared):Prop
  | mk (ρ':Rho) (H':Hp) (e:r=k ρ' H') (p:Post κ.X (frs κ.st) (ownOf κ.env) η s H' (Ends κ.X κ.env ρ') s'):NextS κ η s r k s'
inductive RetS (κ:Ct) (η:List Addr) (s:Shared) (r:RS) (mv:Value) (s':Shared):Prop
  | mk (v:V) (H':Hp) (e:r=.ret v H') (p:Post κ.X (frs κ.st) (ownOf κ.env) η s H' (fun η' h'=>FrameOK κ.X η' h' κ.env/\VR κ.X η' h' v mv) s'):RetS κ η s r mv s'
inductive ExcS (κ:Ct) (η:List Addr) (s:Shared) (r:RS) (ev:Value) (s':Shared):Prop
  | mk (c:String) (ρ':Rho) (H':Hp) (e:r=.raise c ρ' H') (p:Post κ.X (frs κ.st) (ownOf κ.env) η s H' (fun η' h'=>Ends κ.X κ.env ρ' η' h'/\ExcAt κ.X κ.st s.heap ev c η' h') s'):ExcS κ η s r ev s'
noncomputable def OutS (κ:Ct) (η:List Addr) (s:Shared) (r:RS) (f:Flow) (s':Shared):Prop :=
  match f with
  | .next=>NextS κ η s r .next s'
  | .cont=>NextS κ η s r .cont s'
  | .brk=>False
  | .ret mv=>RetS κ η s r mv s'
noncomputable def TriS (κ:Ct) (vs:List (V×Value)) (m:Sem Flow) (ρ:Rho) (H:Hp) (r:RS):Prop :=
  r≠.stuck->∀ η s,At κ η ρ H s->(∀ p∈vs,VR κ.X η s.heap p.1 p.2)->wpAny κ.X.M κ.A m (OutS κ η s r) (ExcS κ η s r) s
section
variable {κ:Ct} {η η':List Addr} {ρ ρ':Rho} {H H':Hp} {s:Shared} {h':Heap} {vs:List (V×Value)}
theorem At.stepS (a:At κ η ρ H s) (x:Step (frs κ.st) (ownOf κ.env) η s.heap η' h') (i:Inv κ.X η' H' h') (e:Ends κ.X κ.env ρ' η' h') (tk:Nat):At κ η' ρ' H' { s with heap:=h',toks:=tk } :=
  ⟨i,e.1,e.2,a.stk.step x,a.room,a.hand⟩
theorem At.ends (a:At κ η ρ H s) (x:Step (frs κ.st) [] η s.heap η' h') (i:Inv κ.X η' H' h'):Ends κ.X κ.env ρ η' h':=let b:=a.step x i s.toks;⟨b.fok,b.rho⟩
theorem Step.up {fr own η η':List Addr} {h h':Heap} (x:Step fr [] η h η' h'):Step fr own η h η' h':=x.weak fun _ q=>nomatch q
theorem OutS.after {η1:List Addr} {h1:Heap} {tk:Nat} {r:RS} {s':Shared} {f:Flow} (x:Step (frs κ.st) (ownOf κ.env) η s.heap η1 h1) (o:OutS κ η1 { s with heap:=h1,toks:=tk } r f s'):OutS κ η s r f s':=by
  cases f with
  | next=>obtain ⟨ρ',H',e,P⟩:=o;exact ⟨ρ',H',e,P.trans x fun _ _ q=>q⟩
  | cont=>obtain ⟨ρ',H',e,P⟩:=o;exact ⟨ρ',H',e,P.trans x fun _ _ q=>q⟩
  | ret mv=>obtain ⟨v,H',e,P⟩:=o;exact ⟨v,H',e,P.trans x fun _ _ q=>q⟩
  | _=>exact o
theorem ExcS.after {η1:List Addr} {h1:Heap} {tk:Nat} {r:RS} {s':Shared} {ev:Value} (x:Step (frs κ.st) (ownOf κ.env) η s.heap η1 h1) (o:ExcS κ η1 { s with heap:=h1,toks:=tk } r ev s'):ExcS κ η s r ev s':=by
  obtain ⟨c,ρ',H',e,P⟩:=o
  exact ⟨c,ρ',H',e,P.trans x fun _ _ q=>⟨q.1,q.2.older x.alive⟩⟩
theorem At.frm (a:At κ η ρ H s):Frm s.heap (ownOf κ.env++frs κ.st):=a.fok.frm.of a.stk.frm
theorem RaiseAt.stmt {α:Type} {r:R α} {f:α->Hp->RS} {ev:Value} {s':Shared} (a:At κ η ρ H s) (x:RaiseAt κ.X κ.st η s r ev s'):ExcS κ η s (ofR ρ r f) ev s':=by
  obtain ⟨c,H',rfl,η',h',tk,rfl,i,st,q⟩:=x
  exact ⟨c,ρ,H',rfl,η',h',tk,rfl,i,st.up,a.ends st i,q⟩
theorem TriS.via {α β:Type} {m:Sem α} {m':Sem Flow} {W:α->(Flow->Shared->Prop)->(Value->Shared->Prop)->Shared->Prop} {r:R β} {rel:β->α->Prop×List (V×Value)} {f:β->Hp->RS}
    (hw:∀ Q E η s,At κ η ρ H s->wpAny κ.X.M κ.A m (fun a s1=>W a Q E s1) E s->wpAny κ.X.M κ.A m' Q E s) (h1:Tri κ ρ vs m H r rel)
    (h2:∀ b H1 a,r=.ok b H1->(rel b a).1->f b H1≠.stuck->∀ η s Q E,At κ η ρ H1 s->(∀ p∈vs++(rel b a).2,VR κ.X η s.heap p.1 p.2)->(∀ d s',OutS κ η s (f b H1) d s'->Q d s')->(∀ ev s',ExcS κ η s (f b H1) ev s'->E ev s')->W a Q E s):TriS κ vs m' ρ H (ofR ρ r f):=by
  intro hs η s a hv
  have hr:r≠.stuck:=by rintro rfl;exact hs rfl
  refine hw _ _ _ _ a (wpAny_mono (h1 hr η s a hv) (fun x s1 hx=>?_) fun ev s1 hx=>hx.stmt a)
  obtain ⟨b,H1,rfl,hrel,η1,h',tk,rfl,i,stp,hp⟩:=hx
  refine h2 b H1 x rfl hrel hs η1 _ _ _ (a.step stp i tk) (fun p hm=>?_) (fun d s' o=>o.after stp.up) fun ev s' o=>o.after stp.up
  rcases List.mem_append.mp hm with hm | hm
  · exact (hv p hm).up stp a.stk.frm
  · exact hp p hm
theorem TriS.expr {α β:Type} {m:Sem α} {k:α->Sem Flow} {r:R β} {rel:β->α->Prop×List (V×Value)} {f:β->Hp->RS} (h1:Tri κ ρ vs m H r rel)
    (h2:∀ b H1 a,r=.ok b H1->(rel b a).1->TriS κ (vs++(rel b a).2) (k a) ρ H1 (f b H1)):TriS κ vs (m >>= k) ρ H (ofR ρ r f) :=
  TriS.via (W:=fun a Q E s=>wpAny κ.X.M κ.A (k a) Q E s) (fun _ _ _ _ _ q=>wpAny_bind q) h1 fun b H1 a e q hs η s Q E at' hv hq he=>wpAny_mono (h2 b H1 a e q hs η s at' hv) hq he
theorem TriS.stuck {m:Sem Flow}:TriS κ vs m ρ H .stuck:=fun h=>absurd rfl h
theorem TriS.opt {σ:Type} {m:Sem Flow} {o:Option σ} {f:σ->RS} (h:∀ x,o=some x->TriS κ vs m ρ H (f x)):TriS κ vs m ρ H (optS o f):=by
  cases o with
  | none=>exact TriS.stuck
  | some x=>exact h x rfl
theorem TriS.ifp {m:Sem Flow} {c:Prop} [Decidable c] {r:RS} (h:c->TriS κ vs m ρ H r):TriS κ vs m ρ H (ifS c r):=by
  unfold ifS
  split
  · exact h ‹_›
  · exact TriS.stuck
theorem TriS.hdn {m:Sem Flow} {r:RS} (h:κ.Γ.hd=false->TriS κ vs m ρ H r):TriS κ vs m ρ H (hdS κ.Γ r):=by
  cases hd:κ.Γ.hd with
  | true=>unfold hdS;rw [hd];exact TriS.stuck
  | false=>rw [hdS_of hd];exact h hd
theorem TriS.skip {α:Type} {m:Sem α} {k:α->Sem Flow} {r:RS} {a₀:α} (hm:∀ (Q:α->Shared->Prop) (E:Value->Shared->Prop) (s:Shared),Q a₀ s->wpAny κ.X.M κ.A m Q E s)
    (h:TriS κ vs (k a₀) ρ H r):TriS κ vs (m >>= k) ρ H r:=fun hs η s a hv=>wpAny_bind (hm _ _ _ (h hs η s a hv))
theorem TriS.stand {pos:Pos} {k:Unit->Sem Flow} {r:RS} (h:TriS κ vs (k ()) ρ H r):TriS κ vs (standAt pos >>= k) ρ H r:=TriS.skip (a₀:=()) (fun _ _ _ q=>wpAny_standAt q) h
theorem nextS (a:At κ η ρ H s):OutS κ η s (.next ρ H) .next s:=⟨ρ,H,rfl,η,s.heap,s.toks,rfl,a.inv,Step.refl _ _ _ _,a.fok,a.rho⟩
theorem TriS.next:TriS κ vs (Pure.pure .next) ρ H (.next ρ H):=fun _ η s a _=>wpAny_pure (nextS a)
theorem TriS.ret {v:V} {m:Value} (hm:(v,m)∈vs):TriS κ vs (Pure.pure (.ret m)) ρ H (.ret v H):=fun _ η s a hv=>wpAny_pure ⟨v,H,rfl,η,s.heap,s.toks,rfl,a.inv,Step.refl _ _ _ _,a.fok,hv _ hm⟩
theorem TriS.any {m:Sem Flow} {r:RS} (h:TriS κ [] m ρ H r):TriS κ vs m ρ H r:=fun hs η s a _=>h hs η s a fun _ q=>nomatch q
noncomputable def isSt (sc:Scope) (x:Str):Bool:=match sc.names.lookup x with
  | some .local | some .cell=>true
  | _=>false
theorem wpAny_store {x:String} {v:V} {mv:Value} {Q:Unit->Shared->Prop} {E:Value->Shared->Prop} (a:At κ η ρ H s) (hx:isSt κ.env.scope (Str.ofString x)=true) (hv:VR κ.X η s.heap v mv)
    (hq:∀ h' tk,Step (frs κ.st) (ownOf κ.env) η s.heap η h'->Inv κ.X η H h'->Ends κ.X κ.env (setL x v ρ) η h'->Q () { s with heap:=h',toks:=tk }):wpAny κ.X.M κ.A (storeName κ.env (Str.ofString x) mv) Q E s:=by
  have kind:κ.env.kindOf (Str.ofString x)=some .local\/κ.env.kindOf (Str.ofString x)=some .cell:=by
    unfold isSt at hx
    unfold Env.kindOf
    split at hx
    · exact .inl ‹_›
    · exact .inr ‹_›
    · cases hx
  have stp:∀ {c:Addr} {h':Heap},c∈ownOf κ.env->Heap.SameBut c s.heap h'->(∀ o,s.heap.get? c=some o->∀ es n,o.data=.dict es n->∃ o' es' n',h'.get? c=some o'/\o'.data=.dict es' n') ->
      (∀ o,s.heap.get? c=some o->∀ v,o.data=.cell v->∃ o' v',h'.get? c=some o'/\o'.data=.cell v')->Step (frs κ.st) (ownOf κ.env) η s.heap η h':=by
    intro c h' hc hsb hd1 hc1
    have alive:∀ b o,s.heap.get? b=some o->∃ o',h'.get? b=some o':=by
      intro b o e
      by_cases hb:b=c
      · subst hb
        obtain ⟨o2,e2,q⟩:=a.fok.frm b hc
        rw [e] at e2;cases e2
        rcases q with ⟨es,k,d⟩ | ⟨w,d⟩
        · obtain ⟨o',_,_,e',_⟩:=hd1 o e es k d;exact ⟨o',e'⟩
        · obtain ⟨o',_,e',_⟩:=hc1 o e w d;exact ⟨o',e'⟩
      · exact ⟨o,(hsb.2 b hb).trans e⟩
    refine ⟨⟨[],by simp,fun _ q=>nomatch q⟩,alive,fun b o e _ ho=>⟨o.slots,(hsb.2 b (fun q=>ho (q▸hc))).trans e,fun _=>rfl⟩,fun b o e _ es k d=>?_,fun b o e _ w d=>?_⟩
    · by_cases hb:b=c
      · subst hb;exact hd1 o e es k d
      · exact ⟨o,es,k,(hsb.2 b hb).trans e,d⟩
    · by_cases hb:b=c
      · subst hb;exact hc1 o e w d
      · exact ⟨o,w,(hsb.2 b hb).trans e,d⟩
  have inv:∀ {c:Addr} {h':Heap},c∈ownOf κ.env->Heap.SameBut c s.heap h'->Step (frs κ.st) (ownOf κ.env) η s.heap η h'->Inv κ.X η H h':=fun hc hsb x =>
    a.inv.still x a.frm (fun b hb o e=>(hsb.2 b (fun q=>(a.fok.off _ hc).1 (q▸hb))).trans e) fun b hb=>(List.mem_append.mp hb).elim (fun q=>(a.fok.off b q).2) (a.stk.fresh b)
  rcases kind with hk | hk
  · obtain ⟨m,hn⟩:=a.fok.ns
    refine wpAny_storeName_local hk hn (fun h' hn' hsb=>?_) (by rw [a.fok.kind];rfl)
    have hc:κ.env.locals∈ownOf κ.env:=List.Mem.head _
    have x1:=stp hc hsb (fun o e es k d=>by
        obtain ⟨o',es',k',e',d',_⟩:=hn'
        exact ⟨o',es',k',e',d'⟩) (fun o e w d=>by
        obtain ⟨o',es',k',e',d',_⟩:=hn
        rw [e] at e';cases e';rw [d] at d';cases d')
    have cel:∀ p∈κ.env.cells,p.2≠κ.env.locals:=fun p hp q=>by
      obtain ⟨o,w,e,d⟩:=a.fok.cell p hp
      obtain ⟨o',es',k',e',d',_⟩:=hn
      rw [q,e'] at e;cases e;rw [d'] at d;cases d
    refine hq h' _ x1 (inv hc hsb x1) ⟨⟨a.fok.kind,a.fok.glob,a.fok.blt,⟨_,hn'⟩,fun p hp=>?_,a.fok.cells,a.fok.inj,a.fok.off⟩,fun y u e hy=>?_⟩
    · obtain ⟨o,w,e,d⟩:=a.fok.cell p hp
      exact ⟨o,w,(hsb.2 _ (cel p hp)).trans e,d⟩
    · rw [lookup_setL] at e
      by_cases hyx:y=x
      · subst hyx
        rw [if_pos rfl] at e;cases e
        exact ⟨mv,.inl ⟨hk,_,hn',by simp⟩,hv.step x1 a.frm⟩
      · rw [if_neg hyx] at e
        obtain ⟨mu,hh,ru⟩:=a.rho y u e hy
        refine ⟨mu,?_,ru.step x1 a.frm⟩
        rcases hh with ⟨hk2,m2,hn2,hm2⟩ | ⟨hk2,c,o,hc2,g,d⟩
        · refine .inl ⟨hk2,_,hn',?_⟩
          have:Str.ofString y≠Str.ofString x:=fun q=>hyx (ofString_inj q)
          rw [if_neg this]
          obtain ⟨o1,es1,k1,e1,d1,_,f1⟩:=hn
          obtain ⟨o2,es2,k2,e2,d2,_,f2⟩:=hn2
          rw [e1] at e2;cases e2;rw [d1] at d2;cases d2
          rw [<- f1,f2];exact hm2
        · exact .inr ⟨hk2,c,o,hc2,(hsb.2 _ (cel (_,c) (lookup_mem hc2))).trans g,d⟩
  · obtain ⟨c,hc⟩:=a.fok.cells _ hk
    obtain ⟨o0,w0,e0,d0⟩:=a.fok.cell _ (lookup_mem hc)
    have hco:c∈ownOf κ.env:=List.mem_cons.mpr (.inr (List.mem_map.mpr ⟨(Str.ofString x,c),lookup_mem hc,rfl⟩))
    refine wpAny_storeName_cell a.fok.kind hk hc ⟨o0,e0,d0⟩ fun h' hcl hsb=>?_
    have x1:=stp hco hsb (fun o e es k d=>by rw [e] at e0;cases e0;rw [d] at d0;cases d0) (fun o e w d=>by
      obtain ⟨o',e',d'⟩:=hcl
      exact ⟨o',_,e',d'⟩)
    have loc:κ.env.locals≠c:=fun q=>by
      obtain ⟨m,o',es',k',e',d',_⟩:=a.fok.ns
      rw [q,e0] at e';cases e';rw [d0] at d';cases d'
    refine hq h' s.toks x1 (inv hco hsb x1) ⟨⟨a.fok.kind,a.fok.glob,a.fok.blt,?_,fun p hp=>?_,a.fok.cells,a.fok.inj,a.fok.off⟩,fun y u e hy=>?_⟩
    · obtain ⟨m,hn⟩:=a.fok.ns
      exact ⟨m,hn.sameBut hsb loc⟩
    · by_cases hp2:p.2=c
      · obtain ⟨o',e',d'⟩:=hcl
        exact ⟨o',_,hp2▸e',d'⟩
      · obtain ⟨o,w,e,d⟩:=a.fok.cell p hp
        exact ⟨o,w,(hsb.2 _ hp2).trans e,d⟩
    · rw [lookup_setL] at e
      by_cases hyx:y=x
      · subst hyx
        rw [if_pos rfl] at e;cases e
        obtain ⟨o',e',d'⟩:=hcl
        exact ⟨mv,.inr ⟨.inl hk,c,o',hc,e',d'⟩,hv.step x1 a.frm⟩
      · rw [if_neg hyx] at e
        obtain ⟨mu,hh,ru⟩:=a.rho y u e hy
        refine ⟨mu,?_,ru.step x1 a.frm⟩
        rcases hh with ⟨hk2,m2,hn2,hm2⟩ | ⟨hk2,c2,o,hc2,g,d⟩
        · exact .inl ⟨hk2,m2,hn2.sameBut hsb loc,hm2⟩
        · have:c2≠c:=fun q=>hyx (ofString_inj (a.fok.inj _ _ c (q▸hc2) hc))
          exact .inr ⟨hk2,c2,o,hc2,(hsb.2 _ this).trans g,d⟩
theorem TriS.store {x:String} {v:V} {mv:Value} {k:Unit->Sem Flow} {r:RS} (hm:(v,mv)∈vs) (hx:isSt κ.env.scope (Str.ofString x)=true)
    (h:TriS κ vs (k ()) (setL x v ρ) H r):TriS κ vs (bindName κ.env (Str.ofString x) mv >>= k) ρ H r:=by
  intro hs η s a hv
  refine wpAny_bind (wpAny_bindName (wpAny_store a hx (hv _ hm) fun h' tk x1 i e=>?_))
  exact wpAny_mono (h hs η _ (a.stepS x1 i e tk) fun p hp=>(hv p hp).step x1 a.frm) (fun y s2 hy=>hy.after x1) fun _ _ hy=>hy.after x1
theorem TriS.seq {st1:Stmt} {rest:List Stmt} {r1:RS} {k:Rho->Hp->RS} (h1:TriS κ vs (exec st1 κ.env) ρ H r1)
    (h2:∀ ρ1 H1,r1=.next ρ1 H1->TriS κ [] (execs rest κ.env) ρ1 H1 (k ρ1 H1)):TriS κ vs (execs (st1::rest) κ.env) ρ H (r1.bind k):=by
  intro hs η s a hv
  have hs1:r1≠.stuck:=by rintro rfl;exact hs rfl
  refine wpAny_execs_cons (wpAny_mono (h1 hs1 η s a hv) (fun f s1 hf=>?_) fun ev s1 hx=>by obtain ⟨c,ρ',H',rfl,P⟩:=hx;exact ⟨c,ρ',H',rfl,P⟩)
  cases f with
  | next =>
    obtain ⟨ρ1,H1,rfl,η1,h',tk,rfl,i,x1,en⟩:=hf
    exact wpAny_mono (h2 ρ1 H1 rfl hs η1 _ (a.stepS x1 i en tk) fun _ q=>nomatch q) (fun y s2 hy=>hy.after x1) fun _ _ hy=>hy.after x1
  | ret mv=>obtain ⟨v,H1,rfl,P⟩:=hf;exact ⟨v,H1,rfl,P⟩
  | cont=>obtain ⟨ρ1,H1,rfl,P⟩:=hf;exact ⟨ρ1,H1,rfl,P⟩
  | _=>exact hf
end
structure Soft (fr es:List Addr) (h h':Heap):Prop where
  same:∀ b o,h.get? b=some o->b∉es->b∉fr->h'.get? b=some o
  slots:∀ b o,h.get? b=some o->b∉es->b∈fr->∃ sl,h'.get? b=some { o with slots:=sl }
  exc:∀ b∈es,∃ o fs,h.get? b=some o/\o.data=.fields fs/\o.cls≠.type "range"/\∃ fs',h'.get? b=some { o with data:=.fields fs' }
theorem Soft.refl (fr:List Addr) (h:Heap):Soft fr [] h h:=⟨fun _ _ e _ _=>e,fun _ o e _ _=>⟨o.slots,e⟩,fun _ q=>nomatch q⟩
theorem Soft.more {fr es es':List Addr} {h h':Heap} (x:Soft fr es h h') (he:∀ b∈es,b∈es') (hf:∀ b∈es',b∉fr/\∃ o fs,h.get? b=some o/\o.data=.fields fs/\o.cls≠.type "range"):Soft fr es' h h':=by
  refine ⟨fun b o e hb hf'=>x.same b o e (fun q=>hb (he b q)) hf',fun b o e hb hf'=>x.slots b o e (fun q=>hb (he b q)) hf',fun b hb=>?_⟩
  by_cases q:b∈es
  · exact x.exc b q
  · obtain ⟨hn,o,fs,e,d,c⟩:=hf b hb
    exact ⟨o,fs,e,d,c,fs,by rw [x.same b o e q hn];cases o;simp only at d;subst d;rfl⟩
theorem Soft.trans {fr es:List Addr} {h h1 h2:Heap} (x:Soft fr es h h1) (y:Soft fr es h1 h2):Soft fr es h h2:=by
  refine ⟨fun b o e hb hf=>y.same b o (x.same b o e hb hf) hb hf,fun b o e hb hf=>?_,fun b hb=>?_⟩
  · obtain ⟨sl,e1⟩:=x.slots b o e hb hf
    obtain ⟨sl2,e2⟩:=y.slots b _ e1 hb hf
    exact ⟨sl2,e2⟩
  · obtain ⟨o,fs,e,d,c,fs',e1⟩:=x.exc b hb
    obtain ⟨o1,fs1,e2,d2,c2,fs2,e3⟩:=y.exc b hb
    rw [e1] at e2;cases e2
    exact ⟨o,fs,e,d,c,fs2,e3⟩
theorem Soft.of_slots {fr:List Addr} {h h':Heap} (x:Heap.SlotsOnly fr h h'):Soft fr [] h h' :=
  ⟨fun b o e _ hf=>(x.2.1 b hf).trans e,fun b o e _ _=>x.2.2 b o e,fun _ q=>nomatch q⟩
theorem Soft.push (fr:List Addr) (h:Heap) (o:Obj):Soft fr [] h (h.push o):=⟨fun b o' e _ _=>push_keeps h o b o' e,fun b o' e _ _=>⟨o'.slots,push_keeps h o b o' e⟩,fun _ q=>nomatch q⟩
theorem Soft.field {fr:List Addr} {h:Heap} {a:Addr} {o:Obj} {fs:Array Value} (e:h.get? a=some o) (d:o.data=.fields fs) (c:o.cls≠.type "range") (f:Array Value->Array Value):Soft fr [a] h (h.update a (Obj.mapFields f)):=by
  have ne:∀ b,b∉[a]->(h.update a (Obj.mapFields f)).get? b=h.get? b:=fun b hb=>Heap.get?_update_other _ _ (fun q=>hb (by rw [q];exact List.Mem.head _))
  refine ⟨fun b o' e' hb _=>(ne b hb).trans e',fun b o' e' hb _=>⟨o'.slots,(ne b hb).trans e'⟩,fun b hb=>?_⟩
  rw [List.mem_singleton] at hb;subst hb
  refine ⟨o,fs,e,d,c,f fs,?_⟩
  rw [Heap.get?_update_self _ e (Obj.isFreed_of_fields (Obj.data_mapFields d f))]
  obtain ⟨oc,od,dt,sl⟩:=o
  simp only at d;subst d;rfl
section
variable {X:Cx} {fr es η:List Addr} {h h':Heap} {H:Hp}
theorem Soft.alive (x:Soft fr es h h'):∀ b o,h.get? b=some o->∃ o',h'.get? b=some o':=fun b o e=>by
  by_cases h1:b∈es
  · obtain ⟨_,_,_,_,_,_,q⟩:=x.exc b h1;exact ⟨_,q⟩
  · by_cases h2:b∈fr
    · obtain ⟨_,q⟩:=x.slots b o e h1 h2;exact ⟨_,q⟩
    · exact ⟨o,x.same b o e h1 h2⟩
theorem Soft.not_es (x:Soft fr es h h') {b:Addr} {o:Obj} (e:h.get? b=some o) (hd:∀ fs,o.data≠.fields fs):b∉es:=fun q=>by
  obtain ⟨o',fs,e',d,_⟩:=x.exc b q
  rw [e] at e';cases e';exact hd fs d
theorem Soft.holds (x:Soft fr es h h') (f:Frm h fr):Holds η h η h':=by
  refine ⟨fun a o e hn hs=>⟨x.same a o e (fun q=>?_) (f.not e ?_),hn⟩⟩
  · obtain ⟨o',fs,e',d,c,_⟩:=x.exc a q
    rw [e] at e';cases e'
    rcases hs with ⟨xs,n,d'⟩ | ⟨c',_⟩
    · rw [d] at d';cases d'
    · exact c c'
  · rcases hs with ⟨xs,n,d⟩ | ⟨_,fs,d⟩ <;> rw [d] <;> exact ⟨fun _ _ q=>(nomatch q),fun _ q=>(nomatch q)⟩
theorem Soft.vr (x:Soft fr es h h') (f:Frm h fr) {v:V} {m:Value} (r:VR X η h v m):VR X η h' v m:=r.map ⟨[],(List.append_nil _).symm⟩ (x.holds f)
theorem Soft.inv (x:Soft fr es h h') (f:Frm h fr) (i:Inv X η H h) (hb:∀ b∈es,X.base.get? b=Option.none) (hfb:∀ b∈fr,X.base.get? b=Option.none) (hη:∀ b∈fr,b∉η):Inv X η H h':=by
  refine ⟨fun b o e=>x.same b o (i.keep b o e) (fun q=>by rw [hb b q] at e;cases e) (fun q=>by rw [hfb b q] at e;cases e),i.len,i.fresh,i.nodup,fun n a o ha ho=>?_⟩
  obtain ⟨ob,e,r⟩:=i.objs n a o ha ho
  refine ⟨ob,x.same a ob e (x.not_es e fun fs q=>?_) (fun q=>hη a q (List.mem_of_getElem? ha)),r.map ⟨[],(List.append_nil _).symm⟩ (x.holds f)⟩
  cases r with
  | keys d _ _=>obtain ⟨_,_,_,hd,_⟩:=d;rw [q] at hd;cases hd
  | _=>cases q
theorem Soft.step {own η0:List Addr} {h0:Heap} (x:Soft fr es h h') (f:Frm h fr) (s:Step fr own η0 h0 η h) (hes:∀ b∈es,h0.get? b=Option.none):Step fr own η0 h0 η h':=by
  have ne:∀ b o,h0.get? b=some o->b∉es:=fun b o e q=>by rw [hes b q] at e;cases e
  have kd:∀ b o,h.get? b=some o->b∉es->∃ sl,h'.get? b=some { o with slots:=sl }:=fun b o e hb=>by
    by_cases h2:b∈fr
    · exact x.slots b o e hb h2
    · exact ⟨o.slots,x.same b o e hb h2⟩
  refine ⟨s.pre,fun b o e=>let ⟨o1,e1⟩:=s.alive b o e;x.alive b o1 e1,fun b o e hb ho=>?_,fun b o e hb es' k d=>?_,fun b o e hb v d=>?_⟩
  · obtain ⟨sl,e1,q⟩:=s.data b o e hb ho
    by_cases hf:b∈fr
    · obtain ⟨sl2,e2⟩:=x.slots b _ e1 (ne b o e) hf
      exact ⟨sl2,e2,fun z=>absurd hf z⟩
    · exact ⟨sl,x.same b _ e1 (ne b o e) hf,q⟩
  · obtain ⟨o1,es1,k1,e1,d1⟩:=s.dicts b o e hb es' k d
    obtain ⟨sl,e2⟩:=kd b o1 e1 (ne b o e)
    exact ⟨_,es1,k1,e2,d1⟩
  · obtain ⟨o1,v1,e1,d1⟩:=s.cells b o e hb v d
    obtain ⟨sl,e2⟩:=kd b o1 e1 (ne b o e)
    exact ⟨_,v1,e2,d1⟩
theorem Soft.frm {l:List Addr} (x:Soft fr es h h') (f:Frm h l):Frm h' l:=by
  intro b hb
  obtain ⟨o,e,q⟩:=f b hb
  have hn:b∉es:=x.not_es e fun fs z=>by rcases q with ⟨_,_,q⟩ | ⟨_,q⟩ <;> (rw [z] at q;cases q)
  by_cases h2:b∈fr
  · obtain ⟨sl,e2⟩:=x.slots b o e hn h2
    exact ⟨_,e2,q⟩
  · exact ⟨o,x.same b o e hn h2,q⟩
theorem Soft.data (x:Soft fr es h h') {b:Addr} {o:Obj} (e:h.get? b=some o) (hn:∀ fs,o.data≠.fields fs):∃ sl,h'.get? b=some { o with slots:=sl }:=by
  have hb:=x.not_es e hn
  by_cases h2:b∈fr
  · exact x.slots b o e hb h2
  · exact ⟨o.slots,x.same b o e hb h2⟩
theorem Soft.ends {env:Env} {ρ:Rho} (x:Soft fr es h h') (f:Frm h fr) (e:Ends X env ρ η h):Ends X env ρ η h':=by
  have ns:∀ {m:Str->Option Value},h.Ns env.locals m->h'.Ns env.locals m:=fun {m} ⟨o,es,ep,e,d,r⟩=>by
    obtain ⟨sl,e'⟩:=x.data e (fun fs q=>by rw [d] at q;cases q)
    exact ⟨_,es,ep,e',d,r⟩
  have cl:∀ {c:Addr} {o:Obj} {v:Option Value},h.get? c=some o->o.data=.cell v->∃ o',h'.get? c=some o'/\o'.data=.cell v:=fun {c o v} e d=>by
    obtain ⟨sl,e'⟩:=x.data e (fun fs q=>by rw [d] at q;cases q)
    exact ⟨_,e',d⟩
  obtain ⟨fo,ro⟩:=e
  refine ⟨⟨fo.kind,fo.glob,fo.blt,let ⟨m,hn⟩:=fo.ns;⟨m,ns hn⟩,fun p hp=>let ⟨o,v,e,d⟩:=fo.cell p hp;let ⟨o',e',d'⟩:=cl e d;⟨o',v,e',d'⟩,fo.cells,fo.inj,fo.off⟩,fun y v ey hy=>?_⟩
  obtain ⟨mv,hh,r⟩:=ro y v ey hy
  refine ⟨mv,?_,x.vr f r⟩
  rcases hh with ⟨hk,m,hn,hm⟩ | ⟨hk,c,o,hc,g,d⟩
  · exact .inl ⟨hk,m,ns hn,hm⟩
  · obtain ⟨o',e',d'⟩:=cl g d
    exact .inr ⟨hk,c,o',hc,e',d'⟩
theorem Soft.stk {A:Around} {st:List Env} (x:Soft (frs st) es h h') (k:Stk X η A st h):Stk X η A st h' :=
  ⟨k.frames,k.ok.of_keeps fun b o e hn=>let ⟨sl,e'⟩:=x.data e hn;⟨_,e',rfl⟩,k.off,x.frm k.frm⟩
end
theorem dict_mapFields (f:Array Value->Array Value) (o:Obj):(Obj.mapFields f o).dict=o.dict:=by
  unfold Obj.mapFields;split <;> rfl
inductive TracedX (X:Cx) (h0:Heap) (e:Addr) (c:String) (T:Addr) (fl:Value) (η:List Addr) (h:Heap):Prop
  | mk (oe:Obj) (vs:Array Value) (C:Addr) (oT:Obj) (ts:Array Value) (q1:h.get? e=some oe) (q2:ExCls X c C) (q3:ObjCls oe C) (q4:oe.data=.fields vs) (q5:e∉η) (q6:h0.get? e=Option.none) (q7:4 < vs.size)
    (q8:vs[1]?=some (.ref T)) (q9:T≠e) (q10:h.get? T=some oT) (q11:oT.cls=.type "traceback") (q12:oT.data=.fields ts) (q13:T∉η) (q14:h0.get? T=Option.none) (q15:ts[3]?=some fl):TracedX X h0 e c T fl η h
theorem TracedX.exc {X:Cx} {st:List Env} {h0 h:Heap} {e T:Addr} {c:String} {fl:Value} {η:List Addr} (x:TracedX X h0 e c T fl η h) (hf:fl=.none\/∃ L,(frs st).head?=some L/\fl=rawInt L):ExcAt X st h0 (.ref e) c η h:=by
  obtain ⟨oe,vs,C,oT,ts,q1,q2,q3,q4,q5,q6,q7,q8,q9,q10,q11,q12,q13,q14,q15⟩:=x
  exact ⟨e,oe,vs,C,rfl,q1,q2,q3,q4,q5,q6,q7,.inr ⟨T,oT,ts,fl,q8,q9,q10,q11,q12,q13,q14,q15,hf⟩⟩
section
variable {X:Cx} {A:Around} {env:Env} {outer:List Env} {η:List Addr} {s:Shared} {h0:Heap} {ev:Value} {c:String} {L:Addr}
theorem wpAny_note {E:Value->Shared->Prop} {Q:Unit->Shared->Prop} (hf:env.frame=some L) (k:Stk X η A (env::outer) s.heap) (hη:∀ a∈η,∃ o,s.heap.get? a=some o) (x:ExcAt X (env::outer) h0 ev c η s.heap)
    (h0k:∀ b o,h0.get? b=some o->∃ o',s.heap.get? b=some o')
    (hq:∀ h' e T es,ev=.ref e->Soft (frs (env::outer)) es s.heap h'->(∀ b∈es,h0.get? b=Option.none)->TracedX X h0 e c T (rawInt L) η h'->Q () { s with heap:=h' }):wpAny X.M A (noteFrame ev env) Q E s:=by
  obtain ⟨e,oe,vs,C,rfl,ge,hC,ce,de,ne,fe,sz,hx⟩:=x
  have hL:(frs (env::outer)).head?=some L:=by unfold frs;rw [List.filterMap_cons,hf];rfl
  have efr:e∉frs (env::outer):=k.frm.not ge ⟨fun es n q=>(by rw [de] at q;cases q),fun v q=>(by rw [de] at q;cases q)⟩
  have cer:oe.cls≠.type "range":=by rw [ce.1];intro q;cases q
  -- a new entry
  have entry:∀ (s1:Shared) (head:Value) (hadNext:Bool) (es:List Addr) (oe1:Obj) (vs1:Array Value),s1={ s with heap:=s1.heap }->Soft (frs (env::outer)) es s.heap s1.heap->(∀ b∈es,h0.get? b=Option.none/\b∉frs (env::outer))->s1.heap.get? e=some oe1->oe1.cls=oe.cls/\oe1.dict=oe.dict->oe1.data=.fields vs1->vs1.size=vs.size ->
      wpAny X.M A (do let a <- frameOf env;let pl <- entryPlaceOf L hadNext;let b <- EntryCells.newEntry head a .none (rawInt L) .none pl;setField (.ref e) 1 b) Q E s1:=by
    intro s1 head hadNext es oe1 vs1 hs1 sf hes ge1 ce1 de1 sz1
    have k1:=sf.stk k
    refine wpAny_bind (wpAny_frameOf_fun k1.frames k1.ok hf fun h₁ hs₁=>?_)
    refine wpAny_bind (wpAny_entryPlaceOf fun pl hpl=>?_)
    unfold EntryCells.newEntry newFields
    refine wpAny_bind (wpAny_newObj_type ?_ (hpl.sizeOk5 _ _ _ _ _))
    have he₁:h₁.get? e=some oe1:=(hs₁.2.1 e efr).trans ge1
    generalize hob:({ cls:=.type "traceback",dict:=none,data:=.fields ([head,.ref L,.none,rawInt L,.none]++(if pl.isEmpty then List.replicate 6 Value.none else pl)).toArray }:Obj)=ob
    have he₂:=Heap.get?_push_of_some (h:=h₁) ob he₁
    refine wpAny_setField he₂ de1 (by omega) ?_
    have hTe:h₁.objs.size≠e:=Nat.ne_of_gt (Heap.lt_size he₁)
    have free:ob.isFreed=false:=by subst hob;rfl
    have sf2:Soft (frs (env::outer)) [e] s1.heap ((h₁.push ob).update e (Obj.mapFields (·.setIfInBounds 1 (.ref h₁.objs.size)))):=by
      have a1:=(Soft.of_slots hs₁).more (es':=[e]) (fun _ q=>nomatch q) (fun b hb=>by rw [List.mem_singleton] at hb;subst hb;exact ⟨efr,oe1,vs1,ge1,de1,by rw [ce1.1];exact cer⟩)
      have a2:=(Soft.push (frs (env::outer)) h₁ ob).more (es':=[e]) (fun _ q=>nomatch q) (fun b hb=>by rw [List.mem_singleton] at hb;subst hb;exact ⟨efr,oe1,vs1,he₁,de1,by rw [ce1.1];exact cer⟩)
      exact (a1.trans a2).trans (Soft.field he₂ de1 (by rw [ce1.1];exact cer) _)
    have alive1:∀ b o,s.heap.get? b=some o->∃ o',h₁.get? b=some o':=fun b o q=>by
      obtain ⟨o1,q1⟩:=sf.alive b o q
      obtain ⟨sl,q2⟩:=hs₁.2.2 b o1 q1
      exact ⟨_,q2⟩
    have Tnew:∀ b o,s.heap.get? b=some o->h₁.objs.size≠b:=fun b o q=>by
      obtain ⟨o',q'⟩:=alive1 b o q
      exact Nat.ne_of_gt (Heap.lt_size q')
    have comb:Soft (frs (env::outer)) (e::es) s.heap ((h₁.push ob).update e (Obj.mapFields (·.setIfInBounds 1 (.ref h₁.objs.size)))):=by
      have q0:∀ b∈e::es,b∉frs (env::outer)/\∃ o fs,s.heap.get? b=some o/\o.data=.fields fs/\o.cls≠.type "range":=fun b hb=>by
        rcases List.mem_cons.mp hb with rfl | hb
        · exact ⟨efr,oe,vs,ge,de,cer⟩
        · obtain ⟨o,fs,g,d,cc,_⟩:=sf.exc b hb
          exact ⟨(hes b hb).2,o,fs,g,d,cc⟩
      have q1:∀ b∈e::es,b∉frs (env::outer)/\∃ o fs,s1.heap.get? b=some o/\o.data=.fields fs/\o.cls≠.type "range":=fun b hb=>by
        rcases List.mem_cons.mp hb with rfl | hb
        · exact ⟨efr,oe1,vs1,ge1,de1,by rw [ce1.1];exact cer⟩
        · obtain ⟨o,fs,g,d,cc,fs',g'⟩:=sf.exc b hb
          exact ⟨(hes b hb).2,_,fs',g',rfl,cc⟩
      exact (sf.more (fun b hb=>List.mem_cons.mpr (.inr hb)) q0).trans (sf2.more (fun b hb=>by rw [List.mem_singleton] at hb;subst hb;exact List.Mem.head _) q1)
    rw [hs1]
    refine hq _ e h₁.objs.size (e::es) rfl comb (fun b hb=>?_) ?_
    · rcases List.mem_cons.mp hb with rfl | hb
      · exact fe
      · exact (hes b hb).1
    · refine ⟨_,_,C,ob,_,Heap.get?_update_self _ he₂ (Obj.isFreed_of_fields (Obj.data_mapFields de1 _)),hC,⟨(Obj.cls_mapFields _ _).trans (ce1.1.trans ce.1),(dict_mapFields _ _).trans (ce1.2.trans ce.2)⟩,Obj.data_mapFields de1 _,ne,fe,?_,?_,hTe,?_,by subst hob;rfl,by subst hob;rfl,?_,?_,rfl⟩
      · rw [Array.size_setIfInBounds,sz1];exact sz
      · rw [Array.getElem?_setIfInBounds_self_of_lt (by omega)]
      · exact (Heap.get?_update_other _ _ (Ne.symm hTe)).trans (Heap.get?_push_size _ free)
      · intro q
        obtain ⟨o,g⟩:=hη _ q
        exact Tnew _ o g rfl
      · cases g:h0.get? h₁.objs.size with
        | none=>rfl
        | some o=>obtain ⟨o',g'⟩:=h0k _ o g;exact absurd rfl (Tnew _ o' g')
  unfold noteFrame
  simp only [hf]
  rcases hx with h1 | ⟨T,oT,ts,fl,h1,hTe,gT,cT,dT,nT,fT,h3,hfl⟩
  · refine wpAny_bind (wpAny_field ge de h1 ?_)
    rw [if_neg (by decide)]
    exact entry s .none false [] oe vs rfl ((Soft.refl _ _)) (fun _ q=>nomatch q) ge ⟨rfl,rfl⟩ de rfl
  · refine wpAny_bind (wpAny_field ge de h1 ?_)
    rw [if_pos (show (Value.ref T != Value.none)=true from by simp)]
    refine wpAny_bind (wpAny_field gT dT h3 ?_)
    rcases hfl with rfl | ⟨L',hL',rfl⟩
    · rw [if_neg (show ¬ ((Value.none==rawInt L)=true) from by simp [rawInt])]
      have tfr:T∉frs (env::outer):=k.frm.not gT ⟨fun es n q=>(by rw [dT] at q;cases q),fun v q=>(by rw [dT] at q;cases q)⟩
      have cTr:oT.cls≠.type "range":=by rw [cT];decide
      refine wpAny_bind (wpAny_setField gT dT (Array.getElem?_eq_some_iff.mp h3).1 ?_)
      refine entry { s with heap:=s.heap.update T (Obj.mapFields (·.setIfInBounds 3 .none)) } (.ref T) true [T] oe vs rfl (Soft.field gT dT cTr _) (fun b hb=>?_) ((Heap.get?_update_other _ _ hTe).trans ge) ⟨rfl,rfl⟩ de rfl
      rw [List.mem_singleton] at hb;subst hb
      exact ⟨fT,tfr⟩
    · rw [hL] at hL';cases hL'
      rw [if_pos (show (rawInt L==rawInt L)=true from by first | (simp;done) | exact beq_self_eq_true _)]
      refine wpAny_pure ?_
      have:=hq s.heap e T [] rfl (Soft.refl _ _) (fun _ q=>nomatch q) ⟨oe,vs,C,oT,ts,ge,hC,ce,de,ne,fe,sz,h1,hTe,gT,cT,dT,nT,fT,h3⟩
      exact this
end
section
variable {X:Cx}
theorem wpAny_land {A:Around} {env:Env} {outer:List Env} {η:List Addr} {s:Shared} {h0:Heap} {ev:Value} {c:String} {L:Addr} {H:Hp} {E:Value->Shared->Prop} {Q:Unit->Shared->Prop} (hf:env.frame=some L)
    (k:Stk X η A (env::outer) s.heap) (i:Inv X η H s.heap) (x:ExcAt X (env::outer) h0 ev c η s.heap) (h0k:∀ b o,h0.get? b=some o->∃ o',s.heap.get? b=some o') (hb0:∀ b o,X.base.get? b=some o->∃ o',h0.get? b=some o')
    (hq:∀ h' es e T,ev=.ref e->Soft (frs (env::outer)) es s.heap h'->(∀ b∈es,h0.get? b=Option.none)->Inv X η H h'->TracedX X h0 e c T .none η h'->Q () { s with heap:=h' }):wpAny X.M A (noteFrame ev env) (fun _ s₂=>wpAny X.M A (setFlight ev Option.none) Q E s₂) E s:=by
  refine (wpAny_note hf k (fun a ha=>i.alive ha) x h0k fun h' e T es hev sf hes tr=>?_)
  subst hev
  obtain ⟨oe,vs,C,oT,ts,q1,q2,q3,q4,q5,q6,q7,q8,q9,q10,q11,q12,q13,q14,q15⟩:=tr
  have hb:∀ b,h0.get? b=Option.none->X.base.get? b=Option.none:=fun b q=>by
    cases g:X.base.get? b with
    | none=>rfl
    | some o=>obtain ⟨o',g'⟩:=hb0 b o g;rw [q] at g';cases g'
  have k1:=sf.stk k
  have i1:=sf.inv k.frm i (fun b q=>hb b (hes b q)) k.fresh k.off
  have szT:=(Array.getElem?_eq_some_iff.mp q15).1
  refine wpAny_setFlight_none (s:={ s with heap:=h' }) q1 q4 q8 q10 q12 szT ?_
  have sf2:Soft (frs (env::outer)) [T] h' (h'.update T (Obj.mapFields (·.setIfInBounds 3 .none))):=Soft.field q10 q12 (by rw [q11];decide) _
  have i2:=sf2.inv k1.frm i1 (fun b q=>by rw [List.mem_singleton] at q;subst q;exact hb _ q14) (Stk.fresh (s:={ s with heap:=h' }) k1) k1.off
  have tfr:T∉frs (env::outer):=k1.frm.not q10 ⟨fun es n q=>(by rw [q12] at q;cases q),fun v q=>(by rw [q12] at q;cases q)⟩
  -- T may be new since s: the two together
  refine hq _ (es.filter (fun b=>b != T)++(if (s.heap.get? T).isSome then [T] else [])) e T rfl ?_ (fun b hb'=>?_) i2 ?_
  · have other:∀ b,b≠T->(h'.update T (Obj.mapFields (·.setIfInBounds 3 .none))).get? b=h'.get? b:=fun b hbT=>Heap.get?_update_other _ _ (Ne.symm hbT)
    have memT:∀ o,s.heap.get? T=some o->T∈(es.filter (fun b=>b != T)++(if (s.heap.get? T).isSome then [T] else [])):=fun o g=>by rw [g];exact m0
    have mem:∀ b,b≠T->(b∈(es.filter (fun b=>b != T)++(if (s.heap.get? T).isSome then [T] else [])) ↔ b∈es):=fun b hbT=>by
      rw [List.mem_append,List.mem_filter]
      constructor
      · rintro (⟨h1,_⟩ | h1)
        · exact h1
        · split at h1
          · rw [List.mem_singleton] at h1;exact absurd h1 hbT
          · cases h1
      · exact fun h1=>.inl ⟨h1,by simpa using hbT⟩
    refine ⟨fun b o g hb1 hb2=>?_,fun b o g hb1 hb2=>?_,fun b hb1=>?_⟩
    · have hbT:b≠T:=fun q=>hb1 (q▸memT o (q▸g))
      rw [other b hbT]
      exact sf.same b o g (fun q=>hb1 ((mem b hbT).mpr q)) hb2
    · have hbT:b≠T:=fun q=>hb1 (q▸memT o (q▸g))
      rw [other b hbT]
      exact sf.slots b o g (fun q=>hb1 ((mem b hbT).mpr q)) hb2
    · by_cases hbT:b=T
      · subst hbT
        have sT:(s.heap.get? b).isSome=true:=by
          rw [List.mem_append,List.mem_filter] at hb1
          rcases hb1 with ⟨_,h1⟩ | h1
          · simp at h1
          · split at h1
            · assumption
            · cases h1
        obtain ⟨o,g⟩:=Option.isSome_iff_exists.mp sT
        by_cases hbe:b∈es
        · obtain ⟨o1,fs,g1,d1,c1,fs',g2⟩:=sf.exc b hbe
          refine ⟨o1,fs,g1,d1,c1,fs'.setIfInBounds 3 .none,?_⟩
          rw [Heap.get?_update_self _ g2 rfl];rfl
        · have g2:=sf.same b o g hbe tfr
          rw [q10] at g2;cases g2
          refine ⟨oT,ts,g,q12,by rw [q11];decide,ts.setIfInBounds 3 .none,?_⟩
          rw [Heap.get?_update_self _ q10 (Obj.isFreed_of_fields (Obj.data_mapFields q12 _))]
          obtain ⟨oc,od,dt,sl⟩:=oT
          simp only at q12;subst q12;rfl
      · rw [other b hbT]
        exact sf.exc b ((mem b hbT).mp hb1)
  · rw [List.mem_append,List.mem_filter] at hb'
    rcases hb' with ⟨h1,_⟩ | h1
    · exact hes b h1
    · split at h1
      · rw [List.mem_singleton] at h1;subst h1;exact q14
      · cases h1
  · refine ⟨oe,vs,C,oT.mapFields (·.setIfInBounds 3 .none),ts.setIfInBounds 3 .none,(Heap.get?_update_other _ _ q9).trans q1,q2,q3,q4,q5,q6,q7,q8,q9,Heap.get?_update_self _ q10 (Obj.isFreed_of_fields (Obj.data_mapFields q12 _)),
      (Obj.cls_mapFields _ _).trans q11,Obj.data_mapFields q12 _,q13,q14,?_⟩
    rw [Array.getElem?_setIfInBounds_self_of_lt szT]
theorem upd_same {h:Heap} {T:Addr} {oT:Obj} {ts:Array Value} {v:Value} (q10:h.get? T=some oT) (q12:oT.data=.fields ts) (q15:ts[3]?=some v) (b:Addr):(h.update T (Obj.mapFields (·.setIfInBounds 3 v))).get? b=h.get? b:=by
  by_cases hb:b=T
  · rw [hb,Heap.get?_update_self _ q10 (Obj.isFreed_of_fields (Obj.data_mapFields q12 _)),q10]
    obtain ⟨oc,od,dt,sl⟩:=oT
    simp only at q12;subst q12
    have:ts.setIfInBounds 3 v=ts:=by
      apply Array.ext
      · simp
      · intro i h1 h2
        rw [Array.getElem_setIfInBounds]
        split
        · rename_i h;subst h;exact (Array.getElem?_eq_some_iff.mp q15).2.symm
        · rfl
    exact congrArg some (show ({ cls:=oc,dict:=od,data:=.fields (ts.setIfInBounds 3 v),slots:=sl }:Obj)=_ by rw [this])
  · exact Heap.get?_update_other _ _ (Ne.symm hb)
theorem wpAny_land2 {A:Around} {η:List Addr} {s:Shared} {h0:Heap} {e T:Addr} {c:String} {E:Value->Shared->Prop} {Q:Unit->Shared->Prop} (tr:TracedX X h0 e c T .none η s.heap)
    (hq:∀ h',(∀ b,h'.get? b=s.heap.get? b)->Q () { s with heap:=h' }):wpAny X.M A (setFlight (.ref e) Option.none) Q E s:=by
  obtain ⟨oe,vs,C,oT,ts,q1,q2,q3,q4,q5,q6,q7,q8,q9,q10,q11,q12,q13,q14,q15⟩:=tr
  have szT:=(Array.getElem?_eq_some_iff.mp q15).1
  exact wpAny_setFlight_none q1 q4 q8 q10 q12 szT (hq _ (upd_same q10 q12 q15))
theorem wpAny_passOn {α:Type} {A:Around} {env:Env} {outer:List Env} {η:List Addr} {s:Shared} {h0:Heap} {e T L:Addr} {c:String} {H:Hp} {what:String} {E:Value->Shared->Prop} {Q:α->Shared->Prop} (hf:env.frame=some L) (tr:TracedX X h0 e c T .none η s.heap)
    (hq:∀ h',Soft (frs (env::outer)) [T] s.heap h'->h0.get? T=Option.none->ExcAt X (env::outer) h0 (.ref e) c η h'->E (.ref e) { s with heap:=h' }):wpAny X.M A (PySem.passOn what (.ref e) env) Q E s:=by
  obtain ⟨oe,vs,C,oT,ts,q1,q2,q3,q4,q5,q6,q7,q8,q9,q10,q11,q12,q13,q14,q15⟩:=tr
  have szT:=(Array.getElem?_eq_some_iff.mp q15).1
  have hL:(frs (env::outer)).head?=some L:=by unfold frs;rw [List.filterMap_cons,hf];rfl
  unfold PySem.passOn
  refine wpAny_bind (wpAny_field q1 q4 q8 ?_)
  rw [if_neg (show ¬ ((Value.ref T==Value.none)=true) from by simp)]
  unfold setFlight
  refine wpAny_bind (wpAny_bind (wpAny_field q1 q4 q8 ?_))
  rw [if_pos (show (Value.ref T != Value.none)=true from by simp),hf]
  refine wpAny_setField q10 q12 szT (wpAny_throw ?_)
  refine hq _ (Soft.field q10 q12 (by rw [q11];decide) _) q14 ?_
  refine TracedX.exc (T:=T) (fl:=rawInt L) ⟨oe,vs,C,oT.mapFields (·.setIfInBounds 3 (rawInt L)),ts.setIfInBounds 3 (rawInt L),(Heap.get?_update_other _ _ q9).trans q1,q2,q3,q4,q5,q6,q7,q8,q9,Heap.get?_update_self _ q10 (Obj.isFreed_of_fields (Obj.data_mapFields q12 _)),
      (Obj.cls_mapFields _ _).trans q11,Obj.data_mapFields q12 _,q13,q14,?_⟩ (.inr ⟨L,hL,rfl⟩)
  rw [Array.getElem?_setIfInBounds_self_of_lt szT]
end
theorem Soft.alike {fr es:List Addr} {h h1 h2:Heap} (x:Soft fr es h h1) (e:∀ b,h2.get? b=h1.get? b):Soft fr es h h2 :=
  ⟨fun b o g hb hf=>(e b).trans (x.same b o g hb hf),fun b o g hb hf=>let ⟨sl,q⟩:=x.slots b o g hb hf;⟨sl,(e b).trans q⟩,
    fun b hb=>let ⟨o,fs,g,d,c,fs',q⟩:=x.exc b hb;⟨o,fs,g,d,c,fs',(e b).trans q⟩⟩
section
variable {X:Cx} {A:Around} {env:Env} {outer:List Env} {L:Addr}
theorem noted_back {η:List Addr} {s:Shared} {h0:Heap} {ev:Value} {c:String} {H:Hp} {E:Value->Shared->Prop} (hf:env.frame=some L) (k:Stk X η A (env::outer) s.heap) (i:Inv X η H s.heap) (x:ExcAt X (env::outer) h0 ev c η s.heap)
    (h0k:∀ b o,h0.get? b=some o->∃ o',s.heap.get? b=some o') (hb0:∀ b o,X.base.get? b=some o->∃ o',h0.get? b=some o')
    (hq:∀ h' es,Soft (frs (env::outer)) es s.heap h'->(∀ b∈es,h0.get? b=Option.none)->Inv X η H h'->ExcAt X (env::outer) h0 ev c η h'->E ev { s with heap:=h' }):notedBy X.M A env (cameBackBy X.M A env E) ev s:=by
  unfold notedBy
  refine wpAny_note hf k (fun a ha=>i.alive ha) x h0k fun h' e T es hev sf hes tr=>?_
  subst hev
  have tr0:=tr
  obtain ⟨oe,vs,C,oT,ts,q1,q2,q3,q4,q5,q6,q7,q8,q9,q10,q11,q12,q13,q14,q15⟩:=tr
  have szT:=(Array.getElem?_eq_some_iff.mp q15).1
  have hL:(frs (env::outer)).head?=some L:=by unfold frs;rw [List.filterMap_cons,hf];rfl
  have hb:∀ b,h0.get? b=Option.none->X.base.get? b=Option.none:=fun b q=>by
    cases g:X.base.get? b with
    | none=>rfl
    | some o=>obtain ⟨o',g'⟩:=hb0 b o g;rw [q] at g';cases g'
  unfold cameBackBy
  refine wpAny_bind (wpAny_field q1 q4 q8 ?_)
  rw [if_neg (show ¬ ((Value.ref T==Value.none)=true) from by simp)]
  unfold setFlight
  refine wpAny_bind (wpAny_field q1 q4 q8 ?_)
  rw [if_pos (show (Value.ref T != Value.none)=true from by simp),hf]
  have same:=upd_same q10 q12 q15
  refine wpAny_setField q10 q12 szT (hq _ es (sf.alike same) hes ?_ ?_)
  · exact (sf.alike same).inv k.frm i (fun b q=>hb b (hes b q)) k.fresh k.off
  · refine TracedX.exc (T:=T) (fl:=rawInt L) ⟨oe,vs,C,oT,ts,(same e).trans q1,q2,q3,q4,q5,q6,q7,q8,q9,(same T).trans q10,q11,q12,q13,q14,q15⟩ (.inr ⟨L,hL,rfl⟩)
end
noncomputable def noComp:Expr->Bool
  | .ListComp ..=>false
  | .SetComp ..=>false
  | .DictComp ..=>false
  | _=>true
theorem swaps_no {e:Expr} {t:Option Expr} {l:Nat} {env:Env} (h:noComp e=true):swapsWith e t l env=pure false:=by
  cases e <;> first | rfl | cases h
noncomputable def sName (sc:Scope) (x:String) (e:Expr):Bool:=onName e fun id _=>id==Str.ofString x&&isSt sc id
noncomputable def sNames (sc:Scope):List String->List Expr->Bool
  | [],es=>es.isEmpty
  | x::xs,es=>match es with
    | e::es=>sName sc x e&&sNames sc xs es
    | []=>false
theorem sName_inv {P:Expr->Prop} {sc:Scope} {x:String} {e:Expr} (h:sName sc x e=true) (k:∀ pos,isSt sc (Str.ofString x)=true->P (.Name (Str.ofString x) pos)):P e :=
  onName_inv h fun id pos q=>and_k q fun h1 h2=>beq_k (P:=fun id=>isSt sc id=true->P (.Name id pos)) h1 (k pos) h2
section
variable {κ:Ct} {env:Env} {η:List Addr} {ρ ρ':Rho} {H:Hp} {s:Shared}
theorem stores_ok {Q:Unit->Shared->Prop} {E:Value->Shared->Prop}:∀ (xs:List String) (es:List Expr) (ws:List V) (ms:List Value) (ρ:Rho) (s:Shared),sNames κ.env.scope xs es=true->setAll xs ws ρ=some ρ'->VRs κ.X η s.heap ws ms->At κ η ρ H s ->
    (∀ h' tk,Step (frs κ.st) (ownOf κ.env) η s.heap η h'->Inv κ.X η H h'->Ends κ.X κ.env ρ' η h'->Q () { s with heap:=h',toks:=tk })->wpAny κ.X.M κ.A (assignInOrder ((assignEach es κ.env).map (·.2)) ms) Q E s
  | [],es,ws,ms,ρ,s,h1,h2,h3,a,hq=>by
    cases es with
    | cons=>cases h1
    | nil =>
      cases ws with
      | cons=>cases h2
      | nil=>cases h2;exact wpAny_pure (hq s.heap s.toks (Step.refl _ _ _ _) a.inv ⟨a.fok,a.rho⟩)
  | x::xs,es,ws,ms,ρ,s,h1,h2,h3,a,hq=>by
    cases es with
    | nil=>cases h1
    | cons e es =>
      have h1:=and_inv (show (sName κ.env.scope x e&&sNames κ.env.scope xs es)=true from h1)
      apply sName_inv h1.1;intro pos hx
      cases h3 with
      | nil=>cases h2
      | cons r rs =>
        rename_i v vs m ms
        show wpAny κ.X.M κ.A (PySem.holding ms (assign (.Name (Str.ofString x) pos) κ.env m) >>= fun _=>assignInOrder ((assignEach es κ.env).map (·.2)) ms) Q E s
        refine wpAny_bind (wpAny_holding (wpAny_assign_Name (wpAny_store a hx r fun h' tk x1 i en=>?_)))
        refine stores_ok xs es vs ms (setL x v ρ) _ h1.2 h2 (rs.step x1 a.frm) (a.stepS x1 i en tk) fun h2 tk2 x2 i2 en2=>hq h2 tk2 (x1.trans x2) i2 en2
theorem each_length:∀ {xs:List String} {es:List Expr},sNames env.scope xs es=true->(assignEach es env).length=xs.length/\(assignEach es env).findIdx? (·.1)=Option.none
  | [],es,h=>by cases es with | nil=>exact ⟨rfl,rfl⟩ | cons=>cases h
  | x::xs,es,h=>by
    cases es with
    | nil=>cases h
    | cons e es =>
      simp only [sNames,Bool.and_eq_true] at h
      apply sName_inv h.1;intro pos hx
      obtain ⟨h1,h2⟩:=each_length h.2
      refine ⟨congrArg Nat.succ h1,?_⟩
      show ((false,assign (.Name (Str.ofString x) pos) env)::assignEach es env).findIdx? (·.1)=_
      rw [List.findIdx?_cons,h2];rfl
theorem setAll_length:∀ {xs:List String} {ws:List V} {ρ ρ':Rho},setAll xs ws ρ=some ρ'->xs.length=ws.length
  | [],[],_,_,_=>rfl
  | [],_::_,_,_,h=>by cases h
  | _::_,[],_,_,h=>by cases h
  | _::xs,_::ws,_,_,h=>congrArg Nat.succ (setAll_length (xs:=xs) (ws:=ws) h)
theorem unpack_ok (hh:κ.A.handled=Option.none) {xs:List String} {es:List Expr} {v:V} {ws:List V} {mv:Value} {k:Nat} {pos:Pos} {Q:Unit->Shared->Prop} {E:Value->Shared->Prop} (hx:sNames κ.env.scope xs es=true) (hp:partsV v H=some ws) (hset:setAll xs ws ρ=some ρ') (rv:VR κ.X η s.heap v mv) (a:At κ η ρ H s)
    (hq:∀ h' tk,Step (frs κ.st) (ownOf κ.env) η s.heap η h'->Inv κ.X η H h'->Ends κ.X κ.env ρ' η h'->Q () { s with heap:=h',toks:=tk }):wpAny κ.X.M κ.A (assign (.Tuple es k pos) κ.env mv) Q E s:=by
  obtain ⟨l1,l2⟩:=each_length (env:=κ.env) hx
  have hlen:xs.length=ws.length:=setAll_length hset
  have go:∀ {items:Array Value} {h':Heap},VRs κ.X η s.heap ws items.toList->Heap.ExtBut s.heap.objs.size s.heap h'->wpAny κ.X.M κ.A (assignInOrder ((assignEach es κ.env).map (·.2)) items.toList) Q E { s with heap:=h' }:=fun {items h'} r eb=>by
    have k0:∀ b o,s.heap.get? b=some o->h'.get? b=some o:=fun b o e=>eb b o (Nat.ne_of_lt (Heap.lt_size e)) e
    have a1:=a.step (Step.ext _ _ _ k0) (a.inv.ext k0) s.toks
    exact stores_ok xs es ws items.toList ρ _ hx hset (r.grow (Step.ext _ _ _ k0)) a1 fun h2 tk2 x2 i2 en2=>hq h2 tk2 ((Step.ext _ _ _ k0).trans x2) i2 en2
  have key:listAt v H=some ws->wpAny κ.X.M κ.A (assign (.Tuple es k pos) κ.env mv) Q E s:=fun e=>by
    apply vr_list a.inv rv e;intro x items c g r _
    rw [arm_assign_Tuple]
    refine wpAny_bind (wpAny_standAt ?_)
    unfold unpack
    have hn:(assignEach es κ.env).length=items.size:=by rw [l1,hlen,r.size]
    rw [hn,l2]
    exact wpAny_bind (wpAny_holding (kun_itemsOf hh ⟨_,g,rfl,c,rfl⟩ fun h' eb=>go r eb))
  cases v with
  | tup vs =>
    cases hp
    cases rv with
    | tup g hn r l=>exact wpAny_assign_Tuple hh ⟨_,g,rfl,_,rfl⟩ (by rw [l1,hlen,r.size]) l2 fun h' eb=>go r eb
  | _=>exact key hp
structure Iter (κ:Ct) (target:Expr) (it:Addr) (its:List Addr) (xs:List V) (chk:Hp->Bool) (J:Nat->List Addr->Heap->Prop):Prop where
  recs:∀ {i η h},J i η h->Recs its η h
  keep:∀ {i η h η' h'},J i η h->Step (frs κ.st) (ownOf κ.env) η h η' h'->Frm h (ownOf κ.env++frs κ.st)->J i η' h'
  next:∀ {i:Nat} {η:List Addr} {H:Hp} {s:Shared} {Q:Option Value->Shared->Prop},J i η s.heap->Inv κ.X η H s.heap->κ.A.handled=Option.none->chk H=true ->
    (∀ v mv h' tk,xs[i]?=some v->Turn its η H s.heap h'->VR κ.X η h' v mv->J (i+1) η h'->Q (some mv) { s with heap:=h',toks:=tk })->(∀ h',xs[i]?=Option.none->Turn its η H s.heap h'->Q Option.none { s with heap:=h' }) ->
    wpAny κ.X.M κ.A (pyNext (.ref it)) (fun o s1=>match o with | Option.none=>Q Option.none s1 | some v=>wpAny κ.X.M κ.A (letOwnedTupleGo target (.ref it) v) (fun _ s2=>Q (some v) s2) noE s1) noE s
theorem Iter.plain {it:Addr} {H0:Hp} {src:V} {xs:List V} {target:Expr} {chk:Hp->Bool} (hchk:∀ H,chk H=true->∀ n,src=.ref n->H[n]?=H0[n]?)
    (hlet:∀ {i η s mv} {Q:Unit->Shared->Prop},ItR κ.X η s.heap it H0 src xs i->Q () s->wpAny κ.X.M κ.A (letOwnedTupleGo target (.ref it) mv) Q noE s):Iter κ target it [it] xs chk (fun i η h=>ItR κ.X η h it H0 src xs i/\it∉η) where
  recs:=fun r=>r.1.recs
  keep:=fun r x f=>⟨r.1.keep x f r.2,let ⟨_,_,_,g,_⟩:=r.1.obj;x.mem g r.2⟩
  next:=fun {i η H s Q} r iv hh hc h1 h2=>next_ok r.1 iv r.2 hh (hchk H hc) (fun v mv h' tk hv t rv r'=>hlet (s:={ s with heap:=h',toks:=tk }) r' (h1 v mv h' tk hv t rv ⟨r',r.2⟩)) h2
theorem forL_chk {b:V->Rho->Hp->RS} {chk:Hp->Bool} {xs:List V} {ρ:Rho} {H:Hp} (h:forL b chk xs ρ H≠.stuck):chk H=true:=by
  cases xs <;> exact Classical.byContradiction fun q=>h (if_neg q)
inductive ForI (κ:Ct) (η0:List Addr) (s0:Shared) (xs:List V) (J:Nat->List Addr->Heap->Prop) (F:Nat->Rho->Hp->Prop) (m:Nat) (s:Shared):Prop
  | mk (i:Nat) (ρ:Rho) (H:Hp) (η:List Addr) (e:m=xs.length - i) (a:At κ η ρ H s) (es:s={ s0 with heap:=s.heap,toks:=s.toks }) (x:Step (frs κ.st) (ownOf κ.env) η0 s0.heap η s.heap) (r:J i η s.heap) (hf:F i ρ H):ForI κ η0 s0 xs J F m s
theorem ExcS.back {outer:List Env} {L:Addr} {r:RS} {ev:Value} {s':Shared} {E:Value->Shared->Prop} (hst:κ.st=κ.env::outer) (hfr:κ.env.frame=some L) (a:At κ η ρ H s) (x:ExcS κ η s r ev s') (he:∀ ev s',ExcS κ η s r ev s'->E ev s'):notedBy κ.X.M κ.A κ.env (cameBackBy κ.X.M κ.A κ.env E) ev s':=by
  obtain ⟨c,ρ1,H1,e,η3,h3,tk3,rfl,i3,x3,en3,ex3⟩:=x
  have stk3:Stk κ.X η3 κ.A κ.st h3:=a.stk.step x3
  rw [hst] at stk3 ex3
  refine noted_back (s:={ s with heap:=h3,toks:=tk3 }) (h0:=s.heap) hfr stk3 i3 ex3 x3.alive (fun b o e=>⟨o,a.inv.keep b o e⟩) fun h4 es4 sf hes i4 ex4=>?_
  rw [<- hst] at sf ex4 stk3
  exact he _ _ ⟨c,ρ1,H1,e,η3,h4,tk3,rfl,i4,sf.step stk3.frm x3 hes,sf.ends stk3.frm en3,ex4⟩
theorem for_core (hh:κ.A.handled=Option.none) {it:Addr} {its:List Addr} {xs:List V} {target:Expr} {body':List Stmt} {bodyF:V->Rho->Hp->RS} {chk:Hp->Bool} {J:Nat->List Addr->Heap->Prop} {η0:List Addr} {s0:Shared} {ρ00:Rho} {H00:Hp} {R:Result->Shared->Prop}
    (turnOK:∀ v mv ρ H,bodyF v ρ H≠.stuck->∀ η s,At κ η ρ H s->VR κ.X η s.heap v mv->wpAny κ.X.M κ.A (assign target κ.env mv) (fun _ s2=>wpAny κ.X.M κ.A (execs body' κ.env) (OutS κ η s (bodyF v ρ H)) (ExcS κ η s (bodyF v ρ H)) s2) noE s)
    (I:Iter κ target it its xs chk J) (a0:At κ η0 ρ00 H00 s0) (h0n:∀ b∈its,s0.heap.get? b=Option.none)
    {ρ0:Rho} {H0:Hp} {η1:List Addr} {s1:Shared} (a1:At κ η1 ρ0 H0 s1) (e1:s1={ s0 with heap:=s1.heap,toks:=s1.toks }) (x1:Step (frs κ.st) (ownOf κ.env) η0 s0.heap η1 s1.heap) (r1:J 0 η1 s1.heap)
    (hne:forL bodyF chk xs ρ0 H0≠.stuck) (hR:∀ f s',OutS κ η0 s0 (forL bodyF chk xs ρ0 H0) f s'->R (.ok f) s') (hX:∀ ev s',ExcS κ η0 s0 (forL bodyF chk xs ρ0 H0) ev s'->notedBy κ.X.M κ.A κ.env (fun e s'=>R (.error e) s') ev s') :
    codeAny κ.X.M κ.A (.forLoop target (.ref it) body' [] κ.env) R s1:=by
  generalize hres:forL bodyF chk xs ρ0 H0=res at hne hR hX
  have hb:∀ b∈its,κ.X.base.get? b=Option.none:=fun b q=>a0.new (h0n b q)
  refine codeAny_forLoop_any (I:=ForI κ η0 s0 xs J (fun i ρ H=>forL bodyF chk (xs.drop i) ρ H=res)) (fun m s hI=>?_) xs.length ⟨0,ρ0,H0,η1,rfl,a1,e1,x1,r1,hres⟩
  obtain ⟨i,ρ,H,η,rfl,a,es,x,r,hf⟩:=hI
  have ck:chk H=true:=forL_chk (by rw [hf];exact hne)
  refine monoN (I.next (Q:=fun o s2=>match o with
    | Option.none=>OutS κ η0 s0 res .next s2
    | some mv=>wpAny κ.X.M κ.A (assign target κ.env mv) (fun _ s3=>wpAny κ.X.M κ.A (execs body' κ.env) (fun f s4=>match f with
      | .next | .cont=>∃ m,m < xs.length - i/\ForI κ η0 s0 xs J (fun i ρ H=>forL bodyF chk (xs.drop i) ρ H=res) m s4
      | f=>OutS κ η0 s0 res f s4) (ExcS κ η0 s0 res) s3) noE s2) r a.inv hh ck (fun v mv h' tk hv t rv r'=>?_) fun h' hv t=>?_) fun o s2 h2=>?_
  · rw [drop_at hv,forL_cons,if_pos ck] at hf
    have a2:At κ η ρ H { s with heap:=h',toks:=tk }:=t.at a hb (I.recs r)
    have x2:Step (frs κ.st) (ownOf κ.env) η0 s0.heap η h':=t.step x h0n
    have hbs:bodyF v ρ H≠.stuck:=fun q=>by rw [q] at hf;exact hne hf.symm
    refine monoN (turnOK v mv ρ H hbs η _ a2 rv) fun _ s2 hs2=>wpAny_mono hs2 (fun f s3 h3=>?_) fun ev s3 h3=>by
      rw [es] at h3
      obtain ⟨c,ρ1,H1,e,P⟩:=h3
      rw [e] at hf
      exact ⟨c,ρ1,H1,hf.symm,P.trans (s:=s0) x2 fun _ _ q=>⟨q.1,q.2.older x2.alive⟩⟩
    rw [es] at h3 a2
    cases f with
    | next =>
      obtain ⟨ρ1,H1,e,η3,h3',tk3,rfl,i3,x3,en3⟩:=h3
      rw [e] at hf
      exact ⟨xs.length - (i+1),turn_lt hv,i+1,ρ1,H1,η3,rfl,a2.stepS x3 i3 en3 tk3,rfl,x2.trans x3,I.keep r' x3 a2.frm,hf⟩
    | cont =>
      obtain ⟨ρ1,H1,e,η3,h3',tk3,rfl,i3,x3,en3⟩:=h3
      rw [e] at hf
      exact ⟨xs.length - (i+1),turn_lt hv,i+1,ρ1,H1,η3,rfl,a2.stepS x3 i3 en3 tk3,rfl,x2.trans x3,I.keep r' x3 a2.frm,hf⟩
    | ret mv =>
      obtain ⟨v',H1,e,P⟩:=h3
      rw [e] at hf
      exact ⟨v',H1,hf.symm,P.trans (s:=s0) x2 fun _ _ q=>q⟩
    | _=>exact h3
  · rw [drop_end hv,forL_nil,if_pos ck] at hf
    have a2:At κ η ρ H { s with heap:=h',toks:=s.toks }:=t.at a hb (I.recs r)
    show OutS κ η0 s0 res .next { s with heap:=h' }
    rw [es]
    exact ⟨ρ,H,hf.symm,η,h',s.toks,rfl,a2.inv,t.step x h0n,a2.fok,a2.rho⟩
  · cases o with
    | none=>exact wpAny_pure (hR .next _ h2)
    | some v =>
      refine monoN h2 fun _ s3 h3=>monoN h3 fun _ s4 h4=>wpAny_mono h4 (fun f s5 h5=>?_) hX
      cases f with
      | next=>exact h5
      | cont=>exact h5
      | ret mv=>exact hR _ _ h5
      | _=>exact h5.elim
end
noncomputable def swapOk (sc:Scope) (t v:Expr):Bool:=onListComp v fun _ _ scope vp=>onName t fun id tp=>sc.kind==.function&&sc.names.lookup id==some .local&&tp.line==vp.line&&!(scope.names.any fun (n,k)=>n==id&&(k==.local||k==.cell))
section
variable {κ:Ct} {ρ:Rho} {H:Hp}
theorem asg_comp {c:E} {x:String} {v:Expr} {pt pos:Pos} (h:CpAt κ c v) (hx:isSt κ.env.scope (Str.ofString x)=true) (hw:swapOk κ.env.scope (.Name (Str.ofString x) pt) v=true) :
    TriS κ [] (exec (.Assign [.Name (Str.ofString x) pt] v pos) κ.env) ρ H (ofR ρ (evE κ.Γ ρ c H) fun v H1=>.next (setL x v ρ) H1):=by
  obtain @⟨el,it,y,elt,iter,ifs,scope,px,vp,g,hc,hn,h1,h2,h3,he⟩:=h
  · have hw:(κ.env.scope.kind==.function&&κ.env.scope.names.lookup (Str.ofString x)==some .local&&pt.line==vp.line&&!(scope.names.any fun (n,k)=>n==Str.ofString x&&(k==.local||k==.cell)))=true:=hw
    simp only [Bool.and_eq_true,beq_iff_eq,Bool.not_eq_true'] at hw
    obtain ⟨⟨⟨w1,w2⟩,w3⟩,w4⟩:=hw
    have hsw:swapsWith (.ListComp elt [⟨.Name (Str.ofString y) px,iter,ifs,0⟩] scope vp) (some (.Name (Str.ofString x) pt)) pos.line κ.env=pure true:=by
      show (pure (κ.env.blockKind==.function&&κ.env.kindOf (Str.ofString x)==some .local&&pt.line==vp.line&&!(scope.names.any fun (n,k)=>n==Str.ofString x&&(k==.local||k==.cell))):Sem Bool)=_
      have b1:κ.env.blockKind=.function:=by unfold Env.blockKind;rw [w1];rfl
      have b2:κ.env.kindOf (Str.ofString x)=some .local:=w2
      rw [b1,b2,w3,w4]
      simp
    rw [he,exec_Assign_Name_used _ _ _ _ hsw]
    refine TriS.stand ?_
    cases hh:κ.Γ.hd with
    | true=>unfold hdR;rw [hh];exact TriS.stuck
    | false =>
      rw [hdR_of hh]
      intro hs η s a _
      refine wpAny_bind ?_
      show wpAny _ κ.A (do let _ <- comprehension (.ListComp elt [⟨.Name (Str.ofString y) px,iter,ifs,0⟩] scope vp) scope κ.env _ (newList []) false (eval iter κ.env) (some (assign (.Name (Str.ofString x) pt) κ.env))) _ _ s
      generalize hres:((evE κ.Γ ρ it H).bind fun v H1=>compV (g ρ) (fun v H'=>evE κ.Γ ((y,v)::ρ) el H') v H1)=res at hs ⊢
      refine wpAny_bind (wpAny_mono (comp_run hh (use:=some (assign (.Name (Str.ofString x) pt) κ.env)) (Q:=fun _ s'=>OutS κ η s (ofR ρ res fun v H1=>.next (setL x v ρ) H1) .next s') (E:=ExcS κ η s (ofR ρ res fun v H1=>.next (setL x v ρ) H1))
        hc hn (h1.val ρ H) (fun cl v C' H'=>(h2 cl C').val ((y,v)::ρ) H') (fun cl v C' H'=>h3 cl C' ρ v H') a (fun q=>hs (by rw [<- hres,q];rfl)) (fun ev s' q=>?_) fun v H1 xs H' s' D C e hi et ce=>?_) (fun _ s' q=>wpAny_pure (wpAny_pure q)) fun _ _ q=>q)
      · rw [<- hres]
        exact q.bind.stmt a
      · obtain ⟨η',h',tk,rfl,iv,stp,dk,cn,c0,m,ns⟩:=ce
        have a1:At κ η' ρ H' { s with heap:=h',toks:=tk }:=a.step stp iv tk
        have own:C∉ownOf κ.env:=fun q=>by obtain ⟨o,g,_⟩:=a.fok.frm C q;rw [c0] at g;cases g
        have er:res=.ok (.ref H1.length) H':=by rw [<- hres,e,R.bind_ok,compV,optR_of hi,et];rfl
        show wpAny _ κ.A (assign (.Name (Str.ofString x) pt) κ.env (.ref D)) _ _ _
        refine wpAny_bind (wpAny_standAt (wpAny_bindName (wpAny_store a1 hx (.ref dk) fun h2 tk2 x2 i2 en2=>?_)))
        obtain ⟨m2,ns2⟩:∃ m,h2.Ns C m:=by
          obtain ⟨o,es',ep,g,d,q⟩:=ns
          obtain ⟨sl,g2,_⟩:=x2.data C o g cn own
          exact ⟨m,_,es',ep,g2,d,q⟩
        refine ⟨m2,ns2,fun h3 sb=>?_⟩
        have t:Turn [C] η' H' h2 h3:=Turn.one cn (Ns.mach ns2) fun b o hb e=>(sb.2 b hb).trans e
        rw [er]
        exact ⟨setL x (.ref H1.length) ρ,H',rfl,η',h3,tk2,rfl,t.inv i2 (one_none (a.new c0)),t.step (stp.up.trans x2) (one_none c0),t.ends en2 fun b hb q=>own (List.mem_singleton.mp q▸hb)⟩
end
section
variable {prog:Program} {w:World} {A:Around} {E:Value->Shared->Prop} {s:Shared}
theorem nextOf_tup {it t:Addr} {i:Nat} {items:Array Value} {x:Value} {Q:Value->Shared->Prop} (hit:s.heap.IsTupleIter it t i) (ht:s.heap.IsTuple t items) (hx:items[i]?=some x)
    (hQ:∀ h',h'.IsTupleIter it t (i+1)->Heap.SameBut it s.heap h'->Q x { s with heap:=h' }):wpAny (model prog w) A (Builtin.SmallTypes.nextOf (.ref it)) Q E s:=by
  obtain ⟨o,ho,hc,hd⟩:=id hit
  obtain ⟨ol,hol,_,nl,hdl⟩:=ht
  unfold Builtin.SmallTypes.nextOf
  refine wpAny_bind (wpAny_callSpecial?_slot (name:=Str.ofString "__next__") hit.typeIs F.slot_tuple_iterator_next (wpAny_call_entry F.slot_tuple_iterator_next hit.typeIs F.entry_tuple_iterator_next ?_ (F.args_tuple_iterator_next_1 _)))
  show wpAny _ _ (field (.ref it) 0 >>= _) _ _ s
  refine wpAny_bind (wpAny_field ho hd (x:=.ref t) rfl ?_)
  show wpAny _ _ (if (Value.ref t==Value.none)=true then _ else _) _ _ s
  rw [if_neg (show ¬ ((Value.ref t==Value.none)=true) from Bool.false_ne_true)]
  show wpAny _ _ (field (.ref it) 1 >>= _) _ _ s
  refine wpAny_bind (wpAny_field ho hd (x:=.int i 0) rfl ?_)
  show wpAny _ _ (seqItems? (.ref t) >>= _) _ _ s
  refine wpAny_bind (wpAny_seqItems hol hdl ?_)
  simp only [Int.toNat_natCast,hx]
  refine wpAny_bind (wpAny_setField ho hd (by simp) (wpAny_pure ⟨x,rfl,wpAny_pure (hQ _ ⟨_,Heap.get?_update_self _ ho (Obj.isFreed_of_fields (Obj.data_mapFields hd _)),(Obj.cls_mapFields ..).trans hc,?_⟩ (Heap.SameBut.update ..))⟩))
  rw [Obj.data_mapFields hd]
  simp [rawInt]
structure ZipAt (h:Heap) (z TI TO i1 i2 l t:Addr) (i:Nat) (xs ys:Array Value):Prop where
  pz:IsZip h z TI TO .none
  pTI:IsPair h TI (.ref i1) (.ref i2)
  pTO:∃ a b,IsPair h TO a b
  p1:h.IsListIter i1 l i
  p2:h.IsTupleIter i2 t i
  pl:h.IsList l xs
  pt:h.IsTuple t ys
  a1:TO≠TI
  a2:t≠TO
theorem ne_cls {h:Heap} {a b:Addr} {o p:Obj} {T T':String} (e:h.get? a=some o) (e':h.get? b=some p) (c:o.cls=.type T) (c':p.cls=.type T') (q:T≠T'):a≠b:=fun z=>by
  subst z;rw [e] at e';cases e';rw [c] at c';exact q (Value.type.inj c')
structure ZipNe (z TI TO i1 i2 l t:Addr):Prop where
  TIz:TI≠z
  TOz:TO≠z
  i1z:i1≠z
  i2z:i2≠z
  TOi1:TO≠i1
  TOi2:TO≠i2
  i12:i1≠i2
  lz:l≠z
  ti1:t≠i1
  tz:t≠z
theorem ZipAt.ne {h:Heap} {z TI TO i1 i2 l t:Addr} {i:Nat} {xs ys:Array Value} (Z:ZipAt h z TI TO i1 i2 l t i xs ys):ZipNe z TI TO i1 i2 l t:=by
  obtain ⟨hz,hTI,⟨a,b,hTO⟩,⟨o1,g1,c1,d1⟩,⟨o2,g2,c2,d2⟩,⟨ol,gl,cl,nl,dl⟩,⟨ot,gt,ct,nt,dt⟩,a1,a2⟩:=Z
  exact ⟨ne_cls hTI hz rfl rfl (by decide),ne_cls hTO hz rfl rfl (by decide),ne_cls g1 hz c1 rfl (by decide),ne_cls g2 hz c2 rfl (by decide),ne_cls hTO g1 rfl c1 (by decide),ne_cls hTO g2 rfl c2 (by decide),ne_cls g1 g2 c1 c2 (by decide),ne_cls gl hz cl rfl (by decide),ne_cls gt g1 ct c1 (by decide),ne_cls gt hz ct rfl (by decide)⟩
theorem zip_open {z TI TO i1 i2:Addr} {a b:Value} {Q:PySem.Fin->Shared->Prop} (hz:IsZip s.heap z TI TO .none) (hTI:IsPair s.heap TI (.ref i1) (.ref i2))
    (h:∀ h1,IsZip h1 z TI TO .ellipsis->Heap.SameBut z s.heap h1->wpAny (model prog w) A (Builtin.SmallTypes.nextOf (.ref i1)) (fun v1 s2=>∃ p q,IsPair s2.heap TO p q/\∀ h3,IsPair h3 TO v1 q->Heap.SameBut TO s2.heap h3 ->
      wpAny (model prog w) A (Builtin.SmallTypes.nextOf (.ref i2)) (fun v2 s4=>∃ p' q',IsPair s4.heap TO p' q'/\∀ h5,IsPair h5 TO p' v2->Heap.SameBut TO s4.heap h5->IsZip h5 z TI TO .ellipsis /\
        ∀ h8,IsZip h8 z TI TO (rawInt h5.objs.size)->(∀ c o,c≠z->(h5.push { cls:=.type "tuple",data:=.seq #[p',v2] }).get? c=some o->h8.get? c=some o)->h8.objs.size=h5.objs.size+1->Q (.done (.ret (.ref h5.objs.size))) { s4 with heap:=h8 })
        (fun e s4=>IsZip s4.heap z TI TO .ellipsis/\∀ h5,Heap.SameBut z s4.heap h5->E e { s4 with heap:=h5 }) { s2 with heap:=h3 })
      (fun e s2=>IsZip s2.heap z TI TO .ellipsis/\∀ h3,Heap.SameBut z s2.heap h3->E e { s2 with heap:=h3 }) { s with heap:=h1 }) :
    wpAny (model prog w) A (Builtin.«zip.__next__» ⟨[.ref z],[]⟩) Q E s:=by
  show wpAny _ _ (field (.ref z) 2 >>= _) _ _ _
  refine wpAny_bind (wpAny_field hz rfl (x:=.bool false) rfl ?_)
  show wpAny _ _ (field (.ref z) 3 >>= _) _ _ _
  refine wpAny_bind (wpAny_field hz rfl (x:=.ref TI) rfl (wpAny_bind (wpAny_seqItems hTI rfl ?_)))
  show wpAny _ _ (Builtin.SmallTypes.ownedTupleIsFree (.ref z) >>= _) _ _ _
  refine wpAny_bind ?_
  unfold Builtin.SmallTypes.ownedTupleIsFree
  refine wpAny_bind (wpAny_field hz rfl (x:=.none) rfl (wpAny_pure ?_))
  simp only [if_true]
  refine wpAny_bind (wpAny_rule (wpAny_bind (wpAny_field hz rfl (x:=.ref TO) rfl (wpAny_bind (wpAny_setField_rec hz (by simp) fun h₁ hz₁ hs₁=>wpAny_bind ?_)))))
  replace hz₁:IsZip h₁ z TI TO .ellipsis:=hz₁
  simp only [List.zipIdx_cons,List.zipIdx_nil,List.forIn_cons,List.forIn_nil]
  refine wpAny_bind (wpAny_bind (wpAny_onRaise ?_))
  show wpAny _ _ (Builtin.SmallTypes.nextOf (.ref i1) >>= _) _ _ _
  refine wpAny_bind (wpAny_mono (h h₁ hz₁ hs₁) (fun v1 s2 ⟨p,q,hp,k⟩=>wpAny_pure ?_) fun e s2 ⟨hz2,k⟩=>wpAny_setField_rec hz2 (by simp) fun h3 _ hs3=>k h3 hs3)
  refine wpAny_bind (wpAny_seqItems hp rfl (wpAny_bind (wpAny_updateSeq_pair hp fun h₃ hTO₃ hs₃=>wpAny_bind (wpAny_letGo (wpAny_pure ?_)))))
  refine wpAny_bind (wpAny_bind (wpAny_onRaise ?_))
  show wpAny _ _ (Builtin.SmallTypes.nextOf (.ref i2) >>= _) _ _ _
  refine wpAny_bind (wpAny_mono (k h₃ hTO₃ hs₃) (fun v2 s4 ⟨p',q',hp',k⟩=>wpAny_pure ?_) fun e s2 ⟨hz2,k⟩=>wpAny_setField_rec hz2 (by simp) fun h3 _ hs3=>k h3 hs3)
  refine wpAny_bind (wpAny_seqItems hp' rfl (wpAny_bind (wpAny_updateSeq_pair hp' fun h₅ hTO₅ hs₅=>wpAny_bind (wpAny_letGo (wpAny_pure (wpAny_pure ?_))))))
  replace hTO₅:IsPair h₅ TO p' v2:=hTO₅
  refine wpAny_bind (wpAny_seqItems hTO₅ rfl (wpAny_bind (wpAny_newTuple ?_)))
  obtain ⟨hz₅,k⟩:=k h₅ hTO₅ hs₅
  show wpAny _ _ (Builtin.SmallTypes.ownedTupleHandOut (.ref z) (.ref h₅.objs.size) >>= _) _ _ _
  refine wpAny_bind ?_
  unfold Builtin.SmallTypes.ownedTupleHandOut
  have hz₆:IsZip (h₅.push { cls:=.type "tuple",data:=.seq #[p',v2] }) z TI TO .ellipsis:=Heap.get?_push_of_some _ hz₅
  refine wpAny_bind (wpAny_setField_rec hz₆ (by simp) fun h₇ hz₇ hs₇=>?_)
  replace hz₇:IsZip h₇ z TI TO (rawInt h₅.objs.size):=hz₇
  refine wpAny_setField_rec hz₇ (by simp) fun h₈ hz₈ hs₈=>wpAny_pure (k h₈ hz₈ (fun c o hc e=>hs₈.extBut _ _ hc (hs₇.extBut _ _ hc e)) (by rw [hs₈.1,hs₇.1,Heap.size_push]))
theorem keep_lit {h h':Heap} {a l:Addr} {i:Nat} (x:h.IsListIter a l i) (k:∀ o,h.get? a=some o->h'.get? a=some o):h'.IsListIter a l i:=let ⟨o,g,r⟩:=x;⟨o,k o g,r⟩
theorem keep_tit {h h':Heap} {a l:Addr} {i:Nat} (x:h.IsTupleIter a l i) (k:∀ o,h.get? a=some o->h'.get? a=some o):h'.IsTupleIter a l i:=let ⟨o,g,r⟩:=x;⟨o,k o g,r⟩
theorem keep_tup {h h':Heap} {a:Addr} {xs:Array Value} (x:h.IsTuple a xs) (k:∀ o,h.get? a=some o->h'.get? a=some o):h'.IsTuple a xs:=let ⟨o,g,r⟩:=x;⟨o,k o g,r⟩
theorem keep_lst {h h':Heap} {a:Addr} {xs:Array Value} (x:h.IsList a xs) (k:∀ o,h.get? a=some o->h'.get? a=some o):h'.IsList a xs:=let ⟨o,g,r⟩:=x;⟨o,k o g,r⟩
theorem zip_item {z TI TO i1 i2 l t:Addr} {i:Nat} {xs ys:Array Value} {x y:Value} {Q:Option Value->Shared->Prop} (Z:ZipAt s.heap z TI TO i1 i2 l t i xs ys) (hl:l≠i1/\l≠i2/\l≠TO) (hx:xs[i]?=some x) (hy:ys[i]?=some y)
    (hQ:∀ h' T,s.heap.get? T=Option.none->IsZip h' z TI TO (rawInt T)->IsPair h' TO x y->h'.IsListIter i1 l (i+1)->h'.IsTupleIter i2 t (i+1)->IsPair h' T x y ->
      (∀ c o,c∉[z,i1,i2,TO]->s.heap.get? c=some o->h'.get? c=some o)->Q (some (.ref T)) { s with heap:=h' }):wpAny (model prog w) A (pyNext (.ref z)) Q E s:=by
  have N:=Z.ne
  obtain ⟨hz,hTI,⟨a,b,hTO⟩,h1,h2,hL,hT,a1,a2⟩:=Z
  have hty:s.TypeIs (.ref z) "zip":=⟨_,hz,rfl⟩
  unfold pyNext
  refine wpAny_bind (wpAny_attempt (wpAny_callSpecial?_slot (name:=Str.ofString "__next__") hty F.slot_zip_next (wpAny_call_entry F.slot_zip_next hty F.entry_zip_next ?_ (F.args_zip_next_1 _))))
  refine zip_open (a:=a) (b:=b) hz hTI fun g1 z1 s1=>?_
  refine wpAny_nextOf_list_item (keep_lit h1 fun o e=>(s1.2 _ N.i1z).trans e) (keep_lst hL fun o e=>(s1.2 _ N.lz).trans e) hx fun g2 j1 s2=>?_
  refine ⟨a,b,(s2.2 _ N.TOi1).trans ((s1.2 _ N.TOz).trans hTO),fun g3 p3 s3=>?_⟩
  have k3:∀ c o,c≠z->c≠i1->c≠TO->s.heap.get? c=some o->g3.get? c=some o:=fun c o c1 c2 c3 e=>(s3.2 c c3).trans ((s2.2 c c2).trans ((s1.2 c c1).trans e))
  refine nextOf_tup (s:={ s with heap:=g3 }) (keep_tit h2 fun o e=>k3 _ o N.i2z N.i12.symm N.TOi2.symm e) (keep_tup hT fun o e=>k3 _ o N.tz N.ti1 a2 e) hy fun g4 j2 s4=>?_
  refine ⟨x,b,(s4.2 _ N.TOi2).trans p3,fun g5 p5 s5=>⟨(s5.2 _ N.TOz.symm).trans ((s4.2 _ N.i2z.symm).trans ((s3.2 _ N.TOz.symm).trans ((s2.2 _ N.i1z.symm).trans z1))),fun g8 z8 k8 sz=>?_⟩⟩
  have ez:g5.objs.size=s.heap.objs.size:=by
    have e1:g1.objs.size=s.heap.objs.size:=s1.1
    have e2:g2.objs.size=g1.objs.size:=s2.1
    have e3:g3.objs.size=g2.objs.size:=s3.1
    have e4:g4.objs.size=g3.objs.size:=s4.1
    have e5:g5.objs.size=g4.objs.size:=s5.1
    omega
  have up:∀ c o,c≠z->g5.get? c=some o->g8.get? c=some o:=fun c o hc e=>k8 c o hc (push_keeps _ _ _ _ e)
  have nT:s.heap.get? g5.objs.size=Option.none:=by rw [ez];exact size_none _
  refine ⟨_,rfl,wpAny_pure (hQ g8 g5.objs.size nT z8 (up _ _ N.TOz p5) ?_ ?_ ?_ fun c o hc e=>?_)⟩
  · refine keep_lit j1 fun o e=>up _ o N.i1z ((s5.2 _ N.TOi1.symm).trans ((s4.2 _ N.i12).trans ((s3.2 _ N.TOi1.symm).trans e)))
  · refine keep_tit j2 fun o e=>up _ o N.i2z ((s5.2 _ N.TOi2.symm).trans e)
  · exact k8 _ _ (fun q=>by rw [q,hz] at nT;cases nT) (Heap.get?_push_size _ rfl)
  · simp only [List.mem_cons,List.not_mem_nil,or_false,not_or] at hc
    exact up c o hc.1 ((s5.2 _ hc.2.2.2).trans ((s4.2 _ hc.2.2.1).trans (k3 c o hc.1 hc.2.1 hc.2.2.2 e)))
theorem zip_end {z TI TO i1 i2 l t:Addr} {i:Nat} {xs ys:Array Value} {Q:Option Value->Shared->Prop} (hh:A.handled=Option.none) (Z:ZipAt s.heap z TI TO i1 i2 l t i xs ys) (hx:xs[i]?=Option.none)
    (hQ:∀ h',(∀ c o,c∉[z,i1,i2,TO]->s.heap.get? c=some o->h'.get? c=some o)->(∃ a b,IsPair h' TO a b)->Q Option.none { s with heap:=h' }):wpAny (model prog w) A (pyNext (.ref z)) Q E s:=by
  have N:=Z.ne
  obtain ⟨hz,hTI,⟨a,b,hTO⟩,h1,h2,hL,hT,a1,a2⟩:=Z
  have hty:s.TypeIs (.ref z) "zip":=⟨_,hz,rfl⟩
  unfold pyNext
  refine wpAny_bind (wpAny_attempt (wpAny_callSpecial?_slot (name:=Str.ofString "__next__") hty F.slot_zip_next (wpAny_call_entry F.slot_zip_next hty F.entry_zip_next ?_ (F.args_zip_next_1 _))))
  refine zip_open (a:=a) (b:=b) hz hTI fun g1 z1 s1=>?_
  refine wpAny_nextOf_list_end (A:=A.in1) hh (keep_lit h1 fun o e=>(s1.2 _ N.i1z).trans e) (keep_lst hL fun o e=>(s1.2 _ N.lz).trans e) hx fun g2 e s2 ⟨oe,ge,ce⟩=>⟨s2 _ _ N.i1z.symm z1,fun g3 s3=>?_⟩
  have z2:IsZip g2 z TI TO .ellipsis:=s2 _ _ N.i1z.symm z1
  have ez:e≠z:=fun q=>by exact ne_cls ge z2 ce rfl (by decide) q
  refine wpAny_bind (wpAny_isInstance (T:="StopIteration") (b:=true) ⟨oe,(s3.2 _ ez).trans ge,ce⟩ isSubtype_stop (wpAny_pure (hQ g3 (fun c o hc e=>?_) ⟨a,b,(s3.2 _ N.TOz).trans (s2 _ _ N.TOi1 ((s1.2 _ N.TOz).trans hTO))⟩)))
  simp only [List.mem_cons,List.not_mem_nil,or_false,not_or] at hc
  exact (s3.2 _ hc.1).trans (s2 _ _ hc.2.1 ((s1.2 _ hc.1).trans e))
end
theorem meets_zip_lt (l t:Addr) (xs ys:Array Value) :
    Meets (Builtin.«zip.__new__» ⟨[.type "zip",.ref l,.ref t],[]⟩) (fun _ R s=>s.heap.IsList l xs/\s.heap.IsTuple t ys /\
      ∀ h',ZipAt h' (s.heap.objs.size+4) (s.heap.objs.size+2) (s.heap.objs.size+3) s.heap.objs.size (s.heap.objs.size+1) l t 0 xs ys->(∀ c o,s.heap.get? c=some o->h'.get? c=some o)->R (.ok (.ret (.ref (s.heap.objs.size+4)))) { s with heap:=h' }) :=
  .of_wp fun prog w A R s h=>by
    obtain ⟨hp,g,d,tk,os⟩:=s
    obtain ⟨hl1,ht,h⟩:=h
    have hsub:=sub_zip
    have hL1:Heap.IsList (Shared.heap ⟨hp,g,d,tk,os⟩) l xs:=hl1
    have hL2:Heap.IsTuple (Shared.heap ⟨hp.push { cls:=.type "list_iterator",data:=.fields #[.ref l,.int 0 0] },g,d,tk,os⟩) t ys:=keep_tup ht fun o e=>push_keeps _ _ _ _ e
    wp_walk using wpAny_pyIter_list hL1,wpAny_pyIter_tuple hL2
    refine ⟨_,rfl,?_⟩
    dsimp only at h ⊢
    have z1:∀ (h:Heap) (o:Obj),(h.push o).objs.size=h.objs.size+1:=fun h o=>Heap.size_push ..
    simp only [z1] at h ⊢
    have e1:∀ (h:Heap) (o:Obj) (n:Nat),n=h.objs.size->o.isFreed=false->(h.push o).get? n=some o:=fun h o n e f=>by subst e;exact Heap.get?_push_size _ f
    refine h _ ⟨?_,?_,⟨.none,.none,?_⟩,⟨{ cls:=.type "list_iterator",data:=.fields #[.ref l,.int 0 0] },?_,rfl,rfl⟩,⟨{ cls:=.type "tuple_iterator",data:=.fields #[.ref t,.int 0 0] },?_,rfl,rfl⟩,?_,?_,Nat.succ_ne_self _,?_⟩ fun c o x=>push_keeps _ _ _ _ (push_keeps _ _ _ _ (push_keeps _ _ _ _ (push_keeps _ _ _ _ (push_keeps _ _ _ _ x))))
    · exact e1 _ _ _ (by simp only [z1]) rfl
    · exact push_keeps _ _ _ _ (push_keeps _ _ _ _ (e1 _ _ _ (by simp only [z1]) rfl))
    · exact push_keeps _ _ _ _ (e1 _ _ _ (by simp only [z1]) rfl)
    · exact push_keeps _ _ _ _ (push_keeps _ _ _ _ (push_keeps _ _ _ _ (push_keeps _ _ _ _ (e1 _ _ _ rfl rfl))))
    · exact push_keeps _ _ _ _ (push_keeps _ _ _ _ (push_keeps _ _ _ _ (e1 _ _ _ (by simp only [z1]) rfl)))
    · exact keep_lst hl1 fun o x=>push_keeps _ _ _ _ (push_keeps _ _ _ _ (push_keeps _ _ _ _ (push_keeps _ _ _ _ (push_keeps _ _ _ _ x))))
    · exact keep_tup ht fun o x=>push_keeps _ _ _ _ (push_keeps _ _ _ _ (push_keeps _ _ _ _ (push_keeps _ _ _ _ (push_keeps _ _ _ _ x))))
    · obtain ⟨o,e,_⟩:=ht
      exact Nat.ne_of_lt (Nat.lt_of_lt_of_le (Heap.lt_size e) (Nat.le_add_right _ _))
theorem call_zip_lt {prog:Program} {w:World} {A:Around} {E:Value->Shared->Prop} {s:Shared} {l t:Addr} {xs ys:Array Value} {Q:Value->Shared->Prop} (hl:s.heap.IsList l xs) (ht:s.heap.IsTuple t ys)
    (h:∀ h',ZipAt h' (s.heap.objs.size+4) (s.heap.objs.size+2) (s.heap.objs.size+3) s.heap.objs.size (s.heap.objs.size+1) l t 0 xs ys->(∀ c o,s.heap.get? c=some o->h'.get? c=some o)->Q (.ref (s.heap.objs.size+4)) { s with heap:=h' }) :
    wpAny (model prog w) A (PySem.call (.type "zip") [.ref l,.ref t]) Q E s :=
  callType_new F.called_zip (by decide) (F.typeCall_zip_2 _ _) (F.newCall_zip_2 _ _) (fun obj=>F.args_object_init_3 obj _ _) F.entry_zip_new (meets_zip_lt l t xs ys) ⟨hl,ht,fun h' Z kp=>⟨⟨_,Z.pz,rfl⟩,h h' Z kp⟩⟩
section
variable {κ:Ct}
inductive ZJ (X:Cx) (z TI TO i1 i2 l t:Addr) (n k:Nat) (ysV:List V) (i:Nat) (η:List Addr) (h:Heap):Prop
  | mk (ys:Array Value) (c:Nat) (pz:IsZip h z TI TO .none) (pTI:IsPair h TI (.ref i1) (.ref i2)) (p1:h.IsListIter i1 l i) (p2:h.IsTupleIter i2 t i) (pt:h.get? t=some { cls:=.type "tuple",data:=.seq ys c }) (vr:VRs X η h ysV ys.toList)
    (oz:z∉η) (oTI:TI∉η) (o1:i1∉η) (o2:i2∉η) (ot:t∉η) (en:η[n]?=some l) (ek:η[k]?=some TO):ZJ X z TI TO i1 i2 l t n k ysV i η h
theorem pairsZ_get {xs ys:List V} (hlen:xs.length=ys.length) {i:Nat}:(∃ x y,xs[i]?=some x/\ys[i]?=some y/\(pairsZ xs ys)[i]?=some (.tup [x,y]))\/(xs[i]?=Option.none/\(pairsZ xs ys)[i]?=Option.none):=by
  unfold pairsZ
  cases hx:xs[i]? with
  | none =>
    refine .inr ⟨rfl,?_⟩
    rw [List.getElem?_map,List.getElem?_eq_none_iff.mpr,Option.map_none]
    rw [List.getElem?_eq_none_iff] at hx
    rw [List.length_zip];omega
  | some x =>
    obtain ⟨h1,e1⟩:=List.getElem?_eq_some_iff.mp hx
    have h2:i < ys.length:=by omega
    refine .inl ⟨x,ys[i],rfl,List.getElem?_eq_getElem h2,?_⟩
    rw [List.getElem?_map,List.getElem?_eq_getElem (by rw [List.length_zip];omega),List.getElem_zip,e1];rfl
theorem mem4 {a b c d x:Addr}:x∈[a,b,c,d] ↔ x=a\/x=b\/x=c\/x=d:=by simp
theorem Iter.zip {z TI TO i1 i2 l t:Addr} {n k:Nat} {xs ys:List V} {es:List Expr} {q:Nat} {pos:Pos} {chk:Hp->Bool} (hlen:xs.length=ys.length) (hchk:∀ H,chk H=true->H[n]?=some (.list xs)/\H[k]?=some .own) :
    Iter κ (.Tuple es q pos) z [z,i1,i2,TO] (pairsZ xs ys) chk (ZJ κ.X z TI TO i1 i2 l t n k ys) where
  recs:=fun ⟨_,_,pz,_,⟨a1,b1,_,d1⟩,⟨a2,b2,_,d2⟩,_,_,_,_,_,_,_,_,ek⟩ b hb=>by
    rcases mem4.mp hb with rfl | rfl | rfl | rfl
    · exact .inr ⟨_,_,pz,rfl⟩
    · exact .inr ⟨a1,_,b1,d1⟩
    · exact .inr ⟨a2,_,b2,d2⟩
    · exact .inl (List.mem_of_getElem? ek)
  keep:=fun {i η h η' h'} ⟨ysA,c,pz,pTI,p1,p2,pt,vr,oz,oTI,o1,o2,ot,en,ek⟩ x f=>by
    have hd:=x.holds f
    have rec':∀ {b:Addr} {o:Obj} {fs:Array Value},h.get? b=some o->o.data=.fields fs->b∉η->h'.get? b=some o:=fun {b o fs} e d hb=>have q:=f.not e ⟨fun _ _ z=>(by rw [d] at z;cases z),fun _ z=>(by rw [d] at z;cases z)⟩;x.same b o e hb (fun z=>q (List.mem_append.mpr (.inl z))) fun z=>q (List.mem_append.mpr (.inr z))
    obtain ⟨a1,b1,c1,d1⟩:=p1
    obtain ⟨a2,b2,c2,d2⟩:=p2
    obtain ⟨l',rfl,_⟩:=id x.pre
    exact ⟨ysA,c,rec' pz rfl oz,(hd.seq _ _ pTI oTI (.inl ⟨_,_,rfl⟩)).1,⟨a1,rec' b1 d1 o1,c1,d1⟩,⟨a2,rec' b2 d2 o2,c2,d2⟩,(hd.seq _ _ pt ot (.inl ⟨_,_,rfl⟩)).1,vr.map x.pre' hd,x.mem pz oz,x.mem pTI oTI,x.mem b1 o1,x.mem b2 o2,x.mem pt ot,getElem?_pre en,getElem?_pre ek⟩
  next:=fun {i η H s Q} r iv hh hc h1 h2=>by
    obtain ⟨ysA,c,pz,pTI,p1,p2,pt,vr,oz,oTI,o1,o2,ot,en,ek⟩:=r
    obtain ⟨hn,hk⟩:=hchk H hc
    obtain ⟨items,m,g,vx,le⟩:=list_of iv en hn
    obtain ⟨ob,gO,rO⟩:=iv.objs k TO _ ek hk
    cases rO with
    | own =>
      rename_i a b
      have lη:l∈η:=List.mem_of_getElem? en
      have Oη:TO∈η:=List.mem_of_getElem? ek
      have Z:ZipAt s.heap z TI TO i1 i2 l t i items ysA:=⟨pz,pTI,⟨a,b,gO⟩,p1,p2,⟨_,g,rfl,m,rfl⟩,⟨_,pt,rfl,c,rfl⟩,fun q=>oTI (q▸Oη),fun q=>ot (q▸Oη)⟩
      have turn:∀ h',(∀ c o,c∉[z,i1,i2,TO]->s.heap.get? c=some o->h'.get? c=some o)->(∃ x y,IsPair h' TO x y)->Turn [z,i1,i2,TO] η H s.heap h':=fun h' kp ⟨x,y,e⟩=>⟨kp,fun b hb=>by
        obtain ⟨a1,b1,c1,d1⟩:=p1
        obtain ⟨a2,b2,c2,d2⟩:=p2
        rcases mem4.mp hb with rfl | rfl | rfl | rfl
        · exact .inl ⟨oz,_,pz,.inl ⟨_,_,rfl,rfl,by decide⟩⟩
        · exact .inl ⟨o1,_,b1,.inl ⟨_,_,c1,d1,by decide⟩⟩
        · exact .inl ⟨o2,_,b2,.inl ⟨_,_,c2,d2,by decide⟩⟩
        · exact .inr ⟨k,x,y,ek,hk,e⟩⟩
      rcases pairsZ_get hlen (i:=i) with ⟨x,y,ex,ey,ep⟩ | ⟨ex,ep⟩
      · obtain ⟨mx,emx,rx⟩:=vx.get ex
        obtain ⟨my,emy,ry⟩:=vr.get ey
        refine zip_item Z ⟨fun q=>o1 (q▸lη),fun q=>o2 (q▸lη),ne_cls g gO rfl rfl (by decide)⟩ (by simpa using emx) (by simpa using emy) fun h' T nT z' pO j1 j2 pT kp=>?_
        have oT:T∉η:=fun q=>by obtain ⟨o,e⟩:=iv.alive q;rw [nT] at e;cases e
        have N:=Z.ne
        refine wpAny_letOwnedTupleGo_zip (s:={ s with heap:=h' }) z' fun h2 z2 s2=>?_
        have nz:∀ {c:Addr} {o:Obj},c≠z->h'.get? c=some o->h2.get? c=some o:=fun hc e=>(s2.2 _ hc).trans e
        have t2:Turn [z,i1,i2,TO] η H s.heap h2:=turn h2 (fun c o hc e=>nz (fun q=>hc (mem4.mpr (.inl q))) (kp c o hc e)) ⟨_,_,nz N.TOz pO⟩
        refine h1 (.tup [x,y]) _ h2 s.toks ep t2 (.tup (nz (fun q=>by rw [q,pz] at nT;cases nT) pT) oT (.cons (t2.vr rx) (.cons (t2.vr ry) .nil)) (by show 2<=line;decide)) ?_
        have off:∀ {c:Addr} {o:Obj},c∉η->c≠z->c≠i1->c≠i2->s.heap.get? c=some o->h2.get? c=some o:=fun hη q1 q2 q3 e=>t2.keep _ _ (fun q=>(mem4.mp q).elim q1 fun q=>q.elim q2 fun q=>q.elim q3 fun q=>hη (q▸Oη)) e
        obtain ⟨a1,b1,c1,d1⟩:=p1
        obtain ⟨a2,b2,c2,d2⟩:=p2
        exact ⟨ysA,c,z2,off oTI N.TIz (ne_cls pTI b1 rfl c1 (by decide)) (ne_cls pTI b2 rfl c2 (by decide)) pTI,keep_lit j1 fun o e=>nz N.i1z e,keep_tit j2 fun o e=>nz N.i2z e,off ot N.tz N.ti1 (ne_cls pt b2 rfl c2 (by decide)) pt,t2.vrs vr,oz,oTI,o1,o2,ot,en,ek⟩
      · refine zip_end hh Z ?_ fun h' kp e=>h2 h' ep (turn h' kp e)
        rw [List.getElem?_eq_none_iff] at ex
        rw [Array.getElem?_eq_none_iff,vx.size];exact ex
end
end Mine
namespace Mine
open PySem
theorem range_reversed_meets (r:Addr) (n:Int) (t u v:Tok) (h0:0<=n) (h1:n<=500000) :
    Meets (Builtin.«range.__reversed__» ⟨[.ref r],[]⟩) (fun _ R s=>s.heap.get? r=some { cls:=.type "range",dict:=none,data:=.fields #[.int 0 t,.int n u,.int 1 v],slots:=#[] }/\R (.ok (.ret (Value.ref s.heap.objs.size))) { s with heap:=s.heap.push { cls:=.type "range_iterator",data:=.fields #[rawInt (n - 1),rawInt n,rawInt (-1)] } }):=by
  have e1:Builtin.Range.rangeSize 0 n 1=n:=by
    unfold Builtin.Range.rangeSize
    rw [if_pos (by decide)]
    by_cases h:0 < n
    · rw [if_pos h,Int.ediv_one];omega
    · rw [if_neg h];omega
  have e2:Builtin.Range.rangeFitsLong n=true:=by
    unfold Builtin.Range.rangeFitsLong
    rw [decide_eq_true (by omega),decide_eq_true (by omega)];rfl
  have hc0:¬(!(Builtin.Range.rangeFitsLong 0&&Builtin.Range.rangeFitsLong n&&Builtin.Range.rangeFitsLong 1&&Builtin.Range.rangeFitsLong (-1)&&Builtin.Range.rangeFitsLong (0 - 1)&&Builtin.Range.rangeFitsLong (Builtin.Range.rangeSize 0 n 1)))=true:=by
    rw [e1,e2];decide
  have hc1:(Builtin.Range.rangeFitsLong 0&&Builtin.Range.rangeFitsLong n&&Builtin.Range.rangeFitsLong 1&&Builtin.Range.rangeFitsLong (-1)&&Builtin.Range.rangeFitsLong (0 - 1)&&Builtin.Range.rangeFitsLong (Builtin.Range.rangeSize 0 n 1))=true:=by
    rw [e1,e2];decide
  exact .of_wp fun prog w A R s h=>by
    obtain ⟨hp,g,d,tk,os⟩:=s
    obtain ⟨hl,h⟩:=h
    wp_walk
    rw [if_neg hc0]
    wp_walk
    refine ⟨_,rfl,?_⟩
    rw [if_pos hc1,e1,Int.mul_one,Int.zero_add]
    exact h
section
variable {prog:Program} {w:World} {A:Around} {E:Value->Shared->Prop} {s:Shared}
theorem sub_rri:isSubtype (.type "range_iterator") (.type "reversed")=pure false:=by rw [isSubtype_type];kernel_rfl
theorem code_reversed_range {r:Addr} {n:Int} {t u v:Tok} {Q₁:Value->Shared->Prop} (hr:IsRange s.heap r 0 n 1 t u v) (h0:0<=n) (h1:n<=500000)
    (h:Q₁ (.ref s.heap.objs.size) { s with heap:=s.heap.push { cls:=.type "range_iterator",data:=.fields #[rawInt (n - 1),rawInt n,rawInt (-1)] } }) :
    codeAny (model prog w) A (.call (.builtin "reversed.__new__") ⟨[.type "reversed",.ref r],[]⟩) (wants Q₁ E) s:=by
  have hT:s.TypeIs (.ref r) "range":=⟨_,hr,rfl⟩
  refine codeAny_of_tree ?_
  show wpAny _ A.in1 (do checkBuiltinCall "reversed.__new__" ⟨[.type "reversed",.ref r],[]⟩;again (.builtin "reversed.__new__" ⟨[.type "reversed",.ref r],[]⟩)) _ _ s
  refine wpAny_bind (wpAny_of_eq (F.newCall_reversed_1 _) (wpAny_pure ⟨plainId_quiet F.plain_reversed_new _,codeAny_builtin F.entry_reversed_new ?_⟩))
  rw [Around.under_plainId F.plain_reversed_new _]
  unfold Builtin.«reversed.__new__»
  refine wpAny_bind (wpAny_of_eq (newClass_reversed _) ?_)
  try dsimp only
  refine wpAny_bind (wpAny_of_eq (a:=()) (by first | rfl | kernel_rfl) ?_)
  refine wpAny_bind (wpAny_of_eq (a:=()) (by first | rfl | kernel_rfl) ?_)
  try dsimp only
  refine wpAny_bind (wpAny_specialOf hT F.slot_range_reversed.lookup ?_)
  try dsimp only
  refine wpAny_bind (wpAny_of_eq (F.slot_range_reversed.bind _) ?_)
  try dsimp only
  first
  | rw [if_neg (show ¬ ((Value.builtin "range.__reversed__"==Value.none)=true) from Bool.false_ne_true)]
  | (show wpAny _ _ (if (Value.builtin "range.__reversed__"==Value.none)=true then _ else _) _ _ _;rw [if_neg (show ¬ ((Value.builtin "range.__reversed__"==Value.none)=true) from Bool.false_ne_true)])
  refine wpAny_bind (wpAny_rule ?_)
  refine wpAny_bind (m:=runValue (.call (.builtin "range.__reversed__") ⟨[.ref r],[]⟩)) (show wpAny _ _ (call (.builtin "range.__reversed__") [.ref r]) _ _ _ from call_meets F.slot_range_reversed hT F.entry_range_reversed (F.args_range_reversed_1 _) (range_reversed_meets r n t u v h0 h1) ⟨hr,?_⟩)
  first
  | exact wpAny_pure h
  | exact wpAny_bind (wpAny_pure (wpAny_pure h))
theorem call_reversed_range {r:Addr} {n:Int} {t u v:Tok} {Q:Value->Shared->Prop} (hr:IsRange s.heap r 0 n 1 t u v) (h0:0<=n) (h1:n<=500000)
    (h:Q (.ref s.heap.objs.size) { s with heap:=s.heap.push { cls:=.type "range_iterator",data:=.fields #[rawInt (n - 1),rawInt n,rawInt (-1)] } }):wpAny (model prog w) A (call (.type "reversed") [.ref r]) Q E s:=by
  refine callType_other (U:="range_iterator") (Q₁:=fun obj s₁=>obj=.ref s.heap.objs.size/\s₁={ s with heap:=s.heap.push { cls:=.type "range_iterator",data:=.fields #[rawInt (n - 1),rawInt n,rawInt (-1)] } }) (by decide +kernel) F.create_reversed ⟨_,_,F.mro_reversed⟩ F.made_reversed sub_rri (F.typeCall_reversed_1 _) (code_reversed_range hr h0 h1 ⟨rfl,rfl⟩) ?_
  rintro obj s₁ ⟨rfl,rfl⟩
  exact ⟨⟨_,Heap.get?_push_size _ rfl,rfl⟩,h⟩
end
end Mine
namespace Mine
open PySem PyProof.Rows PySem.W
noncomputable def onS (e:Stmt) (f0:List Expr->Expr->Pos->Bool) (f1:Option Expr->Pos->Bool) (f2:Expr->List Stmt->List Stmt->Pos->Bool) (f3:Expr->Expr->List Stmt->List Stmt->Pos->Bool) (f4:Expr->Pos->Bool) (f5:Option Expr->Option Expr->Pos->Bool) (f6:List Stmt->List ExceptHandler->List Stmt->List Stmt->Pos->Bool) (f7:Expr->List Stmt->List Stmt->Pos->Bool) (f8:Pos->Bool):Bool:=match e with
  | .Assign ts v p=>f0 ts v p
  | .Return x p=>f1 x p
  | .If t a b p=>f2 t a b p
  | .For t i b els p=>f3 t i b els p
  | .Expr v p=>f4 v p
  | .Raise x cause p=>f5 x cause p
  | .Try b hs els fin p=>f6 b hs els fin p
  | .While t b els p=>f7 t b els p
  | .Continue p=>f8 p
  | _=>false
theorem onS_inv {P:Stmt->Prop} {e:Stmt} {f0:List Expr->Expr->Pos->Bool} {f1:Option Expr->Pos->Bool} {f2:Expr->List Stmt->List Stmt->Pos->Bool} {f3:Expr->Expr->List Stmt->List Stmt->Pos->Bool} {f4:Expr->Pos->Bool} {f5:Option Expr->Option Expr->Pos->Bool} {f6:List Stmt->List ExceptHandler->List Stmt->List Stmt->Pos->Bool} {f7:Expr->List Stmt->List Stmt->Pos->Bool} {f8:Pos->Bool} (h:onS e f0 f1 f2 f3 f4 f5 f6 f7 f8=true) (k0:∀ ts v p,f0 ts v p=true->P (.Assign ts v p)) (k1:∀ x p,f1 x p=true->P (.Return x p)) (k2:∀ t a b p,f2 t a b p=true->P (.If t a b p)) (k3:∀ t i b els p,f3 t i b els p=true->P (.For t i b els p)) (k4:∀ v p,f4 v p=true->P (.Expr v p)) (k5:∀ x cause p,f5 x cause p=true->P (.Raise x cause p)) (k6:∀ b hs els fin p,f6 b hs els fin p=true->P (.Try b hs els fin p)) (k7:∀ t b els p,f7 t b els p=true->P (.While t b els p)) (k8:∀ p,f8 p=true->P (.Continue p)):P e:=by
  cases e with
  | Assign ts v p=>exact k0 ts v p h
  | Return x p=>exact k1 x p h
  | If t a b p=>exact k2 t a b p h
  | For t i b els p=>exact k3 t i b els p h
  | Expr v p=>exact k4 v p h
  | Raise x cause p=>exact k5 x cause p h
  | Try b hs els fin p=>exact k6 b hs els fin p h
  | While t b els p=>exact k7 t b els p h
  | Continue p=>exact k8 p h
  | _=>exact ff h
noncomputable def onSAssign (e:Stmt) (f:List Expr->Expr->Pos->Bool):Bool:=onS e f no2 no4 no5 no2 no3 no5 no4 no1
theorem onSAssign_inv {P:Stmt->Prop} {e:Stmt} {f:List Expr->Expr->Pos->Bool} (h:onSAssign e f=true) (k:∀ ts v p,f ts v p=true->P (.Assign ts v p)):P e:=onS_inv h k na2 na4 na5 na2 na3 na5 na4 na1
noncomputable def onSReturn (e:Stmt) (f:Option Expr->Pos->Bool):Bool:=onS e no3 f no4 no5 no2 no3 no5 no4 no1
theorem onSReturn_inv {P:Stmt->Prop} {e:Stmt} {f:Option Expr->Pos->Bool} (h:onSReturn e f=true) (k:∀ x p,f x p=true->P (.Return x p)):P e:=onS_inv h na3 k na4 na5 na2 na3 na5 na4 na1
noncomputable def onSIf (e:Stmt) (f:Expr->List Stmt->List Stmt->Pos->Bool):Bool:=onS e no3 no2 f no5 no2 no3 no5 no4 no1
theorem onSIf_inv {P:Stmt->Prop} {e:Stmt} {f:Expr->List Stmt->List Stmt->Pos->Bool} (h:onSIf e f=true) (k:∀ t a b p,f t a b p=true->P (.If t a b p)):P e:=onS_inv h na3 na2 k na5 na2 na3 na5 na4 na1
noncomputable def onSFor (e:Stmt) (f:Expr->Expr->List Stmt->List Stmt->Pos->Bool):Bool:=onS e no3 no2 no4 f no2 no3 no5 no4 no1
theorem onSFor_inv {P:Stmt->Prop} {e:Stmt} {f:Expr->Expr->List Stmt->List Stmt->Pos->Bool} (h:onSFor e f=true) (k:∀ t i b els p,f t i b els p=true->P (.For t i b els p)):P e:=onS_inv h na3 na2 na4 k na2 na3 na5 na4 na1
noncomputable def onSExpr (e:Stmt) (f:Expr->Pos->Bool):Bool:=onS e no3 no2 no4 no5 f no3 no5 no4 no1
theorem onSExpr_inv {P:Stmt->Prop} {e:Stmt} {f:Expr->Pos->Bool} (h:onSExpr e f=true) (k:∀ v p,f v p=true->P (.Expr v p)):P e:=onS_inv h na3 na2 na4 na5 k na3 na5 na4 na1
noncomputable def onSRaise (e:Stmt) (f:Option Expr->Option Expr->Pos->Bool):Bool:=onS e no3 no2 no4 no5 no2 f no5 no4 no1
theorem onSRaise_inv {P:Stmt->Prop} {e:Stmt} {f:Option Expr->Option Expr->Pos->Bool} (h:onSRaise e f=true) (k:∀ x cause p,f x cause p=true->P (.Raise x cause p)):P e:=onS_inv h na3 na2 na4 na5 na2 k na5 na4 na1
noncomputable def onSTry (e:Stmt) (f:List Stmt->List ExceptHandler->List Stmt->List Stmt->Pos->Bool):Bool:=onS e no3 no2 no4 no5 no2 no3 f no4 no1
theorem onSTry_inv {P:Stmt->Prop} {e:Stmt} {f:List Stmt->List ExceptHandler->List Stmt->List Stmt->Pos->Bool} (h:onSTry e f=true) (k:∀ b hs els fin p,f b hs els fin p=true->P (.Try b hs els fin p)):P e:=onS_inv h na3 na2 na4 na5 na2 na3 k na4 na1
noncomputable def onSWhile (e:Stmt) (f:Expr->List Stmt->List Stmt->Pos->Bool):Bool:=onS e no3 no2 no4 no5 no2 no3 no5 f no1
theorem onSWhile_inv {P:Stmt->Prop} {e:Stmt} {f:Expr->List Stmt->List Stmt->Pos->Bool} (h:onSWhile e f=true) (k:∀ t b els p,f t b els p=true->P (.While t b els p)):P e:=onS_inv h na3 na2 na4 na5 na2 na3 na5 k na1
noncomputable def onSContinue (e:Stmt) (f:Pos->Bool):Bool:=onS e no3 no2 no4 no5 no2 no3 no5 no4 f
theorem onSContinue_inv {P:Stmt->Prop} {e:Stmt} {f:Pos->Bool} (h:onSContinue e f=true) (k:∀ p,f p=true->P (.Continue p)):P e:=onS_inv h na3 na2 na4 na5 na2 na3 na5 na4 k
noncomputable def noTup (e:Expr):Bool:=!onTuple e fun _ _ _=>true
theorem swapped_no {es:List Expr} {k:Nat} {p:Pos} {e:Expr} {env:Env} (h:noTup e=true):swappedStores [.Tuple es k p] e env=pure Option.none:=by
  cases e <;> first | rfl | cases h
noncomputable def strC (e:Expr):Bool:=onConstant e fun c _ _=>match c with | .str m=>PyData.strOk m | _=>false
theorem strC_inv {P:Expr->Prop} {e:Expr} (h:strC e=true) (k:∀ m n p,PyData.strOk m=true->P (.Constant (.str m) n p)):P e :=
  onConstant_inv h fun c n p h=>by
    cases c with
    | str m=>exact k m n p h
    | _=>exact ff h
noncomputable def someE (e:Option Expr) (f:Expr->Bool):Bool:=match e with
  | some e=>f e
  | Option.none=>false
theorem someE_inv {P:Option Expr->Prop} {e:Option Expr} {f:Expr->Bool} (h:someE e f=true) (k:∀ a,f a=true->P (some a)):P e:=by
  cases e with
  | none=>exact ff h
  | some a=>exact k a h
theorem swaps_cell {e:Expr} {x:String} {pt:Pos} {l:Nat} {env:Env} (h:env.scope.names.lookup (Str.ofString x)=some .cell):swapsWith e (some (.Name (Str.ofString x) pt)) l env=pure false:=by
  have hk:(env.kindOf (Str.ofString x)==some .local)=false:=by
    show (env.scope.names.lookup (Str.ofString x)==some .local)=false
    rw [h];rfl
  cases e <;> first | rfl | (show (pure (env.blockKind==.function&&env.kindOf (Str.ofString x)==some .local&&_&&_):Sem Bool)=_;rw [hk,Bool.and_false];rfl)
noncomputable def isFor (s:Stmt) (f g:Expr->Bool) (h:List Stmt->Bool):Bool:=onSFor s fun t e b els _=>els.isEmpty&&(f t&&(g e&&h b))
theorem isFor_inv {P:Stmt->Prop} {s:Stmt} {f g:Expr->Bool} {h:List Stmt->Bool} (q:isFor s f g h=true) (k:∀ t e b p,f t=true->g e=true->h b=true->P (.For t e b [] p)):P s :=
  onSFor_inv q fun t e b els p q=>and_k q fun q1 q=>and_k q fun q2 q=>and_k q fun q3 q4=>nil_k (P:=fun els=>P (.For t e b els p)) q1 (k t e b p q2 q3 q4)
noncomputable def isFn (kn:String->Bool) (sc:Scope) (f:String) (g:List Expr->Bool) (e:Expr):Bool:=onCall e fun fn args kws _=>kws.isEmpty&&(gName kn sc f fn&&g args)
theorem isFn_inv {P:Expr->Prop} {kn:String->Bool} {sc:Scope} {f:String} {g:List Expr->Bool} {e:Expr} (h:isFn kn sc f g e=true) (k:∀ pf args p,isGlob sc (Str.ofString f)=true->(Str.ofString f==("__debug__":Str))=false->kn f=true->g args=true->P (.Call (.Name (Str.ofString f) pf) args [] p)):P e :=
  onCall_inv h fun fn args kws p h=>and_k h fun h1 h2=>and_k h2 fun h3 h4=>nil_k (P:=fun kws=>P (.Call fn args kws p)) h1 (gName_inv (P:=fun fn=>P (.Call fn args [] p)) h3 fun pf hg hd hk=>k pf args p hg hd hk h4)
noncomputable def isHs (kn ex:String->Bool) (sc:Scope):List (String×E)->List ExceptHandler->Bool
  | [],l=>l.isEmpty
  | (T,e)::r,l=>match l with
    | h::r'=>(match h with | .ExceptHandler t nm b' _=>someE t (gName kn sc T)&&(ex T&&(nm.isNone&&one b' fun s=>onSReturn s fun x _=>part x e (isE kn sc e))))&&isHs kn ex sc r r'
    | []=>false
mutual
noncomputable def isS (kn ex:String->Bool) (sc:Scope):S->Stmt->Bool
  | .asg x c,s=>onSAssign s fun ts v _=>one ts (fun t=>sName sc x t&&(isE kn sc c v&&(noComp v||(sc.names.lookup (Str.ofString x)==some .cell||(isComp c&&swapOk sc t v)))))
  | .unpack xs c,s=>onSAssign s fun ts v _=>one ts (fun t=>onTuple t fun es _ _=>sNames sc xs es)&&(isE kn sc c v&&(noComp v&&noTup v))
  | .setattr o a c,s=>onSAssign s fun ts v _=>one ts (fun t=>onAttribute t fun o' nm _=>nm==Str.ofString a&&isE kn sc o o')&&(isE kn sc c v&&(noComp v&&attrName a))
  | .ret c,s=>onSReturn s fun e _=>part e c (isE kn sc c)
  | .iff t a b,s=>onSIf s fun t' a' b' _=>isE kn sc t t'&&(isSs kn ex sc a a'&&isSs kn ex sc b b')
  | .for1 x c b,s=>isFor s (sName sc x) (fun e=>isE kn sc c e&&noSet e) (isSs kn ex sc b)
  | .forR x c b,s=>isFor s (sName sc x) (isFn kn sc "reversed" fun args=>one args (isE kn sc c)) (isSs kn ex sc b)
  | .forT xs c b,s=>isFor s (fun t=>onTuple t fun es _ _=>sNames sc xs es) (fun e=>isE kn sc c e&&noSet e) (isSs kn ex sc b)
  | .forZ xs c d b,s=>isFor s (fun t=>onTuple t fun es _ _=>sNames sc xs es) (isFn kn sc "zip" fun args=>two args (isE kn sc c) (isE kn sc d)) (isSs kn ex sc b)
  | .whil t b,s=>onSWhile s fun t' b' els _=>els.isEmpty&&(isE kn sc t t'&&isSs kn ex sc b b')
  | .setidx o i c,s=>onSAssign s fun ts v _=>one ts (fun t=>onSubscript t fun o' i' _=>isE kn sc o o'&&isE kn sc i i')&&(isE kn sc c v&&noComp v)
  | .cont,s=>onSContinue s fun _=>true
  | .expr c,s=>onSExpr s fun e _=>isE kn sc c e&&noComp e
  | .raise c,s=>onSRaise s fun e cause _=>cause.isNone&&(ex c&&someE e (isFn kn sc c fun args=>one args strC))
  | .tryE b hs,s=>onSTry s fun b' hs' els fin _=>els.isEmpty&&(fin.isEmpty&&(!hs'.isEmpty&&(isSs kn ex sc b b'&&isHs kn ex sc hs hs')))
noncomputable def isSs (kn ex:String->Bool) (sc:Scope):List S->List Stmt->Bool
  | [],l=>match l with | []=>true | _=>false
  | c::cs,l=>match l with | s::ss=>isS kn ex sc c s&&isSs kn ex sc cs ss | []=>false
end
section
variable {M:Model} {A:Around} {E:Value->Shared->Prop}
theorem wpAny_excMatches_own {h:Heap} {g:Array GenState} {d:Drawn} {t:Nat} {os:OsState} {e:Addr} {oe:Obj} {Q:Bool->Shared->Prop} {b:Bool}
    {nm q:Str} {C N:Addr} {bs bm:List Value} {hdct:Bool} {sn:List Str} {sub:List Value} {ab:Bool} {col:Option Bool} {dd:Option Addr} {k0 k1 k2 k3 k5:Option Value} {newId:String}
    {nm' q':Str} {D N':Addr} {bs' bm':List Value} {hdct':Bool} {sn':List Str} {sub':List Value} {ab':Bool} {col':Option Bool} {dd':Option Addr} {k0' k1' k2' k3' k5':Option Value} {newId':String}
    (hC:h.get? C=some (excClassObj nm q C N bs bm hdct sn sub ab col dd k0 k1 k2 k3 k5 newId)) (hD:h.get? D=some (excClassObj nm' q' D N' bs' bm' hdct' sn' sub' ab' col' dd' k0' k1' k2' k3' k5' newId'))
    (he:h.get? e=some oe) (hcls:oe.cls=.ref C) (hbase:bm'.contains (.type "BaseException")=true) (hb:(Value.ref C::bm).contains (.ref D)=b)
    (hq:Q b ⟨h,g,d,t,os⟩):wpAny M A (excMatches (.ref e) (.ref D)) Q E ⟨h,g,d,t,os⟩:=by
  have hcB:(Value.ref D::bm').contains (.type "BaseException")=true:=by rw [List.contains_cons,hbase,Bool.or_true]
  have f:=tc_notTuple
  unfold excMatches
  repeat (first | (with_reducible refine wpAny_loadPart_at he ?_;rw [hcls]) | with_reducible refine wpAny_loadPart_at hD ?_ | (with_reducible refine wpAny_isSubtype_exc hD ?_;rw [hcB]) | (with_reducible refine wpAny_isSubtype_exc hC ?_;rw [hb]) | wp_step)
  cases b <;> (wp_walk;exact hq)
end
structure FTop (κ:Ct) (outer:List Env) (L:Addr):Prop where
  st:κ.st=κ.env::outer
  fr:κ.env.frame=some L
  S:SoundFn κ.X κ.n κ.Γ
noncomputable def SndT (κ:Ct) (c:S) (sm:Stmt):Prop:=∀ ρ H,TriS κ [] (exec sm κ.env) ρ H (exS κ.Γ c ρ H)
noncomputable def SndL (κ:Ct) (cs:List S) (sms:List Stmt):Prop:=∀ ρ H,TriS κ [] (execs sms κ.env) ρ H (exSs κ.Γ cs ρ H)
section
variable {κ:Ct} {η:List Addr} {ρ:Rho} {H:Hp} {s:Shared} {outer:List Env} {L:Addr} {c d:E} {e e2:Expr} {b:List S} {b':List Stmt} {pos pt:Pos} {x:String}
theorem rng_is {a b c:Int} (h:rngOk a b c=true):a=0/\c=1/\0<=b/\b<=500000:=by
  unfold rngOk at h
  rw [Bool.and_eq_true,Bool.and_eq_true,Bool.and_eq_true] at h
  exact ⟨of_decide_eq_true h.1.1.1,of_decide_eq_true h.1.1.2,of_decide_eq_true h.1.2,of_decide_eq_true h.2⟩
theorem rng_inv {v:V} {p:Int×Int×Int} (h:rngV v=some p):v=.rng p.1 p.2.1 p.2.2:=by cases v <;> cases h;rfl
theorem vr_rng {X:Cx} {h:Heap} {n a c:Int} {m:Value} (r:VR X η h (.rng a n c) m):∃ t u w r,m=.ref r/\IsRange h r a n c t u w:=by
  cases r with
  | rng g hn=>exact ⟨_,_,_,_,rfl,g⟩
inductive WhI (κ:Ct) (η0:List Addr) (s0:Shared) (F:Nat->Rho->Hp->Prop) (m:Nat) (s:Shared):Prop
  | mk (ρ:Rho) (H:Hp) (η:List Addr) (a:At κ η ρ H s) (es:s={ s0 with heap:=s.heap,toks:=s.toks }) (x:Step (frs κ.st) (ownOf κ.env) η0 s0.heap η s.heap) (hf:F m ρ H):WhI κ η0 s0 F m s
theorem while_ok {test:Expr} {body':List Stmt} {pos:Pos} {tF:Rho->Hp->R Bool} {bF:Rho->Hp->RS} {n:Nat} (h1:∀ ρ H,Tri κ ρ [] (isTrue test κ.env (eval test κ.env)) H (tF ρ H) rB) (h2:∀ ρ H,TriS κ [] (execs body' κ.env) ρ H (bF ρ H)) :
    TriS κ [] (exec (.While test body' [] pos) κ.env) ρ H (whileL tF bF n ρ H):=by
  intro hne η0 s0 a0 _
  generalize hres:whileL tF bF n ρ H=res at hne ⊢
  refine wpAny_While (codeAny_whileLoop (I:=WhI κ η0 s0 (fun m ρ H=>whileL tF bF m ρ H=res)) (fun m s hI=>?_) n ⟨ρ,H,η0,a0,rfl,Step.refl _ _ _ _,hres⟩)
  obtain ⟨ρ,H,η,a,es,x,hf⟩:=hI
  cases m with
  | zero=>exact absurd hf.symm hne
  | succ m =>
    rw [whileL] at hf
    have hr:tF ρ H≠.stuck:=fun q=>by rw [q] at hf;exact hne hf.symm
    refine wpAny_mono (h1 ρ H hr η s a fun _ q=>nomatch q) (fun b s2 hb=>?_) fun ev s2 hx=>?_
    rotate_left
    · obtain ⟨c,H1,e,_⟩:=hx
      rw [e] at hf;exact absurd hf.symm hne
    obtain ⟨c,H1,e1,hrel,η1,h1',tk1,rfl,i1,st1,_⟩:=hb
    have hc:b=c:=hrel
    subst hc
    rw [e1] at hf
    have a1:=a.step st1 i1 tk1
    have x1:=x.trans st1.up
    cases b with
    | false =>
      have hf:RS.next ρ H1=res:=hf
      show wpAny _ _ (execs [] κ.env) _ _ _
      refine wpAny_pure ?_
      show OutS κ η0 s0 res .next _
      rw [es]
      exact ⟨ρ,H1,hf.symm,η1,h1',tk1,rfl,i1,x1,a1.fok,a1.rho⟩
    | true =>
      have hf:(noR (bF ρ H1)).bind (fun ρ1 H2=>whileL tF bF m ρ1 H2)=res:=hf
      have hb:bF ρ H1≠.stuck:=fun q=>by rw [q] at hf;exact hne hf.symm
      rw [if_pos rfl]
      refine wpAny_mono (h2 ρ H1 hb η1 _ a1 fun _ q=>nomatch q) (fun f s3 h3=>?_) fun ev s3 h3=>?_
      · rw [es] at h3 a1
        cases f with
        | next =>
          obtain ⟨ρ1,H2,e,η3,h3',tk3,rfl,i3,x3,en3⟩:=h3
          rw [e] at hf
          exact ⟨m,Nat.lt_succ_self _,ρ1,H2,η3,a1.stepS x3 i3 en3 tk3,rfl,x1.trans x3,hf⟩
        | cont =>
          obtain ⟨ρ1,H2,e,_⟩:=h3
          rw [e] at hf;exact absurd hf.symm hne
        | ret mv =>
          obtain ⟨v,H2,e,P⟩:=h3
          rw [e] at hf
          exact ⟨v,H2,hf.symm,P.trans (s:=s0) x1 fun _ _ q=>q⟩
        | _=>exact False.elim h3
      · obtain ⟨c,ρ1,H2,e,_⟩:=h3
        rw [e] at hf;exact absurd hf.symm hne
end
section
variable {κ:Ct} {η:List Addr} {ρ:Rho} {H:Hp} {s:Shared} {outer:List Env} {L:Addr} {c d:E} {e e2:Expr} {b:List S} {b':List Stmt} {pos pt:Pos} {x:String}
noncomputable def TurnOK (κ:Ct) (target:Expr) (body':List Stmt) (bodyF:V->Rho->Hp->RS):Prop:=∀ v mv ρ H,bodyF v ρ H≠.stuck->∀ η s,At κ η ρ H s->VR κ.X η s.heap v mv->wpAny κ.X.M κ.A (assign target κ.env mv) (fun _ s2=>wpAny κ.X.M κ.A (execs body' κ.env) (OutS κ η s (bodyF v ρ H)) (ExcS κ η s (bodyF v ρ H)) s2) noE s
theorem SndL.go (hb:SndL κ b b') {ρ1:Rho} {H1:Hp} {h2:Heap} {tk2:Nat} (a:At κ η ρ H s) (hne:exSs κ.Γ b ρ1 H1≠.stuck) (x2:Step (frs κ.st) (ownOf κ.env) η s.heap η h2) (i2:Inv κ.X η H1 h2) (en2:Ends κ.X κ.env ρ1 η h2):wpAny κ.X.M κ.A (execs b' κ.env) (OutS κ η s (exSs κ.Γ b ρ1 H1)) (ExcS κ η s (exSs κ.Γ b ρ1 H1)) { s with heap:=h2,toks:=tk2 } :=
  wpAny_mono (hb ρ1 H1 hne η _ (a.stepS x2 i2 en2 tk2) fun _ q=>nomatch q) (fun _ _ h3=>h3.after x2) fun _ _ h3=>h3.after x2
theorem turn_name (hx:isSt κ.env.scope (Str.ofString x)=true) (hb:SndL κ b b'):TurnOK κ (.Name (Str.ofString x) pt) b' fun v ρ1 H2=>exSs κ.Γ b (setL x v ρ1) H2 :=
  fun _ _ _ _ hne _ _ a rv=>wpAny_assign_Name (wpAny_store a hx rv fun _ _ x2 i2 en2=>hb.go a hne x2 i2 en2)
theorem optS_ne {α:Type} {o:Option α} {f:α->RS} (h:optS o f≠.stuck):∃ a,o=some a:=by
  cases o with
  | none=>exact absurd rfl h
  | some a=>exact ⟨a,rfl⟩
theorem unpack_of {xs:List String} {v:V} {k:Rho->RS} (h:unpackV xs v ρ H k≠.stuck):∃ ws ρ',partsV v H=some ws/\setAll xs ws ρ=some ρ'/\unpackV xs v ρ H k=k ρ':=by
  unfold unpackV at h ⊢
  obtain ⟨ws,hp⟩:=optS_ne h
  rw [optS_of hp] at h ⊢
  obtain ⟨ρ',hset⟩:=optS_ne h
  exact ⟨ws,ρ',hp,hset,optS_of hset⟩
theorem turn_tup {xs:List String} {es:List Expr} {k:Nat} (hd:κ.Γ.hd=false) (hx:sNames κ.env.scope xs es=true) (hb:SndL κ b b'):TurnOK κ (.Tuple es k pt) b' fun v ρ1 H2=>unpackV xs v ρ1 H2 fun ρ2=>exSs κ.Γ b ρ2 H2:=fun v mv ρ H hne η s a rv=>by
  obtain ⟨ws,ρ',hp,hset,er⟩:=unpack_of hne
  dsimp only at hne ⊢
  rw [er] at hne ⊢
  exact unpack_ok (a.hand hd) hx hp hset rv a fun h2 tk2 x2 i2 en2=>hb.go a hne x2 i2 en2
theorem for_any (hd:κ.Γ.hd=false) (G:FTop κ outer L) {target:Expr} {bodyF:V->Rho->Hp->RS} {f:V->Hp->RS} (he:Snd κ c e) (hn:noSet e=true) (turn:TurnOK κ target b' bodyF) (hf:∀ v H1,f v H1≠.stuck->f v H1=forV bodyF v ρ H1/\∀ {it xs i η s mv} {Q:Unit->Shared->Prop},ItR κ.X η s.heap it H1 v xs i->Q () s->wpAny κ.X.M κ.A (letOwnedTupleGo target (.ref it) mv) Q noE s) :
    TriS κ [] (exec (.For target e b' [] pos) κ.env) ρ H (ofR ρ (evE κ.Γ ρ c H) f):=by
  refine TriS.via (fun Q E _ s _ q=>wpAny_For q (folded_no hn)) (he.val ρ H) fun v H1 mv _ _ hs η s Q E a hv hq he=>?_
  obtain ⟨ef,hlet⟩:=hf v H1 hs
  rw [ef] at hs hq he
  unfold forV at hs hq he
  obtain ⟨xs,hi⟩:=optS_ne hs
  rw [optS_of hi] at hs hq he
  refine monoN (iter_ok (Q:=fun it s2=>codeAny κ.X.M κ.A (.forLoop target it b' [] κ.env) (fun r s'=>match r with | .ok f=>Q f s' | .error e=>cameBackBy κ.X.M κ.A κ.env E e s') s2) a.inv (vr_of hv m0) hi fun ob r=>?_) fun _ _ q=>q
  have kp:=push_keeps s.heap ob
  exact for_core (a.hand hd) (s0:=s) (η0:=η) turn (Iter.plain (H0:=H1) (fun H' hck n hn=>by subst hn;exact sameO_ref hck) hlet) a (one_none (size_none _)) (a.step (Step.ext _ _ _ kp) (a.inv.ext kp) s.toks) rfl (Step.ext _ _ _ kp) ⟨r,a.inv.size_off⟩ hs hq fun ev s' o=>o.back G.st G.fr a he
theorem st_for1 (G:FTop κ outer L) (he:Snd κ c e) (hn:noSet e=true) (hx:isSt κ.env.scope (Str.ofString x)=true) (hb:SndL κ b b'):SndT κ (.for1 x c b) (.For (.Name (Str.ofString x) pt) e b' [] pos) :=
  fun _ _=>TriS.hdn fun hd=>for_any hd G he hn (turn_name hx hb) fun _ _ _=>⟨rfl,fun _ q=>wpAny_pure q⟩
theorem st_forT {xs:List String} {es:List Expr} {k:Nat} (G:FTop κ outer L) (he:Snd κ c e) (hn:noSet e=true) (hx:sNames κ.env.scope xs es=true) (hb:SndL κ b b'):SndT κ (.forT xs c b) (.For (.Tuple es k pt) e b' [] pos) :=
  fun _ _=>TriS.hdn fun hd=>for_any hd G he hn (turn_tup hd hx hb) fun v H1 hs=>by
    obtain ⟨ys,hl⟩:=optS_ne hs
    refine ⟨optS_of hl,fun {it xs i η s mv Q} r q=>?_⟩
    cases r with
    | list _ _ hit =>
      cases mv with
      | ref T=>exact wpAny_letOwnedTupleGo_listiter hit q
      | _=>exact wpAny_pure q
    | tab _ e0 _=>rw [show listAt _ _=Option.bind _ _ from rfl] at hl;rw [show refAt (V.ref _)=some _ from rfl,Option.bind_some,e0] at hl;cases hl
    | _=>cases hl
theorem st_forR {pf p2:Pos} (G:FTop κ outer L) (hg:isGlob κ.env.scope (Str.ofString "reversed")=true) (hd1:(Str.ofString "reversed"==("__debug__":Str))=false) (hk:κ.X.kn "reversed"=true) (hp:Snd κ c e) (hx:isSt κ.env.scope (Str.ofString x)=true) (hb:SndL κ b b') :
    SndT κ (.forR x c b) (.For (.Name (Str.ofString x) pt) (.Call (.Name (Str.ofString "reversed") pf) [e] [] p2) b' [] pos):=fun ρ H=>TriS.hdn fun hd=>by
  refine TriS.via (fun Q E η s at' q=>wpAny_For (wpAny_bind (m:=eval (.Name (Str.ofString "reversed") pf) κ.env) (wpAny_glob at' rfl hg hd1 (.inr (κ.X.bi "reversed" (.type "reversed") rfl hk)) (by rw [star_plain hp.pl];exact PySem.callWith_type1 q)))) (hp.val ρ H) fun v H1 mv _ _ hs η s Q E a hv hq he=>?_
  have rv:VR κ.X η s.heap v mv:=vr_of hv m0
  unfold forRV at hs hq he
  obtain ⟨⟨a1,n,c1⟩,hr⟩:=optS_ne hs
  rw [optS_of hr] at hs hq he
  have hok:rngOk a1 n c1=true:=Classical.byContradiction fun q=>hs (if_neg q)
  rw [ifS_of hok] at hs hq he
  obtain ⟨rfl,rfl,n0,n1⟩:=rng_is hok
  rw [rng_inv hr] at rv
  obtain ⟨_,_,_,r0,rfl,g⟩:=vr_rng rv
  refine call_reversed_range g n0 n1 (wpAny_pyIter_rangeiter (Heap.get?_push_size _ rfl) ?_)
  have kp:=push_keeps s.heap { cls:=.type "range_iterator",data:=.fields #[rawInt (n - 1),rawInt n,rawInt (-1)] }
  exact for_core (a.hand hd) (s0:=s) (η0:=η) (turn_name hx hb) (Iter.plain (H0:=H1) (src:=.rng (n - 1) n (-1)) (xs:=(rangeL (n - 1) n (-1)).map .int) (fun H' hck n hn=>nomatch hn) fun _ q=>wpAny_pure q) a (one_none (size_none _)) (a.step (Step.ext _ _ _ kp) (a.inv.ext kp) s.toks) rfl (Step.ext _ _ _ kp) ⟨.rng (by
    rw [Int.natCast_zero,Int.mul_zero,Int.add_zero,Int.sub_zero,rangeL,List.length_map,List.length_range,Int.toNat_of_nonneg n0];exact Heap.get?_push_size _ rfl),a.inv.size_off⟩ hs hq fun ev s' o=>o.back G.st G.fr a he
theorem forZ_inv {f:V->Rho->Hp->RS} {ws:List V} (h:forZ f ws ρ H≠.stuck):∃ n ls ys,ws=[.ref n,.tup ys]/\H[n]?=some (.list ls)/\ls.length=ys.length/\forZ f ws ρ H=forL f (fun H'=>sameO (.ref n) H H'&&isOwn H'[H.length]?) (pairsZ ls ys) ρ (H++[.own]):=by
  unfold forZ at h ⊢
  split at h
  · obtain ⟨ls,hls⟩:=optS_ne h
    rw [optS_of hls] at h ⊢
    obtain ⟨ys,hys⟩:=optS_ne h
    rw [optS_of hys] at h ⊢
    have hL:ls.length=ys.length:=Classical.byContradiction fun q=>h (if_neg q)
    cases tupAt_inv hys
    obtain ⟨n,en,hn⟩:=Option.bind_eq_some_iff.mp hls
    cases refAt_inv en
    obtain ⟨o,q1,q2⟩:=Option.bind_eq_some_iff.mp hn
    cases o <;> cases q2
    exact ⟨n,ls,ys,rfl,q1,hL,ifS_of hL⟩
  · exact absurd rfl h
theorem two_of {α:Type} {v w:V} {ms:List α} (h:[v,w].length=ms.length):∃ m k,ms=[m,k]:=match ms,h with | [m,k],_=>⟨m,k,rfl⟩
theorem st_forZ {xs:List String} {es:List Expr} {k:Nat} {pf p2:Pos} (G:FTop κ outer L) (hg:isGlob κ.env.scope (Str.ofString "zip")=true) (hd1:(Str.ofString "zip"==("__debug__":Str))=false) (hk:κ.X.kn "zip"=true) (h1:Snd κ c e) (h2:Snd κ d e2) (hx:sNames κ.env.scope xs es=true) (hb:SndL κ b b') :
    SndT κ (.forZ xs c d b) (.For (.Tuple es k pt) (.Call (.Name (Str.ofString "zip") pf) [e,e2] [] p2) b' [] pos):=fun ρ H=>TriS.hdn fun hd=>by
  have hl:Loads κ.X.mg κ.X.mb "zip" (.type "zip"):=.inr (κ.X.bi _ _ rfl hk)
  have hrow:SndS κ [c,d] [e,e2]:=.cons h1 (.cons h2 .nil)
  refine TriS.via (fun Q E η s at' q=>wpAny_For (wpAny_bind (m:=eval (.Name (Str.ofString "zip") pf) κ.env) (wpAny_glob at' rfl hg hd1 hl (callWith_of (P:=fun h=>∀ b o,κ.X.base.get? b=some o->h.get? b=some o) (by rw [hrow.any];rfl) (κ.X.kp "zip" _ hk hl) q)))) (Tri.args (hrow.any p2) (hrow.val p2 ρ H)) fun ws H1 ar _ hlen hs η s Q E a hv hq he=>⟨a.inv.keep,?_⟩
  obtain ⟨n,ls,ys,rfl,hn,hL,er⟩:=forZ_inv hs
  rw [er] at hs hq he
  obtain ⟨mv,mw,em⟩:=two_of hlen.1
  rw [hlen.2]
  rw [em] at hv ⊢
  have rv:VR κ.X η s.heap (.ref n) mv:=hv (.ref n,mv) (List.Mem.head _)
  have rw':VR κ.X η s.heap (.tup ys) mw:=hv (.tup ys,mw) (List.Mem.tail _ (List.Mem.head _))
  cases rv with
  | @ref _ l en =>
  cases rw' with
  | @tup t itemsT kT _ gt nt rt lt =>
  obtain ⟨items,cc,g,r,le⟩:=list_of a.inv en hn
  refine call_zip_lt ⟨_,g,rfl,cc,rfl⟩ ⟨_,gt,rfl,kT,rfl⟩ fun h2 Z kp=>wpAny_pyIter_zip Z.pz ?_
  obtain ⟨aO,bO,gO⟩:=Z.pTO
  have new:∀ k,s.heap.get? (s.heap.objs.size+k)=Option.none:=fun k=>by
    cases e:s.heap.get? (s.heap.objs.size+k) with
    | none=>rfl
    | some o=>exact absurd (Heap.lt_size e) (Nat.not_lt.mpr (Nat.le_add_right _ _))
  have off:∀ k,k≠3->s.heap.objs.size+k∉η++[s.heap.objs.size+3]:=fun k hk q=>by
    rcases List.mem_append.mp q with q | q
    · obtain ⟨o,e⟩:=a.inv.alive q;rw [new] at e;cases e
    · exact hk (Nat.add_left_cancel (List.mem_singleton.mp q))
  have i2:Inv κ.X (η++[s.heap.objs.size+3]) (H1++[.own]) h2:=a.inv.make kp (new 3) gO .own
  have st2:Step (frs κ.st) [] η s.heap (η++[s.heap.objs.size+3]) h2:=Step.make _ _ _ kp (new 3)
  refine for_core (a.hand hd) (s0:=s) (η0:=η) (turn_tup hd hx hb) (Iter.zip (TI:=s.heap.objs.size+2) (TO:=s.heap.objs.size+3) (i1:=s.heap.objs.size) (i2:=s.heap.objs.size+1) (l:=l) (t:=t) (n:=n) (k:=H1.length) hL fun H' hc=>?_) a (fun b hb=>?_) (a.step st2 i2 s.toks) rfl st2.up
    ⟨itemsT,kT,Z.pz,Z.pTI,Z.p1,Z.p2,kp _ _ gt,rt.step st2 a.stk.frm,off 4 (by decide),off 2 (by decide),off 0 (by decide),off 1 (by decide),st2.mem gt nt,getElem?_pre en,by rw [<- a.inv.len,List.getElem?_append_right (Nat.le_refl _),Nat.sub_self];rfl⟩ hs hq fun ev s' o=>o.back G.st G.fr a he
  · rw [Bool.and_eq_true] at hc
    refine ⟨(sameO_ref hc.1).trans hn,?_⟩
    cases e:H'[H1.length]? with
    | none=>rw [e] at hc;cases hc.2
    | some o=>cases o <;> first | rfl | (rw [e] at hc;cases hc.2)
  · rcases mem4.mp hb with rfl | rfl | rfl | rfl
    · exact new 4
    · exact new 0
    · exact new 1
    · exact new 3
theorem st_asg {v:Expr} (h2:Snd κ c v) (hx:isSt κ.env.scope (Str.ofString x)=true) (h4:swapsWith v (some (.Name (Str.ofString x) pt)) pos.line κ.env=pure false):SndT κ (.asg x c) (.Assign [.Name (Str.ofString x) pt] v pos):=fun ρ H=>by
  rw [exec_Assign_Name κ.env _ _ _ _ h4]
  exact TriS.stand (TriS.expr (h2.val ρ H) fun w H1 mw _ _=>TriS.stand (TriS.store m0 hx TriS.next))
theorem st_unpack {xs:List String} {es:List Expr} {k:Nat} {v:Expr} (h2:Snd κ c v) (hx:sNames κ.env.scope xs es=true) (h3:noComp v=true) (h4:noTup v=true):SndT κ (.unpack xs c) (.Assign [.Tuple es k pt] v pos):=fun ρ H=>TriS.hdn fun hd =>
  TriS.via (fun Q E _ s _ q=>Assign_Tuple q (by unfold swapsWithSole;exact swaps_no h3) (swapped_no h4)) (h2.val ρ H) fun w H1 mw _ _ hs η s Q E a hv hq he=>by
    obtain ⟨ws,ρ',hp,hset,er⟩:=unpack_of hs
    rw [er] at hq
    exact unpack_ok (a.hand hd) hx hp hset (hv _ m0) a fun h2 tk2 x2 i2 en2=>hq .next _ ⟨ρ',H1,rfl,η,h2,tk2,rfl,i2,x2,en2⟩
theorem rel_go {M:Model} {A:Around} {l l':List Value} (Q:Unit->Shared->Prop) (E:Value->Shared->Prop) (s:Shared) (q:Q () s):wpAny M A (release l l') Q E s:=fun Γ p _=>by
  show Sem.wp _ _ (release _ _) _ _ _ _;unfold release;rw [Sem.wp_release_go];exact q
theorem st_setattr {o:E} {a:String} {v o':Expr} (h2:Snd κ c v) (ho:Snd κ o o') (h3:noComp v=true) (h4:attrName a=true):SndT κ (.setattr o a c) (.Assign [.Attribute o' (Str.ofString a) pt] v pos):=fun ρ H=>by
  rw [plainObj_exec_Assign_Attribute _ _ _ _ _ (swaps_no h3)]
  refine TriS.stand (TriS.expr (h2.val ρ H) fun w H1 mw _ _=>?_)
  rw [assign_Attribute]
  simp only [bind_assoc]
  exact TriS.expr (Tri.holding (ho.val ρ H1).any) fun u H2 mu _ _=>TriS.stand (TriS.expr (Tri.holding (set_ok m0 (m1 m0) h4)) fun _ H3 _ _ _=>TriS.skip (a₀:=()) rel_go TriS.next)
theorem st_setidx {o i:E} {v o' i':Expr} (h2:Snd κ c v) (ho:Snd κ o o') (hi:Snd κ i i') (h3:noComp v=true):SndT κ (.setidx o i c) (.Assign [.Subscript o' i' pt] v pos):=fun ρ H=>by
  rw [exec_Assign_Subscript _ _ _ _ _ (swaps_no h3)]
  refine TriS.stand (TriS.expr (h2.val ρ H) fun w H1 mw _ _=>?_)
  rw [assign_Subscript]
  simp only [bind_assoc]
  exact TriS.expr (Tri.holding (ho.val ρ H1).any) fun u H2 mu _ _=>TriS.expr (Tri.holding (hi.val ρ H2).any) fun z H3 mz _ _=>TriS.stand (TriS.expr (Tri.holding (setK_ok (m1 m0) m0 (m1 (m1 m0)))) fun _ H4 _ _ _=>TriS.skip (a₀:=()) rel_go TriS.next)
theorem st_ret {x:Option Expr} (h:part x c (isE κ.X.kn κ.env.scope c)=true) (k:∀ e,isE κ.X.kn κ.env.scope c e=true->Snd κ c e):SndT κ (.ret c) (.Return x pos):=fun ρ H=>by
  cases x with
  | none =>
    rw [isNone_inv h,exec_Return_none]
    exact TriS.stand fun _ η s a _=>wpAny_pure ⟨.none,H,rfl,η,s.heap,s.toks,rfl,a.inv,Step.refl _ _ _ _,a.fok,.none⟩
  | some e =>
    rw [exec_Return_some]
    exact TriS.stand (TriS.expr ((k e h).val ρ H) fun w H1 mw _ _=>TriS.ret m0)
theorem st_iff {t:E} {t':Expr} {a:List S} {a':List Stmt} (h1:Snd κ t t') (ha:SndL κ a a') (hb:SndL κ b b'):SndT κ (.iff t a b) (.If t' a' b' pos):=fun ρ H=>by
  rw [exec_If]
  refine TriS.stand (TriS.expr (h1.test ρ H) fun c H1 c' _ hc=>?_)
  cases (show c'=c from hc)
  cases c with
  | true=>exact (ha ρ H1).any
  | false=>exact (hb ρ H1).any
theorem st_expr (h1:Snd κ c e) (h2:noComp e=true):SndT κ (.expr c) (.Expr e pos):=fun ρ H =>
  TriS.via (fun Q E _ s a0 q=>wpAny_Expr_any q (by unfold interactive;rw [a0.fok.kind];rfl) (swaps_no h2)) (h1.val ρ H) fun w H1 mw _ _ hs η s Q E a hv hq he=>hq .next s (nextS a)
theorem st_cont:SndT κ .cont (.Continue pos):=fun ρ H=>by
  show TriS _ _ (standAt pos >>= fun _=>Pure.pure Flow.cont) _ _ _
  exact TriS.stand fun _ η s a _=>wpAny_pure ⟨ρ,H,rfl,η,s.heap,s.toks,rfl,a.inv,Step.refl _ _ _ _,a.fok,a.rho⟩
theorem st_raise {m:Str} {c:String} {np cpos pp:Pos} {kk:Nat} (hex:κ.X.ex c=true) (hg:isGlob κ.env.scope (Str.ofString c)=true) (hd1:(Str.ofString c==("__debug__":Str))=false):SndT κ (.raise c) (.Raise (some (.Call (.Name (Str.ofString c) np) [.Constant (.str m) kk pp] [] cpos)) Option.none pos):=fun ρ H=>TriS.hdn fun hh _ η s a _=>by
  obtain ⟨C,ow,_⟩:=κ.X.own c hex
  have e1:=ow.bound
  obtain ⟨bm,N,nm,q,bs,hdct,sn,sub,ab,col,dd,k0,k1,k2,k3,k5,mN,hC,hN,hni,TL⟩:=ow.obj
  refine wpAny_Raise_call_subT (C:=C) (nm:=nm) (q:=q) (N:=N) (bs:=bs) (bm:=bm) (hdct:=hdct) (sn:=sn) (sub:=sub) (ab:=ab) (col:=col) (dd:=dd) (k0:=k0) (k1:=k1) (k2:=k2) (k3:=k3) (k5:=k5)
    F.excBase_ValueError (mN:=mN) (TL.hasType F.excBase_ValueError.hasBase) (a.hand hh) rfl hni (wpAny_glob a rfl hg hd1 (.inl e1) ⟨rfl,?_⟩)
  refine PySem.Calls.evalArgs_plain (PySem.Calls.spliced_cons (PySem.Calls.Constant_str (k:=kk) (pos:=pp) (PySem.Calls.spliced_nil ?_)))
  have kp:=a.inv.keep
  refine ⟨rfl,(show (1:Nat)<=sizeLine by decide),kp _ _ hC,hN.keeps kp,TL.keeps kp,fun h' e mk=>?_⟩
  obtain ⟨t,g1,g2,g3⟩:=mk.there
  have ne:e∉η:=fun q=>by obtain ⟨o,z⟩:=a.inv.alive q;have:=mk.new;rw [z] at this;cases this
  exact ⟨c,ρ,H,rfl,η,h',_,rfl,a.inv.ext mk.keeps,Step.ext _ _ _ mk.keeps,a.ends (Step.ext _ _ _ mk.keeps) (a.inv.ext mk.keeps),e,_,_,C,rfl,g1,⟨e1,hex⟩,⟨rfl,rfl⟩,rfl,ne,mk.new,(show 4 < 6 by decide),.inl rfl⟩
theorem SndL.nil:SndL κ [] []:=fun _ _=>TriS.next
theorem SndL.cons {c:S} {cs:List S} {sm:Stmt} {sms:List Stmt} (h1:SndT κ c sm) (h2:SndL κ cs sms):SndL κ (c::cs) (sm::sms):=fun ρ H=>TriS.seq (h1 ρ H) fun ρ1 H1 _=>h2 ρ1 H1
theorem isHs_inv {kn ex:String->Bool} {sc:Scope} {P:List ExceptHandler->Prop} {T:String} {c:E} {r:List (String×E)} {l:List ExceptHandler} (h:isHs kn ex sc ((T,c)::r) l=true)
    (k:∀ t x p q r',gName kn sc T t=true->ex T=true->part x c (isE kn sc c)=true->isHs kn ex sc r r'=true->P (.ExceptHandler (some t) Option.none [.Return x p] q::r')):P l:=by
  cases l with
  | nil=>exact ff h
  | cons hd r' =>
    cases hd with
    | ExceptHandler t nm b' p =>
      refine and_k h fun g1 h6=>and_k g1 fun h1 g2=>and_k g2 fun h2 g3=>and_k g3 fun h3 h4=>?_
      apply none_k h3
      apply someE_inv h1;intro a h1
      apply one_inv h4;intro s h5
      apply onSReturn_inv h5;intro x q h7
      exact k a x q p r' h1 h2 h7 h6
theorem At.mark (a:At κ η ρ H s) (e:Addr):At (κ.mark e) η ρ H s:=⟨a.inv,a.fok,a.rho,⟨a.stk.frames,a.stk.ok,a.stk.off,a.stk.frm⟩,⟨a.room.depth,a.room.units⟩,fun q=>nomatch q⟩
theorem exH_ok (G:FTop κ outer L) {η0:List Addr} {s0:Shared} {e T:Addr} {c:String} (x:Step (frs κ.st) (ownOf κ.env) η0 s0.heap η s.heap) (hs0:s={ s0 with heap:=s.heap,toks:=s.toks }) (a:At κ η ρ H s) (tr:TracedX κ.X s0.heap e c T .none η s.heap) (hb0:∀ b o,κ.X.base.get? b=some o->∃ o',s0.heap.get? b=some o') :
    ∀ (hs:List (String×E)) (hms:List ExceptHandler),isHs κ.X.kn κ.X.ex κ.env.scope hs hms=true->exH { κ.Γ with hd:=true } c hs ρ H≠.stuck ->
      wpAny κ.X.M κ.A (handleBy (.ref e) κ.env hms) (OutS κ η0 s0 (exH { κ.Γ with hd:=true } c hs ρ H)) (ExcS κ η0 s0 (exH { κ.Γ with hd:=true } c hs ρ H)) s
  | [],hms,h,hne=>nil_k (P:=fun hms=>wpAny κ.X.M κ.A (handleBy (.ref e) κ.env hms) (OutS κ η0 s0 (.raise c ρ H)) (ExcS κ η0 s0 (.raise c ρ H)) s) h (wpAny_handleBy_nil (wpAny_passOn (H:=H) (outer:=outer) G.fr tr fun h' sf fT ex=>by
      rw [<- G.st] at sf ex
      rw [hs0]
      exact ⟨c,ρ,H,rfl,η,h',s.toks,rfl,sf.inv a.stk.frm a.inv (one_none (by
        cases g:κ.X.base.get? T with
        | none=>rfl
        | some o=>obtain ⟨o',g'⟩:=hb0 T o g;rw [fT] at g';cases g')) a.stk.fresh a.stk.off,sf.step a.stk.frm x (one_none fT),sf.ends a.stk.frm ⟨a.fok,a.rho⟩,ex⟩))
  | (K,b)::r,hms,h,hne=>by
    apply isHs_inv h;intro t rx rp pos r' h1 h2 h4 h5
    apply gName_inv h1;intro np hg hd1 hk
    obtain ⟨oe,vs,C,oT,ts,q1,q2,q3,q4,q5,q6,q7,q8,q9,q10,q11,q12,q13,q14,q15⟩:=id tr
    obtain ⟨C',ow,hsub⟩:=κ.X.own c q2.2
    have eC:C'=C:=by have e1:=ow.bound;rw [q2.1] at e1;cases e1;rfl
    subst eC
    obtain ⟨D,ow',_⟩:=κ.X.own K h2
    have e1':=ow'.bound
    have aM:=a.mark e
    refine wpAny_handleBy_cons (codeAny_handlers_test (wpAny_glob aM rfl hg hd1 (.inl e1') ?_)) (by intro q;cases q)
    have keyed:∀ {Q:Bool->Shared->Prop} {E:Value->Shared->Prop},Q (excIs c K) s->wpAny κ.X.M (κ.A.mark (some (.ref e))) (excMatches (.ref e) (.ref D)) Q E s:=fun hq=>by
      obtain ⟨hp,g,d,tk,os⟩:=s
      obtain ⟨bm,N,nn,q,bs,hdct,sn,sub,ab,col,dd,k0,k1,k2,k3,k5,mN,hC,_⟩:=ow.obj
      obtain ⟨bm',N',nn',q',bs',hdct',sn',sub',ab',col',dd',k0',k1',k2',k3',k5',mN',hD,hN',hni',TL'⟩:=ow'.obj
      exact wpAny_excMatches_own (a.inv.keep _ _ hC) (a.inv.keep _ _ hD) q1 q3.1 (TL'.hasType F.excBase_ValueError.hasBase) (hsub K D _ _ h2 e1' hC rfl) hq
    refine keyed ?_
    by_cases hx:excIs c K=true
    · rw [hx]
      show codeAny _ _ (.handlers _ _ _) _ _
      rw [exH_cons,if_pos hx] at hne ⊢
      cases ev:evE { κ.Γ with hd:=true } ρ b H with
      | ok v H1 =>
        refine codeAny_handlers_suite (wpAny_land2 tr fun h' same=>?_)
        have k:∀ b o,s.heap.get? b=some o->h'.get? b=some o:=fun b o g=>(same b).trans g
        have x3:Step (frs κ.st) (ownOf κ.env) η0 s0.heap η h':=x.trans (Step.ext _ _ _ k)
        have SM:SoundFn (κ.mark e).X (κ.mark e).n (κ.mark e).Γ:=⟨G.S.const,G.S.call⟩
        have rs:exSs (κ.mark e).Γ [.ret b] ρ H=.ret v H1:=by
          show (ofR ρ (evE { κ.Γ with hd:=true } ρ b H) fun v H1=>.ret v H1).bind _=_
          rw [ev];rfl
        have go:=SndL.cons (st_ret (κ:=κ.mark e) (pos:=rp) h4 fun e' h=>evE_ok b e' (κ.mark e) SM h) .nil ρ H
        rw [rs] at go
        refine wpAny_mono (go (fun q=>nomatch q) η _ (aM.step (Step.ext _ _ _ k) (a.inv.ext k) s.toks) fun _ q=>nomatch q) (fun f s1 hf=>?_) fun ev s1 hx=>?_
        · rw [hs0] at hf
          cases f with
          | next=>obtain ⟨ρ',H',e,P⟩:=hf;cases e
          | cont=>obtain ⟨ρ',H',e,_⟩:=hf;cases e
          | brk=>exact hf.elim
          | ret mv=>obtain ⟨v,H',e,P⟩:=hf;exact ⟨v,H',e,P.trans (s:=s0) x3 fun _ _ q=>q⟩
        · obtain ⟨c',ρ',H',e',_⟩:=hx
          cases e'
      | _=>rw [ev] at hne;exact absurd rfl hne
    · have er:exH { κ.Γ with hd:=true } c ((K,b)::r) ρ H=exH { κ.Γ with hd:=true } c r ρ H:=by rw [exH_cons,if_neg hx]
      rw [Bool.eq_false_iff.mpr hx]
      show wpAny _ _ (handleBy _ _ _) _ _ _
      rw [er] at hne ⊢
      exact exH_ok G x hs0 a tr hb0 r r' h5 hne
theorem st_try {hs:List (String×E)} {hs':List ExceptHandler} (G:FTop κ outer L) (hb:SndL κ b b') (h3:(!hs'.isEmpty)=true) (hHs:isHs κ.X.kn κ.X.ex κ.env.scope hs hs'=true):SndT κ (.tryE b hs) (.Try b' hs' [] [] pos):=fun ρ H=>TriS.hdn fun hh hne η s a hv=>by
  cases hs' with
  | nil=>exact ff h3
  | cons h0' hs' =>
  refine wpAny_Try_except (wpAny_mono (hb ρ H (fun q=>hne (by rw [q];rfl)) η s a hv) (fun f s1 hf=>?_) fun ev s1 hx=>?_)
  · cases f with
    | next=>obtain ⟨ρ',H',e,P⟩:=hf;exact wpAny_pure ⟨ρ',H',by rw [e];rfl,P⟩
    | ret mv=>obtain ⟨v,H',e,P⟩:=hf;exact ⟨v,H',by rw [e];rfl,P⟩
    | cont=>obtain ⟨ρ',H',e,_⟩:=hf;exact absurd (by rw [e];rfl) hne
    | _=>exact hf.elim
  · obtain ⟨c,ρ1,H1,e,η1,h',tk,rfl,i,x1,en,ex⟩:=hx
    rw [e] at hne ⊢
    replace hne:exH { κ.Γ with hd:=true } c hs ρ1 H1≠.stuck:=hne
    show wpAny _ _ _ _ _ _
    have stk1:Stk κ.X η1 κ.A κ.st h':=a.stk.step x1
    rw [G.st] at ex
    refine wpAny_land (s:={ s with heap:=h',toks:=tk }) G.fr (G.st▸stk1) i ex x1.alive (fun b o g=>⟨o,a.inv.keep b o g⟩) fun h2 es e T hev sf hes i2 tr=>?_
    rw [<- G.st] at sf
    have en2:=sf.ends stk1.frm en
    subst hev
    exact exH_ok (s:={ s with heap:=h2,toks:=tk }) G (sf.step stk1.frm x1 hes) rfl ⟨i2,en2.1,en2.2,sf.stk stk1,a.room,a.hand⟩ tr (fun b o g=>⟨o,a.inv.keep b o g⟩) hs (h0'::hs') hHs hne
end
section
variable {outer:List Env} {L:Addr} {κ:Ct}
mutual
theorem exS_ok (G:FTop κ outer L):∀ (c:S) (sm:Stmt),isS κ.X.kn κ.X.ex κ.env.scope c sm=true->SndT κ c sm
  | .asg x c,_,h=>onSAssign_inv (P:=SndT κ (.asg x c)) h fun _ v p h=>one_inv (P:=fun ts=>SndT κ (.asg x c) (.Assign ts v p)) h fun _ h=>and_k h fun h1 h2=>and_k h2 fun h3 h4 =>
      sName_inv (P:=fun t=>(noComp v||(κ.env.scope.names.lookup (Str.ofString x)==some .cell||(isComp c&&swapOk κ.env.scope t v)))=true->SndT κ (.asg x c) (.Assign [t] v p)) h1 (fun _ hx h4=>(Bool.or_eq_true _ _▸h4).elim (fun h5=>st_asg (evE_ok c v κ G.S h3) hx (swaps_no h5)) fun h5=>(Bool.or_eq_true _ _▸h5).elim (fun h6=>st_asg (evE_ok c v κ G.S h3) hx (swaps_cell (beq_iff_eq.mp h6))) fun h6=>and_k h6 fun h7 h8 _ _=>asg_comp (comp_at' G.S h7 h3) hx h8) h4
  | .unpack xs c,_,h=>onSAssign_inv (P:=SndT κ (.unpack xs c)) h fun ts v p h=>and_k h fun h1 h2=>and_k h2 fun h3 h4=>and_k h4 fun h5 h6=>one_inv (P:=fun ts=>SndT κ (.unpack xs c) (.Assign ts v p)) h1 fun _ h=>onTuple_inv (P:=fun t=>SndT κ (.unpack xs c) (.Assign [t] v p)) h fun _ _ _ hx=>st_unpack (evE_ok c v κ G.S h3) hx h5 h6
  | .setattr o a c,_,h=>onSAssign_inv (P:=SndT κ (.setattr o a c)) h fun ts v p h=>and_k h fun h1 h2=>and_k h2 fun h3 h4=>and_k h4 fun h5 h6=>one_inv (P:=fun ts=>SndT κ (.setattr o a c) (.Assign ts v p)) h1 fun _ h=>onAttribute_inv (P:=fun t=>SndT κ (.setattr o a c) (.Assign [t] v p)) h fun o' _ _ h=>and_k h fun h7 h8=>by cases eq_of_beq h7;exact st_setattr (evE_ok c v κ G.S h3) (evE_ok o o' κ G.S h8) h5 h6
  | .ret c,_,h=>onSReturn_inv (P:=SndT κ (.ret c)) h fun _ _ h=>st_ret h fun e=>evE_ok c e κ G.S
  | .iff t a b,_,h=>onSIf_inv (P:=SndT κ (.iff t a b)) h fun t' a' b' _ h=>and_k h fun h1 h2=>and_k h2 fun h3 h4=>st_iff (evE_ok t t' κ G.S h1) (exSs_ok G a a' h3) (exSs_ok G b b' h4)
  | .for1 x c b,_,h=>isFor_inv (P:=SndT κ (.for1 x c b)) h fun _ e b' p h1 h2 h3=>sName_inv (P:=fun t=>SndT κ (.for1 x c b) (.For t e b' [] p)) h1 fun _ hx=>and_k h2 fun h4 h5=>st_for1 G (evE_ok c e κ G.S h4) h5 hx (exSs_ok G b b' h3)
  | .forT xs c b,_,h=>isFor_inv (P:=SndT κ (.forT xs c b)) h fun _ e b' p h1 h2 h3=>onTuple_inv (P:=fun t=>SndT κ (.forT xs c b) (.For t e b' [] p)) h1 fun _ _ _ hx=>and_k h2 fun h4 h5=>st_forT G (evE_ok c e κ G.S h4) h5 hx (exSs_ok G b b' h3)
  | .forR x c b,_,h=>isFor_inv (P:=SndT κ (.forR x c b)) h fun t _ b' p h1 h2 h3=>isFn_inv (P:=fun e=>SndT κ (.forR x c b) (.For t e b' [] p)) h2 fun pf _ p2 hg hd hk h4=>sName_inv (P:=fun t=>SndT κ (.forR x c b) (.For t (.Call (.Name (Str.ofString "reversed") pf) _ [] p2) b' [] p)) h1 fun pt hx=>one_inv (P:=fun args=>SndT κ (.forR x c b) (.For (.Name (Str.ofString x) pt) (.Call (.Name (Str.ofString "reversed") pf) args [] p2) b' [] p)) h4 fun e h5=>st_forR G hg hd hk (evE_ok c e κ G.S h5) hx (exSs_ok G b b' h3)
  | .forZ xs c d b,_,h=>isFor_inv (P:=SndT κ (.forZ xs c d b)) h fun t _ b' p h1 h2 h3=>isFn_inv (P:=fun e=>SndT κ (.forZ xs c d b) (.For t e b' [] p)) h2 fun pf _ p2 hg hd hk h4=>onTuple_inv (P:=fun t=>SndT κ (.forZ xs c d b) (.For t (.Call (.Name (Str.ofString "zip") pf) _ [] p2) b' [] p)) h1 fun es k pt hx=>two_inv (P:=fun args=>SndT κ (.forZ xs c d b) (.For (.Tuple es k pt) (.Call (.Name (Str.ofString "zip") pf) args [] p2) b' [] p)) h4 fun e e2 h5 h6=>st_forZ G hg hd hk (evE_ok c e κ G.S h5) (evE_ok d e2 κ G.S h6) hx (exSs_ok G b b' h3)
  | .whil t b,_,h=>onSWhile_inv (P:=SndT κ (.whil t b)) h fun t' b' els p h=>and_k h fun h1 h2=>and_k h2 fun h3 h4=>nil_k (P:=fun els=>SndT κ (.whil t b) (.While t' b' els p)) h1 fun _ _=>TriS.hdn fun _=>while_ok (fun ρ H=>(evE_ok t t' κ G.S h3).test ρ H) (exSs_ok G b b' h4)
  | .setidx o i c,_,h=>onSAssign_inv (P:=SndT κ (.setidx o i c)) h fun ts v p h=>and_k h fun h1 h2=>and_k h2 fun h3 h4=>one_inv (P:=fun ts=>SndT κ (.setidx o i c) (.Assign ts v p)) h1 fun _ h=>onSubscript_inv (P:=fun t=>SndT κ (.setidx o i c) (.Assign [t] v p)) h fun o' i' _ h=>and_k h fun h5 h6=>st_setidx (evE_ok c v κ G.S h3) (evE_ok o o' κ G.S h5) (evE_ok i i' κ G.S h6) h4
  | .cont,_,h=>onSContinue_inv (P:=SndT κ .cont) h fun _ _=>st_cont
  | .expr c,_,h=>onSExpr_inv (P:=SndT κ (.expr c)) h fun e _ h=>and_k h fun h1 h2=>st_expr (evE_ok c e κ G.S h1) h2
  | .raise c,_,h=>onSRaise_inv (P:=SndT κ (.raise c)) h fun x _ p h=>and_k h fun h1 h2=>and_k h2 fun h3 h4=>none_k (P:=fun cs=>SndT κ (.raise c) (.Raise x cs p)) h1 (someE_inv (P:=fun x=>SndT κ (.raise c) (.Raise x Option.none p)) h4 fun _ h=>isFn_inv (P:=fun e=>SndT κ (.raise c) (.Raise (some e) Option.none p)) h fun pf _ q hg hd _ h=>one_inv (P:=fun args=>SndT κ (.raise c) (.Raise (some (.Call (.Name (Str.ofString c) pf) args [] q)) Option.none p)) h fun _ h=>strC_inv (P:=fun a=>SndT κ (.raise c) (.Raise (some (.Call (.Name (Str.ofString c) pf) [a] [] q)) Option.none p)) h fun _ _ _ _=>st_raise h3 hg hd)
  | .tryE b hs,_,h=>onSTry_inv (P:=SndT κ (.tryE b hs)) h fun b' hs' els fin p h=>and_k h fun h1 h2=>and_k h2 fun h3 h4=>and_k h4 fun h5 h6=>and_k h6 fun h7 h8=>nil_k (P:=fun els=>SndT κ (.tryE b hs) (.Try b' hs' els fin p)) h1 (nil_k (P:=fun fin=>SndT κ (.tryE b hs) (.Try b' hs' [] fin p)) h3 (st_try G (exSs_ok G b b' h7) h5 h8))
theorem exSs_ok (G:FTop κ outer L):∀ (cs:List S) (sms:List Stmt),isSs κ.X.kn κ.X.ex κ.env.scope cs sms=true->SndL κ cs sms
  | [],[],_=>.nil
  | [],_::_,h=>nomatch h
  | _::_,[],h=>ff h
  | c::cs,sm::sms,h=>and_k h fun h1 h2=>.cons (exS_ok G c sm h1) (exSs_ok G cs sms h2)
end
end
theorem bindL_at (kd:Str->Option NameKind):∀ (bs:List (Str×Value)) (m:Str->Option Value) (x:Str),(bs.map (·.1)).Nodup->kd x=some .local ->
    bindL kd bs m x=match bs.lookup x with | some v=>some v | none=>m x
  | [],m,x,_,_=>rfl
  | (n,v)::r,m,x,hn,hk=>by
    rw [List.map_cons,List.nodup_cons] at hn
    rw [bindL,bindL_at kd r _ x hn.2 hk,List.lookup_cons]
    by_cases hx:x=n
    · subst hx
      have:r.lookup x=none:=by
        cases e:r.lookup x with
        | none=>rfl
        | some w=>exact absurd (List.mem_map.mpr ⟨(x,w),lookup_mem e,rfl⟩) hn.1
      rw [this,if_pos hk];simp
    · have hb:(x==n)=false:=by simpa using hx
      rw [hb]
      have e:(if kd n=some NameKind.local then fun y=>if y=n then some v else m y else m) x=m x:=by split <;> simp [hx]
      rw [e]
theorem bindC_at (kd:Str->Option NameKind):∀ (bs:List (Str×Value)) (m:Str->Option Value) (x:Str),(bs.map (·.1)).Nodup->kd x=some .cell ->
    bindC kd bs m x=match bs.lookup x with | some v=>some v | none=>m x
  | [],m,x,_,_=>rfl
  | (n,v)::r,m,x,hn,hk=>by
    rw [List.map_cons,List.nodup_cons] at hn
    rw [bindC,bindC_at kd r _ x hn.2 hk,List.lookup_cons]
    by_cases hx:x=n
    · subst hx
      have:r.lookup x=none:=by
        cases e:r.lookup x with
        | none=>rfl
        | some w=>exact absurd (List.mem_map.mpr ⟨(x,w),lookup_mem e,rfl⟩) hn.1
      rw [this,if_neg (by rw [hk];intro q;cases q)];simp
    · have hb:(x==n)=false:=by simpa using hx
      rw [hb]
      have e:(if kd n=some NameKind.local then m else fun y=>if y=n then some v else m y) x=m x:=by split <;> simp [hx]
      rw [e]
theorem setAll_lookup:∀ (xs:List String) (ws:List V) (ρ ρ':Rho),setAll xs ws ρ=some ρ'->xs.Nodup->xs.length=ws.length/\∀ y v,ρ'.lookup y=some v->(∃ j:Nat,xs[j]?=some y/\ws[j]?=some v)\/ρ.lookup y=some v
  | [],[],ρ,ρ',e,_=>by cases e;exact ⟨rfl,fun y v h=>.inr h⟩
  | [],_::_,_,_,e,_=>by cases e
  | _::_,[],_,_,e,_=>by cases e
  | x::xs,w::ws,ρ,ρ',e,hn=>by
    rw [List.nodup_cons] at hn
    obtain ⟨hl,h⟩:=setAll_lookup xs ws (setL x w ρ) ρ' e hn.2
    refine ⟨by rw [List.length_cons,List.length_cons,hl],fun y v hy=>?_⟩
    rcases h y v hy with ⟨j,h1,h2⟩ | h1
    · exact .inl ⟨j+1,h1,h2⟩
    · rw [lookup_setL] at h1
      split at h1
      · rename_i hyx
        cases h1
        exact .inl ⟨0,by rw [hyx];rfl,rfl⟩
      · exact .inr h1
theorem zip_lookup {xs:List String} {ms:List Value} (hn:xs.Nodup):∀ {j:Nat} {y:String} {m:Value},xs[j]?=some y->ms[j]?=some m->((xs.map Str.ofString).zip ms).lookup (Str.ofString y)=some m:=by
  induction xs generalizing ms with
  | nil=>intro j y m h;simp at h
  | cons x xs ih =>
    intro j y m h1 h2
    rw [List.nodup_cons] at hn
    cases ms with
    | nil=>simp at h2
    | cons m0 ms =>
      rw [List.map_cons,List.zip_cons_cons,List.lookup_cons]
      cases j with
      | zero=>cases h1;cases h2;simp
      | succ j =>
        have hyx:Str.ofString y≠Str.ofString x:=fun q=>hn.1 (ofString_inj q▸List.mem_of_getElem? h1)
        have hb:(Str.ofString y==Str.ofString x)=false:=by simpa using hyx
        rw [hb]
        exact ih hn.2 h1 h2
theorem Step.leave {fr own η η':List Addr} {h h1 h':Heap} {L:Addr} (k:∀ b o,h.get? b=some o->h1.get? b=some o) (x:Step (L::fr) own η h1 η' h') (hL:h.get? L=Option.none) (ho:∀ b∈own,h.get? b=Option.none):Step fr [] η h η' h':=by
  have no:∀ b o,h.get? b=some o->b∉own:=fun b o e q=>by rw [ho b q] at e;cases e
  have nl:∀ b o,h.get? b=some o->b≠L:=fun b o e q=>by rw [q,hL] at e;cases e
  refine ⟨?_,fun b o e=>x.alive b o (k b o e),fun b o e hb _=>let ⟨sl,e1,q⟩:=x.data b o (k b o e) hb (no b o e);⟨sl,e1,fun z=>q fun y=>(List.mem_cons.mp y).elim (nl b o e) z⟩,
    fun b o e hb=>x.dicts b o (k b o e) hb,fun b o e hb=>x.cells b o (k b o e) hb⟩
  obtain ⟨l,e,hl⟩:=x.pre
  refine ⟨l,e,fun a ha=>?_⟩
  cases q:h.get? a with
  | none=>rfl
  | some o=>have:=k a o q;rw [hl a ha] at this;cases this
structure DefAt (X:Cx) (d:Def) (a:Addr) (body:List Stmt) (scope:Scope):Prop where
  obj:∃ o fd,X.base.get? a=some o/\o.data=.func fd/\fd.body=.stmts body/\fd.scope=scope/\fd.globals=mainGlobals/\fd.closure=[]/\fd.builtins=builtinsNs/\X.base.CodeRec fd.code fd.qualname /\
    ∀ ms:List Value,ms.length=d.params.length->bindArgs fd ⟨ms,[]⟩=pure ((d.params.map Str.ofString).zip ms)
  bodyOk:isSs X.kn X.ex scope d.body body=true
  kind:scope.kind=.function
  gen:scope.isGenerator=false
  co:scope.isCoroutine=false
  st:(d.params.all fun x=>isSt scope (Str.ofString x))=true
  nodup:d.params.Nodup
  cells:((cellsFrom 0 scope.names []).map (·.1)).Nodup
noncomputable def RunOK (X:Cx) (n:Nat) (fv:Value) (ws:List V) (H:Hp) (r:R V):Prop :=
  ∀ (A:Around) (st:List Env) (η:List Addr) (s:Shared) (ms:List Value),A.depth+1+2 * n < recursionLimit->A.units+3+8 * n+300 < cLine->A.handled=Option.none->Inv X η H s.heap->Stk X η A st s.heap ->
    ws.length=ms.length->(∀ p∈ws.zip ms,VR X η s.heap p.1 p.2) ->
    codeAny X.M A (.call fv ⟨ms,[]⟩) (fun res s'=>match res with
      | .ok (.ret mv)=>RetAt X st η s r mv s'
      | .ok _=>False
      | .error ev=>RaiseAt X st η s r ev s') s
theorem pairwise_snd {l:List (Str×Addr)} (h:l.Pairwise fun x y=>x.2≠y.2) {a b:Str} {c d:Addr} (ha:(a,c)∈l) (hb:(b,d)∈l) (hab:a≠b):c≠d:=by
  induction l with
  | nil=>cases ha
  | cons p l ih =>
    rw [List.pairwise_cons] at h
    rcases List.mem_cons.mp ha with e | ha2
    · subst e
      rcases List.mem_cons.mp hb with hb | hb
      · injection hb with h1 h2;exact absurd h1.symm hab
      · exact h.1 _ hb
    · rcases List.mem_cons.mp hb with e | hb2
      · subst e;exact (h.1 _ ha2).symm
      · exact ih h.2 ha2 hb2
theorem nodup_map_inj {α β:Type} {f:α->β} (hf:∀ a b,f a=f b->a=b):∀ {l:List α},l.Nodup->(l.map f).Nodup
  | [],_=>List.nodup_nil
  | a::l,h=>by
    rw [List.nodup_cons] at h
    rw [List.map_cons,List.nodup_cons]
    refine ⟨fun q=>?_,nodup_map_inj hf h.2⟩
    obtain ⟨b,hb,e⟩:=List.mem_map.mp q
    exact h.1 (hf _ _ e▸hb)
theorem head_frs {env:Env} {outer:List Env} {L:Addr} (h:env.frame=some L):frs (env::outer)=L::frs outer:=by unfold frs;rw [List.filterMap_cons,h]
section
variable {X:Cx} {n:Nat} {Γ:Fn}
theorem wpAny_leave {A:Around} {env:Env} {outer:List Env} {η:List Addr} {s:Shared} {h0:Heap} {ev:Value} {c:String} {L:Addr} {H:Hp} {E:Value->Shared->Prop} {Q:Unit->Shared->Prop} (hf:env.frame=some L)
    (k:Stk X η A (env::outer) s.heap) (i:Inv X η H s.heap) (x:ExcAt X (env::outer) h0 ev c η s.heap) (h0k:∀ b o,h0.get? b=some o->∃ o',s.heap.get? b=some o') (hb0:∀ b o,X.base.get? b=some o->∃ o',h0.get? b=some o')
    (hq:∀ h' es,Soft (frs (env::outer)) es s.heap h'->(∀ b∈es,h0.get? b=Option.none)->Inv X η H h'->ExcAt X outer h0 ev c η h'->Q () { s with heap:=h' }):wpAny X.M A (leaving env ev) Q E s:=by
  unfold leaving
  exact wpAny_bind (wpAny_land hf k i x h0k hb0 fun h' es e T hev sf hes i2 tr=>hq h' es sf hes i2 (hev▸tr.exc (.inl rfl)))
theorem run_of_def {d:Def} {a:Addr} {body:List Stmt} {scope:Scope} {ws:List V} {H:Hp} (D:DefAt X d a body scope) (S:SoundFn X n Γ) (hΓ:Γ.hd=false)
    (hs:runDef Γ d ws H≠.stuck):RunOK X n (.ref a) ws H (runDef Γ d ws H):=by
  obtain ⟨o,fd,ho,hdat,hbody,hscope,hglob,hclos,hblt,hcd,hbind⟩:=D.obj
  intro A st η s ms rdep runi hh inv stk hl hv
  cases hρ:setAll d.params ws [] with
  | none=>unfold runDef at hs;rw [hρ] at hs;exact absurd rfl hs
  | some ρ =>
    obtain ⟨hlen,hlook⟩:=setAll_lookup _ _ _ _ hρ D.nodup
    have hrun:runDef Γ d ws H=match exSs Γ d.body ρ H with | .next _ H1=>.ok .none H1 | .ret v H1=>.ok v H1 | .raise c _ H1=>.raise c H1 | _=>.stuck:=by unfold runDef;rw [hρ];try rfl
    have hkind:∀ n,∀ x∈(d.params.map Str.ofString).zip ms,scope.names.lookup x.1=some .local\/(scope.names.lookup x.1=some .cell/\((cellsFrom n scope.names []).lookup x.1).isSome=true):=by
      intro n x hx
      obtain ⟨y,hy,hyx⟩:=List.mem_map.mp (List.of_mem_zip (show (x.1,x.2)∈_ from hx)).1
      have:=List.all_eq_true.mp D.st y hy
      rw [hyx] at this
      unfold isSt at this
      split at this
      · exact .inl ‹_›
      · exact .inr ⟨‹_›,cellsFrom_some _ _ _ (.inl ‹_›)⟩
      · cases this
    refine codeAny_call_function (by omega) (inv.keep _ _ ho) hdat (hscope▸D.co) (hscope▸D.gen) hbody (hcd.keeps inv.keep) ?_
    rw [hbind ms (by rw [<- hl,hlen]),hscope,hglob,hclos,hblt]
    refine wpAny_pure (wpAny_newFunctionEnv_cells D.kind (hkind _) fun env he s1 x=>?_)
    have keep:=x.toInCall.keep
    obtain ⟨h1,tk,hs1⟩:=x.toInCall.same
    have hsz:env.locals=s.heap.objs.size:=by rw [he];rfl
    refine ⟨((X.nolimit.keeps inv.keep)).keeps keep,codeAny_func ?_⟩
    have hfr:env.frame=some s.heap.objs.size:=by rw [he];rfl
    have hcs:env.cells=cellsFrom (s.heap.objs.size+1) scope.names []:=by rw [he];rfl
    have hsc:env.scope=scope:=by rw [he];rfl
    have hko:∀ y,env.kindOf y=scope.names.lookup y:=fun y=>by unfold Env.kindOf;rw [hsc]
    have ndc:(env.cells.map (·.1)).Nodup:=by rw [hcs];exact cellsFrom_names scope.names 0 (s.heap.objs.size+1) [] [] rfl▸D.cells
    have look:∀ p∈env.cells,env.cells.lookup p.1=some p.2:=fun p hp=>lookup_of_mem_nodup ndc hp
    have newAddr:∀ b∈ownOf env,s.heap.objs.size<=b:=fun b hb=>by
      rcases List.mem_cons.mp hb with rfl | hb
      · exact Nat.le_of_eq hsz.symm
      · obtain ⟨p,hp,rfl⟩:=List.mem_map.mp hb
        have:=x.above p.1 p.2 hp
        rw [hsz] at this
        exact Nat.le_of_lt this
    have ownNone:∀ b∈ownOf env,s.heap.get? b=Option.none:=fun b hb=>by
      cases e:s.heap.get? b with
      | none=>rfl
      | some o=>exact absurd (Heap.lt_size e) (Nat.not_lt.mpr (newAddr b hb))
    have ownOff:∀ b∈ownOf env,b∉η/\X.base.get? b=Option.none:=fun b hb=>by
      refine ⟨fun q=>?_,?_⟩
      · obtain ⟨ob,e⟩:=inv.alive q
        rw [ownNone b hb] at e;cases e
      · cases e:X.base.get? b with
        | none=>rfl
        | some o=>have:=inv.keep _ _ e;rw [ownNone b hb] at this;cases this
    have i1:Inv X η H s1.heap:=inv.ext keep
    have fok:FrameOK X η s1.heap env:=by
      refine ⟨by rw [hsc];exact D.kind,by rw [he];rfl,by rw [he];rfl,⟨_,x.toInCall.ns⟩,fun p hp=>?_,fun y hy=>?_,fun y z c h1 h2=>?_,ownOff⟩
      · obtain ⟨o,e,dd⟩:=x.cell p.1 p.2 (look p hp)
        exact ⟨o,_,e,dd⟩
      · rw [hko] at hy
        have:=cellsFrom_some (x:=y) scope.names (s.heap.objs.size+1) [] (.inl hy)
        rw [<- hcs] at this
        exact Option.isSome_iff_exists.mp this
      · have m1:=lookup_mem h1
        have m2:=lookup_mem h2
        have hp:=x.apart
        by_cases hyz:y=z
        · exact hyz
        · exact absurd rfl (pairwise_snd hp m1 m2 hyz)
    have rho:RhoR X η s1.heap env ρ:=by
      intro y v hy hvar
      rcases hlook y v hy with ⟨j,h1',h2'⟩ | h1'
      · obtain ⟨m,hm,rv⟩:=(VRs.of_zip hl hv).get h2'
        have rv':VR X η s1.heap v m:=rv.step (Step.ext [] [] η keep) fun _ q=>nomatch q
        have hb:=zip_lookup D.nodup h1' hm
        have nd:(((d.params.map Str.ofString).zip ms).map (·.1)).Nodup:=by
          rw [List.map_fst_zip (by rw [List.length_map,hlen,hl];exact Nat.le_refl _)]
          exact nodup_map_inj (fun _ _ q=>ofString_inj q) D.nodup
        refine ⟨m,?_,rv'⟩
        have hst:=List.all_eq_true.mp D.st y (List.mem_of_getElem? h1')
        unfold isSt at hst
        split at hst
        · rename_i hk
          refine .inl ⟨(hko _).trans hk,_,x.toInCall.ns,?_⟩
          rw [bindL_at _ _ _ _ nd ((hko _).trans hk),hb]
        · rename_i hk
          have hkc:env.kindOf (Str.ofString y)=some .cell:=(hko _).trans hk
          obtain ⟨c,hc⟩:=fok.cells _ hkc
          obtain ⟨o,e,dd⟩:=x.cell _ c hc
          refine .inr ⟨.inl hkc,c,o,hc,e,?_⟩
          rw [dd,bindC_at _ _ _ _ nd hkc,hb]
        · cases hst
      · cases h1'
    have stk1:Stk X η (A.deeper env) (env::st) s1.heap:=by
      have kf:Frm s1.heap (frs st):=fun b hb=>let ⟨o,e,q⟩:=stk.frm b hb;⟨o,keep _ _ e,q⟩
      refine ⟨Around.frames_deeper stk.frames,?_,fun b hb=>?_,fun b hb=>?_⟩
      · exact Heap.FunFrames.cons (by rw [hsc,D.kind];decide) hfr (hsz▸x.toInCall.ns) (hsz▸(ownOff _ (List.Mem.head _)).2) (stk.ok.of_keeps fun b o e _=>⟨o,keep _ _ e,rfl⟩)
      · rw [head_frs hfr] at hb
        rcases List.mem_cons.mp hb with rfl | hb
        · exact hsz▸(ownOff _ (List.Mem.head _)).1
        · exact stk.off b hb
      · rw [head_frs hfr] at hb
        rcases List.mem_cons.mp hb with rfl | hb
        · exact hsz▸fok.frm _ (List.Mem.head _)
        · exact kf b hb
    have room1:Room n (A.deeper env):=⟨rdep,runi⟩
    have at1:At ⟨X,n,A.deeper env,env,env::st,Γ⟩ η ρ H s1:=⟨i1,fok,rho,stk1,room1,fun _=>hh⟩
    have hns:exSs Γ d.body ρ H≠.stuck:=fun q=>by rw [hrun,q] at hs;exact hs rfl
    have leaveStep:∀ {η' h'},Step (frs (env::st)) (ownOf env) η s1.heap η' h'->Step (frs st) [] η s.heap η' h':=fun {η' h'} y=>by
      rw [head_frs hfr] at y
      exact Step.leave keep y (hsz▸ownNone _ (List.Mem.head _)) ownNone
    refine wpAny_mono (exSs_ok (κ:=⟨X,n,A.deeper env,env,env::st,Γ⟩) ⟨rfl,hfr,S⟩ d.body body (by rw [hsc];exact D.bodyOk) ρ H hns η s1 at1 (fun _ q=>nomatch q)) (fun fl s2 hfl=>?_) fun ev s2 hx=>?_
    · cases fl with
      | next =>
        obtain ⟨ρ',H',e,η',h',tk',rfl,i2,stp,_⟩:=hfl
        refine ⟨.none,H',by rw [hrun,e],η',h',tk',by rw [hs1],i2,leaveStep stp,.none⟩
      | cont =>
        obtain ⟨ρ',H',e,_⟩:=hfl
        exact absurd (by rw [hrun,e]) hs
      | brk=>exact hfl.elim
      | ret mv =>
        obtain ⟨v,H',e,η',h',tk',rfl,i2,stp,_,r⟩:=hfl
        exact ⟨v,H',by rw [hrun,e],η',h',tk',by rw [hs1],i2,leaveStep stp,r⟩
    · obtain ⟨c,ρ',H',e,η',h',tk',rfl,i2,stp,en,ex⟩:=hx
      have stk2:Stk X η' (A.deeper env) (env::st) h':=stk1.step (s:=s1) stp
      refine wpAny_leave (s:={ s1 with heap:=h',toks:=tk' }) (h0:=s1.heap) hfr stk2 i2 ex stp.alive (fun b o g=>⟨o,i1.keep b o g⟩) fun h2 es sf hes i3 ex3=>?_
      refine ⟨c,H',by rw [hrun,e],η',h2,tk',by rw [hs1],i3,leaveStep (sf.step stk2.frm stp hes),?_⟩
      exact (ExcAt.older ex3 fun b o g=>⟨o,keep b o g⟩)
theorem room_d {n b:Nat} {A:Around} (r:Room (n+1) A) (h:b<=A.depth+1):b+1+2 * n < recursionLimit:=by
  refine Nat.lt_of_le_of_lt (Nat.le_trans (Nat.add_le_add_right (Nat.add_le_add_right h 1) (2 * n)) (Nat.le_of_eq ?_)) r.depth
  rw [Nat.mul_succ,Nat.add_assoc A.depth,Nat.add_assoc,Nat.add_comm (1+1)]
theorem room_u {n b:Nat} {A:Around} (r:Room (n+1) A) (h:b<=A.units+1):b+3+8 * n+300 < cLine:=by
  refine Nat.lt_of_le_of_lt (Nat.add_le_add_right (Nat.le_trans (Nat.add_le_add_right (Nat.add_le_add_right h 3) (8 * n)) ?_) 300) r.units
  rw [Nat.mul_succ,Nat.add_assoc A.units,Nat.add_assoc,Nat.add_comm (1+3)]
  exact Nat.add_le_add_left (Nat.add_le_add_left (by decide) _) _
theorem callOK_of_def {d:Def} {f:String} {a:Addr} {body:List Stmt} {scope:Scope} {ws:List V} {H:Hp} (hf:X.mg (Str.ofString f)=some (.ref a)) (D:DefAt X d a body scope) (S:SoundFn X n Γ) (hΓ:Γ.hd=false)
    (hs:runDef Γ d ws H≠.stuck):CallOK X (n+1) f ws H (runDef Γ d ws H):=by
  obtain ⟨o,fd,ho,hdat,_⟩:=id D.obj
  refine ⟨.ref a,hf,fun A st η s ms room hh inv stk hl hv=>?_⟩
  exact run_of_def D S hΓ hs A st η s ms (room_d room (Nat.le_succ _)) (room_u room (Nat.le_succ _)) hh inv stk hl hv
theorem under_new (A:Around) (C:Addr) (ms:List Value):(A.under (.builtin "type.__call__" ⟨.ref C::ms,[]⟩)).frames=A.frames/\(A.under (.builtin "type.__call__" ⟨.ref C::ms,[]⟩)).depth<=A.depth+1 /\
    (A.under (.builtin "type.__call__" ⟨.ref C::ms,[]⟩)).units=A.units+1/\(A.under (.builtin "type.__call__" ⟨.ref C::ms,[]⟩)).handled=A.handled:=⟨rfl,Nat.le_refl _,rfl,rfl⟩
theorem callOK_of_class {d:Def} {c:String} {C fI:Addr} {body:List Stmt} {scope:Scope} {ws:List V} {H:Hp} (hcl:X.cl c=true) (hk:X.kn c=true) (hf:X.mg (Str.ofString c)=some (.ref C)) (ok:ClsOk X.K C fI) (D:DefAt X d fI body scope) (S:SoundFn X n Γ) (hΓ:Γ.hd=false)
    (hs:runClass Γ c d ws H≠.stuck):CallOK X (n+1) c ws H (runClass Γ c d ws H):=by
  refine ⟨.ref C,hf,fun A st η s ms room hh inv stk hl hv=>?_⟩
  have hrc:runClass Γ c d ws H=(runDef Γ d (.ref (H.length+1)::ws) (H++[.ns [],.inst c H.length])).bind fun v H1=>match v with | .none=>.ok (.ref (H.length+1)) H1 | _=>.stuck:=rfl
  have hK:=X.kin.keeps inv.keep
  obtain ⟨h,g,dr,t,os⟩:=s
  refine make_core (makes_of hK ok.makes) (looks_findIn hK ok.init) (fun self=>bind_fn hK self ok.fn) (.inl rfl) ?_
  obtain ⟨u1,u2,u3,u4⟩:=under_new A C ms
  have i1:Inv X (η++[h.objs.size]) (H++[.ns []]) (h.push emptyDict):=inv.alloc (.ns .nil (by simp)) rfl
  have sz:(h.push emptyDict).objs.size=h.objs.size+1:=Heap.size_push ..
  have i2:Inv X (η++[h.objs.size]++[(h.push emptyDict).objs.size]) (H++[.ns []]++[.inst c H.length]) ((h.push emptyDict).push (instObj C h.objs.size)):=i1.alloc (.inst hcl hf (by rw [<- inv.len];simp)) rfl
  have st2:Step (frs st) [] η h (η++[h.objs.size]++[(h.push emptyDict).objs.size]) ((h.push emptyDict).push (instObj C h.objs.size)):=(Step.push _ _ _ _ _).trans (Step.push _ _ _ _ _)
  have hne:runDef Γ d (.ref (H.length+1)::ws) (H++[.ns [],.inst c H.length])≠.stuck:=fun q=>hs (by rw [hrc,q];rfl)
  rw [show H++[O.ns []]++[O.inst c H.length]=H++[.ns [],.inst c H.length] by simp] at i2
  have run:=run_of_def (ws:=.ref (H.length+1)::ws) D S hΓ hne (A.under (.builtin "type.__call__" ⟨.ref C::ms,[]⟩)) st _ ⟨(h.push emptyDict).push (instObj C h.objs.size),g,dr,t,os⟩ (.ref (h.objs.size+1)::ms) (room_d room u2) (room_u room (Nat.le_of_eq u3)) (u4.trans hh) i2
    ⟨u1.trans stk.frames,(stk.step (s:=⟨h,g,dr,t,os⟩) st2).ok,(stk.step (s:=⟨h,g,dr,t,os⟩) st2).off,(stk.step (s:=⟨h,g,dr,t,os⟩) st2).frm⟩ (by rw [List.length_cons,List.length_cons,hl]) (fun p hp=>?_)
  · refine codeAny_mono run fun res s' q=>?_
    cases res with
    | error ev =>
      obtain ⟨c',H',e,P⟩:=q
      refine ⟨c',H',by rw [hrc,e];rfl,?_⟩
      exact P.trans (s:=⟨h,g,dr,t,os⟩) st2 fun _ _ q=>q.older st2.alive
    | ok fl =>
      cases fl with
      | ret mv =>
        obtain ⟨v,H',e,P⟩:=q
        cases v with
        | none =>
          obtain ⟨η',h',tk,es,iv,stp,r⟩:=P
          cases r
          refine ⟨rfl,.ref (H.length+1),H',by rw [hrc,e];rfl,η',h',tk,es,iv,st2.trans stp,.ref ?_⟩
          obtain ⟨l,rfl,_⟩:=stp.pre
          refine getElem?_pre ?_
          rw [<- inv.len,sz];simp
        | _=>exact absurd (by rw [hrc,e];rfl) hs
      | _=>exact q.elim
  · rw [List.zip_cons_cons] at hp
    rcases List.mem_cons.mp hp with rfl | hp
    · refine .ref ?_
      rw [<- inv.len,sz];simp
    · exact (hv p hp).step (fr:=frs st) (own:=[]) st2 stk.frm
end
theorem lookup_zip_some:∀ {ns:List Str} {ms:List Value} {x:Str},ms.length=ns.length->x∈ns->((ns.zip ms).lookup x).isSome=true
  | [],_,_,_,h=>nomatch h
  | n::ns,[],_,h,_=>by cases h
  | n::ns,m::ms,x,h,hx=>by
    rw [List.zip_cons_cons,List.lookup_cons]
    cases hb:x==n with
    | true=>rfl
    | false =>
      have:x≠n:=by simpa using hb
      exact lookup_zip_some (Nat.succ.inj h) ((List.mem_cons.mp hx).resolve_left this)
theorem filterMap_zip:∀ {ns:List Str} {ms:List Value} (l:List (Str×Value)),ms.length=ns.length->ns.Nodup->(∀ n∈ns,l.lookup n=Option.none)->ns.filterMap (fun n=>((l++ns.zip ms).lookup n).map (n,·))=ns.zip ms
  | [],_,_,_,_,_=>rfl
  | n::ns,[],_,h,_,_=>by cases h
  | n::ns,m::ms,l,h,hn,hl=>by
    rw [List.nodup_cons] at hn
    have e1:(l++(n,m)::ns.zip ms).lookup n=some m:=by
      rw [List.lookup_append,hl n (List.Mem.head _)];simp
    rw [List.zip_cons_cons,List.filterMap_cons,e1]
    simp only [Option.map_some,List.cons.injEq,true_and]
    have e2:l++(n,m)::ns.zip ms=(l++[(n,m)])++ns.zip ms:=by simp
    rw [e2]
    refine filterMap_zip (l++[(n,m)]) (Nat.succ.inj h) hn.2 fun k hk=>?_
    rw [List.lookup_append,hl k (List.Mem.tail _ hk)]
    have:k≠n:=fun q=>hn.1 (q▸hk)
    have hb:(k==n)=false:=by simpa using this
    simp [List.lookup_cons,hb]
theorem bind_of_nil {α β γ:Type} {l:List α} (h:l=[]) {init:β} {f:α->β->Sem (ForInStep β)} {k:β->Sem γ}:(forIn l init f >>= k)=k init:=by subst h;rfl
theorem bindArgs_plain {fd:FuncData} {ms:List Value} (h1:fd.params.posonlyargs=[]) (h2:fd.params.kwonlyargs=[]) (h3:fd.params.vararg=Option.none) (h4:fd.params.kwarg=Option.none) (h5:fd.defaults=.none)
    (hl:ms.length=(fd.params.args.map (·.arg)).length) (nd:(fd.params.args.map (·.arg)).Nodup):bindArgs fd ⟨ms,[]⟩=pure ((fd.params.args.map (·.arg)).zip ms):=by
  obtain ⟨name,qual,params,a4,a5,a6,a7,a8,a9,a10,a11,a12,a13,a14,a15⟩:=fd
  obtain ⟨p1,p2,p3,p4,p5,p6,p7⟩:=params
  dsimp only at h1 h2 h3 h4 h5 hl nd ⊢
  subst h1 h2 h3 h4 h5
  have hsq:seqItems? Value.none=pure Option.none:=rfl
  have hgt:¬ (ms.length > (p2.map (·.arg)).length):=by omega
  have hmiss:(p2.map (·.arg)).filter (fun n=>(((p2.map (·.arg)).zip ms).lookup n).isNone)=[]:=by
    rw [List.filter_eq_nil_iff]
    intro x hx
    have:=lookup_zip_some hl hx
    rw [Option.isSome_iff_ne_none] at this
    simpa using this
  have hgt':¬ ((decide (ms.length > (p2.map (·.arg)).length)&&Option.isNone (Option.none:Option Arg))=true):=by rw [decide_eq_false hgt];decide
  have hd0:List.drop (0 - (p2.map (·.arg)).length) ([]:List Value)=[]:=List.drop_nil
  have hm':¬ ((!((List.take ((p2.map (·.arg)).length - (List.drop (0 - (p2.map (·.arg)).length) ([]:List Value)).length) (p2.map (·.arg))).filter (fun n=>(((p2.map (·.arg)).zip ms).lookup n).isNone)).isEmpty)=true):=by rw [hd0,List.length_nil,Nat.sub_zero,List.take_length,hmiss];decide
  refine Eq.trans (if_neg hgt') ?_
  refine Eq.trans (if_neg hm') ?_
  refine Eq.trans (bind_of_nil (l:=(List.drop ((p2.map (·.arg)).length - (List.drop (0 - (p2.map (·.arg)).length) ([]:List Value)).length) (p2.map (·.arg))).zip (List.drop (0 - (p2.map (·.arg)).length) ([]:List Value))) (by rw [hd0,List.zip_nil_right])) ?_
  have hz':(List.map (fun x:Arg=>x.arg) p2++[]).filterMap (fun n=>(((List.map (fun x:Arg=>x.arg) p2).zip ms).lookup n).map (n,·))=(List.map (fun x:Arg=>x.arg) p2).zip ms:=by rw [List.append_nil];exact filterMap_zip [] hl nd fun _ _=>rfl
  exact congrArg (pure:List (Str×Value)->Sem (List (Str×Value))) hz'
noncomputable def okSig (kn ex:String->Bool) (d:Def) (ps:Arguments) (sc:Scope) (body:List Stmt):Bool :=
  ps.posonlyargs.isEmpty&&ps.kwonlyargs.isEmpty&&ps.vararg.isNone&&ps.kwarg.isNone&&(ps.args.map (·.arg)==d.params.map Str.ofString)&&isSs kn ex sc d.body body
    && sc.kind==.function&&!sc.isGenerator&&!sc.isCoroutine&&(d.params.all fun x=>isSt sc (Str.ofString x))&&decide d.params.Nodup&&decide (((cellsFrom 0 sc.names []).map (·.1)).Nodup)
noncomputable def okDef (kn ex:String->Bool) (d:Def) (r:DefRec):Bool:=r.name==Str.ofString d.name&&okSig kn ex d r.params r.scope r.body
section
variable {X:Cx} {p:Program} {loose:List Str} {mean:ExcName->Option Value}
theorem defAt_mk {d:Def} {a:Addr} {o:Obj} {fd:FuncData} {body:List Stmt} (h:okSig X.kn X.ex d fd.params fd.scope body=true) (e2:X.base.get? a=some o) (e3:o.data=.func fd) (hb:fd.body=.stmts body) (hg:fd.globals=mainGlobals) (hc:fd.closure=[]) (hbl:fd.builtins=builtinsNs) (hcd:X.base.CodeRec fd.code fd.qualname) (hdf:fd.defaults=.none):DefAt X d a body fd.scope:=by
  unfold okSig at h
  simp only [Bool.and_eq_true,beq_iff_eq,List.isEmpty_iff,Option.isNone_iff_eq_none,Bool.not_eq_true',decide_eq_true_eq] at h
  obtain ⟨⟨⟨⟨⟨⟨⟨⟨⟨⟨⟨h2,h3⟩,h4⟩,h5⟩,h6⟩,h7⟩,h8⟩,h9⟩,h10⟩,h11⟩,h12⟩,h13⟩:=h
  refine ⟨⟨o,fd,e2,e3,hb,rfl,hg,hc,hbl,hcd,fun ms hm=>?_⟩,h7,h8,h9,h10,h11,h12,h13⟩
  rw [<- h6]
  refine bindArgs_plain h2 h3 h4 h5 hdf ?_ ?_
  · rw [h6,List.length_map,hm]
  · rw [h6]
    exact nodup_map_inj (fun _ _ q=>ofString_inj q) h12
theorem defAt_of (T:Top p loose mean X.mg X.mb X.base) {d:Def} (h:(recsOf p).any (okDef X.kn X.ex d)=true):∃ a body scope,X.mg (Str.ofString d.name)=some (.ref a)/\DefAt X d a body scope:=by
  obtain ⟨r,hr,ok⟩:=List.any_eq_true.mp h
  obtain ⟨h1,ok⟩:=and_inv ok
  obtain ⟨a,o,pm,code,doc,e1,e2,e3,e4⟩:=T.fn r hr
  exact ⟨a,r.body,r.scope,beq_iff_eq.mp h1▸e1,defAt_mk (fd:=PySem.Calls.docDef r.name r.params r.body r.scope pm code doc) ok e2 e3 rfl rfl rfl rfl e4 rfl⟩
noncomputable def funcIn (o:Obj):Option FuncData:=match o.data with | .func fd=>some fd | _=>Option.none
noncomputable def bodyIn (b:FuncBody):Option (List Stmt):=match b with | .stmts b=>some b | _=>Option.none
theorem funcIn_inv {o:Obj} {fd:FuncData} (h:funcIn o=some fd):o.data=.func fd:=by
  unfold funcIn at h
  cases e:o.data with
  | func f=>rw [e] at h;cases h;rfl
  | _=>rw [e] at h;cases h
theorem bodyIn_inv {b:FuncBody} {l:List Stmt} (h:bodyIn b=some l):b=.stmts l:=by
  cases b with
  | stmts f=>cases h;rfl
  | _=>cases h
noncomputable def okInit (kn ex:String->Bool) (K:Frag) (d:Def) (fI:Addr):Bool:=((K.lookup fI).bind funcIn).any fun fd=>(fd.globals==mainGlobals&&fd.closure.isEmpty&&fd.builtins==builtinsNs&&codeIn K fd.code fd.qualname&&fd.defaults==.none)&&(bodyIn fd.body).any (okSig kn ex d fd.params fd.scope)
theorem any_inv {α:Type} {o:Option α} {f:α->Bool} (h:o.any f=true):∃ a,o=some a/\f a=true:=by
  cases o with
  | none=>cases h
  | some a=>exact ⟨a,rfl,h⟩
theorem initAt_of {d:Def} {fI:Addr} (h:okInit X.kn X.ex X.K d fI=true):∃ body scope,DefAt X d fI body scope:=by
  obtain ⟨fd,e,h⟩:=any_inv h
  obtain ⟨o,ho,e2⟩:=Option.bind_eq_some_iff.mp e
  obtain ⟨h,h1⟩:=and_inv h
  obtain ⟨body,hb,ok⟩:=any_inv h1
  simp only [Bool.and_eq_true,beq_iff_eq,List.isEmpty_iff] at h
  obtain ⟨⟨⟨⟨h2,h3⟩,h4⟩,h5⟩,h6⟩:=h
  exact ⟨body,fd.scope,defAt_mk ok (X.kin _ _ ho) (funcIn_inv e2) (bodyIn_inv hb) h2 h3 h4 (codeRec_of X.kin h5) h6⟩
theorem lk_hd {defs:List Def} {cls:List (String×Def)} {const:String->Option V} (n:Nat):(lk defs cls const n).hd=false:=by cases n <;> rfl
theorem lk_sound {defs:List Def} {cls:List (String×Def)} {const:String->Option V} (T:Top p loose mean X.mg X.mb X.base) (hc:∀ x v,const x=some v->∃ mv,Loads X.mg X.mb x mv/\∀ η h,VR X η h v mv)
    (hd:(defs.all fun d=>(recsOf p).any (okDef X.kn X.ex d))=true)
    (hcls:∀ c d,cls.lookup c=some d->X.cl c=true/\X.kn c=true/\∃ C fI,X.mg (Str.ofString c)=some (.ref C)/\ClsOk X.K C fI/\okInit X.kn X.ex X.K d fI=true):∀ n,SoundFn X n (lk defs cls const n)
  | 0=>⟨hc,fun f ws H hs=>absurd rfl hs⟩
  | n+1=>by
    refine ⟨hc,fun f ws H hs=>?_⟩
    cases e:defs.find? (fun d=>d.name==f) with
    | none =>
      have hc2:(lk defs cls const (n+1)).call f ws H=match cls.lookup f with | some d=>runClass (lk defs cls const n) f d ws H | Option.none=>.stuck:=by
        show (match defs.find? (fun d=>d.name==f) with | some d=>runDef (lk defs cls const n) d ws H | Option.none=>_)=_
        rw [e];try rfl
      cases e2:cls.lookup f with
      | none=>rw [hc2,e2] at hs;exact absurd rfl hs
      | some d =>
        rw [hc2,e2] at hs ⊢
        obtain ⟨k1,k2,C,fI,k3,k4,k5⟩:=hcls f d e2
        obtain ⟨body,scope,D⟩:=initAt_of k5
        exact callOK_of_class k1 k2 k3 k4 D (lk_sound T hc hd hcls n) (lk_hd n) hs
    | some d =>
      have hc2:(lk defs cls const (n+1)).call f ws H=runDef (lk defs cls const n) d ws H:=by
        show (match defs.find? (fun d=>d.name==f) with | some d=>runDef (lk defs cls const n) d ws H | Option.none=>_)=_
        rw [e]
      rw [hc2] at hs ⊢
      have hn:d.name=f:=by have:=List.find?_some e;simpa using this
      obtain ⟨a,body,scope,hf,D⟩:=defAt_of T (List.all_eq_true.mp hd d (List.mem_of_find?_eq_some e))
      exact callOK_of_def (hn▸hf) D (lk_sound T hc hd hcls n) (lk_hd n) hs
end
noncomputable def keepV (K:Frag) (v:Value):Bool:=match v with
  | .ref a=>keepIn K (.ref a)
  | _=>true
noncomputable def gOk (K:Frag) (f:String) (g:Value->Bool):Bool:=(nsIn K mainGlobals (Str.ofString f)).any fun o=>o.any g
noncomputable def refOk (v:Value) (g:Addr->Bool):Bool:=match v with
  | .ref a=>g a
  | _=>false
theorem gOk_inv {K:Frag} {f:String} {g:Value->Bool} (h:gOk K f g=true):∃ v,nsIn K mainGlobals (Str.ofString f)=some (some v)/\g v=true:=by
  obtain ⟨o,e,h⟩:=any_inv h
  obtain ⟨v,rfl,h⟩:=any_inv h
  exact ⟨v,e,h⟩
theorem refOk_inv {v:Value} {g:Addr->Bool} (h:refOk v g=true):∃ a,v=.ref a/\g a=true:=by
  cases v with
  | ref a=>exact ⟨a,rfl,h⟩
  | _=>cases h
noncomputable def okU (K:Frag) (U:List String):Bool:=U.all fun f=>gOk K f fun v=>keepV K v&&(biVal f).isNone
noncomputable def okB (K:Frag) (B:List String):Bool:=B.all fun f=>nsIn K mainGlobals (Str.ofString f)==some Option.none&&((biVal f).any fun b=>bootBuiltins (Str.ofString f)==some b)&&!(f=="__name__")
noncomputable def strIs (m:Value) (t:Str):Bool:=match m with
  | .str s _=>s==t&&PyData.strOk s
  | _=>false
noncomputable def intIs (m:Value) (j:Int):Bool:=match m with
  | .int i _=>i==j
  | _=>false
theorem strIs_inv {m:Value} {t:Str} (h:strIs m t=true):∃ k,m=.str t k/\PyData.strOk t=true:=by
  cases m with
  | str s k =>
    obtain ⟨h1,h2⟩:=and_inv h
    rw [beq_iff_eq] at h1
    subst h1
    exact ⟨k,rfl,h2⟩
  | _=>cases h
theorem intIs_inv {m:Value} {j:Int} (h:intIs m j=true):∃ k,m=.int j k:=by
  cases m with
  | int i k=>exact ⟨k,by rw [beq_iff_eq.mp h]⟩
  | _=>cases h
noncomputable def constIs (m:Value):V->Bool
  | .str t=>strIs m t
  | .int j=>intIs m j
  | _=>false
noncomputable def okC (K:Frag) (C:List (String×V)):Bool:=C.all fun p=>gOk K p.1 fun m=>constIs m p.2
noncomputable def okX (K:Frag) (Xs:List String):Bool:=Xs.all fun c=>gOk K c fun v=>refOk v fun C=>excIn K C bmVE "ValueError.__new__"&&(clsIn K C).any fun cd=>Xs.all fun T=>gOk K T fun v=>refOk v fun D=>cd.mro.contains (.ref D)==excIs c T
noncomputable def clsB (K:Frag) (C fI:Addr):Bool:=makesIn K C&&typeIn K (.ref fI)==some (.type "function")&&findIn K (.ref C) "__getattribute__"==some (some (.builtin "object.__getattribute__"))&&findIn K (.ref C) "__setattr__"==some (some (.builtin "object.__setattr__"))
  && plainOver K C&&(clsIn K C).any (·.hasDict)&&["road","home","start","stops"].all fun a=>findIn K (.ref C) (Str.ofString a)==some Option.none
noncomputable def okL (K:Frag) (U B Xs:List String) (cls:List (String×Def)):Bool:=cls.all fun p=>U.contains p.1&&gOk K p.1 fun v=>refOk v fun C=>(findIn K (.ref C) "__init__").any fun o=>o.any fun f=>refOk f fun fI=>clsB K C fI&&okInit (fun f=>U.contains f||B.contains f) (fun f=>Xs.contains f) K p.2 fI
theorem clsOk_of {K:Frag} {C fI:Addr} (h:clsB K C fI=true) (hi:findIn K (.ref C) "__init__"=some (some (.ref fI))):ClsOk K C fI:=by
  unfold clsB at h
  simp only [Bool.and_eq_true,beq_iff_eq] at h
  obtain ⟨⟨⟨⟨⟨⟨h1,h2⟩,h3⟩,h4⟩,h5⟩,h6⟩,h7⟩:=h
  refine ⟨h1,hi,h2,h3,h4,h5,h6,fun a ha=>?_⟩
  have hm:a∈["road","home","start","stops"]:=by
    unfold attrName at ha
    simp only [Bool.or_eq_true,beq_iff_eq] at ha
    rcases ha with ((rfl | rfl) | rfl) | rfl <;> simp
  exact beq_iff_eq.mp (List.all_eq_true.mp h7 a hm)
section
variable {prog:Program} {w:World} {p:Program} {loose:List Str} {mean:ExcName->Option Value} {mg mb:Str->Option Value} {K:Frag} {h:Heap} {U B Xs:List String}
theorem okU_at (X:K.In h) (G:h.Ns mainGlobals mg) (hu:okU K U=true) {f:String} (hf:f∈U):∃ v,mg (Str.ofString f)=some v/\keepV K v=true/\biVal f=Option.none:=by
  obtain ⟨v,e,q⟩:=gOk_inv (List.all_eq_true.mp hu f hf)
  obtain ⟨q1,q2⟩:=and_inv q
  exact ⟨v,mg_of X G e,q1,Option.isNone_iff_eq_none.mp q2⟩
theorem okB_at (X:K.In h) (T:Top p loose mean mg mb h) (hb:okB K B=true) {f:String} (hf:f∈B):∃ v,biVal f=some v/\mg (Str.ofString f)=Option.none/\mb (Str.ofString f)=some v:=by
  obtain ⟨q,q3⟩:=and_inv (List.all_eq_true.mp hb f hf)
  obtain ⟨q1,q2⟩:=and_inv q
  obtain ⟨b,e3,e2⟩:=any_inv q2
  refine ⟨b,e3,ns_none_of X T.g (beq_iff_eq.mp q1),?_⟩
  rw [T.builtins _ (fun z=>?_),beq_iff_eq.mp e2]
  rw [show f="__name__" from ofString_inj z] at q3
  cases q3
theorem clsIn_inv {C:Addr} {cd:ClassData} (e:clsIn K C=some cd):∃ o,K.lookup C=some o/\o.data=.cls cd:=by
  unfold clsIn at e
  split at e
  · rename_i ho
    cases e
    exact ⟨_,ho,rfl⟩
  · cases e
theorem okX_at (X:K.In h) (T:Top p loose mean mg mb h) (hx:okX K Xs=true) {c:String} (hc:c∈Xs):OwnExc mg h (fun f=>Xs.contains f) c:=by
  obtain ⟨v,e,q⟩:=gOk_inv (List.all_eq_true.mp hx c hc)
  obtain ⟨C,rfl,q⟩:=refOk_inv q
  obtain ⟨q1,q2⟩:=and_inv q
  obtain ⟨cd,ecd,q2⟩:=any_inv q2
  refine ⟨C,own_of_in X (topRead_of T) e q1,fun T' D o cd' hT hD ho hd=>?_⟩
  obtain ⟨v',eD,q3⟩:=gOk_inv (List.all_eq_true.mp q2 T' (List.contains_iff_mem.mp hT))
  obtain ⟨D',rfl,q3⟩:=refOk_inv q3
  cases (mg_of X T.g eD).symm.trans hD
  obtain ⟨o',ho',hd'⟩:=clsIn_inv ecd
  cases (X _ _ ho').symm.trans ho
  cases hd'.symm.trans hd
  exact beq_iff_eq.mp q3
theorem okL_at (X:K.In h) (T:Top p loose mean mg mb h) {cls:List (String×Def)} (hL:okL K U B Xs cls=true) {c:String} {d:Def} (hc:(c,d)∈cls) :
    U.contains c=true/\∃ C fI,mg (Str.ofString c)=some (.ref C)/\ClsOk K C fI/\okInit (fun f=>U.contains f||B.contains f) (fun f=>Xs.contains f) K d fI=true:=by
  obtain ⟨q1,q⟩:=and_inv (List.all_eq_true.mp hL (c,d) hc)
  obtain ⟨v,e,q⟩:=gOk_inv q
  obtain ⟨C,rfl,q⟩:=refOk_inv q
  obtain ⟨o,ei,q⟩:=any_inv q
  obtain ⟨f,rfl,q⟩:=any_inv q
  obtain ⟨fI,rfl,q⟩:=refOk_inv q
  obtain ⟨q2,q3⟩:=and_inv q
  exact ⟨q1,C,fI,mg_of X T.g e,clsOk_of q2 ei,q3⟩
theorem keepV_bi {v:Value} (h:∀ a,v≠.ref a):keepV K v=true:=by
  cases v with
  | ref a=>exact absurd rfl (h a)
  | _=>rfl
theorem keepV_at {M:Model} {v:Value} (key:keepV K v=true) (h':Heap) (X:K.In h'):∃ k,(k=Keeper.frame\/k=Keeper.machine\/k=Keeper.boundFrame)/\PySem.W.Looks M h' (keeperOf v) k:=by
  cases v with
  | ref a=>exact keeps_K (K:=K) (f:=.ref a) key h' X
  | _=>exact ⟨.machine,.inr (.inl rfl),Looks.now⟩
noncomputable def cxOf (prog:Program) (w:World) (T:Top p loose mean mg mb h) (X:K.In h) (cls:List (String×Def)) (hu:okU K U=true) (hb:okB K B=true) (hx:okX K Xs=true) (hL:okL K U B Xs cls=true) (hM:(K.lookup sysModules).isSome=true):Cx where
  prog:=prog
  w:=w
  base:=h
  mg:=mg
  mb:=mb
  g:=T.g
  b:=T.b
  nolimit:=T.nolimit
  kn:=fun f=>U.contains f||B.contains f
  known:=fun f hk=>by
    rw [Bool.or_eq_true,List.contains_iff_mem,List.contains_iff_mem] at hk
    rcases hk with hk | hk
    · obtain ⟨v,e,_⟩:=okU_at X T.g hu hk
      exact ⟨v,.inl e⟩
    · obtain ⟨v,_,e1,e2⟩:=okB_at X T hb hk
      exact ⟨v,.inr ⟨e1,e2⟩⟩
  bi:=fun f v hv hk=>by
    rw [Bool.or_eq_true,List.contains_iff_mem,List.contains_iff_mem] at hk
    rcases hk with hk | hk
    · obtain ⟨_,_,_,e⟩:=okU_at X T.g hu hk
      rw [hv] at e;cases e
    · obtain ⟨v',e,e1,e2⟩:=okB_at X T hb hk
      rw [hv] at e;cases e
      exact ⟨e1,e2⟩
  ex:=fun f=>Xs.contains f
  own:=fun c hc=>okX_at X T hx (by rwa [List.contains_iff_mem] at hc)
  K:=K
  kin:=X
  sysm:=hM
  cl:=fun c=>cls.any (·.1==c)
  cls:=fun c hc=>by
    obtain ⟨⟨c',d⟩,hm,e⟩:=List.any_eq_true.mp hc
    have e':c'=c:=by simpa using e
    subst e'
    obtain ⟨_,C,fI,h1,h2,_⟩:=okL_at X T hL hm
    exact ⟨C,fI,h1,h2⟩
  kp:=fun f v hk hl h' k=>by
    have key:keepV K v=true:=by
      rw [Bool.or_eq_true,List.contains_iff_mem,List.contains_iff_mem] at hk
      rcases hk with hk | hk
      · obtain ⟨v',e,q,_⟩:=okU_at X T.g hu hk
        rw [hl.det (.inl e)]
        exact q
      · obtain ⟨v',e,e1,e2⟩:=okB_at X T hb hk
        rw [hl.det (.inr ⟨e1,e2⟩)]
        exact keepV_bi (biVal_noRef e)
    exact keepV_at key h' (X.keeps k)
theorem okC_at {C:List (String×V)} (T:Top p loose mean mg mb h) (X:K.In h) (hc:okC K C=true) (Y:Cx) (h1:Y.mg=mg):∀ x v,C.lookup x=some v->∃ mv,Loads Y.mg Y.mb x mv/\∀ η h,VR Y η h v mv:=by
  intro x v e
  obtain ⟨m,e1,q2⟩:=gOk_inv (List.all_eq_true.mp hc (x,v) (lookup_mem e))
  rw [h1]
  have hl:=mg_of X T.g e1
  cases v with
  | str t =>
    obtain ⟨k,rfl,ok⟩:=strIs_inv q2
    exact ⟨_,.inl hl,fun _ _=>.str _ _ ok⟩
  | int j =>
    obtain ⟨k,rfl⟩:=intIs_inv q2
    exact ⟨_,.inl hl,fun _ _=>.int _ _⟩
  | _=>cases q2
theorem cls_at (prog:Program) (w:World) (T:Top p loose mean mg mb h) (X:K.In h) (cls:List (String×Def)) (hu:okU K U=true) (hb:okB K B=true) (hx:okX K Xs=true) (hL:okL K U B Xs cls=true) (hM:(K.lookup sysModules).isSome=true):∀ c d,cls.lookup c=some d ->
    (cxOf prog w T X cls hu hb hx hL hM).cl c=true/\(cxOf prog w T X cls hu hb hx hL hM).kn c=true/\∃ C fI,(cxOf prog w T X cls hu hb hx hL hM).mg (Str.ofString c)=some (.ref C)/\ClsOk (cxOf prog w T X cls hu hb hx hL hM).K C fI/\okInit (cxOf prog w T X cls hu hb hx hL hM).kn (cxOf prog w T X cls hu hb hx hL hM).ex (cxOf prog w T X cls hu hb hx hL hM).K d fI=true:=by
  intro c d e
  have hm:=lookup_mem e
  obtain ⟨h0,C,fI,h1,h2,h3⟩:=okL_at X T hL hm
  exact ⟨List.any_eq_true.mpr ⟨_,hm,beq_self_eq_true c⟩,by show (U.contains c||B.contains c)=true;rw [h0];rfl,C,fI,h1,h2,h3⟩
theorem law_call {X:Cx} {N:Nat} {Γ:Fn} {ns:List Int} {vs:List Value} {l fa:Addr} {s₁:Shared} {H':Hp} {Q:Value->Shared->Prop} {E:Value->Shared->Prop} (hb:X.base=s₁.heap) (S:SoundFn X N Γ) (hN:N < 100) (hmg:X.mg (Str.ofString "law")=some (.ref fa))
    (run:Γ.call "law" [.scr ns] []=.ok (.bool true) H') (hL:s₁.heap.IsList l vs.toArray) (hI:IntsAre vs ns) (hn:ns.length<=63)
    (hq:∀ s',(∃ h' tk,s'={ s₁ with heap:=h',toks:=tk }/\∀ b o,s₁.heap.get? b=some o->h'.get? b=some o)->Q (.bool true) s'):wpAny X.M callerA (call (.ref fa) [.ref l]) Q E s₁:=by
  have C:=S.call "law" [.scr ns] [] (by rw [run];intro q;cases q)
  rw [run] at C
  obtain ⟨fv,e,C⟩:=C
  rw [hmg] at e;cases e
  have inv:Inv X [] [] s₁.heap:=⟨fun b o e=>hb▸e,rfl,(fun _ q=>nomatch q),List.nodup_nil,fun n a o e=>by simp at e⟩
  have stk:Stk X [] callerA [] s₁.heap:=⟨rfl,trivial,(fun _ q=>nomatch q),fun _ q=>nomatch q⟩
  refine wpAny_call (codeAny_mono (C callerA [] [] s₁ [.ref l] ⟨?_,?_⟩ rfl inv stk rfl fun p hp=>?_) fun res s' q=>?_)
  · show 1+claimMargin+2 * N < recursionLimit
    unfold claimMargin recursionLimit;omega
  · show 4+8 * N+300 < cLine
    unfold cLine;omega
  · rw [List.zip_cons_cons,List.zip_nil_left,List.mem_singleton] at hp
    subst hp
    refine .scr (hb▸hL) (by simpa using hI) (by unfold line;omega)
  · cases res with
    | error ev=>obtain ⟨c,H2,e,_⟩:=q;cases e
    | ok fl =>
      cases fl with
      | ret mv =>
        obtain ⟨v,H2,e,η',h',tk,rfl,i,stp,r⟩:=q
        cases e
        cases r
        exact hq _ ⟨h',tk,rfl,fun b o e=>i.keep b o (hb▸e)⟩
      | _=>exact q.elim
end
noncomputable def refsOf (o:Obj):List Addr:=match o.data with
  | .dict es _=>es.toList.filterMap fun e=>match e.val with | .ref a=>some a | _=>Option.none
  | _=>[]
noncomputable def nsOfCls (o:Obj):List Addr:=match o.data with
  | .cls cd=>[cd.ns]
  | _=>[]
noncomputable def codeOfFn (o:Obj):List Addr:=match o.data with
  | .func fd=>(match fd.code with | .ref a=>[a] | _=>[])
  | _=>[]
noncomputable def pick (h:Heap) (as:List Addr):Frag:=as.filterMap fun a=>(h.get? a).map fun o=>(a,o)
noncomputable def fragOf (h:Heap):Frag :=
  let g:=pick h [mainGlobals]
  let l1:=pick h (g.flatMap fun p=>refsOf p.2)
  let l2:=pick h (l1.flatMap fun p=>nsOfCls p.2)
  let l3:=pick h (l2.flatMap fun p=>refsOf p.2)
  let l4:=pick h (l3.flatMap fun p=>codeOfFn p.2)
  g++(l1++(l2++(l3++(l4++pick h [sysModules]))))
theorem pick_get {h:Heap} {as:List Addr} {a:Addr} {o:Obj} (hm:(a,o)∈pick h as):h.get? a=some o:=by
  obtain ⟨b,_,e⟩:=List.mem_filterMap.mp hm
  obtain ⟨o',g,q⟩:=Option.map_eq_some_iff.mp e
  cases q
  exact g
theorem fragOf_in (h:Heap):(fragOf h).In h:=by
  intro a o e
  have hm:=lookup_mem e
  unfold fragOf at hm
  rcases List.mem_append.mp hm with hm | hm
  · exact pick_get hm
  · rcases List.mem_append.mp hm with hm | hm
    · exact pick_get hm
    · rcases List.mem_append.mp hm with hm | hm
      · exact pick_get hm
      · rcases List.mem_append.mp hm with hm | hm
        · exact pick_get hm
        · rcases List.mem_append.mp hm with hm | hm
          · exact pick_get hm
          · exact pick_get hm
noncomputable def seenOk (U B Xs:List String) (C:List (String×V)) (cls:List (String×Def)) (K:Frag):Bool:=okU K U&&okB K B&&okX K Xs&&okC K C&&okL K U B Xs cls&&(K.lookup sysModules).isSome
noncomputable def Says (U B Xs:List String) (C:List (String×V)) (cls:List (String×Def)) (h:Heap):Prop:=∃ K:Frag,K.In h/\seenOk U B Xs C cls K=true
theorem Says.keeps {U B Xs:List String} {C:List (String×V)} {cls:List (String×Def)} {h h':Heap} (x:Says U B Xs C cls h) (k:∀ b o,h.get? b=some o->h'.get? b=some o):Says U B Xs C cls h' :=
  let ⟨K,i,e⟩:=x;⟨K,i.keeps k,e⟩
end Mine
namespace Mine
open PySem
theorem lk_const {defs:List Def} {cls:List (String×Def)} {const:String->Option V} (n:Nat):(lk defs cls const n).const=const:=by cases n <;> rfl
theorem lookup_here {β:Type} (x:String) (v:β) (r:List (String×β)):List.lookup x ((x,v)::r)=some v:=by rw [List.lookup_cons,beq_self_eq_true]
theorem lookup_next {β:Type} {x y:String} (h:x≠y) (v:β) (r:List (String×β)):List.lookup x ((y,v)::r)=List.lookup x r:=by
  rw [List.lookup_cons,beq_eq_false_iff_ne.mpr h]
theorem lk_call {defs:List Def} {cls:List (String×Def)} {const:String->Option V} {f:String} {d:Def} (h:defs.find? (fun d=>d.name==f)=some d) (n:Nat) (vs:List V) (H:Hp) :
    (lk defs cls const (n+1)).call f vs H=runDef (lk defs cls const n) d vs H:=by
  show (match defs.find? (fun d=>d.name==f) with | some d=>runDef (lk defs cls const n) d vs H | Option.none=>_)=_
  rw [h]
theorem ofR_ok {α:Type} (ρ:Rho) (a:α) (H:Hp) (k:α->Hp->RS):ofR ρ (.ok a H) k=k a H:=rfl
theorem RS.bind_next (ρ:Rho) (H:Hp) (k:Rho->Hp->RS):(RS.next ρ H).bind k=k ρ H:=rfl
theorem RS.bind_ret (v:V) (H:Hp) (k:Rho->Hp->RS):(RS.ret v H).bind k=.ret v H:=rfl
theorem bin_of {op:Op} {a b z:Int} (H:Hp) (h:intOp op a b=some z):bin op (.int a) (.int b) H=.ok (.int z) H:=optR_of h
theorem bin_mod {a b:Int} (H:Hp) (h:b≠0):bin .mod (.int a) (.int b) H=.ok (.int (a.fmod b)) H:=bin_of H (if_pos h)
theorem bin_fdiv {a b:Int} (H:Hp) (h:b≠0) (h2:b.natAbs < 1073741824):bin .fdiv (.int a) (.int b) H=.ok (.int (a.fdiv b)) H:=bin_of H (if_pos ⟨h,h2⟩)
theorem bin_pow {a b:Int} (H:Hp) (h:0<=a/\a<=10/\0<=b/\b<=100):bin .pow (.int a) (.int b) H=.ok (.int (a ^ b.toNat)) H:=bin_of H (if_pos h)
theorem cmp_eq_int (a b:Int) (H:Hp):cmp .eq (.int a) (.int b) H=some (a==b):=rfl
theorem cmp_ne_int (a b:Int) (H:Hp):cmp .ne (.int a) (.int b) H=some (!(a==b)):=rfl
theorem cmp_eq_str (a b:Str) (H:Hp):cmp .eq (.str a) (.str b) H=some (a==b):=rfl
theorem cmp_ne_str (a b:Str) (H:Hp):cmp .ne (.str a) (.str b) H=some (!(a==b)):=rfl
theorem cmp_lt (a b:Int) (H:Hp):cmp .lt (.int a) (.int b) H=some (decide (a < b)):=rfl
theorem cmp_le (a b:Int) (H:Hp):cmp .le (.int a) (.int b) H=some (decide (a<=b)):=rfl
theorem cmp_gt (a b:Int) (H:Hp):cmp .gt (.int a) (.int b) H=some (decide (b < a)):=rfl
end Mine
namespace Mine.L14
open Mine PySem
noncomputable def d_is_within:Def:={ name:="is_within",params:=["number","low","high"],body:=[
  .ret (.and [(.isinst (.var "number") "int"),(.not (.isinst (.var "number") "bool")),(.cmp2 (.var "low") .le (.var "number") .le (.var "high"))])] }
noncomputable def d_is_road:Def:={ name:="is_road",params:=["road"],body:=[
  .ret (.and [(.cmp (.idx (.var "road") (.int 0)) .isIn (.tup [(.glob "LINE"),(.glob "RING")])),(.call "is_within" [(.idx (.var "road") (.int 1)),(.int 1),(.glob "LONGEST")])])] }
noncomputable def d_is_place:Def:={ name:="is_place",params:=["road","place"],body:=[
  .iff (.cmp (.idx (.var "road") (.int 0)) .eq (.glob "LINE")) [
    .ret (.call "is_within" [(.var "place"),(.int 0),(.idx (.var "road") (.int 1))])] [],
  .ret (.call "is_within" [(.var "place"),(.int 0),(.bin .sub (.idx (.var "road") (.int 1)) (.int 1))])] }
noncomputable def d_apart:Def:={ name:="apart",params:=["road","one","other"],body:=[
  .asg "gap" (.call "abs" [(.bin .sub (.var "one") (.var "other"))]),
  .iff (.cmp (.idx (.var "road") (.int 0)) .eq (.glob "LINE")) [
    .ret (.var "gap")] [],
  .ret (.call "min" [(.var "gap"),(.bin .sub (.idx (.var "road") (.int 1)) (.var "gap"))])] }
noncomputable def d_Day_init:Def:={ name:="Day.__init__",params:=["self","road","home","start","stops"],body:=[
  .iff (.not (.call "is_road" [(.var "road")])) [
    .raise "BadRoad"] [],
  .iff (.not (.call "is_place" [(.var "road"),(.var "home")])) [
    .raise "OffRoad"] [],
  .iff (.not (.call "is_within" [(.var "start"),(.int 0),(.glob "LATEST")])) [
    .raise "BadTime"] [],
  .iff (.cmp (.call "len" [(.var "stops")]) .gt (.glob "MOST")) [
    .raise "TooMany"] [],
  .for1 "stop" (.var "stops") [
    .expr (.call "looked_at" [(.var "road"),(.var "stop")])],
  .setattr (.var "self") "road" (.var "road"),
  .setattr (.var "self") "home" (.var "home"),
  .setattr (.var "self") "start" (.var "start"),
  .setattr (.var "self") "stops" (.call "list" [(.var "stops")])] }
noncomputable def d_looked_at:Def:={ name:="looked_at",params:=["road","stop"],body:=[
  .unpack ["place","opens","closes","stay"] (.var "stop"),
  .iff (.not (.call "is_place" [(.var "road"),(.var "place")])) [
    .raise "OffRoad"] [],
  .for1 "time" (.tup [(.var "opens"),(.var "closes"),(.var "stay")]) [
    .iff (.not (.call "is_within" [(.var "time"),(.int 0),(.glob "LATEST")])) [
      .raise "BadTime"] []],
  .iff (.cmp (.var "closes") .lt (.var "opens")) [
    .raise "BadTime"] []] }
noncomputable def d_need_order:Def:={ name:="need_order",params:=["day","order"],body:=[
  .asg "seen" (.dict true),
  .for1 "number" (.var "order") [
    .iff (.or [(.not (.call "is_within" [(.var "number"),(.int 0),(.bin .sub (.call "len" [(.attr (.var "day") "stops")]) (.int 1))])),(.cmp (.var "number") .isIn (.var "seen"))]) [
      .raise "BadOrder"] [],
    .setidx (.var "seen") (.var "number") (.bool true)]] }
noncomputable def d_served:Def:={ name:="served",params:=["stop","comes"],body:=[
  .asg "begins" (.call "max" [(.var "comes"),(.idx (.var "stop") (.int 1))]),
  .iff (.cmp (.var "begins") .gt (.idx (.var "stop") (.int 2))) [
    .ret .none] [],
  .ret (.tup [(.var "begins"),(.bin .add (.var "begins") (.idx (.var "stop") (.int 3)))])] }
noncomputable def d_timetable:Def:={ name:="timetable",params:=["day","order"],body:=[
  .expr (.call "need_order" [(.var "day"),(.var "order")]),
  .asg "found" (.list []),
  .asg "place" (.attr (.var "day") "home"),
  .asg "time" (.attr (.var "day") "start"),
  .for1 "number" (.var "order") [
    .asg "stop" (.idx (.attr (.var "day") "stops") (.var "number")),
    .asg "comes" (.bin .add (.var "time") (.call "apart" [(.attr (.var "day") "road"),(.var "place"),(.idx (.var "stop") (.int 0))])),
    .asg "times" (.call "served" [(.var "stop"),(.var "comes")]),
    .iff (.cmp (.var "times") .is .none) [
      .raise "Missed"] [],
    .unpack ["begins","leaves"] (.var "times"),
    .expr (.meth (.var "found") "append" [(.tup [(.var "comes"),(.var "begins"),(.var "leaves")])]),
    .asg "place" (.idx (.var "stop") (.int 0)),
    .asg "time" (.var "leaves")],
  .ret (.var "found")] }
noncomputable def d_ends:Def:={ name:="ends",params:=["day","order"],body:=[
  .asg "rows" (.call "timetable" [(.var "day"),(.var "order")]),
  .iff (.cmp (.call "len" [(.var "order")]) .eq (.int 0)) [
    .ret (.attr (.var "day") "start")] [],
  .asg "last" (.idx (.attr (.var "day") "stops") (.idx (.var "order") (.bin .sub (.call "len" [(.var "order")]) (.int 1)))),
  .ret (.bin .add (.idx (.idx (.var "rows") (.bin .sub (.call "len" [(.var "rows")]) (.int 1))) (.int 2)) (.call "apart" [(.attr (.var "day") "road"),(.idx (.var "last") (.int 0)),(.attr (.var "day") "home")]))] }
noncomputable def d_begun_at:Def:={ name:="begun_at",params:=["day","begun"],body:=[
  .expr (.call "need_order" [(.var "day"),(.var "begun")]),
  .tryE [
    .asg "rows" (.call "timetable" [(.var "day"),(.var "begun")])] [("Missed",.none)],
  .iff (.cmp (.call "len" [(.var "begun")]) .eq (.int 0)) [
    .ret (.tup [(.attr (.var "day") "home"),(.attr (.var "day") "start")])] [],
  .ret (.tup [(.idx (.idx (.attr (.var "day") "stops") (.idx (.var "begun") (.bin .sub (.call "len" [(.var "begun")]) (.int 1)))) (.int 0)),(.idx (.idx (.var "rows") (.bin .sub (.call "len" [(.var "rows")]) (.int 1))) (.int 2))])] }
noncomputable def d_left_at:Def:={ name:="left_at",params:=["day","place","time","number"],body:=[
  .asg "stop" (.idx (.attr (.var "day") "stops") (.var "number")),
  .asg "times" (.call "served" [(.var "stop"),(.bin .add (.var "time") (.call "apart" [(.attr (.var "day") "road"),(.var "place"),(.idx (.var "stop") (.int 0))]))]),
  .iff (.cmp (.var "times") .is .none) [
    .ret .none] [],
  .ret (.idx (.var "times") (.int 1))] }
noncomputable def d_put_better:Def:={ name:="put_better",params:=["found","key","leaves","before"],body:=[
  .iff (.cmp (.var "key") .isIn (.var "found")) [
    .unpack ["old","other"] (.idx (.var "found") (.var "key")),
    .iff (.or [(.cmp (.var "old") .lt (.var "leaves")),(.and [(.cmp (.var "old") .eq (.var "leaves")),(.cmp (.var "other") .le (.var "before"))])]) [
      .ret .none] []] [],
  .setidx (.var "found") (.var "key") (.tup [(.var "leaves"),(.var "before")])] }
noncomputable def d_longer:Def:={ name:="longer",params:=["day","level","left"],body:=[
  .asg "found" (.dict false),
  .for1 "key" (.var "level") [
    .unpack ["done","last"] (.var "key"),
    .asg "leaves" (.idx (.idx (.var "level") (.var "key")) (.int 0)),
    .for1 "number" (.var "left") [
      .iff (.cmp (.var "number") .isIn (.var "done")) [
        .cont] [],
      .asg "time" (.call "left_at" [(.var "day"),(.idx (.idx (.attr (.var "day") "stops") (.var "last")) (.int 0)),(.var "leaves"),(.var "number")]),
      .iff (.cmp (.var "time") .isNot .none) [
        .expr (.call "put_better" [(.var "found"),(.tup [(.call "tuple" [(.call "sorted" [(.bin .add (.call "list" [(.var "done")]) (.list [(.var "number")]))])]),(.var "number")]),(.var "time"),(.var "last")])] []]],
  .ret (.var "found")] }
noncomputable def d_table:Def:={ name:="table",params:=["day","begun"],body:=[
  .asg "here" (.call "begun_at" [(.var "day"),(.var "begun")]),
  .iff (.cmp (.var "here") .is .none) [
    .ret (.dict false)] [],
  .unpack ["place","time"] (.var "here"),
  .asg "left" (.comp (.var "number") "number" (.call "range" [(.call "len" [(.attr (.var "day") "stops")])]) (.var "number") .notIn (.var "begun")),
  .asg "level" (.dict false),
  .for1 "number" (.var "left") [
    .asg "leaves" (.call "left_at" [(.var "day"),(.var "place"),(.var "time"),(.var "number")]),
    .iff (.cmp (.var "leaves") .isNot .none) [
      .setidx (.var "level") (.tup [(.tup [(.var "number")]),(.var "number")]) (.tup [(.var "leaves"),.none])] []],
  .asg "found" (.dict false),
  .whil (.cmp (.call "len" [(.var "level")]) .gt (.int 0)) [
    .expr (.meth (.var "found") "update" [(.var "level")]),
    .asg "level" (.call "longer" [(.var "day"),(.var "level"),(.var "left")])],
  .ret (.var "found")] }
noncomputable def d_least:Def:={ name:="least",params:=["day","begun"],body:=[
  .iff (.cmp (.call "begun_at" [(.var "day"),(.var "begun")]) .is .none) [
    .ret .none] [],
  .asg "left" (.call "tuple" [(.comp (.var "number") "number" (.call "range" [(.call "len" [(.attr (.var "day") "stops")])]) (.var "number") .notIn (.var "begun"))]),
  .iff (.cmp (.call "len" [(.var "left")]) .eq (.int 0)) [
    .ret (.call "ends" [(.var "day"),(.var "begun")])] [],
  .asg "rows" (.call "table" [(.var "day"),(.var "begun")]),
  .asg "found" .none,
  .for1 "number" (.var "left") [
    .iff (.cmp (.tup [(.var "left"),(.var "number")]) .isIn (.var "rows")) [
      .asg "time" (.bin .add (.idx (.idx (.var "rows") (.tup [(.var "left"),(.var "number")])) (.int 0)) (.call "apart" [(.attr (.var "day") "road"),(.idx (.idx (.attr (.var "day") "stops") (.var "number")) (.int 0)),(.attr (.var "day") "home")])),
      .iff (.or [(.cmp (.var "found") .is .none),(.cmp (.var "time") .lt (.var "found"))]) [
        .asg "found" (.var "time")] []] []],
  .ret (.var "found")] }
noncomputable def d_written:Def:={ name:="written",params:=["day"],body:=[
  .unpack ["word","length"] (.attr (.var "day") "road"),
  .asg "home" (.attr (.var "day") "home"),
  .asg "start" (.attr (.var "day") "start"),
  .asg "rows" (.list [(.fstr [(true,"word"),(false," "),(true,"length"),(false,"\n")]), (.fstr [(false, "home "), (true, "home"), (false, " at "), (true, "start"), (false, "\n")])]),
  .forT ["place","opens","closes","stay"] (.attr (.var "day") "stops") [
    .expr (.meth (.var "rows") "append" [(.fstr [(false,"stop "),(true,"place"),(false," from "),(true,"opens"),(false," to "),(true,"closes"),(false," for "),(true,"stay"),(false,"\n")])])],
  .ret (.meth (.str "") "join" [(.var "rows")])] }
noncomputable def d_number_of:Def:={ name:="number_of",params:=["word"],body:=[
  .iff (.or [(.not (.cmp2 (.int 0) .lt (.call "len" [(.var "word")]) .le (.glob "LONGEST_NUMBER"))),(.not (.call "all" [(.comp0 (.cmp (.var "sign") .isIn (.glob "FIGURES")) "sign" (.var "word"))]))]) [
    .raise "NoDay"] [],
  .iff (.and [(.cmp (.call "len" [(.var "word")]) .gt (.int 1)),(.cmp (.idx (.var "word") (.int 0)) .eq (.str "0"))]) [
    .raise "NoDay"] [],
  .ret (.call "int" [(.var "word")])] }
noncomputable def d_numbers_of:Def:={ name:="numbers_of",params:=["row","form"],body:=[
  .asg "words" (.meth (.var "row") "split" [(.str " ")]),
  .iff (.cmp (.call "len" [(.var "words")]) .ne (.call "len" [(.var "form")])) [
    .raise "NoDay"] [],
  .asg "found" (.list []),
  .forZ ["word","wanted"] (.var "words") (.var "form") [
    .iff (.cmp (.var "wanted") .is .none) [
      .expr (.meth (.var "found") "append" [(.call "number_of" [(.var "word")])])] [
      .iff (.cmp (.var "word") .ne (.var "wanted")) [
        .raise "NoDay"] []]],
  .ret (.var "found")] }
noncomputable def d_read:Def:={ name:="read",params:=["text"],body:=[
  .iff (.not (.isinst (.var "text") "str")) [
    .raise "NoDay"] [],
  .asg "rows" (.meth (.var "text") "split" [(.str "\n")]),
  .iff (.or [(.cmp (.call "len" [(.var "rows")]) .lt (.int 3)),(.cmp (.idx (.var "rows") (.bin .sub (.call "len" [(.var "rows")]) (.int 1))) .ne (.str ""))]) [
    .raise "NoDay"] [],
  .asg "word" (.idx (.meth (.idx (.var "rows") (.int 0)) "split" [(.str " ")]) (.int 0)),
  .iff (.cmp (.var "word") .notIn (.tup [(.glob "LINE"),(.glob "RING")])) [
    .raise "NoDay"] [],
  .asg "length" (.idx (.call "numbers_of" [(.idx (.var "rows") (.int 0)),(.tup [(.var "word"),.none])]) (.int 0)),
  .unpack ["home","start"] (.call "numbers_of" [(.idx (.var "rows") (.int 1)),(.tup [(.str "home"),.none,(.str "at"),.none])]),
  .asg "stops" (.list []),
  .for1 "row" (.slice (.var "rows") (.int 2) (.bin .sub (.call "len" [(.var "rows")]) (.int 1))) [
    .unpack ["place","opens","closes","stay"] (.call "numbers_of" [(.var "row"),(.tup [(.str "stop"),.none,(.str "from"),.none,(.str "to"),.none,(.str "for"),.none])]),
    .expr (.meth (.var "stops") "append" [(.tup [(.var "place"),(.var "opens"),(.var "closes"),(.var "stay")])])],
  .ret (.call "Day" [(.tup [(.var "word"),(.var "length")]),(.var "home"),(.var "start"),(.var "stops")])] }
noncomputable def d_best:Def:={ name:="best",params:=["day"],body:=[
  .asg "goal" (.call "least" [(.var "day"),(.list [])]),
  .iff (.cmp (.var "goal") .is .none) [
    .ret .none] [],
  .asg "order" (.list []),
  .whil (.cmp (.call "len" [(.var "order")]) .lt (.call "len" [(.attr (.var "day") "stops")])) [
    .asg "order" (.bin .add (.var "order") (.list [(.call "first_of" [(.var "day"),(.var "order"),(.var "goal")])]))],
  .ret (.var "order")] }
noncomputable def d_first_of:Def:={ name:="first_of",params:=["day","order","goal"],body:=[
  .for1 "number" (.call "range" [(.call "len" [(.attr (.var "day") "stops")])]) [
    .iff (.and [(.cmp (.var "number") .notIn (.var "order")),(.cmp (.call "least" [(.var "day"),(.bin .add (.var "order") (.list [(.var "number")]))]) .eq (.var "goal"))]) [
      .ret (.var "number")] []],
  .ret .none] }
noncomputable def d_has_tour:Def:={ name:="has_tour",params:=["day","kept"],body:=[
  .asg "some" (.call "Day" [(.attr (.var "day") "road"),(.attr (.var "day") "home"),(.attr (.var "day") "start"),(.comp0 (.idx (.attr (.var "day") "stops") (.var "number")) "number" (.var "kept"))]),
  .ret (.cmp (.call "least" [(.var "some"),(.list [])]) .isNot .none)] }
noncomputable def d_clash:Def:={ name:="clash",params:=["day"],body:=[
  .asg "kept" (.call "list" [(.call "range" [(.call "len" [(.attr (.var "day") "stops")])])]),
  .iff (.call "has_tour" [(.var "day"),(.var "kept")]) [
    .ret .none] [],
  .forR "number" (.call "range" [(.call "len" [(.attr (.var "day") "stops")])]) [
    .asg "others" (.comp (.var "other") "other" (.var "kept") (.var "other") .ne (.var "number")),
    .iff (.not (.call "has_tour" [(.var "day"),(.var "others")])) [
      .asg "kept" (.var "others")] []],
  .ret (.call "tuple" [(.var "kept")])] }
noncomputable def d_told:Def:={ name:="told",params:=["day"],body:=[
  .asg "order" (.call "best" [(.var "day")]),
  .iff (.cmp (.var "order") .is .none) [
    .ret (.tup [(.str "clash"),(.call "clash" [(.var "day")])])] [],
  .ret (.tup [(.str "tour"),(.var "order"),(.call "least" [(.var "day"),(.list [])])])] }
noncomputable def d__law_cell_at:Def:={ name:="_law_cell_at",params:=["_law_script","_law_k"],body:=[
  .iff (.cmp (.call "len" [(.var "_law_script")]) .eq (.int 0)) [
    .ret (.var "_law_k")] [],
  .ret (.bin .add (.idx (.var "_law_script") (.bin .mod (.var "_law_k") (.call "len" [(.var "_law_script")]))) (.bin .mul (.int 3) (.bin .fdiv (.var "_law_k") (.call "len" [(.var "_law_script")]))))] }
noncomputable def d__law_wide:Def:={ name:="_law_wide",params:=["_law_cell","_law_bound"],body:=[
  .ret (.bin .mod (.bin .mod (.bin .mul (.var "_law_cell") (.int 48271000000007)) (.int 1000000000000037)) (.var "_law_bound"))] }
noncomputable def d__law_road_by:Def:={ name:="_law_road_by",params:=["_law_cell"],body:=[
  .asg "_law_length" (.bin .add (.int 1) (.bin .mod (.bin .fdiv (.var "_law_cell") (.int 2)) (.int 30))),
  .iff (.cmp (.bin .mod (.bin .fdiv (.var "_law_cell") (.int 2)) (.int 5)) .eq (.int 1)) [
    .asg "_law_length" (.bin .add (.int 1) (.call "_law_wide" [(.bin .fdiv (.var "_law_cell") (.int 10)),(.bin .pow (.int 10) (.int 9))]))] [],
  .iff (.cmp (.bin .mod (.bin .fdiv (.var "_law_cell") (.int 2)) (.int 25)) .eq (.int 3)) [
    .asg "_law_length" (.menu [(.int 1),(.int 2),(.int 3),(.bin .pow (.int 10) (.int 9))] (.bin .mod (.bin .fdiv (.var "_law_cell") (.int 50)) (.int 4)))] [],
  .ret (.tup [(.menu [(.str "line"),(.str "ring")] (.bin .mod (.var "_law_cell") (.int 2))),(.var "_law_length")])] }
noncomputable def d__law_places:Def:={ name:="_law_places",params:=["_law_road"],body:=[
  .iff (.cmp (.idx (.var "_law_road") (.int 0)) .eq (.str "line")) [
    .ret (.bin .add (.idx (.var "_law_road") (.int 1)) (.int 1))] [],
  .ret (.idx (.var "_law_road") (.int 1))] }
noncomputable def d__law_place_by:Def:={ name:="_law_place_by",params:=["_law_road","_law_cell"],body:=[
  .asg "_law_many_here" (.call "_law_places" [(.var "_law_road")]),
  .iff (.cmp (.bin .mod (.var "_law_cell") (.int 7)) .eq (.int 0)) [
    .ret (.menu [(.int 0),(.bin .sub (.var "_law_many_here") (.int 1)),(.bin .fdiv (.var "_law_many_here") (.int 2))] (.bin .mod (.bin .fdiv (.var "_law_cell") (.int 7)) (.int 3)))] [],
  .ret (.call "_law_wide" [(.bin .fdiv (.var "_law_cell") (.int 7)),(.var "_law_many_here")])] }
noncomputable def d__law_start_by:Def:={ name:="_law_start_by",params:=["_law_road","_law_cell"],body:=[
  .iff (.cmp (.bin .mod (.var "_law_cell") (.int 3)) .eq (.int 0)) [
    .ret (.int 0)] [],
  .iff (.cmp (.bin .mod (.var "_law_cell") (.int 3)) .eq (.int 1)) [
    .ret (.bin .mod (.bin .fdiv (.var "_law_cell") (.int 3)) (.bin .add (.bin .mul (.int 2) (.idx (.var "_law_road") (.int 1))) (.int 1)))] [],
  .ret (.call "_law_wide" [(.bin .fdiv (.var "_law_cell") (.int 3)),(.bin .add (.bin .pow (.int 10) (.int 12)) (.int 1))])] }
noncomputable def d__law_stop_by:Def:={ name:="_law_stop_by",params:=["_law_road","_law_start","_law_script","_law_k"],body:=[
  .asg "_law_place" (.call "_law_place_by" [(.var "_law_road"),(.call "_law_cell_at" [(.var "_law_script"),(.var "_law_k")])]),
  .asg "_law_cell" (.call "_law_cell_at" [(.var "_law_script"),(.bin .add (.var "_law_k") (.int 1))]),
  .asg "_law_opens" (.bin .add (.var "_law_start") (.bin .mod (.bin .fdiv (.var "_law_cell") (.int 4)) (.bin .add (.bin .mul (.int 3) (.idx (.var "_law_road") (.int 1))) (.int 2)))),
  .iff (.cmp (.bin .mod (.var "_law_cell") (.int 4)) .eq (.int 0)) [
    .asg "_law_opens" (.int 0)] [],
  .iff (.cmp (.bin .mod (.var "_law_cell") (.int 4)) .eq (.int 1)) [
    .asg "_law_opens" (.call "max" [(.int 0),(.bin .sub (.var "_law_start") (.bin .mod (.bin .fdiv (.var "_law_cell") (.int 4)) (.bin .add (.idx (.var "_law_road") (.int 1)) (.int 1))))])] [],
  .iff (.cmp (.bin .mod (.var "_law_cell") (.int 16)) .eq (.int 6)) [
    .asg "_law_opens" (.bin .add (.var "_law_start") (.call "_law_wide" [(.bin .fdiv (.var "_law_cell") (.int 32)),(.menu [(.bin .pow (.int 10) (.int 9)),(.bin .pow (.int 10) (.int 12))] (.bin .mod (.bin .fdiv (.var "_law_cell") (.int 16)) (.int 2)))]))] [],
  .asg "_law_opens" (.call "min" [(.var "_law_opens"),(.bin .pow (.int 10) (.int 12))]),
  .asg "_law_cell" (.call "_law_cell_at" [(.var "_law_script"),(.bin .add (.var "_law_k") (.int 2))]),
  .asg "_law_closes" (.bin .add (.bin .add (.call "max" [(.var "_law_opens"),(.var "_law_start")]) (.bin .mul (.menu [(.int 0),(.int 3),(.int 9),(.int 20)] (.bin .mod (.var "_law_cell") (.int 4))) (.idx (.var "_law_road") (.int 1)))) (.bin .mod (.bin .fdiv (.var "_law_cell") (.int 4)) (.bin .add (.idx (.var "_law_road") (.int 1)) (.int 2)))),
  .iff (.cmp (.bin .mod (.var "_law_cell") (.int 12)) .eq (.int 0)) [
    .asg "_law_closes" (.var "_law_opens")] [],
  .iff (.cmp (.bin .mod (.var "_law_cell") (.int 9)) .eq (.int 5)) [
    .asg "_law_closes" (.menu [(.bin .pow (.int 10) (.int 12)),(.bin .add (.call "max" [(.var "_law_opens"),(.var "_law_start")]) (.call "_law_wide" [(.bin .fdiv (.var "_law_cell") (.int 18)),(.bin .pow (.int 10) (.int 12))]))] (.bin .mod (.bin .fdiv (.var "_law_cell") (.int 9)) (.int 2)))] [],
  .asg "_law_closes" (.call "min" [(.var "_law_closes"),(.bin .pow (.int 10) (.int 12))]),
  .asg "_law_cell" (.call "_law_cell_at" [(.var "_law_script"),(.bin .add (.var "_law_k") (.int 3))]),
  .asg "_law_stay" (.bin .mod (.bin .fdiv (.var "_law_cell") (.int 3)) (.bin .add (.bin .fdiv (.idx (.var "_law_road") (.int 1)) (.int 3)) (.int 2))),
  .iff (.cmp (.bin .mod (.var "_law_cell") (.int 3)) .eq (.int 0)) [
    .asg "_law_stay" (.int 0)] [],
  .iff (.cmp (.bin .mod (.var "_law_cell") (.int 41)) .eq (.int 7)) [
    .asg "_law_stay" (.call "_law_wide" [(.bin .fdiv (.var "_law_cell") (.int 41)),(.bin .add (.bin .pow (.int 10) (.int 12)) (.int 1))])] [],
  .ret (.tup [(.var "_law_place"),(.var "_law_opens"),(.var "_law_closes"),(.var "_law_stay")])] }
noncomputable def d__law_stops_by:Def:={ name:="_law_stops_by",params:=["_law_road","_law_start","_law_script","_law_many_here"],body:=[
  .ret (.comp0 (.call "_law_stop_by" [(.var "_law_road"),(.var "_law_start"),(.var "_law_script"),(.bin .add (.int 4) (.bin .mul (.int 4) (.var "_law_k")))]) "_law_k" (.call "range" [(.var "_law_many_here")]))] }
noncomputable def d__law_many:Def:={ name:="_law_many",params:=["_law_cell"],body:=[
  .iff (.cmp (.bin .mod (.bin .fdiv (.var "_law_cell") (.int 6)) (.int 9)) .eq (.int 4)) [
    .ret (.bin .add (.int 5) (.bin .mod (.bin .fdiv (.var "_law_cell") (.int 54)) (.int 2)))] [],
  .ret (.bin .mod (.var "_law_cell") (.int 6))] }
noncomputable def d__law_order:Def:={ name:="_law_order",params:=["_law_script","_law_many_here","_law_k"],body:=[
  .asg "_law_order_here" (.list []),
  .asg "_law_left" (.call "list" [(.call "range" [(.var "_law_many_here")])]),
  .for1 "_law_j" (.call "range" [(.bin .mod (.call "_law_cell_at" [(.var "_law_script"),(.var "_law_k")]) (.bin .add (.var "_law_many_here") (.int 1)))]) [
    .asg "_law_at" (.bin .mod (.bin .mod (.bin .fdiv (.call "_law_cell_at" [(.var "_law_script"),(.var "_law_k")]) (.int 7)) (.bin .add (.var "_law_j") (.int 3))) (.call "len" [(.var "_law_left")])),
    .expr (.meth (.var "_law_order_here") "append" [(.idx (.var "_law_left") (.var "_law_at"))]),
    .asg "_law_left" (.bin .add (.slice (.var "_law_left") .none (.var "_law_at")) (.slice (.var "_law_left") (.bin .add (.var "_law_at") (.int 1)) .none))],
  .ret (.var "_law_order_here")] }
noncomputable def d__law_driven:Def:={ name:="_law_driven",params:=["_law_day","_law_order_here","_law_kind"],body:=[
  .tryE [
    .iff (.cmp (.var "_law_kind") .eq (.int 0)) [
      .ret (.call "timetable" [(.var "_law_day"),(.var "_law_order_here")])] [],
    .iff (.cmp (.var "_law_kind") .eq (.int 1)) [
      .ret (.call "ends" [(.var "_law_day"),(.var "_law_order_here")])] [],
    .iff (.cmp (.var "_law_kind") .eq (.int 2)) [
      .ret (.call "table" [(.var "_law_day"),(.var "_law_order_here")])] [],
    .ret (.call "least" [(.var "_law_day"),(.var "_law_order_here")])] [("Missed",(.tup [(.str "missed")])),("BadOrder",(.tup [(.str "order")]))]] }
noncomputable def d__law_answer:Def:={ name:="_law_answer",params:=["_law_day","_law_order_here","_law_kind"],body:=[
  .iff (.cmp (.var "_law_kind") .lt (.int 4)) [
    .ret (.call "_law_driven" [(.var "_law_day"),(.var "_law_order_here"),(.var "_law_kind")])] [],
  .iff (.cmp (.var "_law_kind") .eq (.int 4)) [
    .ret (.call "best" [(.var "_law_day")])] [],
  .iff (.cmp (.var "_law_kind") .eq (.int 5)) [
    .ret (.call "clash" [(.var "_law_day")])] [],
  .ret (.call "told" [(.var "_law_day")])] }
noncomputable def d__law_changed:Def:={ name:="_law_changed",params:=["_law_found"],body:=[
  .iff (.or [(.isinst (.var "_law_found") "list"),(.isinst (.var "_law_found") "dict")]) [
    .expr (.meth (.var "_law_found") "clear" [])] [],
  .iff (.and [(.isinst (.var "_law_found") "tuple"),(.cmp (.call "len" [(.var "_law_found")]) .gt (.int 1)),(.isinst (.idx (.var "_law_found") (.int 1)) "list")]) [
    .expr (.meth (.idx (.var "_law_found") (.int 1)) "append" [(.int 0)])] []] }
noncomputable def d_law:Def:={ name:="law",params:=["_law_script"],body:=[
  .asg "_law_road" (.call "_law_road_by" [(.call "_law_cell_at" [(.var "_law_script"),(.int 0)])]),
  .asg "_law_home" (.call "_law_place_by" [(.var "_law_road"),(.call "_law_cell_at" [(.var "_law_script"),(.int 1)])]),
  .asg "_law_start" (.call "_law_start_by" [(.var "_law_road"),(.call "_law_cell_at" [(.var "_law_script"),(.int 2)])]),
  .asg "_law_stops" (.call "_law_stops_by" [(.var "_law_road"),(.var "_law_start"),(.var "_law_script"),(.call "_law_many" [(.call "_law_cell_at" [(.var "_law_script"),(.int 3)])])]),
  .asg "_law_others" (.comp0 (.idx (.var "_law_stops") (.bin .sub (.neg (.int 1)) (.var "_law_k"))) "_law_k" (.call "range" [(.call "len" [(.var "_law_stops")])])),
  .asg "_law_handed" (.list [(.call "list" [(.var "_law_stops")]),(.call "list" [(.var "_law_others")])]),
  .asg "_law_days" (.list [(.call "Day" [(.var "_law_road"),(.var "_law_home"),(.var "_law_start"),(.idx (.var "_law_handed") (.int 0))]),(.call "Day" [(.var "_law_road"),(.var "_law_home"),(.var "_law_start"),(.idx (.var "_law_handed") (.int 1))])]),
  .iff (.cmp (.bin .mod (.call "_law_cell_at" [(.var "_law_script"),(.int 43)]) (.int 2)) .eq (.int 0)) [
    .setidx (.var "_law_days") (.bin .mod (.bin .fdiv (.call "_law_cell_at" [(.var "_law_script"),(.int 43)]) (.int 2)) (.int 2)) (.call "read" [(.call "written" [(.idx (.var "_law_days") (.bin .mod (.bin .fdiv (.call "_law_cell_at" [(.var "_law_script"),(.int 43)]) (.int 2)) (.int 2)))])])] [],
  .expr (.meth (.idx (.var "_law_handed") (.int 0)) "clear" []),
  .expr (.meth (.idx (.var "_law_handed") (.int 1)) "append" [(.tup [(.int 0),(.int 0),(.int 0),(.int 0)])]),
  .asg "_law_held" (.list []),
  .asg "_law_one_list" (.list []),
  .for1 "_law_k" (.call "range" [(.bin .add (.int 2) (.bin .mod (.call "_law_cell_at" [(.var "_law_script"),(.int 28)]) (.int 6)))]) [
    .asg "_law_cell" (.call "_law_cell_at" [(.var "_law_script"),(.bin .add (.int 29) (.bin .mul (.int 2) (.var "_law_k")))]),
    .asg "_law_order_here" (.call "_law_order" [(.var "_law_script"),(.call "len" [(.var "_law_stops")]),(.bin .add (.int 30) (.bin .mul (.int 2) (.var "_law_k")))]),
    .iff (.cmp (.bin .mod (.bin .fdiv (.var "_law_cell") (.int 14)) (.int 5)) .eq (.int 0)) [
      .asg "_law_order_here" (.bin .add (.var "_law_order_here") (.list [(.ite (.call "len" [(.var "_law_order_here")]) .gt (.int 0) (.idx (.var "_law_order_here") (.int 0)) (.call "len" [(.var "_law_stops")]))]))] [],
    .asg "_law_anew" (.call "Day" [(.var "_law_road"),(.var "_law_home"),(.var "_law_start"),(.call "list" [(.menu [(.var "_law_stops"),(.var "_law_others")] (.bin .mod (.var "_law_cell") (.int 2)))])]),
    .asg "_law_due" (.call "_law_answer" [(.var "_law_anew"),(.call "list" [(.var "_law_order_here")]),(.bin .mod (.bin .fdiv (.var "_law_cell") (.int 2)) (.int 7))]),
    .expr (.meth (.var "_law_one_list") "clear" []),
    .expr (.meth (.var "_law_one_list") "extend" [(.var "_law_order_here")]),
    .asg "_law_found" (.call "_law_answer" [(.idx (.var "_law_days") (.bin .mod (.var "_law_cell") (.int 2))),(.menu [(.var "_law_one_list"),(.call "list" [(.var "_law_order_here")])] (.bin .mod (.call "_law_cell_at" [(.var "_law_script"),(.int 45)]) (.int 2))),(.bin .mod (.bin .fdiv (.var "_law_cell") (.int 2)) (.int 7))]),
    .iff (.cmp (.var "_law_found") .ne (.var "_law_due")) [
      .ret (.bool false)] [],
    .iff (.cmp (.bin .mod (.call "_law_cell_at" [(.var "_law_script"),(.int 44)]) (.int 2)) .eq (.int 0)) [
      .expr (.meth (.var "_law_held") "append" [(.tup [(.var "_law_found"),(.var "_law_due")])])] [
      .expr (.call "_law_changed" [(.var "_law_found")])]],
  .forT ["_law_one","_law_other"] (.var "_law_held") [
    .iff (.cmp (.var "_law_one") .ne (.var "_law_other")) [
      .ret (.bool false)] []],
  .ret (.and [(.cmp (.attr (.idx (.var "_law_days") (.int 0)) "stops") .eq (.var "_law_stops")),(.cmp (.attr (.idx (.var "_law_days") (.int 1)) "stops") .eq (.var "_law_others"))])] }
noncomputable def constL:List (String×V):=[("LINE",.str (Str.ofString "line")),("RING",.str (Str.ofString "ring")),("LONGEST",.int 1000000000),("LATEST",.int 1000000000000),("MOST",.int 7),("FIGURES",.str (Str.ofString "0123456789")),("LONGEST_NUMBER",.int 15)]
noncomputable def consts (x:String):Option V:=constL.lookup x
noncomputable def defs:List Def:=[d_law,d__law_changed,d__law_answer,d__law_driven,d__law_order,d__law_many,d__law_stops_by,d__law_stop_by,d__law_start_by,d__law_place_by,d__law_places,d__law_road_by,d__law_wide,d__law_cell_at,d_told,d_clash,d_has_tour,d_first_of,d_best,d_read,d_numbers_of,d_number_of,d_written,d_least,d_table,d_longer,d_put_better,d_left_at,d_begun_at,d_ends,d_timetable,d_served,d_need_order,d_looked_at,d_apart,d_is_place,d_is_road,d_is_within]
noncomputable def clss:List (String×Def):=[("Day",d_Day_init)]
end Mine.L14
namespace Mine.K
open Mine PySem
noncomputable def fin (r:RS):R V:=match r with
  | .next _ H=>.ok .none H
  | .ret v H=>.ok v H
  | .raise c _ H=>.raise c H
  | _=>.stuck
noncomputable def Fin (P:R V->Prop) (r:RS):Prop:=P (fin r)
theorem runDef_P {Γ:Fn} {d:Def} {vs:List V} {ρ:Rho} {H:Hp} {P:R V->Prop} (e:setAll d.params vs []=some ρ) (h:Fin P (exSs Γ d.body ρ H)):P (runDef Γ d vs H):=by
  have q:runDef Γ d vs H=fin (exSs Γ d.body ρ H):=by
    unfold runDef
    rw [e]
    dsimp only
    cases exSs Γ d.body ρ H <;> rfl
  rw [q];exact h
theorem runDef_is {Γ:Fn} {d:Def} {vs:List V} {ρ:Rho} {H:Hp} {X:R V} (e:setAll d.params vs []=some ρ) (h:Fin (fun r=>r=X) (exSs Γ d.body ρ H)):runDef Γ d vs H=X:=runDef_P (P:=fun r=>r=X) e h
noncomputable def Is (X r:RS):Prop:=r=X
noncomputable def Ext (H H':Hp):Prop:=∃ L,H'=H++L
theorem Ext.refl (H:Hp):Ext H H:=⟨[],by simp⟩
theorem Ext.trans {H H1 H2:Hp} (a:Ext H H1) (b:Ext H1 H2):Ext H H2:=by
  obtain ⟨l,rfl⟩:=a;obtain ⟨m,rfl⟩:=b;exact ⟨l++m,by simp⟩
theorem Ext.get {H H':Hp} (a:Ext H H') {k:Nat} {o:O} (h:H[k]?=some o):H'[k]?=some o:=by
  obtain ⟨l,rfl⟩:=a
  rw [List.getElem?_append_left (List.getElem?_eq_some_iff.mp h).1];exact h
theorem ext_app (H L:Hp):Ext H (H++L):=⟨L,rfl⟩
theorem len_app1 (H:Hp) (o:O):(H++[o])[H.length]?=some o:=by simp
theorem set_app1 (H:Hp) (o o':O):(H++[o]).set H.length o'=H++[o']:=by
  rw [List.set_append_right _ _ (Nat.le_refl _),Nat.sub_self];rfl
theorem setL_self (x:String) (v:V):∀ ρ:Rho,List.lookup x (setL x v ρ)=some v
  | []=>lookup_here x v []
  | (y,w)::r=>by
    show List.lookup x (if y=x then (y,v)::r else (y,w)::setL x v r)=_
    by_cases h:y=x
    · rw [if_pos h,h];exact lookup_here x v r
    · rw [if_neg h,lookup_next (fun q=>h q.symm)];exact setL_self x v r
theorem lookup_setL (x y:String) (v:V):∀ ρ:Rho,List.lookup y (setL x v ρ)=if y=x then some v else List.lookup y ρ
  | []=>by
    show List.lookup y [(x,v)]=_
    by_cases h:y=x
    · rw [if_pos h,h];exact lookup_here x v []
    · rw [if_neg h];exact lookup_next h v []
  | (z,w)::r=>by
    have ih:=lookup_setL x y v r
    show List.lookup y (if z=x then (z,v)::r else (z,w)::setL x v r)=_
    by_cases h:z=x
    · rw [if_pos h]
      by_cases h2:y=x
      · rw [if_pos h2,h,h2];exact lookup_here x v r
      · rw [if_neg h2,lookup_next (by rw [h];exact h2),lookup_next (by rw [h];exact h2)]
    · rw [if_neg h]
      by_cases h2:y=z
      · rw [h2,if_neg h];exact (lookup_here z w _).trans (lookup_here z w _).symm
      · rw [lookup_next h2,ih,lookup_next h2]
theorem setL_other {x y:String} {v:V} {ρ:Rho} {o:Option V} (h:y≠x) (e:List.lookup y ρ=o):List.lookup y (setL x v ρ)=o:=by rw [lookup_setL,if_neg h,e]
theorem rng_ok {m:Nat} (h:m<=500000):rngOk 0 m 1=true:=by
  unfold rngOk
  have h2:(m:Int)<=500000:=Int.ofNat_le.mpr h
  rw [decide_eq_true (Int.natCast_nonneg m),decide_eq_true h2,decide_eq_true rfl,decide_eq_true rfl];rfl
section
variable {T:RS->Prop} {Γ:Fn} {ρ ρ1:Rho} {x:String} {e t:E} {a a' b ss:List S} {H H1 H2:Hp} {v:V}
theorem ss_asg (h:evE Γ ρ e H=.ok v H1) (k:T (exSs Γ ss (setL x v ρ) H1)):T (exSs Γ (.asg x e::ss) ρ H):=by
  have q:exSs Γ (.asg x e::ss) ρ H=exSs Γ ss (setL x v ρ) H1:=by rw [exSs_cons,exS_asg,h];rfl
  rw [q];exact k
theorem ss_asg_raise {c:String} (h:evE Γ ρ e H=.raise c H1) (k:T (.raise c ρ H1)):T (exSs Γ (.asg x e::ss) ρ H):=by
  have q:exSs Γ (.asg x e::ss) ρ H=.raise c ρ H1:=by rw [exSs_cons,exS_asg,h];rfl
  rw [q];exact k
theorem exSs_app:∀ (a:List S) (ρ:Rho) (H:Hp),exSs Γ (a++ss) ρ H=(exSs Γ a ρ H).bind fun ρ1 H1=>exSs Γ ss ρ1 H1
  | [],ρ,H=>rfl
  | s::a,ρ,H=>by
    have ih:=exSs_app a
    show exSs Γ (s::(a++ss)) ρ H=_
    rw [exSs_cons,exSs_cons]
    cases exS Γ s ρ H <;> simp [ih,RS.bind]
theorem ss_if {c:Bool} (ht:evE Γ ρ t H=.ok (.bool c) H1) (k:T (exSs Γ ((if c then a else a')++ss) ρ H1)):T (exSs Γ (.iff t a a'::ss) ρ H):=by
  have q:exSs Γ (.iff t a a'::ss) ρ H=exSs Γ ((if c then a else a')++ss) ρ H1:=by
    rw [exSs_app,exSs_cons,exS_iff,evT,ht]
    cases c <;> rfl
  rw [q];exact k
theorem ss_ret (h:evE Γ ρ e H=.ok v H1) (k:T (.ret v H1)):T (exSs Γ (.ret e::ss) ρ H):=by
  have q:exSs Γ (.ret e::ss) ρ H=.ret v H1:=by rw [exSs_cons,exS_ret,h];rfl
  rw [q];exact k
theorem ss_expr (h:evE Γ ρ e H=.ok v H1) (k:T (exSs Γ ss ρ H1)):T (exSs Γ (.expr e::ss) ρ H):=by
  have q:exSs Γ (.expr e::ss) ρ H=exSs Γ ss ρ H1:=by rw [exSs_cons,exS_expr,h];rfl
  rw [q];exact k
theorem ss_raise {c:String} (hd:Γ.hd=false) (k:T (.raise c ρ H)):T (exSs Γ (.raise c::ss) ρ H):=by
  have q:exSs Γ (.raise c::ss) ρ H=.raise c ρ H:=by rw [exSs_cons,exS_raise,hdS_of hd];rfl
  rw [q];exact k
theorem ss_unpack {xs:List String} {vs:List V} (hd:Γ.hd=false) (h:evE Γ ρ e H=.ok v H1) (hp:partsV v H1=some vs) (hs:setAll xs vs ρ=some ρ1) (k:T (exSs Γ ss ρ1 H1)):T (exSs Γ (.unpack xs e::ss) ρ H):=by
  have q:exSs Γ (.unpack xs e::ss) ρ H=exSs Γ ss ρ1 H1:=by
    rw [exSs_cons,exS_unpack,hdS_of hd,h,ofR_ok,unpackV,optS_of hp,optS_of hs];rfl
  rw [q];exact k
theorem ss_setidx {o i:E} {w k:V} {H3 H4:Hp} (he:evE Γ ρ e H=.ok v H1) (ho:evE Γ ρ o H1=.ok w H2) (hi:evE Γ ρ i H2=.ok k H3) (hs:setK w k v H3=.ok () H4)
    (kk:T (exSs Γ ss ρ H4)):T (exSs Γ (.setidx o i e::ss) ρ H):=by
  have q:exSs Γ (.setidx o i e::ss) ρ H=exSs Γ ss ρ H4:=by
    rw [exSs_cons,exS_setidx,he,ofR_ok,ho,ofR_ok,hi,ofR_ok,hs];rfl
  rw [q];exact kk
theorem ss_cont (k:T (.cont ρ H)):T (exSs Γ (.cont::ss) ρ H):=k
theorem ss_while {r:RS} (hd:Γ.hd=false) (h:whileL (fun ρ H=>evT Γ ρ t H) (fun ρ H=>exSs Γ b ρ H) 64 ρ H=r) (k:T (r.bind fun ρ1 H2=>exSs Γ ss ρ1 H2)):T (exSs Γ (.whil t b::ss) ρ H):=by
  have q:exSs Γ (.whil t b::ss) ρ H=r.bind fun ρ1 H2=>exSs Γ ss ρ1 H2:=by rw [exSs_cons,exS_whil,hdS_of hd,h]
  rw [q];exact k
theorem ss_try {hs:List (String×E)} {r:RS} (hd:Γ.hd=false) (h:exSs Γ b ρ H=r) (k:T ((tryV r fun c ρ1 H1=>exH { Γ with hd:=true } c hs ρ1 H1).bind fun ρ1 H2=>exSs Γ ss ρ1 H2)):T (exSs Γ (.tryE b hs::ss) ρ H):=by
  have q:exSs Γ (.tryE b hs::ss) ρ H=(tryV r fun c ρ1 H1=>exH { Γ with hd:=true } c hs ρ1 H1).bind fun ρ1 H2=>exSs Γ ss ρ1 H2:=by rw [exSs_cons,exS_tryE,hdS_of hd,h]
  rw [q];exact k
theorem ss_for {xs:List V} {r:RS} (hd:Γ.hd=false) (he:evE Γ ρ e H=.ok v H1) (hx:items H1 v=some xs) (hf:forL (fun v ρ1 H2=>exSs Γ b (setL x v ρ1) H2) (sameO v H1) xs ρ H1=r)
    (k:T (r.bind fun ρ1 H2=>exSs Γ ss ρ1 H2)):T (exSs Γ (.for1 x e b::ss) ρ H):=by
  have q:exSs Γ (.for1 x e b::ss) ρ H=r.bind fun ρ1 H2=>exSs Γ ss ρ1 H2:=by
    rw [exSs_cons,exS_for1,hdS_of hd,he,ofR_ok,forV,optS_of hx,hf]
  rw [q];exact k
theorem ss_forT {ns:List String} {xs:List V} {r:RS} (hd:Γ.hd=false) (he:evE Γ ρ e H=.ok v H1) (hl:listAt v H1=some xs) (hx:items H1 v=some xs) (hf:forL (fun v ρ1 H2=>unpackV ns v ρ1 H2 fun ρ2=>exSs Γ b ρ2 H2) (sameO v H1) xs ρ H1=r)
    (k:T (r.bind fun ρ1 H2=>exSs Γ ss ρ1 H2)):T (exSs Γ (.forT ns e b::ss) ρ H):=by
  have q:exSs Γ (.forT ns e b::ss) ρ H=r.bind fun ρ1 H2=>exSs Γ ss ρ1 H2:=by
    rw [exSs_cons,exS_forT,hdS_of hd,he,ofR_ok,forVL,optS_of hl,forV,optS_of hx,hf]
  rw [q];exact k
theorem ss_forR {m:Nat} {r:RS} (hd:Γ.hd=false) (he:evE Γ ρ e H=.ok (.rng 0 m 1) H1) (hm:m<=100) (hf:forL (fun v ρ1 H2=>exSs Γ b (setL x v ρ1) H2) (fun _=>true) ((rangeL (m - 1) m (-1)).map .int) ρ H1=r)
    (k:T (r.bind fun ρ1 H2=>exSs Γ ss ρ1 H2)):T (exSs Γ (.forR x e b::ss) ρ H):=by
  have q:exSs Γ (.forR x e b::ss) ρ H=r.bind fun ρ1 H2=>exSs Γ ss ρ1 H2:=by
    rw [exSs_cons,exS_forR,hdS_of hd,he]
    show RS.bind (ifS (rngOk 0 m 1=true) _) _=_
    rw [ifS_of (rng_ok (Nat.le_trans hm (by decide))),hf]
  rw [q];exact k
end
section
variable {Γ:Fn} {ρ:Rho} {H H1 H2 H3:Hp} {u v w:V}
theorem ev_bin {op:Op} {a b:E} (ha:evE Γ ρ a H=.ok u H1) (hb:evE Γ ρ b H1=.ok v H2):evE Γ ρ (.bin op a b) H=bin op u v H2:=by
  rw [evE_bin,ha,R.bind_ok,hb,R.bind_ok]
theorem ev_var {x:String} (h:ρ.lookup x=some v):evE Γ ρ (.var x) H=.ok v H:=by
  rw [evE_var,optR_of h]
theorem ev_cmp {op:Cm} {a b:E} {c:Bool} (ha:evE Γ ρ a H=.ok u H1) (hb:evE Γ ρ b H1=.ok v H2) (hc:cmp op u v H2=some c):evE Γ ρ (.cmp a op b) H=.ok (.bool c) H2:=by
  rw [evE_cmp,cmpV,ha,R.bind_ok,hb,R.bind_ok,optR_of hc]
theorem ev_cmpR {op:Cm} {a b:E} {c:Bool} (ha:evE Γ ρ a H=.ok u H1) (hb:evE Γ ρ b H1=.ok v H2) (hc:cmp op u v H2=some c):(cmpR op (evE Γ ρ a H) fun H1=>evE Γ ρ b H1)=.ok c H2:=by
  rw [cmpR,ha,R.bind_ok,hb,R.bind_ok,optR_of hc]
theorem ev_not {a:E} {c b:Bool} (h:evE Γ ρ a H=.ok (.bool c) H1) (hb:(!c)=b):evE Γ ρ (.not a) H=.ok (.bool b) H1:=by
  rw [evE_not,h,<- hb];rfl
theorem ev_call {f:String} {es:List E} {vs:List V} {r:R V} (hd:Γ.hd=false) (h:evEs Γ ρ es H=.ok vs H1) (hb:builtin f vs H1=.stuck) (hc:Γ.call f vs H1=r):evE Γ ρ (.call f es) H=r:=by
  rw [evE_call,h,R.bind_ok,callF,hdR_of hd,hb];exact hc
theorem ev_bi {f:String} {es:List E} {vs:List V} (hd:Γ.hd=false) (h:evEs Γ ρ es H=.ok vs H1) (hb:builtin f vs H1=.ok v H2):evE Γ ρ (.call f es) H=.ok v H2:=by
  rw [evE_call,h,R.bind_ok,callF,hdR_of hd,hb]
theorem evs_nil:evEs Γ ρ [] H=.ok [] H:=rfl
theorem evs_cons {e:E} {es:List E} {vs:List V} (h:evE Γ ρ e H=.ok v H1) (h2:evEs Γ ρ es H1=.ok vs H2):evEs Γ ρ (e::es) H=.ok (v::vs) H2:=by
  rw [evEs_cons,h,R.bind_ok,h2];rfl
theorem evs_one {e:E} (h:evE Γ ρ e H=.ok v H1):evEs Γ ρ [e] H=.ok [v] H1:=evs_cons h evs_nil
theorem ev_meth {o:E} {m:String} {es:List E} {vs:List V} {k i:String} {g:V->List V->Hp->R V} (ho:evE Γ ρ o H=.ok w H1) (hk:kindV w H1=some k) (hg:mTable.lookup (k,m)=some (g,i)) (ha:evEs Γ ρ es H1=.ok vs H2) (hm:g w vs H2=.ok v H3):evE Γ ρ (.meth o m es) H=.ok v H3:=by
  rw [evE_meth,ho,R.bind_ok,optR_of (show methK w m H1=some (g,i) by rw [methK,hk];exact hg),ha];exact hm
theorem ev_idx {o i:E} {r:R V} (ho:evE Γ ρ o H=.ok u H1) (hi:evE Γ ρ i H1=.ok v H2) (h:index u v H2=r):evE Γ ρ (.idx o i) H=r:=by
  rw [evE_idx,ho,R.bind_ok,hi,R.bind_ok,h]
theorem ev_comp {elt it l r:E} {x:String} {op:Cm} {xs:List V} (hd:Γ.hd=false) (hit:evE Γ ρ it H=.ok v H1) (hx:items H1 v=some xs)
    (ht:turns (turnF (fun y H2=>cmpR op (evE Γ ((x,y)::ρ) l H2) fun H3=>evE Γ ((x,y)::ρ) r H3) (fun y H2=>evE Γ ((x,y)::ρ) elt H2) H1.length) (sameO v H1) xs (H1++[.list []])=.ok () H2):evE Γ ρ (.comp elt x it l op r) H=.ok (.ref H1.length) H2:=by
  rw [evE_comp,hdR_of hd,hit,R.bind_ok,compV,optR_of hx,ht];rfl
theorem ev_comp0 {elt it:E} {x:String} {xs:List V} (hd:Γ.hd=false) (hit:evE Γ ρ it H=.ok v H1) (hx:items H1 v=some xs)
    (ht:turns (turnF (fun _ H2=>.ok true H2) (fun y H2=>evE Γ ((x,y)::ρ) elt H2) H1.length) (sameO v H1) xs (H1++[.list []])=.ok () H2):evE Γ ρ (.comp0 elt x it) H=.ok (.ref H1.length) H2:=by
  rw [evE_comp0,hdR_of hd,hit,R.bind_ok,compV,optR_of hx,ht];rfl
theorem ev_int (i:Int):evE Γ ρ (.int i) H=.ok (.int i) H:=rfl
theorem ev_none:evE Γ ρ .none H=.ok .none H:=rfl
theorem ev_bool (b:Bool):evE Γ ρ (.bool b) H=.ok (.bool b) H:=rfl
theorem ev_tup {es:List E} {vs:List V} (h:evEs Γ ρ es H=.ok vs H1):evE Γ ρ (.tup es) H=.ok (.tup vs) H1:=by rw [evE_tup,h];rfl
theorem ev_list {es:List E} {vs:List V} (h:evEs Γ ρ es H=.ok vs H1):evE Γ ρ (.list es) H=.ok (.ref H1.length) (H1++[.list vs]):=by rw [evE_list,h];rfl
theorem ev_attr {o:E} {a:String} (h:evE Γ ρ o H=.ok u H1) (h2:attrV u a H1=.ok v H1):evE Γ ρ (.attr o a) H=.ok v H1:=by rw [evE_attr,h,R.bind_ok,h2]
theorem ev_bin2 {op:Op} {a b:E} (ha:evE Γ ρ a H=.ok u H1) (hb:evE Γ ρ b H1=.ok v H2) (h:bin op u v H2=.ok w H3):evE Γ ρ (.bin op a b) H=.ok w H3:=by rw [ev_bin ha hb,h]
theorem ev_isinst {e:E} {T:String} {c:Bool} (h:evE Γ ρ e H=.ok u H1) (h2:isinst u T H1=some c):evE Γ ρ (.isinst e T) H=.ok (.bool c) H1:=by rw [evE_isinst,h,R.bind_ok,optR_of h2]
theorem ev_slice {o lo hi:E} {l m:V} {r:R V} (ho:evE Γ ρ o H=.ok u H1) (hl:evE Γ ρ lo H1=.ok l H2) (hh:evE Γ ρ hi H2=.ok m H3) (h:sliceV u l m H3=r):evE Γ ρ (.slice o lo hi) H=r:=by rw [evE_slice,ho,R.bind_ok,hl,R.bind_ok,hh,R.bind_ok,h]
theorem ev_or {a:E} {b:E} {es:List E} {c:Bool} {r:R V} (ha:evE Γ ρ a H=.ok (.bool c) H1) (h:(if c then .ok (.bool true) H1 else evBo Γ ρ false (b::es) H1)=r):evBo Γ ρ false (a::b::es) H=r:=by
  rw [evBo_cons,ha,<- h];cases c <;> rfl
theorem ev_and {a:E} {b:E} {es:List E} {c:Bool} {r:R V} (ha:evE Γ ρ a H=.ok (.bool c) H1) (h:(if c then evBo Γ ρ true (b::es) H1 else .ok (.bool false) H1)=r):evBo Γ ρ true (a::b::es) H=r:=by
  rw [evBo_cons,ha,<- h];cases c <;> rfl
end
section
variable {xs:List V} {k:Nat} {H:Hp}
theorem listAt_of (h:H[k]?=some (.list xs)):listAt (.ref k) H=some xs:=at_of (f:=listO) h
theorem kind_list (h:H[k]?=some (.list xs)):kindV (.ref k) H=some "list":=by
  have q:kindV (.ref k) H=(match listAt (.ref k) H with | some _=>some "list" | Option.none=>(tabAt (.ref k) H).map fun _=>"dict"):=rfl
  rw [q,listAt_of h]
theorem bi_list_ref (h:H[k]?=some (.list xs)):builtin "list" [.ref k] H=.ok (.ref H.length) (H++[.list xs]):=by
  have q:builtin "list" [.ref k] H=(match listAt (.ref k) H with | some xs=>new (.list xs) H | Option.none=>.stuck):=rfl
  rw [q,listAt_of h];rfl
theorem bi_len_ref (h:H[k]?=some (.list xs)):builtin "len" [.ref k] H=.ok (.int xs.length) H:=by
  have q:builtin "len" [.ref k] H=optR (match listAt (.ref k) H with | some xs=>some xs.length | Option.none=>(tabAt (.ref k) H).map fun p=>p.1.length) fun n=>.ok (.int n) H:=rfl
  rw [q,listAt_of h];rfl
theorem item_at {i:Nat} {v:V} (hv:xs[i]?=some v):itemAt xs i H=.ok v H:=by
  have hp:place i xs.length=some i:=(if_pos (Int.natCast_nonneg i)).trans ((if_pos (Int.ofNat_lt.mpr (List.getElem?_eq_some_iff.mp hv).1)).trans (congrArg some (Int.toNat_natCast i)))
  exact optR_of (by rw [hp];exact hv)
theorem idx_ref {i:Nat} {v:V} (h:H[k]?=some (.list xs)) (hv:xs[i]?=some v):index (.ref k) (.int i) H=.ok v H :=
  (optR_of (listAt_of h)).trans (item_at hv)
theorem same_of {H':Hp} {o:O} (h:H[k]?=some o) (e:H'[k]?=some o) (q:eqO o o=true):sameO (.ref k) H H'=true:=by
  have r:sameO (.ref k) H H'=(match H[k]? with | some a=>(match H'[k]? with | some b=>eqO a b | Option.none=>false) | Option.none=>false):=rfl
  rw [r,h,e];exact q
theorem sameO_ext {H':Hp} (h:H[k]?=some (.list xs)) (e:Ext H H'):sameO (.ref k) H H'=true:=same_of h (e.get h) (decide_eq_true rfl)
end
@[simp] theorem bi_min (a b:Int) (H:Hp):builtin "min" [.int a,.int b] H=.ok (.int (if b < a then b else a)) H:=rfl
@[simp] theorem bi_max (a b:Int) (H:Hp):builtin "max" [.int a,.int b] H=.ok (.int (if a < b then b else a)) H:=rfl
theorem bi_abs (a:Int) (H:Hp):builtin "abs" [.int a] H=.ok (.int a.natAbs) H:=rfl
section
variable {Γ:Fn} {ρ:Rho} {H H1 H2:Hp} {a b:E} {x y:Int}
theorem ev_add (ha:evE Γ ρ a H=.ok (.int x) H1) (hb:evE Γ ρ b H1=.ok (.int y) H2):evE Γ ρ (.bin .add a b) H=.ok (.int (x+y)) H2:=ev_bin2 ha hb rfl
theorem ev_sub (ha:evE Γ ρ a H=.ok (.int x) H1) (hb:evE Γ ρ b H1=.ok (.int y) H2):evE Γ ρ (.bin .sub a b) H=.ok (.int (x - y)) H2:=ev_bin2 ha hb rfl
theorem ev_mod (ha:evE Γ ρ a H=.ok (.int x) H1) (hb:evE Γ ρ b H1=.ok (.int y) H2) (h:y≠0):evE Γ ρ (.bin .mod a b) H=.ok (.int (x.fmod y)) H2:=ev_bin2 ha hb (bin_mod H2 h)
theorem ev_fdiv (ha:evE Γ ρ a H=.ok (.int x) H1) (hb:evE Γ ρ b H1=.ok (.int y) H2) (h:y≠0/\y.natAbs < 1073741824):evE Γ ρ (.bin .fdiv a b) H=.ok (.int (x.fdiv y)) H2:=ev_bin2 ha hb (bin_fdiv H2 h.1 h.2)
theorem ev_mul (ha:evE Γ ρ a H=.ok (.int x) H1) (hb:evE Γ ρ b H1=.ok (.int y) H2) (h:x.natAbs < 2 ^ 64\/y.natAbs < 2 ^ 64):evE Γ ρ (.bin .mul a b) H=.ok (.int (x * y)) H2:=ev_bin2 ha hb (bin_of H2 (if_pos h))
theorem ev_eqI {i:Int} (ha:evE Γ ρ a H=.ok (.int x) H1):evE Γ ρ (.cmp a .eq (.int i)) H=.ok (.bool (x==i)) H1:=ev_cmp ha (ev_int i) rfl
theorem ev_max (hd:Γ.hd=false) (ha:evE Γ ρ a H=.ok (.int x) H1) (hb:evE Γ ρ b H1=.ok (.int y) H2):evE Γ ρ (.call "max" [a,b]) H=.ok (.int (if x < y then y else x)) H2:=ev_bi hd (evs_cons ha (evs_one hb)) rfl
theorem ev_min (hd:Γ.hd=false) (ha:evE Γ ρ a H=.ok (.int x) H1) (hb:evE Γ ρ b H1=.ok (.int y) H2):evE Γ ρ (.call "min" [a,b]) H=.ok (.int (if y < x then y else x)) H2:=ev_bi hd (evs_cons ha (evs_one hb)) rfl
theorem ev_p9:evE Γ ρ (.bin .pow (.int 10) (.int 9)) H=.ok (.int 1000000000) H:=ev_bin2 (ev_int 10) (ev_int 9) (bin_pow H (by decide))
theorem ev_p12:evE Γ ρ (.bin .pow (.int 10) (.int 12)) H=.ok (.int 1000000000000) H:=ev_bin2 (ev_int 10) (ev_int 12) (bin_pow H (by decide))
theorem menu_at {vs:List V} {k:Int} {H:Hp} (h0:0<=k) (h1:k < vs.length):∃ v,v∈vs/\index (.lst vs) (.int k) H=.ok v H:=by
  obtain ⟨i,rfl⟩:=Int.eq_ofNat_of_zero_le h0
  have h3:i < vs.length:=Int.ofNat_lt.mp h1
  exact ⟨vs[i],List.getElem_mem h3,item_at (List.getElem?_eq_getElem h3)⟩
theorem ev_menu {es:List E} {vs:List V} {n:Nat} {P:V->Prop} (h:evEs Γ ρ es H=.ok vs H1) (ha:evE Γ ρ a H1=.ok (.int x) H2) (hn:vs.length=n) (hp:0 < n) (hv:∀ v∈vs,P v):∃ v,evE Γ ρ (.menu es (.bin .mod a (.int n))) H=.ok v H2/\P v:=by
  subst hn
  have hp':(0:Int) < vs.length:=Int.ofNat_lt.mpr hp
  obtain ⟨v,hm,e⟩:=menu_at (H:=H2) (Int.fmod_nonneg_of_pos x hp') (Int.fmod_lt_of_pos x hp')
  refine ⟨v,?_,hv v hm⟩
  rw [evE_menu,h,R.bind_ok,ev_mod ha (ev_int _) (Int.ne_of_gt hp'),R.bind_ok,e]
theorem fmod_lt (a:Int) {b:Int} (h:0 < b):0<=a.fmod b/\a.fmod b < b:=⟨Int.fmod_nonneg_of_pos a h,Int.fmod_lt_of_pos a h⟩
end
section
variable {T:RS->Prop} {Γ:Fn} {ρ:Rho} {x:String} {e t:E} {ss:List S} {H H1:Hp} {v:V}
noncomputable def Oth (x:String) (ρ ρ':Rho):Prop:=∀ y,y≠x->List.lookup y ρ'=List.lookup y ρ
theorem oth_set (x:String) (v:V) (ρ:Rho):Oth x ρ (setL x v ρ):=fun _ h=>setL_other h rfl
theorem ss_asgA (h:evE Γ ρ e H=.ok v H1) (k:∀ ρ',List.lookup x ρ'=some v->Oth x ρ ρ'->T (exSs Γ ss ρ' H1)):T (exSs Γ (.asg x e::ss) ρ H):=ss_asg h (k _ (setL_self _ _ _) (oth_set _ _ _))
theorem ss_ifA {P:Int->Prop} {c:Bool} {o:Int} (ht:evE Γ ρ t H=.ok (.bool c) H) (h1:∃ i,evE Γ ρ e H=.ok (.int i) H/\P i) (h0:List.lookup x ρ=some (.int o)) (hp:P o)
    (k:∀ ρ' i,List.lookup x ρ'=some (.int i)->P i->Oth x ρ ρ'->T (exSs Γ ss ρ' H)):T (exSs Γ (.iff t [.asg x e] []::ss) ρ H):=by
  refine ss_if ht ?_
  cases c with
  | true =>
    obtain ⟨i,hi,pi⟩:=h1
    exact ss_asg hi (k _ i (setL_self _ _ _) pi (oth_set _ _ _))
  | false=>exact k ρ o h0 hp fun _ _=>rfl
end
theorem nil_or_snoc {α:Type} (l:List α):l=[]\/∃ l' b,l=l'++[b]:=by
  rcases List.eq_nil_or_concat l with h | ⟨l',b,h⟩
  · exact .inl h
  · exact .inr ⟨l',b,by rw [h,List.concat_eq_append]⟩
noncomputable def bodyOf:Option S->List S
  | some (.for1 _ _ b)=>b
  | some (.whil _ b)=>b
  | _=>[]
noncomputable def loopAt (b:List S) (i:Nat):List S:=bodyOf b[i]?
noncomputable def Turns (P:Rho->Hp->Prop) (r:RS):Prop:=∃ ρ H,r.loop=.next ρ H/\P ρ H
theorem Turns.here {P:Rho->Hp->Prop} {Γ:Fn} {ρ:Rho} {H:Hp} (h:P ρ H):Turns P (exSs Γ [] ρ H):=⟨ρ,H,rfl,h⟩
theorem Turns.cont {P:Rho->Hp->Prop} {ρ:Rho} {H:Hp} (h:P ρ H):Turns P (.cont ρ H):=⟨ρ,H,rfl,h⟩
theorem forL_or {α:Type} (y:α->V) (body:V->Rho->Hp->RS) (chk:Hp->Bool) (I:List α->List α->Rho->Hp->Prop) (J:RS->Prop) (hJ:∀ r,J r->r.loop=r/\∀ k,r.bind k=r) (hc:∀ a b ρ H,I a b ρ H->chk H=true)
    (turn:∀ a z b ρ H,I a (z::b) ρ H->Turns (I (a++[z]) b) (body (y z) ρ H)\/J (body (y z) ρ H)):∀ (b a:List α) (ρ:Rho) (H:Hp),I a b ρ H->(∃ ρ' H',forL body chk (b.map y) ρ H=.next ρ' H'/\I (a++b) [] ρ' H')\/J (forL body chk (b.map y) ρ H)
  | [],a,ρ,H,h=>.inl ⟨ρ,H,if_pos (hc _ _ _ _ h),by simpa using h⟩
  | z::b,a,ρ,H,h=>by
    have e:forL body chk ((z::b).map y) ρ H=(body (y z) ρ H).loop.bind fun ρ1 H1=>forL body chk (b.map y) ρ1 H1:=if_pos (hc _ _ _ _ h)
    rw [e]
    rcases turn a z b ρ H h with ⟨ρ1,H1,e1,i1⟩ | j
    · rw [e1,RS.bind_next]
      have:=forL_or y body chk I J hJ hc turn b (a++[z]) ρ1 H1 i1
      simpa using this
    · obtain ⟨q1,q2⟩:=hJ _ j
      rw [q1,q2];exact .inr j
theorem forL_all {α:Type} (y:α->V) (body:V->Rho->Hp->RS) (chk:Hp->Bool) (I:List α->List α->Rho->Hp->Prop) (hc:∀ a b ρ H,I a b ρ H->chk H=true)
    (turn:∀ a z b ρ H,I a (z::b) ρ H->Turns (I (a++[z]) b) (body (y z) ρ H)) (b:List α) (ρ:Rho) (H:Hp) (h:I [] b ρ H):∃ ρ' H',forL body chk (b.map y) ρ H=.next ρ' H'/\I b [] ρ' H':=by
  rcases forL_or y body chk I (fun _=>False) (fun _ q=>q.elim) hc (fun a z b ρ H h=>.inl (turn a z b ρ H h)) b [] ρ H h with h | h
  · exact h
  · exact h.elim
theorem turns_filter {α:Type} (y g:α->V) (t:α->Bool) (G:V->Hp->R Bool) (F:V->Hp->R V) (chk:Hp->Bool) (H:Hp) (hc:∀ ys,chk (H++[.list ys])=true):∀ (zs:List α) (done:List V),(∀ z∈zs,∀ ys,G (y z) (H++[.list ys])=.ok (t z) (H++[.list ys])/\F (y z) (H++[.list ys])=.ok (g z) (H++[.list ys]))->done.length+zs.length<=line ->
    turns (turnF G F H.length) chk (zs.map y) (H++[.list done])=.ok () (H++[.list (done++(zs.filter t).map g)])
  | [],done,_,_=>by
    show _=R.ok () (H++[.list (done++[])])
    rw [List.append_nil];exact ifR_of (hc _)
  | z::zs,done,h,hl=>by
    obtain ⟨h1,h2⟩:=h z (List.mem_cons_self ..) done
    have hl':done.length+(zs.length+1)<=line:=hl
    have e:turns (turnF G F H.length) chk ((z::zs).map y) (H++[.list done])=(match turnF G F H.length (y z) (H++[.list done]) with | .ok _ H1=>turns (turnF G F H.length) chk (zs.map y) H1 | _=>.stuck):=ifR_of (hc _)
    rw [e,turnF,h1,R.bind_ok]
    have ih:=fun d=>turns_filter y g t G F chk H hc zs d fun u hu=>h u (List.mem_cons_of_mem _ hu)
    cases ht:t z with
    | true =>
      rw [if_pos rfl,h2,R.bind_ok,m_append (len_app1 _ _) (by omega),set_app1,List.filter_cons_of_pos ht,List.map_cons]
      show turns _ _ _ _=_
      rw [ih (done++[g z]) (by rw [List.length_append,List.length_singleton];omega),List.append_assoc];rfl
    | false =>
      rw [if_neg Bool.false_ne_true,List.filter_cons_of_neg (by rw [ht];exact Bool.false_ne_true)]
      exact ih done (by omega)
theorem turns_map {α:Type} (y g:α->V) (F:V->Hp->R V) (chk:Hp->Bool) (H:Hp) (hc:∀ ys,chk (H++[.list ys])=true) (zs:List α) (h:∀ z∈zs,∀ ys,F (y z) (H++[.list ys])=.ok (g z) (H++[.list ys])) (hl:zs.length<=line) :
    turns (turnF (fun _ H2=>.ok true H2) F H.length) chk (zs.map y) (H++[.list []])=.ok () (H++[.list (zs.map g)]):=by
  have:=turns_filter y g (fun _=>true) (fun _ H2=>.ok true H2) F chk H hc zs [] (fun z hz ys=>⟨rfl,h z hz ys⟩) (by rw [List.length_nil,Nat.zero_add];exact hl)
  rwa [List.filter_eq_self.mpr (fun _ _=>rfl),List.nil_append] at this
theorem rangeL_one (b:Int):rangeL 0 b 1=(List.range b.toNat).map fun k:Nat=>(k:Int):=List.map_congr_left fun k _=>(Int.zero_add _).trans (Int.one_mul _)
end Mine.K
namespace Mine.L14
open Mine PySem Mine.K
@[irreducible] noncomputable def G (n:Nat):Fn:=lk defs clss consts n
theorem G_eq (n:Nat):G n=lk defs clss consts n:=by unfold G;rfl
@[simp] theorem G_hd (n:Nat):(G n).hd=false:=by rw [G_eq];cases n <;> rfl
@[simp] theorem G_const (n:Nat):(G n).const=consts:=by rw [G_eq];exact lk_const n
theorem G_call {f:String} {d:Def} (h:defs.find? (fun d=>d.name==f)=some d) (n:Nat) (vs:List V) (H:Hp):(G (n+1)).call f vs H=runDef (G n) d vs H:=by
  rw [G_eq,G_eq];exact lk_call h n vs H
theorem G_class {f:String} {d:Def} (h:defs.find? (fun d=>d.name==f)=Option.none) (h2:clss.lookup f=some d) (n:Nat) (vs:List V) (H:Hp):(G (n+1)).call f vs H=runClass (G n) f d vs H:=by
  rw [G_eq,G_eq]
  show (match defs.find? (fun d=>d.name==f) with | some d=>runDef (lk defs clss consts n) d vs H | Option.none=>match clss.lookup f with | some d=>runClass (lk defs clss consts n) f d vs H | Option.none=>.stuck)=_
  rw [h]
  show (match clss.lookup f with | some d=>runClass (lk defs clss consts n) f d vs H | Option.none=>.stuck)=_
  rw [h2]
noncomputable abbrev sLine:Str:=Str.ofString "line"
noncomputable abbrev sRing:Str:=Str.ofString "ring"
noncomputable def cellI (ns:List Int) (k:Int):Int:=if (ns.length:Int)=0 then k else ns.getD (k.fmod ns.length).toNat 0+3 * k.fdiv ns.length
theorem c_cellI (n:Nat) (ns:List Int) (k:Int) (H:Hp) (hl:ns.length<=63):(G (n+1)).call "_law_cell_at" [.scr ns,.int k] H=.ok (.int (cellI ns k)) H:=by
  rw [G_call (d:=d__law_cell_at) (by kernel_rfl)]
  have hb:builtin "len" [.scr ns] H=.ok (.int ns.length) H:=rfl
  refine runDef_is (ρ:=[("_law_script",.scr ns),("_law_k",.int k)]) rfl (ss_if (ev_eqI (ev_bi (G_hd _) (evs_one (ev_var rfl)) hb)) ?_)
  unfold cellI
  by_cases hne:(ns.length:Int)=0
  · rw [beq_iff_eq.mpr hne,if_pos hne];exact ss_ret (ev_var rfl) rfl
  · rw [beq_eq_false_iff_ne.mpr hne,if_neg hne]
    have hp:(0:Int) < ns.length:=Int.lt_iff_le_and_ne.mpr ⟨Int.natCast_nonneg _,Ne.symm hne⟩
    have f:=fmod_lt k hp
    have e:index (.scr ns) (.int (k.fmod ns.length)) H=.ok (.int (ns.getD (k.fmod ns.length).toNat 0)) H:=by
      have i:=item_at (xs:=ns.map V.int) (i:=(k.fmod ns.length).toNat) (v:=.int (ns.getD (k.fmod ns.length).toNat 0)) (H:=H) (by
        rw [List.getElem?_map,List.getD_eq_getElem?_getD,List.getElem?_eq_getElem ((Int.toNat_lt f.1).mpr f.2)];rfl)
      rw [Int.toNat_of_nonneg f.1] at i;exact i
    exact ss_ret (ev_add (ev_idx (ev_var rfl) (ev_mod (ev_var rfl) (ev_bi (G_hd _) (evs_one (ev_var rfl)) hb) hne) e) (ev_mul (ev_int 3) (ev_fdiv (ev_var rfl) (ev_bi (G_hd _) (evs_one (ev_var rfl)) hb) ⟨hne,Nat.lt_of_le_of_lt hl (by decide)⟩) (.inl (by decide)))) rfl
theorem c_cell (n:Nat) (ns:List Int) (k:Int) (H:Hp) (_:0<=k) (hl:ns.length<=63):∃ c,(G (n+1)).call "_law_cell_at" [.scr ns,.int k] H=.ok (.int c) H:=⟨_,c_cellI n ns k H hl⟩
theorem c_wide (n:Nat) (c b:Int) (H:Hp) (hb:0 < b):∃ r,(G (n+1)).call "_law_wide" [.int c,.int b] H=.ok (.int r) H/\0<=r/\r < b:=by
  rw [G_call (d:=d__law_wide) (by kernel_rfl)]
  refine ⟨_,runDef_is (ρ:=[("_law_cell",.int c),("_law_bound",.int b)]) rfl (ss_ret (ev_mod (ev_mod (ev_mul (ev_var rfl) (ev_int 48271000000007) (.inr (by decide))) (ev_int 1000000000000037) (by decide)) (ev_var rfl) (Int.ne_of_gt hb)) rfl),fmod_lt _ hb⟩
theorem ev_wide {n:Nat} {ρ:Rho} {H:Hp} {a b:E} {x y:Int} (ha:evE (G (n+1)) ρ a H=.ok (.int x) H) (hb:evE (G (n+1)) ρ b H=.ok (.int y) H) (hy:0 < y):∃ r,evE (G (n+1)) ρ (.call "_law_wide" [a,b]) H=.ok (.int r) H/\0<=r/\r < y:=by
  obtain ⟨r,e,h⟩:=c_wide n x y H hy
  exact ⟨r,ev_call (G_hd _) (evs_cons ha (evs_one hb)) rfl e,h⟩
noncomputable def isInt (P:Int->Prop) (v:V):Prop:=∃ i,v=.int i/\P i
theorem c_road (n:Nat) (c:Int) (H:Hp):∃ w l,(G (n+2)).call "_law_road_by" [.int c] H=.ok (.tup [.str w,.int l]) H/\(w=sLine\/w=sRing)/\1<=l/\l<=1000000000:=by
  rw [G_call (d:=d__law_road_by) (by kernel_rfl)]
  refine runDef_P (ρ:=[("_law_cell",.int c)]) (P:=fun r=>∃ w l,r=.ok (.tup [.str w,.int l]) H/\(w=sLine\/w=sRing)/\1<=l/\l<=1000000000) rfl ?_
  have half:∀ {ρ:Rho},ρ.lookup "_law_cell"=some (.int c)->evE (G (n+1)) ρ (.bin .fdiv (.var "_law_cell") (.int 2)) H=.ok (.int (c.fdiv 2)) H:=fun g=>ev_fdiv (ev_var g) (ev_int 2) (by decide)
  refine ss_asgA (ev_add (ev_int 1) (ev_mod (half rfl) (ev_int 30) (by decide))) fun ρ1 h1 s1=>?_
  have c1:=s1 "_law_cell" (by decide)
  have m:=fmod_lt (c.fdiv 2) (b:=30) (by decide)
  refine ss_ifA (P:=fun l=>1<=l/\l<=1000000000) (ev_eqI (ev_mod (half c1) (ev_int 5) (by decide))) ?_ h1 ⟨Int.le_add_of_nonneg_right m.1,Int.le_trans (Int.add_le_add_left (Int.le_of_lt m.2) 1) (by decide)⟩ fun ρ2 l2 h2 p2 s2=>?_
  · obtain ⟨r,e,h⟩:=ev_wide (n:=n) (ev_fdiv (ev_var c1) (ev_int 10) (by decide)) ev_p9 (H:=H) (by decide)
    exact ⟨1+r,ev_add (ev_int 1) e,Int.le_add_of_nonneg_right h.1,by rw [Int.add_comm];exact h.2⟩
  have c2:=(s2 "_law_cell" (by decide)).trans c1
  refine ss_ifA (P:=fun l=>1<=l/\l<=1000000000) (ev_eqI (ev_mod (half c2) (ev_int 25) (by decide))) ?_ h2 p2 fun ρ3 l3 h3 p3 s3=>?_
  · obtain ⟨v,e,i,rfl,h⟩:=ev_menu (n:=4) (P:=isInt fun l=>1<=l/\l<=1000000000) (evs_cons (ev_int 1) (evs_cons (ev_int 2) (evs_cons (ev_int 3) (evs_one ev_p9)))) (ev_fdiv (ev_var c2) (ev_int 50) (by decide)) rfl (by decide) (H:=H) fun v hv=>by
      simp only [List.mem_cons,List.not_mem_nil,or_false] at hv
      rcases hv with rfl | rfl | rfl | rfl <;> exact ⟨_,rfl,by decide⟩
    exact ⟨i,e,h⟩
  have c3:=(s3 "_law_cell" (by decide)).trans c2
  obtain ⟨v,e,w,rfl,hw⟩:=ev_menu (n:=2) (P:=fun v=>∃ w,v=.str w/\(w=sLine\/w=sRing)) (evs_cons rfl (evs_one rfl)) (ev_var c3) rfl (by decide) (Γ:=G (n+1)) (es:=[.str "line",.str "ring"]) (H:=H) fun v hv=>by
    simp only [List.mem_cons,List.not_mem_nil,or_false] at hv
    rcases hv with rfl | rfl
    · exact ⟨_,rfl,.inl rfl⟩
    · exact ⟨_,rfl,.inr rfl⟩
  exact ss_ret (ev_tup (evs_cons e (evs_one (ev_var h3)))) ⟨w,l3,rfl,hw,p3⟩
noncomputable def many (w:Str) (l:Int):Int:=if w=sLine then l+1 else l
theorem c_places (n:Nat) (w:Str) (l:Int) (H:Hp):(G (n+1)).call "_law_places" [.tup [.str w,.int l]] H=.ok (.int (many w l)) H:=by
  rw [G_call (d:=d__law_places) (by kernel_rfl)]
  refine runDef_is (ρ:=[("_law_road",.tup [.str w,.int l])]) rfl (ss_if (c:=w==sLine) (H1:=H) (ev_cmp (ev_idx (ev_var rfl) (ev_int 0) rfl) rfl (cmp_eq_str _ _ _)) ?_)
  unfold many
  by_cases h:w=sLine
  · rw [beq_iff_eq.mpr h,if_pos h]
    exact ss_ret (ev_add (ev_idx (ev_var rfl) (ev_int 1) rfl) (ev_int 1)) rfl
  · rw [beq_eq_false_iff_ne.mpr h,if_neg h]
    exact ss_ret (ev_idx (ev_var rfl) (ev_int 1) rfl) rfl
theorem many_pos {w:Str} {l:Int} (hl:1<=l):1<=many w l:=by unfold many;split <;> omega
theorem c_place (n:Nat) (w:Str) (l c:Int) (H:Hp) (hl:1<=l):∃ p,(G (n+2)).call "_law_place_by" [.tup [.str w,.int l],.int c] H=.ok (.int p) H/\0<=p/\p < many w l:=by
  rw [G_call (d:=d__law_place_by) (by kernel_rfl)]
  refine runDef_P (ρ:=[("_law_road",.tup [.str w,.int l]),("_law_cell",.int c)]) (P:=fun r=>∃ p,r=.ok (.int p) H/\0<=p/\p < many w l) rfl ?_
  have hm:=many_pos (w:=w) hl
  refine ss_asg (ev_call (G_hd _) (evs_one (ev_var rfl)) rfl (c_places n w l H)) (ss_if (ev_eqI (ev_mod (ev_var rfl) (ev_int 7) (by decide))) ?_)
  generalize many w l=m at hm ⊢
  cases c.fmod 7==0 with
  | true =>
    obtain ⟨v,e,i,rfl,h⟩:=ev_menu (n:=3) (Γ:=G (n+1)) (ρ:=setL "_law_many_here" (.int m) [("_law_road",.tup [.str w,.int l]),("_law_cell",.int c)]) (P:=isInt fun p=>0<=p/\p < m) (evs_cons (ev_int 0) (evs_cons (ev_sub (x:=m) (ev_var (x:="_law_many_here") rfl) (ev_int 1)) (evs_one (ev_fdiv (x:=m) (ev_var (x:="_law_many_here") rfl) (ev_int 2) (by decide))))) (ev_fdiv (x:=c) (ev_var (x:="_law_cell") rfl) (ev_int 7) (by decide)) rfl (by decide) (H:=H) fun v hv=>by
      simp only [List.mem_cons,List.not_mem_nil,or_false] at hv
      have h2:m.fdiv 2=m / 2:=Int.fdiv_eq_ediv_of_nonneg _ (by decide)
      rcases hv with rfl | rfl | rfl
      · exact ⟨_,rfl,by decide,hm⟩
      · exact ⟨_,rfl,Int.le_sub_one_of_lt hm,Int.sub_lt_self _ (by decide)⟩
      · rw [h2];exact ⟨_,rfl,Int.ediv_nonneg (Int.le_of_lt hm) (by decide),Int.ediv_lt_self_of_pos_of_ne_one hm (by decide)⟩
    exact ss_ret e ⟨i,rfl,h⟩
  | false =>
    obtain ⟨r,e,h⟩:=ev_wide (n:=n) (ρ:=setL "_law_many_here" (.int m) [("_law_road",.tup [.str w,.int l]),("_law_cell",.int c)]) (H:=H) (ev_fdiv (ev_var (x:="_law_cell") rfl) (ev_int 7) (by decide)) (ev_var (x:="_law_many_here") rfl) hm
    exact ss_ret e ⟨r,rfl,h⟩
theorem c_start (n:Nat) (w:Str) (l c:Int) (H:Hp) (hl:1<=l) (hl2:l<=1000000000):∃ s,(G (n+2)).call "_law_start_by" [.tup [.str w,.int l],.int c] H=.ok (.int s) H/\0<=s/\s<=1000000000000:=by
  rw [G_call (d:=d__law_start_by) (by kernel_rfl)]
  refine runDef_P (ρ:=[("_law_road",.tup [.str w,.int l]),("_law_cell",.int c)]) (P:=fun r=>∃ p,r=.ok (.int p) H/\0<=p/\p<=1000000000000) rfl ?_
  refine ss_if (ev_eqI (ev_mod (ev_var rfl) (ev_int 3) (by decide))) ?_
  cases c.fmod 3==0 with
  | true=>exact ss_ret (ev_int 0) ⟨0,rfl,by decide⟩
  | false =>
    refine ss_if (ev_eqI (ev_mod (ev_var rfl) (ev_int 3) (by decide))) ?_
    cases c.fmod 3==1 with
    | true =>
      have pl:0 < 2 * l+1:=by omega
      have m:=fmod_lt (c.fdiv 3) pl
      exact ss_ret (ev_mod (ev_fdiv (ev_var rfl) (ev_int 3) (by decide)) (ev_add (ev_mul (ev_int 2) (ev_idx (ev_var rfl) (ev_int 1) rfl) (.inl (by decide))) (ev_int 1)) (Int.ne_of_gt pl)) ⟨_,rfl,m.1,Int.le_trans (Int.le_of_lt m.2) (Int.le_trans (Int.add_le_add_right (Int.mul_le_mul_of_nonneg_left hl2 (by decide)) 1) (by decide))⟩
    | false =>
      obtain ⟨r,e,h⟩:=ev_wide (n:=n) (ρ:=[("_law_road",.tup [.str w,.int l]),("_law_cell",.int c)]) (H:=H) (ev_fdiv (ev_var (x:="_law_cell") rfl) (ev_int 3) (by decide)) (ev_add ev_p12 (ev_int 1)) (by decide)
      exact ss_ret e ⟨r,rfl,h.1,Int.le_of_lt_add_one h.2⟩
structure StopOk (w:Str) (l p o c s:Int):Prop where
  p0:0<=p
  p1:p < many w l
  o0:0<=o
  oc:o<=c
  c1:c<=1000000000000
  s0:0<=s
  s1:s<=1000000000000
structure SE (w:Str) (l st k:Int) (ns:List Int) (ρ:Rho):Prop where
  road:ρ.lookup "_law_road"=some (.tup [.str w,.int l])
  start:ρ.lookup "_law_start"=some (.int st)
  script:ρ.lookup "_law_script"=some (.scr ns)
  kk:ρ.lookup "_law_k"=some (.int k)
section
variable {w:Str} {l st k:Int} {ns:List Int} {ρ:Rho} {H:Hp} {n:Nat}
theorem SE.oth {x:String} {ρ':Rho} (g:SE w l st k ns ρ) (h:Oth x ρ ρ') (hx:"_law_road"≠x/\"_law_start"≠x/\"_law_script"≠x/\"_law_k"≠x):SE w l st k ns ρ' :=
  ⟨(h _ hx.1).trans g.road,(h _ hx.2.1).trans g.start,(h _ hx.2.2.1).trans g.script,(h _ hx.2.2.2).trans g.kk⟩
theorem SE.len (g:SE w l st k ns ρ):evE (G n) ρ (.idx (.var "_law_road") (.int 1)) H=.ok (.int l) H:=ev_idx (ev_var g.road) (ev_int 1) rfl
theorem SE.cell (g:SE w l st k ns ρ) (hns:ns.length<=63) {e:E} {j:Int} (he:evE (G (n+1)) ρ e H=.ok (.int j) H) (hj:0<=j):∃ c,evE (G (n+1)) ρ (.call "_law_cell_at" [.var "_law_script",e]) H=.ok (.int c) H:=by
  obtain ⟨c,e1⟩:=c_cell n ns j H hj hns
  exact ⟨c,ev_call (G_hd _) (evs_cons (ev_var g.script) (evs_one he)) rfl e1⟩
noncomputable abbrev Nat12 (o:Int):Prop:=0<=o/\o<=1000000000000
theorem third {l:Int} (h:1<=l) (h2:l<=1000000000):0 < l.fdiv 3+2/\l.fdiv 3+2<=1000000000000:=by
  have h0:0<=l:=Int.le_trans (by decide) h
  rw [Int.fdiv_eq_ediv_of_nonneg _ (by decide)]
  exact ⟨Int.lt_of_lt_of_le (by decide) (Int.add_le_add_right (Int.ediv_nonneg h0 (by decide)) 2),Int.le_trans (Int.add_le_add_right (Int.le_trans (Int.ediv_le_self 3 h0) h2) 2) (by decide)⟩
theorem abs20 {i:Int} (h:0<=i/\i<=20):i.natAbs < 2 ^ 64:=by
  obtain ⟨k,rfl⟩:=Int.eq_ofNat_of_zero_le h.1
  exact Nat.lt_of_le_of_lt (Int.ofNat_le.mp h.2) (by decide)
theorem min12 (o:Int):(if 1000000000000 < o then 1000000000000 else o)<=1000000000000:=by split <;> omega
theorem le_min12 {a o:Int} (h:a<=o) (ha:a<=1000000000000):a<=(if 1000000000000 < o then 1000000000000 else o):=by split <;> omega
theorem le_maxI (a b:Int):a<=(if a < b then b else a):=by split <;> omega
theorem st_open {T:RS->Prop} (g:SE w l st k ns ρ) (hl:1<=l) (s0:0<=st) (hk:0<=k+1) (hns:ns.length<=63)
    (K:∀ ρ' o,SE w l st k ns ρ'->ρ'.lookup "_law_opens"=some (.int o)->Nat12 o->ρ'.lookup "_law_place"=ρ.lookup "_law_place"->T (exSs (G (n+2)) (d__law_stop_by.body.drop 7) ρ' H)):T (exSs (G (n+2)) (d__law_stop_by.body.drop 1) ρ H):=by
  obtain ⟨c,e⟩:=g.cell (n:=n+1) hns (ev_add (ev_var g.kk) (ev_int 1)) hk (H:=H)
  refine ss_asgA e fun ρ1 h1 s1=>?_
  have g1:=g.oth s1 (by decide)
  have p1:=s1 "_law_place" (by decide)
  have cell:∀ {ρ':Rho},ρ'.lookup "_law_cell"=some (.int c)->evE (G (n+2)) ρ' (.bin .fdiv (.var "_law_cell") (.int 4)) H=.ok (.int (c.fdiv 4)) H:=fun q=>ev_fdiv (ev_var q) (ev_int 4) (by decide)
  have m1:=fmod_lt (c.fdiv 4) (b:=3 * l+2) (by omega)
  refine ss_asgA (ev_add (ev_var g1.start) (ev_mod (cell h1) (ev_add (ev_mul (ev_int 3) g1.len (.inl (by decide))) (ev_int 2)) (by omega))) fun ρ2 h2 s2=>?_
  have g2:=g1.oth s2 (by decide)
  have c2:=(s2 "_law_cell" (by decide)).trans h1
  refine ss_ifA (P:=fun o=>0<=o) (ev_eqI (ev_mod (ev_var c2) (ev_int 4) (by decide))) ⟨0,ev_int 0,by decide⟩ h2 (Int.add_nonneg s0 m1.1) fun ρ3 o3 h3 q3 s3=>?_
  have g3:=g2.oth s3 (by decide)
  have c3:=(s3 "_law_cell" (by decide)).trans c2
  refine ss_ifA (P:=fun o=>0<=o) (ev_eqI (ev_mod (ev_var c3) (ev_int 4) (by decide))) ⟨_,ev_max (G_hd _) (ev_int 0) (ev_sub (ev_var g3.start) (ev_mod (cell c3) (ev_add g3.len (ev_int 1)) (by omega))),le_maxI _ _⟩ h3 q3 fun ρ4 o4 h4 q4 s4=>?_
  have g4:=g3.oth s4 (by decide)
  have c4:=(s4 "_law_cell" (by decide)).trans c3
  refine ss_ifA (P:=fun o=>0<=o) (ev_eqI (ev_mod (ev_var c4) (ev_int 16) (by decide))) ?_ h4 q4 fun ρ5 o5 h5 q5 s5=>?_
  · obtain ⟨v,em,i,rfl,hi⟩:=ev_menu (n:=2) (P:=isInt fun i=>0 < i) (evs_cons ev_p9 (evs_one ev_p12)) (ev_fdiv (ev_var c4) (ev_int 16) (by decide)) rfl (by decide) (Γ:=G (n+2)) (H:=H) fun v hv=>by
      simp only [List.mem_cons,List.not_mem_nil,or_false] at hv
      rcases hv with rfl | rfl <;> exact ⟨_,rfl,by decide⟩
    obtain ⟨r,er,hr⟩:=ev_wide (n:=n+1) (ev_fdiv (ev_var c4) (ev_int 32) (by decide)) em hi
    exact ⟨_,ev_add (ev_var g4.start) er,Int.add_nonneg s0 hr.1⟩
  have g5:=g4.oth s5 (by decide)
  refine ss_asgA (ev_min (G_hd _) (ev_var h5) ev_p12) fun ρ6 h6 s6=>?_
  exact K ρ6 _ (g5.oth s6 (by decide)) h6 ⟨le_min12 q5 (by decide),min12 _⟩ ((s6 _ (by decide)).trans ((s5 _ (by decide)).trans ((s4 _ (by decide)).trans ((s3 _ (by decide)).trans ((s2 _ (by decide)).trans p1)))))
theorem st_close {T:RS->Prop} {o:Int} (g:SE w l st k ns ρ) (ho:ρ.lookup "_law_opens"=some (.int o)) (h12:Nat12 o) (hl:1<=l) (hk:0<=k+2) (hns:ns.length<=63)
    (K:∀ ρ' c,SE w l st k ns ρ'->ρ'.lookup "_law_opens"=some (.int o)->ρ'.lookup "_law_closes"=some (.int c)->o<=c->c<=1000000000000->ρ'.lookup "_law_place"=ρ.lookup "_law_place"->T (exSs (G (n+2)) (d__law_stop_by.body.drop 12) ρ' H)):T (exSs (G (n+2)) (d__law_stop_by.body.drop 7) ρ H):=by
  obtain ⟨c,e⟩:=g.cell (n:=n+1) hns (ev_add (ev_var g.kk) (ev_int 2)) hk (H:=H)
  refine ss_asgA e fun ρ1 h1 s1=>?_
  have g1:=g.oth s1 (by decide)
  have o1:=(s1 "_law_opens" (by decide)).trans ho
  have big:∀ {ρ':Rho},SE w l st k ns ρ'->ρ'.lookup "_law_opens"=some (.int o)->evE (G (n+2)) ρ' (.call "max" [(.var "_law_opens"),(.var "_law_start")]) H=.ok (.int (if o < st then st else o)) H:=fun g q=>ev_max (G_hd _) (ev_var q) (ev_var g.start)
  have hm:=le_maxI o st
  obtain ⟨v,em,i,rfl,hi⟩:=ev_menu (n:=4) (P:=isInt fun i=>0<=i/\i<=20) (evs_cons (ev_int 0) (evs_cons (ev_int 3) (evs_cons (ev_int 9) (evs_one (ev_int 20))))) (ev_var h1) rfl (by decide) (Γ:=G (n+2)) (H:=H) fun v hv=>by
    simp only [List.mem_cons,List.not_mem_nil,or_false] at hv
    rcases hv with rfl | rfl | rfl | rfl <;> exact ⟨_,rfl,by decide⟩
  have il:0<=i * l:=Int.mul_nonneg hi.1 (Int.le_trans (by decide) hl)
  have pl:0 < l+2:=Int.add_pos_of_nonneg_of_pos (Int.le_trans (by decide) hl) (by decide)
  have m:=fmod_lt (c.fdiv 4) pl
  generalize (if o < st then st else o)=mx at big hm
  refine ss_asgA (ev_add (ev_add (big g1 o1) (ev_mul em g1.len (.inl (abs20 hi)))) (ev_mod (ev_fdiv (ev_var h1) (ev_int 4) (by decide)) (ev_add g1.len (ev_int 2)) (Int.ne_of_gt pl))) fun ρ2 h2 s2=>?_
  have g2:=g1.oth s2 (by decide)
  have c2:=(s2 "_law_cell" (by decide)).trans h1
  have o2:=(s2 "_law_opens" (by decide)).trans o1
  refine ss_ifA (P:=fun c=>o<=c) (ev_eqI (ev_mod (ev_var c2) (ev_int 12) (by decide))) ⟨o,ev_var o2,Int.le_refl _⟩ h2 (Int.le_trans hm (Int.le_trans (Int.le_add_of_nonneg_right il) (Int.le_add_of_nonneg_right m.1))) fun ρ3 x3 h3 q3 s3=>?_
  have g3:=g2.oth s3 (by decide)
  have c3:=(s3 "_law_cell" (by decide)).trans c2
  have o3:=(s3 "_law_opens" (by decide)).trans o2
  refine ss_ifA (P:=fun c=>o<=c) (ev_eqI (ev_mod (ev_var c3) (ev_int 9) (by decide))) ?_ h3 q3 fun ρ4 x4 h4 q4 s4=>?_
  · obtain ⟨r,er,hr⟩:=ev_wide (n:=n+1) (ev_fdiv (ev_var c3) (ev_int 18) (by decide)) ev_p12 (H:=H) (by decide)
    obtain ⟨v,em,i,rfl,hi⟩:=ev_menu (n:=2) (P:=isInt fun i=>o<=i) (evs_cons ev_p12 (evs_one (ev_add (big g3 o3) er))) (ev_fdiv (ev_var c3) (ev_int 9) (by decide)) rfl (by decide) (Γ:=G (n+2)) (H:=H) fun v hv=>by
      simp only [List.mem_cons,List.not_mem_nil,or_false] at hv
      rcases hv with rfl | rfl
      · exact ⟨_,rfl,h12.2⟩
      · exact ⟨_,rfl,Int.le_trans hm (Int.le_add_of_nonneg_right hr.1)⟩
    exact ⟨i,em,hi⟩
  have g4:=g3.oth s4 (by decide)
  refine ss_asgA (ev_min (G_hd _) (ev_var h4) ev_p12) fun ρ5 h5 s5=>?_
  exact K ρ5 _ (g4.oth s5 (by decide)) ((s5 _ (by decide)).trans ((s4 _ (by decide)).trans o3)) h5 (le_min12 q4 h12.2) (min12 _) ((s5 _ (by decide)).trans ((s4 _ (by decide)).trans ((s3 _ (by decide)).trans ((s2 _ (by decide)).trans (s1 _ (by decide))))))
theorem c_stop (n:Nat) (w:Str) (l st k:Int) (ns:List Int) (H:Hp) (hl:1<=l) (hl2:l<=1000000000) (s0:0<=st) (s1:st<=1000000000000) (hk:0<=k) (hns:ns.length<=63) :
    ∃ p o c s,(G (n+3)).call "_law_stop_by" [.tup [.str w,.int l],.int st,.scr ns,.int k] H=.ok (.tup [.int p,.int o,.int c,.int s]) H/\StopOk w l p o c s:=by
  rw [G_call (d:=d__law_stop_by) (by kernel_rfl)]
  refine runDef_P (ρ:=[("_law_road",.tup [.str w,.int l]),("_law_start",.int st),("_law_script",.scr ns),("_law_k",.int k)]) (P:=fun r=>∃ p o c s,r=.ok (.tup [.int p,.int o,.int c,.int s]) H/\StopOk w l p o c s) rfl ?_
  have g0:SE w l st k ns [("_law_road",.tup [.str w,.int l]),("_law_start",.int st),("_law_script",.scr ns),("_law_k",.int k)]:=⟨rfl,rfl,rfl,rfl⟩
  obtain ⟨c0,e0⟩:=g0.cell (n:=n+1) hns (ev_var g0.kk) hk (H:=H)
  obtain ⟨p,ep,p0,p1⟩:=c_place n w l c0 H hl
  refine ss_asgA (ev_call (G_hd _) (evs_cons (ev_var g0.road) (evs_one e0)) rfl ep) fun ρ1 h1 q1=>?_
  refine st_open (g0.oth q1 (by decide)) hl s0 (Int.add_nonneg hk (by decide)) hns fun ρ2 o g2 o2 h12 p2=>?_
  refine st_close g2 o2 h12 hl (Int.add_nonneg hk (by decide)) hns fun ρ3 c g3 o3 c3 hoc hc p3=>?_
  obtain ⟨cc,e⟩:=g3.cell (n:=n+1) hns (ev_add (ev_var g3.kk) (ev_int 3)) (Int.add_nonneg hk (by decide)) (H:=H)
  refine ss_asgA e fun ρ4 h4 q4=>?_
  have g4:=g3.oth q4 (by decide)
  obtain ⟨pl,pl2⟩:=third hl hl2
  have m5:=fmod_lt (cc.fdiv 3) pl
  refine ss_asgA (ev_mod (ev_fdiv (ev_var h4) (ev_int 3) (by decide)) (ev_add (ev_fdiv g4.len (ev_int 3) (by decide)) (ev_int 2)) (Int.ne_of_gt pl)) fun ρ5 h5 q5=>?_
  have c5:=(q5 "_law_cell" (by decide)).trans h4
  refine ss_ifA (P:=Nat12) (ev_eqI (ev_mod (ev_var c5) (ev_int 3) (by decide))) ⟨0,ev_int 0,by decide⟩ h5 ⟨m5.1,Int.le_trans (Int.le_of_lt m5.2) pl2⟩ fun ρ6 y6 h6 n6 q6=>?_
  have c6:=(q6 "_law_cell" (by decide)).trans c5
  refine ss_ifA (P:=Nat12) (ev_eqI (ev_mod (ev_var c6) (ev_int 41) (by decide))) ?_ h6 n6 fun ρ7 y7 h7 n7 q7=>?_
  · obtain ⟨r,er,hr⟩:=ev_wide (n:=n+1) (ev_fdiv (ev_var c6) (ev_int 41) (by decide)) (ev_add ev_p12 (ev_int 1)) (H:=H) (by decide)
    exact ⟨r,er,hr.1,Int.le_of_lt_add_one hr.2⟩
  have key:∀ x,x≠"_law_stay"->x≠"_law_cell"->List.lookup x ρ7=List.lookup x ρ3:=fun x hx hy=>(q7 x hx).trans ((q6 x hx).trans ((q5 x hx).trans (q4 x hy)))
  exact ss_ret (ev_tup (evs_cons (ev_var ((key _ (by decide) (by decide)).trans (p3.trans (p2.trans h1)))) (evs_cons (ev_var ((key _ (by decide) (by decide)).trans o3)) (evs_cons (ev_var ((key _ (by decide) (by decide)).trans c3)) (evs_one (ev_var h7)))))) ⟨p,o,c,y7,rfl,p0,p1,h12.1,hoc,hc,n7.1,n7.2⟩
end
theorem c_many (n:Nat) (c:Int) (H:Hp):∃ m:Nat,(G (n+1)).call "_law_many" [.int c] H=.ok (.int m) H/\m<=7:=by
  rw [G_call (d:=d__law_many) (by kernel_rfl)]
  refine runDef_P (ρ:=[("_law_cell",.int c)]) (P:=fun r=>∃ m:Nat,r=.ok (.int m) H/\m<=7) rfl (ss_if (ev_eqI (ev_mod (ev_fdiv (ev_var rfl) (ev_int 6) (by decide)) (ev_int 9) (by decide))) ?_)
  have nat:∀ i:Int,0<=i->i<=7->∃ m:Nat,R.ok (V.int i) H=.ok (.int m) H/\m<=7:=fun i h1 h2=>⟨i.toNat,by rw [Int.toNat_of_nonneg h1],Int.toNat_le.mpr h2⟩
  cases (c.fdiv 6).fmod 9==4 with
  | true =>
    have m:=fmod_lt (c.fdiv 54) (b:=2) (by decide)
    exact ss_ret (ev_add (ev_int 5) (ev_mod (ev_fdiv (ev_var rfl) (ev_int 54) (by decide)) (ev_int 2) (by decide))) (nat _ (Int.add_nonneg (by decide) m.1) (Int.le_trans (show 5+(c.fdiv 54).fmod 2<=5+1 from Int.add_le_add_left (Int.le_of_lt_add_one (b:=1) m.2) 5) (by decide)))
  | false =>
    have m:=fmod_lt c (b:=6) (by decide)
    exact ss_ret (ev_mod (ev_var rfl) (ev_int 6) (by decide)) (nat _ m.1 (Int.le_trans (Int.le_of_lt m.2) (by decide)))
noncomputable abbrev Q4:=Int×Int×Int×Int
noncomputable def tupQ (q:Q4):V:=.tup [.int q.1,.int q.2.1,.int q.2.2.1,.int q.2.2.2]
theorem items_list {xs:List V} {k:Nat} {H:Hp} (h:H[k]?=some (.list xs)):items H (.ref k)=some xs:=by
  have q:items H (.ref k)=(match listAt (.ref k) H with | some xs=>some xs | Option.none=>(tabAt (.ref k) H).map fun p=>p.1.map fun x=>keyV x.1):=rfl
  rw [q,listAt_of h]
noncomputable def rangeI (m:Nat):List Int:=(List.range m).map fun k:Nat=>(k:Int)
theorem rangeI_len (m:Nat):(rangeI m).length=m:=by unfold rangeI;rw [List.length_map,List.length_range]
theorem mem_rangeI {m:Nat} {z:Int}:z∈rangeI m ↔ 0<=z/\z < m:=by
  unfold rangeI
  rw [List.mem_map]
  refine ⟨?_,fun h=>⟨z.toNat,List.mem_range.mpr ((Int.toNat_lt h.1).mpr h.2),Int.toNat_of_nonneg h.1⟩⟩
  rintro ⟨k,hk,rfl⟩
  exact ⟨Int.natCast_nonneg _,Int.ofNat_lt.mpr (List.mem_range.mp hk)⟩
theorem items_range {H:Hp} {m:Nat} (hm:m<=100):items H (.rng 0 m 1)=some ((rangeI m).map .int):=by
  have q:items H (.rng 0 m 1)=if rngOk 0 m 1 then some ((rangeL 0 m 1).map .int) else Option.none:=rfl
  rw [q,if_pos (rng_ok (Nat.le_trans hm (by decide))),rangeL_one];rfl
theorem ev_glob {Γ:Fn} {ρ:Rho} {x:String} {v:V} {H:Hp} (h:Γ.const x=some v):evE Γ ρ (.glob x) H=.ok v H:=by rw [evE_glob,optR_of h]
theorem turns_some (P:V->Prop) (f:V->Hp->R V) (chk:Hp->Bool) (H:Hp) (hc:∀ ys,chk (H++[.list ys])=true):∀ (xs done:List V),(∀ y∈xs,∀ ys,∃ v,f y (H++[.list ys])=.ok v (H++[.list ys])/\P v)->done.length+xs.length<=line ->
    ∃ vs,turns (turnF (fun _ H2=>.ok true H2) f H.length) chk xs (H++[.list done])=.ok () (H++[.list (done++vs)])/\vs.length=xs.length/\∀ v∈vs,P v
  | [],done,_,_=>⟨[],by rw [List.append_nil];exact ifR_of (hc _),rfl,fun _ q=>nomatch q⟩
  | y::ys,done,h,hl=>by
    obtain ⟨v,ev,pv⟩:=h y (List.mem_cons_self ..) done
    have hl':done.length+(ys.length+1)<=line:=hl
    obtain ⟨vs,e,l,p⟩:=turns_some P f chk H hc ys (done++[v]) (fun z hz=>h z (List.mem_cons_of_mem _ hz)) (by rw [List.length_append,List.length_singleton,Nat.add_assoc,Nat.add_comm 1];exact hl')
    refine ⟨v::vs,?_,congrArg (·+1) l,fun z hz=>?_⟩
    · refine (ifR_of (hc _)).trans ?_
      rw [turnF,R.bind_ok,if_pos rfl,ev,R.bind_ok,m_append (len_app1 _ _) (Nat.lt_of_lt_of_le (Nat.lt_add_of_pos_right (Nat.succ_pos _)) hl'),set_app1]
      show turns _ _ _ _=_
      rw [e,List.append_assoc];rfl
    · rcases List.mem_cons.mp hz with rfl | hz
      · exact pv
      · exact p z hz
theorem c_stops (n:Nat) (w:Str) (l st:Int) (m:Nat) (ns:List Int) (H:Hp) (hl:1<=l) (hl2:l<=1000000000) (s0:0<=st) (s1:st<=1000000000000) (hm2:m<=100) (hns:ns.length<=63) :
    ∃ vs,(G (n+4)).call "_law_stops_by" [.tup [.str w,.int l],.int st,.scr ns,.int m] H=.ok (.ref H.length) (H++[.list vs])/\vs.length=m/\∀ v∈vs,∃ p o c s,v=.tup [.int p,.int o,.int c,.int s]/\StopOk w l p o c s:=by
  rw [G_call (d:=d__law_stops_by) (by kernel_rfl)]
  obtain ⟨vs,e,le,p⟩:=turns_some (fun v=>∃ p o c s,v=.tup [.int p,.int o,.int c,.int s]/\StopOk w l p o c s)
    (fun y H2=>evE (G (n+3)) (("_law_k",y)::[("_law_road",.tup [.str w,.int l]),("_law_start",.int st),("_law_script",.scr ns),("_law_many_here",.int m)]) (.call "_law_stop_by" [.var "_law_road",.var "_law_start",.var "_law_script",.bin .add (.int 4) (.bin .mul (.int 4) (.var "_law_k"))]) H2)
    (sameO (.rng 0 m 1) H) H (fun _=>rfl) ((rangeI m).map .int) [] (by
      intro y hy ys
      obtain ⟨j,hj,rfl⟩:=List.mem_map.mp hy
      obtain ⟨p,o,c,s,es,so⟩:=c_stop n w l st (4+4 * j) ns (H++[.list ys]) hl hl2 s0 s1 (Int.add_nonneg (by decide) (Int.mul_nonneg (by decide) (mem_rangeI.mp hj).1)) hns
      exact ⟨_,ev_call (G_hd _) (evs_cons (ev_var rfl) (evs_cons (ev_var rfl) (evs_cons (ev_var rfl) (evs_one (ev_add (ev_int 4) (ev_mul (ev_int 4) (ev_var rfl) (.inl (by decide)))))))) rfl es,p,o,c,s,rfl,so⟩) (by rw [List.length_map,rangeI_len];exact Nat.le_trans (Nat.le_of_eq (Nat.zero_add m)) (Nat.le_trans hm2 (by decide)))
  refine ⟨vs,?_,by rw [le,List.length_map,rangeI_len],p⟩
  exact runDef_is (ρ:=[("_law_road",.tup [.str w,.int l]),("_law_start",.int st),("_law_script",.scr ns),("_law_many_here",.int m)]) rfl (ss_ret (ev_comp0 (it:=.call "range" [.var "_law_many_here"]) (v:=.rng 0 m 1) (G_hd _) (ev_bi (G_hd _) (evs_one (ev_var rfl)) rfl) (items_range hm2) e) rfl)
theorem c_withinB (n:Nat) (x lo hi:Int) (H:Hp):(G (n+1)).call "is_within" [.int x,.int lo,.int hi] H=.ok (.bool (decide (lo<=x)&&decide (x<=hi))) H:=by
  rw [G_call (d:=d_is_within) (by kernel_rfl)]
  have c2:evE (G n) [("number",.int x),("low",.int lo),("high",.int hi)] (.cmp2 (.var "low") .le (.var "number") .le (.var "high")) H=.ok (.bool (decide (lo<=x)&&decide (x<=hi))) H:=by
    have q:evE (G n) [("number",.int x),("low",.int lo),("high",.int hi)] (.cmp2 (.var "low") .le (.var "number") .le (.var "high")) H=if decide (lo<=x) then .ok (.bool (decide (x<=hi))) H else .ok (.bool false) H:=rfl
    rw [q]
    cases decide (lo<=x) <;> rfl
  exact runDef_is (ρ:=[("number",.int x),("low",.int lo),("high",.int hi)]) rfl (ss_ret (show evBo _ _ _ _ _=_ from ev_and (c:=true) (H1:=H) (ev_isinst (ev_var rfl) rfl) (show evBo _ _ _ _ _=_ from ev_and (c:=true) (H1:=H) (ev_not (c:=false) (ev_isinst (ev_var rfl) rfl) rfl) c2)) rfl)
theorem c_within (n:Nat) {x lo hi:Int} (H:Hp) (h1:lo<=x) (h2:x<=hi):(G (n+1)).call "is_within" [.int x,.int lo,.int hi] H=.ok (.bool true) H:=by
  rw [c_withinB,decide_eq_true h1,decide_eq_true h2];rfl
theorem c_isplace (n:Nat) {w:Str} {l p:Int} (H:Hp) (h0:0<=p) (h1:p < many w l):(G (n+2)).call "is_place" [.tup [.str w,.int l],.int p] H=.ok (.bool true) H:=by
  rw [G_call (d:=d_is_place) (by kernel_rfl)]
  refine runDef_is (ρ:=[("road",.tup [.str w,.int l]),("place",.int p)]) rfl (ss_if (c:=w==sLine) (H1:=H) (ev_cmp (ev_idx (ev_var rfl) (ev_int 0) rfl) (ev_glob (by rw [G_const];rfl)) (cmp_eq_str _ _ _)) ?_)
  unfold many at h1
  by_cases h:w=sLine
  · rw [if_pos h] at h1
    rw [beq_iff_eq.mpr h]
    exact ss_ret (ev_call (G_hd _) (evs_cons (ev_var rfl) (evs_cons (ev_int 0) (evs_one (ev_idx (ev_var rfl) (ev_int 1) rfl)))) rfl (c_within n H h0 (Int.le_of_lt_add_one h1))) rfl
  · rw [if_neg h] at h1
    rw [beq_eq_false_iff_ne.mpr h]
    exact ss_ret (ev_call (G_hd _) (evs_cons (ev_var rfl) (evs_cons (ev_int 0) (evs_one (ev_sub (ev_idx (ev_var rfl) (ev_int 1) rfl) (ev_int 1))))) rfl (c_within n H h0 (Int.le_sub_one_of_lt h1))) rfl
theorem c_isroad (n:Nat) {w:Str} {l:Int} (H:Hp) (hw:w=sLine\/w=sRing) (h0:1<=l) (h1:l<=1000000000):(G (n+2)).call "is_road" [.tup [.str w,.int l]] H=.ok (.bool true) H:=by
  rw [G_call (d:=d_is_road) (by kernel_rfl)]
  have ei:cmp .isIn (.str w) (.tup [.str sLine,.str sRing]) H=some true:=by
    have q:cmp .isIn (.str w) (.tup [.str sLine,.str sRing]) H=some ((sLine==w)||((sRing==w)||false)):=rfl
    rw [q]
    rcases hw with rfl | rfl
    · rw [beq_self_eq_true];rfl
    · rw [beq_self_eq_true];simp
  exact runDef_is (ρ:=[("road",.tup [.str w,.int l])]) rfl (ss_ret (show evBo _ _ _ _ _=_ from ev_and (c:=true) (H1:=H) (ev_cmp (ev_idx (ev_var rfl) (ev_int 0) rfl) (ev_tup (evs_cons (ev_glob (by rw [G_const];rfl)) (evs_one (ev_glob (by rw [G_const];rfl))))) ei)
    (show evE _ _ _ _=_ from ev_call (G_hd _) (evs_cons (ev_idx (ev_var rfl) (ev_int 1) rfl) (evs_cons (ev_int 1) (evs_one (ev_glob (by rw [G_const];rfl))))) rfl (c_within n H h0 h1))) rfl)
noncomputable def DayH (H:Hp) (fs:List (String×V)) (L:Hp):Hp:=H++.ns fs::.inst "Day" H.length::L
theorem dayH_inst (H:Hp) (fs:List (String×V)) (L:Hp):(DayH H fs L)[H.length+1]?=some (.inst "Day" H.length):=by
  unfold DayH;rw [List.getElem?_append_right (Nat.le_add_right _ 1),Nat.add_sub_cancel_left];rfl
theorem dayH_ns (H:Hp) (fs:List (String×V)) (L:Hp):(DayH H fs L)[H.length]?=some (.ns fs):=by
  unfold DayH;rw [List.getElem?_append_right (Nat.le_refl _),Nat.sub_self];rfl
theorem dayH_set (H:Hp) (fs fs':List (String×V)) (L:Hp):(DayH H fs L).set H.length (.ns fs')=DayH H fs' L:=by
  unfold DayH;rw [List.set_append_right _ _ (Nat.le_refl _),Nat.sub_self];rfl
theorem dayH_ext (H:Hp) (fs:List (String×V)) (L:Hp):Ext H (DayH H fs L):=ext_app _ _
theorem fields_at {H:Hp} {n d:Nat} {c:String} {fs:List (String×V)} (h1:H[n]?=some (.inst c d)) (h2:H[d]?=some (.ns fs)):fieldsAt (.ref n) H=some (d,fs):=by
  show (H[n]?).bind _=_
  rw [h1]
  show (H[d]?).bind _=_
  rw [h2];rfl
theorem ss_setattr {T:RS->Prop} {Γ:Fn} {ρ:Rho} {o e:E} {a:String} {ss:List S} {H0 H:Hp} {v:V} {fs:List (String×V)} {L:Hp} (he:evE Γ ρ e H=.ok v (DayH H0 fs L)) (ho:evE Γ ρ o (DayH H0 fs L)=.ok (.ref (H0.length+1)) (DayH H0 fs L)) (hl:fs.length<=20)
    (k:T (exSs Γ ss ρ (DayH H0 (setL a v fs) L))):T (exSs Γ (.setattr o a e::ss) ρ H):=by
  have q:exSs Γ (.setattr o a e::ss) ρ H=exSs Γ ss ρ (DayH H0 (setL a v fs) L):=by
    rw [exSs_cons,exS_setattr,he,ofR_ok,ho,ofR_ok,setA,optR_of (fields_at (dayH_inst _ _ _) (dayH_ns _ _ _)),ifR_of hl,dayH_set];rfl
  rw [q];exact k
noncomputable def dayFs (w:Str) (l h s:Int) (k:Nat):List (String×V):=[("road",.tup [.str w,.int l]),("home",.int h),("start",.int s),("stops",.ref k)]
theorem eqV_of {a b:V} {H:Hp} {x y:PyData} {r:Bool} (ha:snap 8 H a=some x) (hb:snap 8 H b=some y) (h:PyData.eqv x y=r):eqV H a b=some r:=by
  unfold eqV eqData
  rw [ha,hb]
  show some (PyData.eqv x y)=_
  rw [h]
theorem eqv_int (a:Int):PyData.eqv (.int a) (.int a)=true:=beq_self_eq_true a
theorem attr_day {H:Hp} {n d:Nat} {c a:String} {fs:List (String×V)} {v:V} (h1:H[n]?=some (.inst c d)) (h2:H[d]?=some (.ns fs)) (h3:fs.lookup a=some v):attrV (.ref n) a H=.ok v H:=by
  rw [attrV,optR_of (fields_at h1 h2),optR_of h3]
noncomputable def NextT (H':Hp) (r:RS):Prop:=∃ ρ,r=.next ρ H'
structure DayOk (w:Str) (l h s:Int) (qs:List Q4):Prop where
  word:w=sLine\/w=sRing
  l0:1<=l
  l1:l<=1000000000
  h0:0<=h
  h1:h < many w l
  s0:0<=s
  s1:s<=1000000000000
  few:qs.length<=7
  stops:∀ q∈qs,StopOk w l q.1 q.2.1 q.2.2.1 q.2.2.2
theorem c_looked (n:Nat) (w:Str) (l:Int) (q:Q4) (H:Hp) (ok:StopOk w l q.1 q.2.1 q.2.2.1 q.2.2.2):(G (n+3)).call "looked_at" [.tup [.str w,.int l],tupQ q] H=.ok .none H:=by
  rw [G_call (d:=d_looked_at) (by kernel_rfl)]
  refine runDef_is (ρ:=[("road",.tup [.str w,.int l]),("stop",tupQ q)]) rfl ?_
  refine ss_unpack (v:=tupQ q) (vs:=[.int q.1,.int q.2.1,.int q.2.2.1,.int q.2.2.2]) (H1:=H) (G_hd _) (ev_var rfl) rfl rfl ?_
  refine ss_if (c:=false) (H1:=H) (ev_not (c:=true) (ev_call (G_hd _) (evs_cons (ev_var rfl) (evs_one (ev_var rfl))) rfl (c_isplace n H ok.p0 ok.p1)) rfl) ?_
  have hall:∀ t∈[q.2.1,q.2.2.1,q.2.2.2],Nat12 t:=fun t ht=>by
    simp only [List.mem_cons,List.not_mem_nil,or_false] at ht
    rcases ht with rfl | rfl | rfl
    · exact ⟨ok.o0,Int.le_trans ok.oc ok.c1⟩
    · exact ⟨Int.le_trans ok.o0 ok.oc,ok.c1⟩
    · exact ⟨ok.s0,ok.s1⟩
  obtain ⟨ρ',H',e,⟨rfl,g1,g2,_⟩⟩:=K.forL_all V.int (fun v ρ1 H2=>exSs (G (n+2)) (loopAt d_looked_at.body 2) (setL "time" v ρ1) H2) (sameO (.tup [.int q.2.1,.int q.2.2.1,.int q.2.2.2]) H)
    (fun _ b ρ H'=>H'=H/\ρ.lookup "closes"=some (.int q.2.2.1)/\ρ.lookup "opens"=some (.int q.2.1)/\∀ t∈b,Nat12 t) (fun _ _ _ _ _=>rfl) (by
      rintro a t b ρ H' ⟨rfl,g1,g2,g3⟩
      obtain ⟨t0,t1⟩:=g3 t (List.mem_cons_self ..)
      exact ss_if (c:=false) (H1:=H') (ev_not (c:=true) (ev_call (G_hd _) (evs_cons (ev_var (setL_self _ _ _)) (evs_cons (ev_int 0) (evs_one (ev_glob (by rw [G_const];rfl))))) rfl (c_within (n+1) H' t0 t1)) rfl) (Turns.here ⟨rfl,setL_other (by decide) g1,setL_other (by decide) g2,fun y hy=>g3 y (List.mem_cons_of_mem _ hy)⟩))
    [q.2.1,q.2.2.1,q.2.2.2] (setL "stay" (.int q.2.2.2) (setL "closes" (.int q.2.2.1) (setL "opens" (.int q.2.1) (setL "place" (.int q.1) [("road",.tup [.str w,.int l]),("stop",tupQ q)])))) H ⟨rfl,rfl,rfl,hall⟩
  refine ss_for (v:=.tup [.int q.2.1,.int q.2.2.1,.int q.2.2.2]) (H1:=H') (G_hd _) (ev_tup (evs_cons (ev_var rfl) (evs_cons (ev_var rfl) (evs_one (ev_var rfl))))) rfl e ?_
  rw [RS.bind_next]
  exact ss_if (c:=false) (H1:=H') (ev_cmp (ev_var g1) (ev_var g2) (by rw [cmp_lt,decide_eq_false (Int.not_lt.mpr ok.oc)])) rfl
theorem c_init (n:Nat) (w:Str) (l h s:Int) (qs:List Q4) (j:Nat) (H:Hp) (hj:H[j]?=some (.list (qs.map tupQ))) (ok:DayOk w l h s qs) :
    NextT (DayH H (dayFs w l h s (H.length+2)) [.list (qs.map tupQ)]) (exSs (G (n+4)) d_Day_init.body [("self",.ref (H.length+1)),("road",.tup [.str w,.int l]),("home",.int h),("start",.int s),("stops",.ref j)] (DayH H [] [])):=by
  have hj':=(dayH_ext H [] []).get hj
  have e4:=bi_len_ref hj'
  rw [List.length_map] at e4
  have h7:¬ (7:Int) < qs.length:=Int.not_lt.mpr (Int.ofNat_le.mpr ok.few)
  refine ss_if (c:=false) (H1:=DayH H [] []) (ev_not (c:=true) (ev_call (G_hd _) (evs_one (ev_var rfl)) rfl (c_isroad (n+2) _ ok.word ok.l0 ok.l1)) rfl) ?_
  refine ss_if (c:=false) (H1:=DayH H [] []) (ev_not (c:=true) (ev_call (G_hd _) (evs_cons (ev_var rfl) (evs_one (ev_var rfl))) rfl (c_isplace (n+2) _ ok.h0 ok.h1)) rfl) ?_
  refine ss_if (c:=false) (H1:=DayH H [] []) (ev_not (c:=true) (ev_call (G_hd _) (evs_cons (ev_var rfl) (evs_cons (ev_int 0) (evs_one (ev_glob (by rw [G_const];rfl))))) rfl (c_within (n+3) _ ok.s0 ok.s1)) rfl) ?_
  refine ss_if (c:=false) (H1:=DayH H [] []) (ev_cmp (ev_bi (G_hd _) (evs_one (ev_var rfl)) e4) (ev_glob (v:=.int 7) (by rw [G_const];rfl)) (by rw [cmp_gt,decide_eq_false h7])) ?_
  obtain ⟨ρ,H',e,⟨rfl,g1,g2,g3,g4,g5,_⟩⟩:=K.forL_all tupQ (fun v ρ1 H2=>exSs (G (n+4)) [.expr (.call "looked_at" [.var "road",.var "stop"])] (setL "stop" v ρ1) H2) (sameO (.ref j) (DayH H [] []))
    (fun _ b ρ H'=>H'=DayH H [] []/\ρ.lookup "self"=some (.ref (H.length+1))/\ρ.lookup "road"=some (.tup [.str w,.int l])/\ρ.lookup "home"=some (.int h)/\ρ.lookup "start"=some (.int s)/\ρ.lookup "stops"=some (.ref j)/\∀ q∈b,q∈qs)
    (fun _ _ ρ H' z=>by rw [z.1];exact sameO_ext hj' (Ext.refl _)) (by
      rintro a q b ρ H' ⟨e0,g1,g2,g3,g4,g5,g6⟩
      rw [e0]
      have el:=c_looked (n+1) w l q (DayH H [] []) (ok.stops q (g6 q (List.mem_cons_self ..)))
      refine ss_expr (ev_call (G_hd _) (evs_cons (ev_var (setL_other (by decide) g2)) (evs_one (ev_var (setL_self _ _ _)))) rfl el) (Turns.here ⟨rfl,?_,?_,?_,?_,?_,fun z hz=>g6 z (List.mem_cons_of_mem _ hz)⟩)
      all_goals exact setL_other (by decide) (by assumption))
    qs [("self",.ref (H.length+1)),("road",.tup [.str w,.int l]),("home",.int h),("start",.int s),("stops",.ref j)] (DayH H [] []) ⟨rfl,rfl,rfl,rfl,rfl,rfl,fun _ q=>q⟩
  refine ss_for (v:=.ref j) (H1:=DayH H [] []) (G_hd _) (ev_var rfl) (items_list hj') e ?_
  rw [RS.bind_next]
  refine ss_setattr (ev_var g2) (ev_var g1) (by simp [setL]) ?_
  refine ss_setattr (ev_var g3) (ev_var g1) (by simp [setL]) ?_
  refine ss_setattr (ev_var g4) (ev_var g1) (by simp [setL]) ?_
  refine ss_setattr (H0:=H) (v:=.ref (H.length+2)) (fs:=setL "start" (.int s) (setL "home" (.int h) (setL "road" (.tup [.str w,.int l]) []))) (L:=[.list (qs.map tupQ)]) ?_ (ev_var g1) (by simp [setL]) ?_
  · have e5:=bi_list_ref ((dayH_ext H (setL "start" (.int s) (setL "home" (.int h) (setL "road" (.tup [.str w,.int l]) []))) []).get hj)
    have q:=ev_bi (Γ:=G (n+4)) (G_hd _) (evs_one (ev_var g5)) e5
    rw [q]
    simp [DayH]
  · exact ⟨ρ,rfl⟩
theorem c_day (n:Nat) (w:Str) (l h s:Int) (qs:List Q4) (j:Nat) (H:Hp) (hj:H[j]?=some (.list (qs.map tupQ))) (ok:DayOk w l h s qs) :
    (G (n+5)).call "Day" [.tup [.str w,.int l],.int h,.int s,.ref j] H=.ok (.ref (H.length+1)) (DayH H (dayFs w l h s (H.length+2)) [.list (qs.map tupQ)]):=by
  rw [G_class (d:=d_Day_init) (by kernel_rfl) (by kernel_rfl)]
  have q:∀ c,runClass (G (n+4)) c d_Day_init [.tup [.str w,.int l],.int h,.int s,.ref j] H=(runDef (G (n+4)) d_Day_init (.ref (H.length+1)::[.tup [.str w,.int l],.int h,.int s,.ref j]) (H++[.ns [],.inst c H.length])).bind fun v H1=>match v with | .none=>.ok (.ref (H.length+1)) H1 | _=>.stuck:=fun _=>rfl
  obtain ⟨ρ,i⟩:=c_init n w l h s qs j H hj ok
  have e:setAll d_Day_init.params (.ref (H.length+1)::[.tup [.str w,.int l],.int h,.int s,.ref j]) []=some [("self",.ref (H.length+1)),("road",.tup [.str w,.int l]),("home",.int h),("start",.int s),("stops",.ref j)]:=rfl
  simp only [DayH] at i
  simp [q,runDef,e,i,DayH]
structure DayAt (w:Str) (l h s:Int) (qs:List Q4) (d dn k:Nat) (H:Hp):Prop where
  inst:H[d]?=some (.inst "Day" dn)
  ns:H[dn]?=some (.ns (dayFs w l h s k))
  list:H[k]?=some (.list (qs.map tupQ))
section
variable {w:Str} {l h s:Int} {qs:List Q4} {d dn k:Nat} {H H':Hp}
theorem DayAt.ext (x:DayAt w l h s qs d dn k H) (e:Ext H H'):DayAt w l h s qs d dn k H':=⟨e.get x.inst,e.get x.ns,e.get x.list⟩
theorem DayAt.road (x:DayAt w l h s qs d dn k H):attrV (.ref d) "road" H=.ok (.tup [.str w,.int l]) H:=attr_day x.inst x.ns rfl
theorem DayAt.home (x:DayAt w l h s qs d dn k H):attrV (.ref d) "home" H=.ok (.int h) H:=attr_day x.inst x.ns rfl
theorem DayAt.start (x:DayAt w l h s qs d dn k H):attrV (.ref d) "start" H=.ok (.int s) H:=attr_day x.inst x.ns rfl
theorem DayAt.stops (x:DayAt w l h s qs d dn k H):attrV (.ref d) "stops" H=.ok (.ref k) H:=attr_day x.inst x.ns rfl
end
noncomputable def apartI (w:Str) (l a b:Int):Int:=if w=sLine then ((a - b).natAbs:Int) else if l - (a - b).natAbs < ((a - b).natAbs:Int) then l - (a - b).natAbs else (a - b).natAbs
theorem c_apart (n:Nat) (w:Str) (l a b:Int) (H:Hp):(G (n+1)).call "apart" [.tup [.str w,.int l],.int a,.int b] H=.ok (.int (apartI w l a b)) H:=by
  rw [G_call (d:=d_apart) (by kernel_rfl)]
  refine runDef_is (ρ:=[("road",.tup [.str w,.int l]),("one",.int a),("other",.int b)]) rfl (ss_asg (v:=.int (a - b).natAbs) (H1:=H) (ev_bi (G_hd _) (evs_one (ev_sub (ev_var rfl) (ev_var rfl))) rfl) (ss_if (c:=w==sLine) (H1:=H) (ev_cmp (ev_idx (ev_var rfl) (ev_int 0) rfl) (ev_glob (by rw [G_const];rfl)) (cmp_eq_str _ _ _)) ?_))
  unfold apartI
  by_cases h:w=sLine
  · rw [beq_iff_eq.mpr h,if_pos h]
    exact ss_ret (ev_var rfl) rfl
  · rw [beq_eq_false_iff_ne.mpr h,if_neg h]
    exact ss_ret (ev_min (G_hd _) (ev_var rfl) (ev_sub (ev_idx (ev_var rfl) (ev_int 1) rfl) (ev_var rfl))) rfl
noncomputable def begI (w:Str) (l p t:Int) (q:Q4):Int:=if t+apartI w l p q.1 < q.2.1 then q.2.1 else t+apartI w l p q.1
noncomputable def leavesI (w:Str) (l p t:Int) (q:Q4):Option Int:=if q.2.2.1 < begI w l p t q then Option.none else some (begI w l p t q+q.2.2.2)
noncomputable def optI:Option Int->V
  | Option.none=>.none
  | some t=>.int t
theorem tq_0 (q:Q4) (H:Hp):index (tupQ q) (.int 0) H=.ok (.int q.1) H:=rfl
theorem is_none (v:V) (H:Hp):cmp .is v .none H=some (isNoneV v):=rfl
theorem isnt_none (v:V) (H:Hp):cmp .isNot v .none H=some (!isNoneV v):=rfl
theorem idx_at {xs:List V} {i:Nat} {k:Int} {v:V} {H:Hp} (h:H[i]?=some (.list xs)) (h0:0<=k) (hv:xs[k.toNat]?=some v):index (.ref i) (.int k) H=.ok v H:=by
  have e:k=(k.toNat:Int):=(Int.toNat_of_nonneg h0).symm
  rw [e];exact idx_ref h hv
theorem stop_at {qs:List Q4} {k:Nat} {z:Int} {q:Q4} {H:Hp} (h:H[k]?=some (.list (qs.map tupQ))) (h0:0<=z) (hq:qs[z.toNat]?=some q):index (.ref k) (.int z) H=.ok (tupQ q) H :=
  idx_at h h0 (by rw [List.getElem?_map,hq];rfl)
noncomputable def servedV (w:Str) (l p t:Int) (q:Q4):V:=if q.2.2.1 < begI w l p t q then .none else .tup [.int (begI w l p t q),.int (begI w l p t q+q.2.2.2)]
theorem c_served (n:Nat) (w:Str) (l p t:Int) (q:Q4) (H:Hp):(G (n+1)).call "served" [tupQ q,.int (t+apartI w l p q.1)] H=.ok (servedV w l p t q) H:=by
  rw [G_call (d:=d_served) (by kernel_rfl)]
  refine runDef_is (ρ:=[("stop",tupQ q),("comes",.int (t+apartI w l p q.1))]) rfl (ss_asg (v:=.int (begI w l p t q)) (H1:=H) (ev_max (G_hd _) (ev_var rfl) (ev_idx (ev_var rfl) (ev_int 1) rfl)) (ss_if (ev_cmp (ev_var rfl) (ev_idx (ev_var rfl) (ev_int 2) rfl) (cmp_gt _ _ _)) ?_))
  unfold servedV
  by_cases h:q.2.2.1 < begI w l p t q
  · rw [decide_eq_true h,if_pos h];exact ss_ret ev_none rfl
  · rw [decide_eq_false h,if_neg h];exact ss_ret (ev_tup (evs_cons (ev_var rfl) (evs_one (ev_add (ev_var rfl) (ev_idx (ev_var rfl) (ev_int 3) rfl))))) rfl
section
variable {w:Str} {l h s:Int} {qs:List Q4} {d dn k:Nat} {H:Hp}
theorem c_left (n:Nat) (x:DayAt w l h s qs d dn k H) {z:Int} {q:Q4} (h0:0<=z) (hq:qs[z.toNat]?=some q) (p t:Int):(G (n+2)).call "left_at" [.ref d,.int p,.int t,.int z] H=.ok (optI (leavesI w l p t q)) H:=by
  rw [G_call (d:=d_left_at) (by kernel_rfl)]
  have e1:=x.stops
  have e2:=stop_at x.list h0 hq
  have e3:=x.road
  have e4:=c_apart n w l p q.1 H
  have e5:=c_served n w l p t q H
  have e6:bin .add (.int t) (.int (apartI w l p q.1)) H=.ok (.int (t+apartI w l p q.1)) H:=rfl
  refine runDef_P (ρ:=[("day",.ref d),("place",.int p),("time",.int t),("number",.int z)]) (P:=fun r=>r=.ok (optI (leavesI w l p t q)) H) rfl ?_
  have g1:List.lookup "day" ([("day",.ref d),("place",.int p),("time",.int t),("number",.int z)]:Rho)=some (.ref d):=rfl
  have g2:List.lookup "place" ([("day",.ref d),("place",.int p),("time",.int t),("number",.int z)]:Rho)=some (.int p):=rfl
  have g3:List.lookup "time" ([("day",.ref d),("place",.int p),("time",.int t),("number",.int z)]:Rho)=some (.int t):=rfl
  have g4:List.lookup "number" ([("day",.ref d),("place",.int p),("time",.int t),("number",.int z)]:Rho)=some (.int z):=rfl
  refine ss_asg (by repeat (first | with_reducible (first | assumption | exact setL_self _ _ _ | refine setL_other (by decide) ?_ | exact ev_int _ | exact ev_none | exact ev_bool _ | exact evs_nil | apply evs_cons | apply ev_var | apply ev_tup | apply ev_attr | apply ev_idx | apply ev_not | apply ev_cmp | apply ev_bin2 | apply ev_isinst | apply ev_call (G_hd _) ?_ rfl | apply ev_bi (G_hd _)) | rfl)) ?_
  refine ss_asg (by repeat (first | with_reducible (first | assumption | exact setL_self _ _ _ | refine setL_other (by decide) ?_ | exact ev_int _ | exact ev_none | exact ev_bool _ | exact evs_nil | apply evs_cons | apply ev_var | apply ev_tup | apply ev_attr | apply ev_idx | apply ev_not | apply ev_cmp | apply ev_bin2 | apply ev_isinst | apply ev_call (G_hd _) ?_ rfl | apply ev_bi (G_hd _)) | rfl)) ?_
  refine ss_if (ev_cmp (ev_var (setL_self _ _ _)) ev_none (is_none _ _)) ?_
  unfold servedV leavesI
  by_cases hb:q.2.2.1 < begI w l p t q
  · rw [if_pos hb,if_pos hb];exact ss_ret ev_none rfl
  · rw [if_neg hb,if_neg hb];exact ss_ret (ev_idx (ev_var (setL_self _ _ _)) (ev_int _) rfl) rfl
end
noncomputable def behindI (w:Str) (l:Int) (qs:List Q4):List Int->Int->Int->Option (Int×Int)
  | [],p,t=>some (p,t)
  | z::r,p,t=>(qs[z.toNat]?).bind fun q=>(leavesI w l p t q).bind fun t'=>behindI w l qs r q.1 t'
theorem behind_cons (w:Str) (l:Int) (qs:List Q4) (z:Int) (r:List Int) (p t:Int):behindI w l qs (z::r) p t=(qs[z.toNat]?).bind fun q=>(leavesI w l p t q).bind fun t'=>behindI w l qs r q.1 t':=rfl
theorem behind_app (w:Str) (l:Int) (qs:List Q4) (b:List Int):∀ (a:List Int) (p t:Int),behindI w l qs (a++b) p t=(behindI w l qs a p t).bind fun x=>behindI w l qs b x.1 x.2
  | [],_,_=>rfl
  | z::a,p,t=>by
    have ih:=behind_app w l qs b a
    show behindI w l qs (z::(a++b)) p t=_
    rw [behind_cons,behind_cons]
    cases qs[z.toNat]? with
    | none=>rfl
    | some q =>
      rw [Option.bind_some,Option.bind_some]
      cases leavesI w l p t q with
      | none=>rfl
      | some t'=>exact ih q.1 t'
noncomputable def placeV:Option (Int×Int)->V
  | Option.none=>.none
  | some x=>.tup [.int x.1,.int x.2]
noncomputable def Kept (H H':Hp):Prop:=∀ (i:Nat) (o:O),H[i]?=some o->H'[i]?=some o
theorem Kept.refl (H:Hp):Kept H H:=fun _ _ q=>q
theorem Kept.trans {H H1 H2:Hp} (a:Kept H H1) (b:Kept H1 H2):Kept H H2:=fun i o q=>b i o (a i o q)
theorem Kept.app (H L:Hp):Kept H (H++L):=fun _ _ q=>(ext_app H L).get q
theorem Kept.len {H H':Hp} (a:Kept H H'):H.length<=H'.length:=Nat.not_lt.mp fun q=>by
  have:=a _ _ (List.getElem?_eq_getElem q)
  rw [List.getElem?_eq_none (Nat.le_refl _)] at this;cases this
theorem Kept.set {H H':Hp} (a:Kept H H') {i:Nat} (hi:H.length<=i) (o:O):Kept H (H'.set i o):=fun j o' q=>by
  have:=(List.getElem?_eq_some_iff.mp q).1
  rw [List.getElem?_set_ne (Nat.ne_of_gt (Nat.lt_of_lt_of_le this hi))];exact a j o' q
theorem DayAt.kept {w:Str} {l h s:Int} {qs:List Q4} {d dn k:Nat} {H H':Hp} (x:DayAt w l h s qs d dn k H) (e:Kept H H'):DayAt w l h s qs d dn k H':=⟨e _ _ x.inst,e _ _ x.ns,e _ _ x.list⟩
theorem same_list {H H':Hp} {k:Nat} {xs:List V} (h:H[k]?=some (.list xs)) (e:H'[k]?=some (.list xs)):sameO (.ref k) H H'=true:=same_of h e (decide_eq_true rfl)
theorem some_of_lt {qs:List Q4} {z:Int} (h0:0<=z) (h1:z < qs.length):∃ q,qs[z.toNat]?=some q:=⟨_,List.getElem?_eq_getElem ((Int.toNat_lt h0).mpr h1)⟩
structure Ord (m:Nat) (os:List Int):Prop where
  low:∀ z∈os,0<=z
  high:∀ z∈os,z < m
  nodup:os.Nodup
  few:os.length<=100
theorem idx_last {ys xs:List V} {i:Nat} {v:V} {H:Hp} (h:H[i]?=some (.list ys)) (e:ys=xs++[v]):index (.ref i) (.int (ys.length - 1)) H=.ok v H:=by
  have hl:((ys.length:Int) - 1)=(xs.length:Nat):=by rw [e,List.length_append,List.length_singleton];omega
  rw [hl]
  exact idx_ref h (by rw [e,List.getElem?_append_right (Nat.le_refl _),Nat.sub_self];rfl)
theorem len_snoc {α β:Type} (f:α->β) (xs:List α) (x:α):((((xs++[x]).map f).length:Int)==0)=false:=beq_eq_false_iff_ne.mpr (by rw [List.length_map,List.length_append,List.length_singleton];omega)
theorem keysAt_of {ks:List Int} {k:Nat} {H:Hp} (h:H[k]?=some (.keys ks)):keysAt (.ref k) H=some ks:=at_of (f:=keysO) h
theorem in_keys {ks:List Int} {k:Nat} {z:Int} {H:Hp} (h:H[k]?=some (.keys ks)):cmp .isIn (.int z) (.ref k) H=some (ks.contains z):=by
  have q:cmp .isIn (.int z) (.ref k) H=(match listAt (.ref k) H with
    | some vs=>inTup H (.int z) vs
    | Option.none=>inKeys H (.int z) (.ref k)):=rfl
  have q2:listAt (.ref k) H=Option.none:=at_of (f:=listO) h
  rw [q,q2]
  dsimp only
  unfold inKeys
  rw [keysAt_of h];rfl
theorem setK_keys {ks:List Int} {k:Nat} {z:Int} {v:V} {H:Hp} (h:H[k]?=some (.keys ks)) (hl:ks.length < line) (hz:ks.contains z=false):setK (.ref k) (.int z) v H=.ok () (H.set k (.keys (ks++[z]))):=by
  rw [setK,optR_of (show refAt (.ref k)=some k from rfl),keysAt_of h]
  dsimp only
  rw [optR_of (show intAt (.int z)=some z from rfl),ifR_of hl,hz];rfl
section
variable {T:RS->Prop} {Γ:Fn} {ρ:Rho} {e t:E} {a b ss:List S} {H H1:Hp} {c:String}
theorem exH_here {T:String} {v:V} {r:List (String×E)} (h:excIs c T=true) (he:evE Γ ρ e H=.ok v H1):exH Γ c ((T,e)::r) ρ H=.ret v H1:=by rw [exH_cons,if_pos h,he]
theorem exH_next {T:String} {r:List (String×E)} (h:excIs c T=false):exH Γ c ((T,e)::r) ρ H=exH Γ c r ρ H:=by rw [exH_cons,h,if_neg Bool.false_ne_true]
theorem ss_expr_raise (h:evE Γ ρ e H=.raise c H1) (k:T (.raise c ρ H1)):T (exSs Γ (.expr e::ss) ρ H):=by
  have q:exSs Γ (.expr e::ss) ρ H=.raise c ρ H1:=by rw [exSs_cons,exS_expr,h];rfl
  rw [q];exact k
theorem ss_if_raise (h:evE Γ ρ t H=.raise c H1) (k:T (.raise c ρ H1)):T (exSs Γ (.iff t a b::ss) ρ H):=by
  have q:exSs Γ (.iff t a b::ss) ρ H=.raise c ρ H1:=by rw [exSs_cons,exS_iff,evT,h];rfl
  rw [q];exact k
end
section
variable {w:Str} {l h s:Int} {qs:List Q4} {d dn k:Nat} {H:Hp}
noncomputable def DI (m d:Nat) (H:Hp) (os:List Int) (a b:List Int) (ρ:Rho) (H':Hp):Prop :=
  H'=H++[.keys a]/\ρ.lookup "day"=some (.ref d)/\ρ.lookup "seen"=some (.ref H.length)/\a++b=os/\a.Nodup/\∀ z∈a,0<=z/\z < m
theorem need_turn (n:Nat) (x:DayAt w l h s qs d dn k H) {os:List Int} (few:os.length<=100) (a:List Int) (z:Int) (b:List Int) (ρ:Rho) (H':Hp) (i:DI qs.length d H os a (z::b) ρ H') :
    Turns (DI qs.length d H os (a++[z]) b) (exSs (G (n+1)) (loopAt d_need_order.body 1) (setL "number" (.int z) ρ) H')\/(¬ Ord qs.length os/\∃ ρ' H',exSs (G (n+1)) (loopAt d_need_order.body 1) (setL "number" (.int z) ρ) (H++[.keys a])=.raise "BadOrder" ρ' H'/\Kept H H'):=by
  obtain ⟨rfl,g1,g2,g3,nd,rg⟩:=i
  have y:=x.ext (ext_app H [.keys a])
  have hz:z∈os:=by rw [<- g3];exact List.mem_append.mpr (.inr (List.mem_cons_self ..))
  have e1:=y.stops
  have e2:=bi_len_ref y.list
  have e4:bin .sub (.int (qs.map tupQ).length) (.int 1) (H++[.keys a])=.ok (.int ((qs.map tupQ).length - 1)) (H++[.keys a]):=rfl
  have e5:=in_keys (z:=z) (len_app1 H (.keys a))
  have bad:∀ t,evE (G (n+1)) (setL "number" (.int z) ρ) t (H++[.keys a])=.ok (.bool true) (H++[.keys a])->¬ Ord qs.length os->¬ Ord qs.length os/\∃ ρ' H',exSs (G (n+1)) [.iff t [.raise "BadOrder"] [],.setidx (.var "seen") (.var "number") (.bool true)] (setL "number" (.int z) ρ) (H++[.keys a])=.raise "BadOrder" ρ' H'/\Kept H H':=fun t ht no =>
    ⟨no,_,_,show Is _ _ from ss_if (c:=true) ht (ss_raise (G_hd _) rfl),Kept.app _ _⟩
  by_cases wi:0<=z/\z < qs.length
  · have e3:=c_within n (H++[.keys a]) wi.1 (show z<=((qs.map tupQ).length:Int) - 1 by rw [List.length_map];exact Int.le_sub_one_of_lt wi.2)
    cases hc:a.contains z with
    | true =>
      rw [hc] at e5
      refine .inr (bad _ (show evBo _ _ _ _ _=_ from ev_or (c:=false) (H1:=H++[.keys a]) (by repeat (first | with_reducible (first | assumption | exact setL_self _ _ _ | refine setL_other (by decide) ?_ | exact ev_int _ | exact ev_none | exact ev_bool _ | exact evs_nil | apply evs_cons | apply ev_var | apply ev_tup | apply ev_attr | apply ev_idx | apply ev_not | apply ev_cmp | apply ev_bin2 | apply ev_isinst | apply ev_call (G_hd _) ?_ rfl | apply ev_bi (G_hd _)) | rfl)) (show evE _ _ _ _=_ from (by repeat (first | with_reducible (first | assumption | exact setL_self _ _ _ | refine setL_other (by decide) ?_ | exact ev_int _ | exact ev_none | exact ev_bool _ | exact evs_nil | apply evs_cons | apply ev_var | apply ev_tup | apply ev_attr | apply ev_idx | apply ev_not | apply ev_cmp | apply ev_bin2 | apply ev_isinst | apply ev_call (G_hd _) ?_ rfl | apply ev_bi (G_hd _)) | rfl)))) fun ok=>?_)
      have:=ok.nodup
      rw [<- g3] at this
      exact (List.nodup_append.mp this).2.2 z (List.contains_iff_mem.mp hc) z (List.mem_cons_self ..) rfl
    | false =>
      rw [hc] at e5
      have la:a.length < line:=by
        rw [<- g3,List.length_append] at few
        unfold line;omega
      have e6:=setK_keys (v:=.bool true) (len_app1 H (.keys a)) la hc
      rw [set_app1] at e6
      refine .inl (ss_if (c:=false) (H1:=H++[.keys a]) (show evBo _ _ _ _ _=_ from ev_or (c:=false) (H1:=H++[.keys a]) (by repeat (first | with_reducible (first | assumption | exact setL_self _ _ _ | refine setL_other (by decide) ?_ | exact ev_int _ | exact ev_none | exact ev_bool _ | exact evs_nil | apply evs_cons | apply ev_var | apply ev_tup | apply ev_attr | apply ev_idx | apply ev_not | apply ev_cmp | apply ev_bin2 | apply ev_isinst | apply ev_call (G_hd _) ?_ rfl | apply ev_bi (G_hd _)) | rfl)) (show evE _ _ _ _=_ from (by repeat (first | with_reducible (first | assumption | exact setL_self _ _ _ | refine setL_other (by decide) ?_ | exact ev_int _ | exact ev_none | exact ev_bool _ | exact evs_nil | apply evs_cons | apply ev_var | apply ev_tup | apply ev_attr | apply ev_idx | apply ev_not | apply ev_cmp | apply ev_bin2 | apply ev_isinst | apply ev_call (G_hd _) ?_ rfl | apply ev_bi (G_hd _)) | rfl)))) ?_)
      refine ss_setidx (by repeat (first | with_reducible (first | assumption | exact setL_self _ _ _ | refine setL_other (by decide) ?_ | exact ev_int _ | exact ev_none | exact ev_bool _ | exact evs_nil | apply evs_cons | apply ev_var | apply ev_tup | apply ev_attr | apply ev_idx | apply ev_not | apply ev_cmp | apply ev_bin2 | apply ev_isinst | apply ev_call (G_hd _) ?_ rfl | apply ev_bi (G_hd _)) | rfl)) (by repeat (first | with_reducible (first | assumption | exact setL_self _ _ _ | refine setL_other (by decide) ?_ | exact ev_int _ | exact ev_none | exact ev_bool _ | exact evs_nil | apply evs_cons | apply ev_var | apply ev_tup | apply ev_attr | apply ev_idx | apply ev_not | apply ev_cmp | apply ev_bin2 | apply ev_isinst | apply ev_call (G_hd _) ?_ rfl | apply ev_bi (G_hd _)) | rfl)) (by repeat (first | with_reducible (first | assumption | exact setL_self _ _ _ | refine setL_other (by decide) ?_ | exact ev_int _ | exact ev_none | exact ev_bool _ | exact evs_nil | apply evs_cons | apply ev_var | apply ev_tup | apply ev_attr | apply ev_idx | apply ev_not | apply ev_cmp | apply ev_bin2 | apply ev_isinst | apply ev_call (G_hd _) ?_ rfl | apply ev_bi (G_hd _)) | rfl)) e6 (Turns.here ⟨rfl,(by repeat (first | assumption | with_reducible first | exact setL_self _ _ _ | refine setL_other (by decide) ?_)),(by repeat (first | assumption | with_reducible first | exact setL_self _ _ _ | refine setL_other (by decide) ?_)),by rw [<- g3,List.append_assoc];rfl,?_,fun u hu=>?_⟩)
      · refine List.nodup_append.mpr ⟨nd,List.nodup_cons.mpr ⟨List.not_mem_nil,List.nodup_nil⟩,fun u hu v hv q=>?_⟩
        rw [List.mem_singleton.mp hv] at q
        rw [q] at hu
        rw [List.contains_iff_mem.mpr hu] at hc;cases hc
      · rcases List.mem_append.mp hu with hu | hu
        · exact rg u hu
        · rw [List.mem_singleton.mp hu];exact wi
  · have e3:=c_withinB n z 0 ((qs.map tupQ).length - 1) (H++[.keys a])
    rw [show (decide (0<=z)&&decide (z<=((qs.map tupQ).length:Int) - 1))=false from Bool.eq_false_iff.mpr fun q=>by
      rw [Bool.and_eq_true,decide_eq_true_eq,decide_eq_true_eq,List.length_map] at q
      exact wi ⟨q.1,Int.lt_of_le_sub_one q.2⟩] at e3
    exact .inr (bad _ (show evBo _ _ _ _ _=_ from ev_or (c:=true) (H1:=H++[.keys a]) (by repeat (first | with_reducible (first | assumption | exact setL_self _ _ _ | refine setL_other (by decide) ?_ | exact ev_int _ | exact ev_none | exact ev_bool _ | exact evs_nil | apply evs_cons | apply ev_var | apply ev_tup | apply ev_attr | apply ev_idx | apply ev_not | apply ev_cmp | apply ev_bin2 | apply ev_isinst | apply ev_call (G_hd _) ?_ rfl | apply ev_bi (G_hd _)) | rfl)) rfl) fun ok=>wi ⟨ok.low z hz,ok.high z hz⟩)
noncomputable def NeedAns (m:Nat) (os:List Int) (H:Hp) (r:R V):Prop:=(Ord m os/\r=.ok .none (H++[.keys os]))\/(¬ Ord m os/\∃ H',r=.raise "BadOrder" H'/\Kept H H')
theorem c_need (n:Nat) (x:DayAt w l h s qs d dn k H) {o:Nat} {os:List Int} (ho:H[o]?=some (.list (os.map .int))) (few:os.length<=100) :
    NeedAns qs.length os H ((G (n+2)).call "need_order" [.ref d,.ref o] H):=by
  rw [G_call (d:=d_need_order) (by kernel_rfl)]
  refine runDef_P (ρ:=[("day",.ref d),("order",.ref o)]) (P:=NeedAns qs.length os H) rfl ?_
  refine ss_asg (v:=.ref H.length) (H1:=H++[.keys []]) rfl ?_
  have ho':(H++[O.keys []])[o]?=some (.list (os.map .int)):=(ext_app _ _).get ho
  rcases forL_or V.int (fun v ρ1 H2=>exSs (G (n+1)) (loopAt d_need_order.body 1) (setL "number" v ρ1) H2) (sameO (.ref o) (H++[.keys []])) (DI qs.length d H os) (fun r=>¬ Ord qs.length os/\∃ ρ' H',r=.raise "BadOrder" ρ' H'/\Kept H H')
    (fun r ⟨_,_,_,q,_⟩=>by rw [q];exact ⟨rfl,fun _=>rfl⟩) (fun a b ρ H' z=>by rw [z.1];exact same_list ho' ((ext_app _ _).get ho)) (fun a z b ρ H' i=>by
      have t:=need_turn n x few a z b ρ H' i
      rw [<- i.1] at t;exact t) os [] (setL "seen" (.ref H.length) [("day",.ref d),("order",.ref o)]) (H++[.keys []]) ⟨rfl,rfl,rfl,rfl,List.nodup_nil,fun _ q=>nomatch q⟩ with ⟨ρ',H',e,rfl,_,_,_,nd,rg⟩ | ⟨no,ρ',H',e,kp⟩
  · exact ss_for (v:=.ref o) (G_hd _) rfl (items_list ho') e (.inl ⟨⟨fun z hz=>(rg z hz).1,fun z hz=>(rg z hz).2,nd,few⟩,rfl⟩)
  · exact ss_for (v:=.ref o) (G_hd _) rfl (items_list ho') e (.inr ⟨no,H',rfl,kp⟩)
end
theorem eqvAll_self:∀ xs:List PyData,(∀ x∈xs,PyData.eqv x x=true)->PyData.eqvAll xs xs=true
  | [],_=>rfl
  | x::xs,h=>by
    show (PyData.eqv x x&&PyData.eqvAll xs xs)=true
    rw [h x (List.mem_cons_self ..),eqvAll_self xs fun y hy=>h y (List.mem_cons_of_mem _ hy)];rfl
noncomputable def Pl (n:Nat) (v:V):Prop:=∃ d,(∀ H,snap n H v=some d)/\PyData.eqv d d=true
theorem pl_int (n:Nat) (i:Int):Pl n (.int i):=⟨.int i,fun _=>by cases n <;> rfl,beq_self_eq_true i⟩
theorem pl_str (n:Nat) (x:Str):Pl n (.str x):=⟨.str x,fun _=>by cases n <;> rfl,beq_self_eq_true x⟩
theorem pl_none (n:Nat):Pl n .none:=⟨.none,fun _=>by cases n <;> rfl,rfl⟩
theorem pl_all {n:Nat}:∀ vs:List V,(∀ v∈vs,Pl n v)->∃ ds,(∀ H,vs.mapM (snap n H)=some ds)/\PyData.eqvAll ds ds=true
  | [],_=>⟨[],fun _=>rfl,rfl⟩
  | v::vs,h=>by
    obtain ⟨ds,e,q⟩:=pl_all vs fun u hu=>h u (List.mem_cons_of_mem _ hu)
    obtain ⟨d,e1,q1⟩:=h v (List.mem_cons_self ..)
    refine ⟨d::ds,fun H=>by rw [List.mapM_cons,e1,e];rfl,?_⟩
    show (PyData.eqv d d&&PyData.eqvAll ds ds)=true
    rw [q1,q];rfl
theorem pl_tup {n:Nat} {vs:List V} (h:∀ v∈vs,Pl n v):Pl (n+1) (.tup vs):=by
  obtain ⟨ds,e,q⟩:=pl_all vs h
  refine ⟨.tuple ds,fun H=>?_,q⟩
  show (vs.mapM (snap n H)).map PyData.tuple=_
  rw [e];rfl
theorem pl_ints (n:Nat) (ds:List Int):∀ v∈ds.map V.int,Pl n v:=fun v hv=>by
  obtain ⟨i,_,rfl⟩:=List.mem_map.mp hv
  exact pl_int n i
theorem pl_quad (n:Nat) (q:Q4):Pl (n+1) (tupQ q):=pl_tup (pl_ints n [q.1,q.2.1,q.2.2.1,q.2.2.2])
theorem snap_list {xs:List V} {k:Nat} {H:Hp} {ds:List PyData} (h:H[k]?=some (.list xs)) (e:xs.mapM (snap 7 H)=some ds):snap 8 H (.ref k)=some (.list ds):=by
  have q:snap 8 H (.ref k)=(listAt (.ref k) H).bind fun vs=>(vs.mapM (snap 7 H)).map .list:=rfl
  rw [q,listAt_of h,Option.bind_some,e];rfl
theorem eqV_list {xs:List V} {i j:Nat} {H:Hp} (hp:∀ v∈xs,Pl 7 v) (hi:H[i]?=some (.list xs)) (hj:H[j]?=some (.list xs)):eqV H (.ref i) (.ref j)=some true:=by
  obtain ⟨ds,e,q⟩:=pl_all xs hp
  exact eqV_of (snap_list hi (e H)) (snap_list hj (e H)) q
noncomputable abbrev AP:=Nat->Hp->V->Prop
structure Good (A:AP):Prop where
  stay:∀ {n:Nat} {H H':Hp} {v:V},A n H v->(∀ i o,n<=i->H[i]?=some o->H'[i]?=some o)->A n H' v
  same:∀ {n m:Nat} {H:Hp} {v u:V},A n H v->A m H u->eqT H v u=some true
  chg:∀ {n:Nat} {H:Hp} {v:V},A n H v->∀ f,∃ H',(G (f+1)).call "_law_changed" [v] H=.ok .none H'/\∀ i,i < n->H'[i]?=H[i]?
section
variable {n:Nat} {v:V} {H H1 H':Hp} {kd:String}
theorem chg_test1 (hk:kindV v H=some kd):evE (G n) [("_law_found",v)] (.or [(.isinst (.var "_law_found") "list"),(.isinst (.var "_law_found") "dict")]) H=.ok (.bool (kd=="list"||kd=="dict")) H:=by
  have i1:isinst v "list" H=some (kd=="list"):=by
    show (kindV v H).map _=_
    rw [hk];rfl
  have i2:isinst v "dict" H=some (kd=="dict"):=by
    show (kindV v H).map _=_
    rw [hk];rfl
  refine (show evBo _ _ false _ _=_ from ev_or (ev_isinst (ev_var rfl) i1) ?_)
  cases kd=="list" with
  | true=>rfl
  | false=>exact ev_isinst (Γ:=G n) (ρ:=[("_law_found",v)]) (ev_var (x:="_law_found") rfl) i2
noncomputable abbrev test2:E:=.and [(.isinst (.var "_law_found") "tuple"),(.cmp (.call "len" [(.var "_law_found")]) .gt (.int 1)),(.isinst (.idx (.var "_law_found") (.int 1)) "list")]
theorem chg_of (hk:kindV v H=some kd) (e1:(kd=="list"||kd=="dict")=true->evE (G n) [("_law_found",v)] (.meth (.var "_law_found") "clear" []) H=.ok .none H1) (e2:(kd=="list"||kd=="dict")=false->H1=H) {b:Bool}
    (ht:evE (G n) [("_law_found",v)] test2 H1=.ok (.bool b) H1) (e3:b=true->evE (G n) [("_law_found",v)] (.meth (.idx (.var "_law_found") (.int 1)) "append" [(.int 0)]) H1=.ok .none H') (e4:b=false->H'=H1):(G (n+1)).call "_law_changed" [v] H=.ok .none H':=by
  rw [G_call (d:=d__law_changed) (by kernel_rfl)]
  refine runDef_is (ρ:=[("_law_found",v)]) rfl (ss_if (chg_test1 hk) ?_)
  have rest:Fin (fun r=>r=.ok .none H') (exSs (G n) [.iff test2 [.expr (.meth (.idx (.var "_law_found") (.int 1)) "append" [(.int 0)])] []] [("_law_found",v)] H1):=by
    refine ss_if ht ?_
    cases b with
    | true=>exact ss_expr (e3 rfl) rfl
    | false=>rw [e4 rfl];exact rfl
  cases hb:(kd=="list"||kd=="dict") with
  | true=>exact ss_expr (e1 hb) rest
  | false=>rw [e2 hb] at rest;exact rest
theorem test2_no (hk:kindV v H=some kd) (h:(kd=="tuple")=false):evE (G n) [("_law_found",v)] test2 H=.ok (.bool false) H :=
  show evBo _ _ true _ _=_ from ev_and (c:=false) (ev_isinst (ev_var rfl) (by show (kindV v H).map _=_;rw [hk,<- h];rfl)) rfl
theorem test2_tup {vs:List V} {b:Bool} (hb:(1 < vs.length->∃ u k,vs[1]?=some u/\kindV u H=some k/\(k=="list")=b)/\(¬ 1 < vs.length->b=false)):evE (G n) [("_law_found",.tup vs)] test2 H=.ok (.bool b) H:=by
  refine (show evBo _ _ true _ _=_ from ev_and (c:=true) (H1:=H) (ev_isinst (ev_var rfl) rfl) (ev_and (c:=decide ((1:Int) < vs.length)) (H1:=H) (ev_cmp (ev_bi (v:=.int vs.length) (G_hd _) (evs_one (ev_var rfl)) rfl) (ev_int 1) (cmp_gt _ _ _)) ?_))
  by_cases hl:1 < vs.length
  · obtain ⟨u,k,h1,h2,h3⟩:=hb.1 hl
    have hl':(1:Int) < vs.length:=Int.ofNat_lt.mpr hl
    rw [decide_eq_true hl',if_pos rfl]
    exact ev_isinst (Γ:=G n) (ρ:=[("_law_found",.tup vs)]) (ev_idx (u:=.tup vs) (ev_var (x:="_law_found") rfl) (ev_int 1) (item_at (i:=1) h1)) (by show (kindV u H).map _=_;rw [h2,<- h3];rfl)
  · have hl':¬ (1:Int) < vs.length:=fun q=>hl (Int.ofNat_lt.mp q)
    rw [decide_eq_false hl',hb.2 hl];rfl
end
noncomputable def oneA (u:V):AP:=fun _ _ v=>v=u
theorem good_one {u:V} (hp:Pl 8 u) (ht:∀ H,tabAt u H=Option.none) (hc:∀ f H,(G (f+1)).call "_law_changed" [u] H=.ok .none H):Good (oneA u):=by
  refine ⟨fun a _=>a,fun {n m H v w} a b=>?_,fun {n H v} a f=>⟨H,by rw [show v=u from a];exact hc f H,fun _ _=>rfl⟩⟩
  rw [show v=u from a,show w=u from b]
  unfold eqT
  rw [ht]
  obtain ⟨d,e,q⟩:=hp
  exact eqV_of (e H) (e H) q
theorem good_none:Good (oneA .none):=good_one (pl_none 8) (fun _=>rfl) fun f H=>chg_of (kd:="NoneType") (b:=false) rfl (fun q=>absurd q (by decide)) (fun _=>rfl) (test2_no rfl (by decide)) (fun q=>absurd q (by decide)) fun _=>rfl
theorem good_int (i:Int):Good (oneA (.int i)):=good_one (pl_int 8 i) (fun _=>rfl) fun f H=>chg_of (kd:="int") (b:=false) rfl (fun q=>absurd q (by decide)) (fun _=>rfl) (test2_no rfl (by decide)) (fun q=>absurd q (by decide)) fun _=>rfl
theorem good_tup {vs:List V} (hp:∀ v∈vs,Pl 7 v) (h2:∀ u,vs[1]?=some u->∃ k,(∀ H,kindV u H=some k)/\(k=="list")=false):Good (oneA (.tup vs)):=good_one (pl_tup hp) (fun _=>rfl) fun f H =>
  chg_of (kd:="tuple") (b:=false) rfl (fun q=>absurd q (by decide)) (fun _=>rfl) (test2_tup ⟨fun hl=>by
    obtain ⟨k,a,b⟩:=h2 _ (List.getElem?_eq_getElem hl)
    exact ⟨_,k,List.getElem?_eq_getElem hl,a H,b⟩,fun _=>rfl⟩) (fun q=>absurd q (by decide)) fun _=>rfl
theorem good_ints (ds:List Int):Good (oneA (.tup (ds.map .int))):=good_tup (pl_ints 7 ds) fun u hu=>by
  obtain ⟨i,_,rfl⟩:=List.mem_map.mp (List.mem_of_getElem? hu)
  exact ⟨"int",fun _=>rfl,by decide⟩
theorem set_low {H:Hp} {n k:Nat} (o:O) (h:n<=k):∀ i,i < n->(H.set k o)[i]?=H[i]?:=fun _ hi=>List.getElem?_set_ne (Nat.ne_of_gt (Nat.lt_of_lt_of_le hi h))
noncomputable def listA (xs:List V):AP:=fun n H v=>∃ k,v=.ref k/\n<=k/\H[k]?=some (.list xs)
theorem clear_list {k:Nat} {xs:List V} {H:Hp} (h:H[k]?=some (.list xs)):me0 mClearL (.ref k) [] H=.ok .none (H.set k (.list [])):=by
  show mClearL (.ref k) H=_
  rw [mClearL,lstR,optR_of (show refAt (.ref k)=some k from rfl),optR_of (listAt_of h)]
theorem good_list {xs:List V} (hp:∀ v∈xs,Pl 7 v):Good (listA xs):=by
  refine ⟨fun ⟨k,a,b,c⟩ h=>⟨k,a,b,h k _ b c⟩,?_,?_⟩
  · rintro n m H _ _ ⟨i,rfl,_,hi⟩ ⟨j,rfl,_,hj⟩
    unfold eqT
    rw [show tabAt (.ref i) H=Option.none from at_of (f:=tabO) hi]
    exact eqV_list hp hi hj
  · rintro n H _ ⟨k,rfl,hk,h⟩ f
    have hs:(H.set k (.list []))[k]?=some (.list []):=List.getElem?_set_self (List.getElem?_eq_some_iff.mp h).1
    exact ⟨H.set k (.list []),chg_of (H1:=H.set k (.list [])) (b:=false) (kind_list h) (fun _=>ev_meth (ev_var rfl) (kind_list h) rfl evs_nil (clear_list h)) (fun q=>absurd q (by decide)) (test2_no (kind_list hs) (by decide)) (fun q=>absurd q (by decide)) (fun _=>rfl),set_low _ hk⟩
noncomputable def tourA (os:List Int) (g:Int):AP:=fun n H v=>∃ k,v=.tup [.str (Str.ofString "tour"),.ref k,.int g]/\n<=k/\H[k]?=some (.list (os.map .int))
theorem good_tour (os:List Int) (g:Int) (hl:os.length<=7):Good (tourA os g):=by
  refine ⟨fun ⟨k,a,b,c⟩ h=>⟨k,a,b,h k _ b c⟩,?_,?_⟩
  · rintro n m H _ _ ⟨i,rfl,_,hi⟩ ⟨j,rfl,_,hj⟩
    obtain ⟨ds,e,q⟩:=pl_all (n:=6) (os.map .int) (pl_ints 6 os)
    have sn:∀ k,H[k]?=some (.list (os.map .int))->snap 8 H (.tup [.str (Str.ofString "tour"),.ref k,.int g])=some (.tuple [.str (Str.ofString "tour"),.list ds,.int g]):=fun k hk=>by
      have q:snap 8 H (.tup [.str (Str.ofString "tour"),.ref k,.int g])=([V.str (Str.ofString "tour"),.ref k,.int g].mapM (snap 7 H)).map .tuple:=rfl
      have q2:snap 7 H (.ref k)=some (.list ds):=by
        have q:snap 7 H (.ref k)=(listAt (.ref k) H).bind fun vs=>(vs.mapM (snap 6 H)).map .list:=rfl
        rw [q,listAt_of hk,Option.bind_some,e];rfl
      rw [q,List.mapM_cons,List.mapM_cons,q2];rfl
    refine eqV_of (sn i hi) (sn j hj) (eqvAll_self _ fun x hx=>?_)
    simp only [List.mem_cons,List.not_mem_nil,or_false] at hx
    rcases hx with rfl | rfl | rfl
    · exact beq_self_eq_true (Str.ofString "tour")
    · exact q
    · exact beq_self_eq_true g
  · rintro n H _ ⟨k,rfl,hk,h⟩ f
    exact ⟨_,chg_of (H1:=H) (kd:="tuple") (b:=true) rfl (fun q=>absurd q (by decide)) (fun _=>rfl) (test2_tup ⟨fun _=>⟨.ref k,"list",rfl,kind_list h,by decide⟩,fun q=>absurd (show 1 < 3 by decide) q⟩)
      (fun _=>ev_meth (vs:=[.int 0]) (ev_idx (ev_var rfl) (ev_int 1) (item_at (xs:=[.str (Str.ofString "tour"),.ref k,.int g]) (i:=1) rfl)) (kind_list h) rfl (evs_one (ev_int 0)) (m_append (v:=.int 0) h (by rw [List.length_map];exact Nat.lt_of_le_of_lt hl (by decide)))) (fun q=>absurd q (by decide)),set_low _ hk⟩
noncomputable abbrev Ent:=Key×Int×Option Int
noncomputable def valV (x:Int×Option Int):V:=.tup [.int x.1,optI x.2]
noncomputable def entV (e:Ent):Key×V:=(e.1,valV e.2)
noncomputable def getE (es:List Ent) (k:Key):Option (Int×Option Int):=(es.find? fun e=>decide (e.1=k)).map (·.2)
noncomputable def putE (es:List Ent) (k:Key) (x:Int×Option Int):List Ent:=if (getE es k).isSome then es.map fun e=>if e.1=k then (e.1,x) else e else es++[(k,x)]
theorem tabGet_of (es:List Ent) (k:Key):tabGet (es.map entV) k=(getE es k).map valV:=by
  unfold tabGet getE
  rw [List.find?_map,Option.map_map,Option.map_map];rfl
theorem tabPut_of (es:List Ent) (k:Key) (x:Int×Option Int):tabPut (es.map entV) k (valV x)=(putE es k x).map entV:=by
  unfold tabPut putE
  rw [tabGet_of,Option.isSome_map]
  split
  · rw [List.map_map,List.map_map]
    refine List.map_congr_left fun e _=>?_
    show (if e.1=k then (e.1,valV x) else entV e)=entV (if e.1=k then (e.1,x) else e)
    split <;> rfl
  · rw [List.map_append];rfl
theorem keys_of (es:List Ent):(es.map entV).map (·.1)=es.map (·.1):=by rw [List.map_map];rfl
theorem getE_some {es:List Ent} {k:Key} {x:Int×Option Int} (h:getE es k=some x):(k,x)∈es:=by
  obtain ⟨e,h1,h2⟩:=Option.map_eq_some_iff.mp h
  have:=List.find?_some h1
  rw [decide_eq_true_eq] at this
  rw [<- this,<- h2]
  exact List.mem_of_find?_eq_some h1
theorem getE_none {es:List Ent} {k:Key} (h:getE es k=Option.none):k∉es.map (·.1):=by
  unfold getE at h
  rw [Option.map_eq_none_iff,List.find?_eq_none] at h
  rintro q
  obtain ⟨e,he,rfl⟩:=List.mem_map.mp q
  exact h e he (decide_eq_true rfl)
theorem getE_mem {es:List Ent} {k:Key} {x:Int×Option Int} (h:(k,x)∈es) (nd:(es.map (·.1)).Nodup):getE es k=some x:=by
  cases e:getE es k with
  | none=>exact absurd (List.mem_map.mpr ⟨_,h,rfl⟩) (getE_none e)
  | some y =>
    have:=getE_some e
    have:∀ (l:List Ent),(l.map (·.1)).Nodup->(k,x)∈l->(k,y)∈l->y=x:=by
      intro l
      induction l with
      | nil=>intro _ q;cases q
      | cons a l ih =>
        intro nd h1 h2
        rw [List.map_cons,List.nodup_cons] at nd
        rcases List.mem_cons.mp h1 with e1 | h1
        · rcases List.mem_cons.mp h2 with e2 | h2
          · rw [<- e1] at e2;exact (Prod.mk.inj e2).2
          · exact absurd (List.mem_map.mpr ⟨_,h2,by rw [<- e1]⟩) nd.1
        · rcases List.mem_cons.mp h2 with e2 | h2
          · exact absurd (List.mem_map.mpr ⟨_,h1,by rw [<- e2]⟩) nd.1
          · exact ih nd.2 h1 h2
    rw [this es nd h (getE_some e)]
theorem keys_putE (es:List Ent) (k:Key) (x:Int×Option Int):(putE es k x).map (·.1)=if k∈es.map (·.1) then es.map (·.1) else es.map (·.1)++[k]:=by
  unfold putE
  cases e:getE es k with
  | none =>
    rw [if_neg (by simp),if_neg (getE_none e),List.map_append];rfl
  | some y =>
    rw [if_pos (show (some y).isSome=true from rfl),if_pos (List.mem_map.mpr ⟨_,getE_some e,rfl⟩),List.map_map]
    refine List.map_congr_left fun e _=>?_
    show (if e.1=k then (e.1,x) else e).1=e.1
    split <;> rfl
theorem nodup_putE {es:List Ent} {k:Key} {x:Int×Option Int} (nd:(es.map (·.1)).Nodup):((putE es k x).map (·.1)).Nodup:=by
  rw [keys_putE]
  split
  · exact nd
  · rename_i h
    refine List.nodup_append.mpr ⟨nd,List.nodup_cons.mpr ⟨List.not_mem_nil,List.nodup_nil⟩,fun a ha b hb=>?_⟩
    rw [List.mem_singleton] at hb
    rw [hb];exact fun q=>h (q▸ha)
theorem mem_putE {es:List Ent} {k:Key} {x:Int×Option Int} {e:Ent} (h:e∈putE es k x):e=(k,x)\/(e∈es/\e.1≠k):=by
  unfold putE at h
  cases hg:getE es k with
  | none =>
    rw [hg,if_neg (by simp)] at h
    rcases List.mem_append.mp h with h | h
    · exact .inr ⟨h,fun q=>getE_none hg (List.mem_map.mpr ⟨_,h,q⟩)⟩
    · exact .inl (List.mem_singleton.mp h)
  | some y =>
    rw [hg,if_pos (show (some y).isSome=true from rfl)] at h
    obtain ⟨a,ha,rfl⟩:=List.mem_map.mp h
    by_cases q:a.1=k
    · rw [if_pos q,q];exact .inl rfl
    · rw [if_neg q];exact .inr ⟨ha,q⟩
theorem put_mem (es:List Ent) (k:Key) (x:Int×Option Int):(k,x)∈putE es k x:=by
  unfold putE
  cases hg:getE es k with
  | none=>rw [if_neg (by simp)];exact List.mem_append.mpr (.inr (List.mem_singleton.mpr rfl))
  | some y=>rw [if_pos (show (some y).isSome=true from rfl)];exact List.mem_map.mpr ⟨_,getE_some hg,by rw [if_pos rfl]⟩
theorem mem_put_other {es:List Ent} {k:Key} {x:Int×Option Int} {e:Ent} (h:e∈es) (q:e.1≠k):e∈putE es k x:=by
  unfold putE
  split
  · exact List.mem_map.mpr ⟨e,h,by rw [if_neg q]⟩
  · exact List.mem_append.mpr (.inl h)
theorem len_putE (es:List Ent) (k:Key) (x:Int×Option Int):(putE es k x).length<=es.length+1:=by
  unfold putE
  split
  · rw [List.length_map];omega
  · simp
noncomputable def lessE (old other t b:Int):Bool:=decide (old < t)||(old==t&&decide (other<=b))
noncomputable def putB (es:List Ent) (k:Key) (t b:Int):List Ent:=match getE es k with
  | some x=>if lessE x.1 (x.2.getD 0) t b then es else putE es k (t,some b)
  | Option.none=>putE es k (t,some b)
noncomputable def Full (es:List Ent):Prop:=∀ e∈es,∃ b,e.2.2=some b
theorem putB_cases (es:List Ent) (k:Key) (t b:Int):(putB es k t b=es/\∃ x,getE es k=some x/\x.1<=t)\/(putB es k t b=putE es k (t,some b)/\∀ x,getE es k=some x->t<=x.1):=by
  unfold putB
  cases hg:getE es k with
  | none=>exact .inr ⟨rfl,fun x q=>by cases q⟩
  | some x =>
    dsimp only
    by_cases h:lessE x.1 (x.2.getD 0) t b=true
    · rw [if_pos h]
      refine .inl ⟨rfl,x,rfl,?_⟩
      unfold lessE at h
      simp only [Bool.or_eq_true,Bool.and_eq_true,decide_eq_true_eq,beq_iff_eq] at h
      omega
    · rw [if_neg h]
      refine .inr ⟨rfl,fun y hy=>?_⟩
      cases hy
      unfold lessE at h
      simp only [Bool.or_eq_true,Bool.and_eq_true,decide_eq_true_eq,beq_iff_eq,not_or] at h
      omega
theorem full_putB {es:List Ent} {k:Key} {t b:Int} (h:Full es):Full (putB es k t b):=by
  rcases putB_cases es k t b with ⟨e,_⟩ | ⟨e,_⟩
  · rw [e];exact h
  · rw [e]
    intro a ha
    rcases mem_putE ha with rfl | ⟨ha,_⟩
    · exact ⟨b,rfl⟩
    · exact h a ha
theorem len_putB (es:List Ent) (k:Key) (t b:Int):(putB es k t b).length<=es.length+1:=by
  rcases putB_cases es k t b with ⟨e,_⟩ | ⟨e,_⟩
  · rw [e];omega
  · rw [e];exact len_putE _ _ _
theorem nodup_putB {es:List Ent} {k:Key} {t b:Int} (nd:(es.map (·.1)).Nodup):((putB es k t b).map (·.1)).Nodup:=by
  rcases putB_cases es k t b with ⟨e,_⟩ | ⟨e,_⟩
  · rw [e];exact nd
  · rw [e];exact nodup_putE nd
theorem mem_putB {es:List Ent} {k:Key} {t b:Int} {e:Ent} (h:e∈putB es k t b):e=(k,t,some b)\/e∈es:=by
  rcases putB_cases es k t b with ⟨q,_⟩ | ⟨q,_⟩
  · rw [q] at h;exact .inr h
  · rw [q] at h
    rcases mem_putE h with h | h
    · exact .inl h
    · exact .inr h.1
noncomputable def Has (es:List Ent) (k:Key) (t:Int):Prop:=∃ x,(k,x)∈es/\x.1<=t
theorem has_putB (es:List Ent) (k:Key) (t b:Int):Has (putB es k t b) k t:=by
  rcases putB_cases es k t b with ⟨q,x,hx,hl⟩ | ⟨q,_⟩
  · rw [q];exact ⟨x,getE_some hx,hl⟩
  · rw [q];exact ⟨_,put_mem _ _ _,Int.le_refl _⟩
theorem Has.putB {es:List Ent} {k k':Key} {t t' b:Int} (h:Has es k' t') (nd:(es.map (·.1)).Nodup):Has (putB es k t b) k' t':=by
  obtain ⟨x,hx,hl⟩:=h
  rcases putB_cases es k t b with ⟨q,_⟩ | ⟨q,hle⟩
  · rw [q];exact ⟨x,hx,hl⟩
  · rw [q]
    by_cases e:k'=k
    · subst e
      exact ⟨_,put_mem _ _ _,Int.le_trans (hle x (getE_mem hx nd)) hl⟩
    · exact ⟨x,mem_put_other hx e,hl⟩
section
variable {xs:List (Key×V)} {ep k:Nat} {H:Hp}
theorem tabAt_of (h:H[k]?=some (.tab xs ep)):tabAt (.ref k) H=some (xs,ep):=at_of (f:=tabO) h
theorem listAt_tab (h:H[k]?=some (.tab xs ep)):listAt (.ref k) H=Option.none:=at_of (f:=listO) h
theorem keysAt_tab (h:H[k]?=some (.tab xs ep)):keysAt (.ref k) H=Option.none:=at_of (f:=keysO) h
theorem intsV_map:∀ ns:List Int,intsV (ns.map .int)=some ns
  | []=>rfl
  | n::ns=>by
    have ih:=intsV_map ns
    unfold intsV at ih ⊢
    rw [List.map_cons,List.mapM_cons,ih];rfl
theorem keyAt_keyV (q:Key):keyAt (keyV q)=some q:=by
  have e:keyAt (keyV q)=(intsV (q.1.map .int)).bind fun ks=>some (ks,q.2):=rfl
  rw [e,intsV_map];rfl
theorem kind_tab (h:H[k]?=some (.tab xs ep)):kindV (.ref k) H=some "dict":=by
  have q:kindV (.ref k) H=(match listAt (.ref k) H with | some _=>some "list" | Option.none=>(tabAt (.ref k) H).map fun _=>"dict"):=rfl
  rw [q,listAt_tab h,tabAt_of h];rfl
theorem in_tab (h:H[k]?=some (.tab xs ep)) (q:Key):cmp .isIn (keyV q) (.ref k) H=some ((xs.map (·.1)).contains q):=by
  have e:cmp .isIn (keyV q) (.ref k) H=(match listAt (.ref k) H with
    | some vs=>inTup H (keyV q) vs
    | Option.none=>inKeys H (keyV q) (.ref k)):=rfl
  rw [e,listAt_tab h]
  dsimp only
  unfold inKeys
  rw [keysAt_tab h,tabAt_of h,keyAt_keyV];rfl
theorem idx_tab (h:H[k]?=some (.tab xs ep)) {q:Key} {v:V} (hv:tabGet xs q=some v):index (.ref k) (keyV q) H=.ok v H:=by
  have e:index (.ref k) (keyV q) H=optR (tabAt (.ref k) H) fun p=>optR (keyAt (keyV q)) fun k=>optR (tabGet p.1 k) fun v=>.ok v H:=rfl
  rw [e,optR_of (tabAt_of h),optR_of (keyAt_keyV q),optR_of hv]
theorem setK_tab (h:H[k]?=some (.tab xs ep)) (q:Key) (v:V) (hl:xs.length < 100000):setK (.ref k) (keyV q) v H=.ok () (H.set k (.tab (tabPut xs q v) (tabEp xs q ep))):=by
  rw [setK,optR_of (show refAt (.ref k)=some k from rfl),keysAt_tab h,tabAt_of h]
  dsimp only
  rw [optR_of (keyAt_keyV q),ifR_of hl]
theorem len_tab (h:H[k]?=some (.tab xs ep)):builtin "len" [.ref k] H=.ok (.int xs.length) H:=by
  have q:builtin "len" [.ref k] H=optR (match listAt (.ref k) H with | some xs=>some xs.length | Option.none=>(tabAt (.ref k) H).map fun p=>p.1.length) fun n=>.ok (.int n) H:=rfl
  rw [q,listAt_tab h,tabAt_of h];rfl
theorem items_tab {es:List Ent} (h:H[k]?=some (.tab (es.map entV) ep)):items H (.ref k)=some (es.map fun e=>keyV e.1):=by
  have q:items H (.ref k)=(match listAt (.ref k) H with | some xs=>some xs | Option.none=>(tabAt (.ref k) H).map fun p=>p.1.map fun x=>keyV x.1):=rfl
  rw [q,listAt_tab h,tabAt_of h]
  show some ((es.map entV).map fun x=>keyV x.1)=_
  rw [List.map_map];rfl
theorem same_tab {H':Hp} (h:H[k]?=some (.tab xs ep)) (e:H'[k]?=some (.tab xs ep)):sameO (.ref k) H H'=true:=same_of h e (by show (decide (xs=xs)&&ep==ep)=true;rw [decide_eq_true rfl,beq_self_eq_true];rfl)
theorem upd_tab {m ep2:Nat} {ys:List (Key×V)} (h:H[k]?=some (.tab xs ep)) (h2:H[m]?=some (.tab ys ep2)) (hn:k≠m) (hf:xs.isEmpty=false\/firstOk ys=true) (hl:xs.length+ys.length<=100000) :
    me1 mUpdate (.ref k) [.ref m] H=.ok .none (H.set k (.tab (tabMerge xs ys) (tabMEp xs ys ep))):=by
  show mUpdate (.ref k) (.ref m) H=_
  rw [mUpdate,tabR,optR_of (show refAt (.ref k)=some k from rfl),optR_of (tabAt_of h),tabR,optR_of (show refAt (.ref m)=some m from rfl),optR_of (tabAt_of h2),ifR_of ⟨hn,hf,hl⟩]
end
theorem set_same {H:Hp} {k:Nat} {o:O} (h:H[k]?=some o):H.set k o=H:=by
  obtain ⟨hk,e⟩:=List.getElem?_eq_some_iff.mp h
  rw [<- e];exact List.set_getElem_self hk
theorem mapM_ints (H:Hp):∀ ds:List Int,(ds.map V.int).mapM (snap 8 H)=some (ds.map PyData.int)
  | []=>rfl
  | d::ds=>by rw [List.map_cons,List.mapM_cons,mapM_ints H ds];rfl
theorem any_ints (z:Int):∀ ds:List Int,((ds.map PyData.int).any fun y=>PyData.eqv y (.int z))=ds.contains z
  | []=>rfl
  | d::ds=>by
    have e:PyData.eqv (.int d) (.int z)=(d==z):=rfl
    rw [List.map_cons,List.any_cons,any_ints z ds,e,List.contains_cons]
    congr 1
    rw [Bool.eq_iff_iff,beq_iff_eq,beq_iff_eq];exact eq_comm
theorem inTup_ints (H:Hp) (z:Int) (ds:List Int):inTup H (.int z) (ds.map .int)=some (ds.contains z):=by
  unfold inTup
  rw [mapM_ints]
  show some ((ds.map PyData.int).any fun y=>PyData.eqv y (.int z))=_
  rw [any_ints]
theorem in_tup (H:Hp) (z:Int) (ds:List Int):cmp .isIn (.int z) (.tup (ds.map .int)) H=some (ds.contains z):=inTup_ints H z ds
theorem notin_list {H:Hp} {k:Nat} {ds:List Int} (h:H[k]?=some (.list (ds.map .int))) (z:Int):cmp .notIn (.int z) (.ref k) H=some (!ds.contains z):=by
  have e:cmp .notIn (.int z) (.ref k) H=(match listAt (.ref k) H with
    | some vs=>inTup H (.int z) vs
    | Option.none=>inKeys H (.int z) (.ref k)).map (!·):=rfl
  rw [e,listAt_of h]
  dsimp only
  rw [inTup_ints];rfl
theorem contains_iff_get (es:List Ent) (q:Key):((es.map entV).map (·.1)).contains q=(getE es q).isSome:=by
  rw [keys_of,Bool.eq_iff_iff,List.contains_iff_mem]
  cases e:getE es q with
  | none=>simp [getE_none e]
  | some x=>simp only [Option.isSome_some,iff_true];exact List.mem_map.mpr ⟨_,getE_some e,rfl⟩
theorem c_put (n:Nat) {f ep:Nat} {es:List Ent} {H:Hp} (hf:H[f]?=some (.tab (es.map entV) ep)) (fu:Full es) (hl:es.length < 100000) (q:Key) (t b:Int) :
    ∃ ep',(G (n+1)).call "put_better" [.ref f,keyV q,.int t,.int b] H=.ok .none (H.set f (.tab ((putB es q t b).map entV) ep')):=by
  rw [G_call (d:=d_put_better) (by kernel_rfl)]
  refine runDef_P (ρ:=[("found",.ref f),("key",keyV q),("leaves",.int t),("before",.int b)]) (P:=fun r=>∃ ep',r=.ok .none (H.set f (.tab ((putB es q t b).map entV) ep'))) rfl ?_
  have e1:=in_tab hf q
  rw [contains_iff_get] at e1
  have e2:=setK_tab hf q (valV (t,some b)) (by rw [List.length_map];exact hl)
  rw [tabPut_of] at e2
  refine ss_if (ev_cmp (ev_var rfl) (ev_var rfl) e1) ?_
  cases hg:getE es q with
  | none =>
    have e3:putB es q t b=putE es q (t,some b):=by unfold putB;rw [hg]
    rw [e3]
    exact ss_setidx (v:=.tup [.int t,.int b]) (w:=.ref f) (k:=keyV q) (H1:=H) (H2:=H) (H3:=H) rfl rfl rfl e2 ⟨_,rfl⟩
  | some x =>
    obtain ⟨o,ho⟩:=fu _ (getE_some hg)
    obtain ⟨x1,x2⟩:=x
    have ho:x2=some o:=ho
    subst ho
    have e4:index (.ref f) (keyV q) H=.ok (.tup [.int x1,.int o]) H:=idx_tab hf (by rw [tabGet_of,hg];rfl)
    have e3:putB es q t b=if lessE x1 o t b then es else putE es q (t,some b):=by unfold putB;rw [hg];rfl
    show Fin _ (exSs _ (S.unpack _ _::_) _ _)
    refine ss_unpack (v:=.tup [.int x1,.int o]) (H1:=H) (G_hd _) (ev_idx (ev_var rfl) (ev_var rfl) e4) rfl rfl ?_
    have e5:evE (G n) (setL "other" (.int o) (setL "old" (.int x1) [("found",.ref f),("key",keyV q),("leaves",.int t),("before",.int b)])) (.or [(.cmp (.var "old") .lt (.var "leaves")),(.and [(.cmp (.var "old") .eq (.var "leaves")),(.cmp (.var "other") .le (.var "before"))])]) H=.ok (.bool (lessE x1 o t b)) H:=by
      unfold lessE
      refine ev_or (c:=decide (x1 < t)) (H1:=H) (ev_cmp (ev_var rfl) (ev_var rfl) rfl) ?_
      cases decide (x1 < t) with
      | true=>rfl
      | false =>
        show evBo _ _ true _ _=_
        refine ev_and (c:=x1==t) (H1:=H) (ev_cmp (ev_var rfl) (ev_var rfl) rfl) ?_
        cases x1==t with
        | false=>rfl
        | true=>exact (ev_cmp (u:=.int o) (v:=.int b) (ev_var rfl) (ev_var rfl) (cmp_le o b H):evE (G n) (setL "other" (.int o) (setL "old" (.int x1) [("found",.ref f),("key",keyV q),("leaves",.int t),("before",.int b)])) (.cmp (.var "other") .le (.var "before")) H=_)
    refine ss_if e5 ?_
    rw [e3]
    cases lessE x1 o t b with
    | true =>
      show Fin _ (exSs _ (S.ret _::_) _ _)
      exact ss_ret ev_none ⟨ep,by rw [if_pos rfl,set_same hf];rfl⟩
    | false=>exact ss_setidx (v:=.tup [.int t,.int b]) (w:=.ref f) (k:=keyV q) (H1:=H) (H2:=H) (H3:=H) rfl rfl rfl e2 ⟨_,rfl⟩
noncomputable def ins (ds:List Int) (z:Int):List Int:=(ds++[z]).mergeSort fun a b=>decide (a<=b)
noncomputable def nextT (w:Str) (l:Int) (qs:List Q4) (e:Ent) (z:Int):Option Int:=match qs[e.1.2.toNat]? with
  | some a=>(match qs[z.toNat]? with
    | some q=>leavesI w l a.1 e.2.1 q
    | Option.none=>Option.none)
  | Option.none=>Option.none
noncomputable def stepN (w:Str) (l:Int) (qs:List Q4) (e:Ent) (es:List Ent) (z:Int):List Ent:=if e.1.1.contains z then es else match nextT w l qs e z with
  | some t=>putB es (ins e.1.1 z,z) t e.1.2
  | Option.none=>es
noncomputable def stepE (w:Str) (l:Int) (qs:List Q4) (left:List Int) (es:List Ent) (e:Ent):List Ent:=left.foldl (stepN w l qs e) es
noncomputable def longerP (w:Str) (l:Int) (qs:List Q4) (left:List Int) (lev:List Ent):List Ent:=lev.foldl (stepE w l qs left) []
theorem stepN_cases (w:Str) (l:Int) (qs:List Q4) (e:Ent) (es:List Ent) (z:Int):stepN w l qs e es z=es\/∃ t,e.1.1.contains z=false/\nextT w l qs e z=some t/\stepN w l qs e es z=putB es (ins e.1.1 z,z) t e.1.2:=by
  unfold stepN
  by_cases hc:e.1.1.contains z=true
  · rw [if_pos hc];exact .inl rfl
  · rw [if_neg hc]
    cases hv:nextT w l qs e z with
    | none=>exact .inl rfl
    | some t=>exact .inr ⟨t,Bool.eq_false_iff.mpr hc,rfl,rfl⟩
theorem full_stepN {w:Str} {l:Int} {qs:List Q4} {e:Ent} {es:List Ent} {z:Int} (h:Full es):Full (stepN w l qs e es z):=by
  rcases stepN_cases w l qs e es z with q | ⟨t,_,_,q⟩
  · rw [q];exact h
  · rw [q];exact full_putB h
theorem len_stepN (w:Str) (l:Int) (qs:List Q4) (e:Ent) (es:List Ent) (z:Int):(stepN w l qs e es z).length<=es.length+1:=by
  rcases stepN_cases w l qs e es z with q | ⟨t,_,_,q⟩
  · rw [q];exact Nat.le_succ _
  · rw [q];exact len_putB _ _ _ _
theorem bi_sorted_ref {H:Hp} {k:Nat} {ns:List Int} (h:H[k]?=some (.list (ns.map .int))) (hl:ns.length < 64):builtin "sorted" [.ref k] H=.ok (.ref H.length) (H++[.list ((ns.mergeSort fun a b=>decide (a<=b)).map .int)]):=by
  show biSorted (.ref k) H=_
  rw [biSorted,optR_of (show (listAt (.ref k) H).bind intsV=some ns by rw [listAt_of h];exact intsV_map ns),ifR_of hl];rfl
theorem bi_tuple_ref {H:Hp} {k:Nat} {vs:List V} (h:H[k]?=some (.list vs)):builtin "tuple" [.ref k] H=.ok (.tup vs) H:=by
  show biTuple (.ref k) H=_
  rw [biTuple,optR_of (listAt_of h)]
theorem bin_add_ref {xs ys:List V} {i j:Nat} {H:Hp} (h1:H[i]?=some (.list xs)) (h2:H[j]?=some (.list ys)) (hl:xs.length+ys.length<=line):bin .add (.ref i) (.ref j) H=.ok (.ref H.length) (H++[.list (xs++ys)]):=by
  show ifR _ (addL (.ref i) (.ref j) H)=_
  rw [ifR_of rfl,addL,optR_of (listAt_of h1),optR_of (listAt_of h2),ifR_of hl];rfl
theorem ev_ins {n:Nat} {ρ:Rho} {H:Hp} {ds:List Int} {z:Int} (g1:ρ.lookup "done"=some (.tup (ds.map .int))) (g2:ρ.lookup "number"=some (.int z)) (hl:ds.length<=8) :
    ∃ L,evE (G n) ρ (.call "tuple" [(.call "sorted" [(.bin .add (.call "list" [(.var "done")]) (.list [(.var "number")]))])]) H=.ok (.tup ((ins ds z).map .int)) (H++L):=by
  have e1:builtin "list" [.tup (ds.map .int)] H=.ok (.ref H.length) (H++[.list (ds.map .int)]):=rfl
  have e2:=bin_add_ref (i:=H.length) (j:=(H++[O.list (ds.map .int)]).length) (H:=(H++[O.list (ds.map .int)])++[.list [.int z]]) ((ext_app _ _).get (len_app1 _ _)) (len_app1 _ _) (by simp [line];omega)
  have e3:=bi_sorted_ref (ns:=ds++[z]) (H:=((H++[O.list (ds.map .int)])++[.list [.int z]])++[.list (ds.map .int++[.int z])]) (by rw [List.map_append];exact len_app1 _ _) (by simp;omega)
  have e4:=bi_tuple_ref (len_app1 (((H++[O.list (ds.map .int)])++[.list [.int z]])++[.list (ds.map .int++[.int z])]) (.list (((ds++[z]).mergeSort fun a b=>decide (a<=b)).map .int)))
  refine ⟨[O.list (ds.map .int),.list [.int z],.list (ds.map .int++[.int z]),.list (((ds++[z]).mergeSort fun a b=>decide (a<=b)).map .int)],?_⟩
  have e5:=ev_bi (Γ:=G n) (ρ:=ρ) (es:=[(.call "sorted" [(.bin .add (.call "list" [(.var "done")]) (.list [(.var "number")]))])]) (H:=H) (G_hd n) (evs_one (ev_bi (G_hd n) (evs_one (ev_bin2 (ev_bi (G_hd n) (evs_one (ev_var g1)) e1) (ev_list (evs_one (ev_var g2))) e2)) e3)) e4
  rw [e5]
  simp [ins]
theorem app_tab (H L M:Hp) (o:O):(H++o::L)++M=H++o::(L++M):=by simp
theorem get_tab (H L:Hp) (o:O):(H++o::L)[H.length]?=some o:=by rw [List.getElem?_append_right (Nat.le_refl _)];simp
theorem set_tab (H L:Hp) (o o':O):(H++o::L).set H.length o'=H++o'::L:=by rw [List.set_append_right _ _ (Nat.le_refl _)];simp
structure LevIn (m:Nat) (lev:List Ent):Prop where
  low:∀ e∈lev,0<=e.1.2
  high:∀ e∈lev,e.1.2 < m
  few:∀ e∈lev,e.1.1.length<=8
  nodup:(lev.map (·.1)).Nodup
  len:lev.length<=1000
section
variable {w:Str} {l h s:Int} {qs:List Q4} {d dn k kl kf epl:Nat} {H:Hp} {left:List Int} {lev:List Ent}
noncomputable def NI (w:Str) (l:Int) (qs:List Q4) (d kl kf:Nat) (H:Hp) (left:List Int) (e:Ent) (es0:List Ent) (a b:List Int) (ρ:Rho) (H':Hp):Prop :=
  a++b=left/\(∃ ep L,H'=H++.tab ((a.foldl (stepN w l qs e) es0).map entV) ep::L)/\Full (a.foldl (stepN w l qs e) es0)/\(a.foldl (stepN w l qs e) es0).length<=es0.length+a.length /\
  ρ.lookup "day"=some (.ref d)/\ρ.lookup "level"=some (.ref kl)/\ρ.lookup "left"=some (.ref kf)/\ρ.lookup "found"=some (.ref H.length)/\ρ.lookup "done"=some (.tup (e.1.1.map .int))/\ρ.lookup "last"=some (.int e.1.2)/\ρ.lookup "leaves"=some (.int e.2.1)
noncomputable def LI (w:Str) (l:Int) (qs:List Q4) (d kl kf:Nat) (H:Hp) (left:List Int) (lev:List Ent) (a b:List Ent) (ρ:Rho) (H':Hp):Prop :=
  a++b=lev/\(∃ ep L,H'=H++.tab ((a.foldl (stepE w l qs left) []).map entV) ep::L)/\Full (a.foldl (stepE w l qs left) [])/\(a.foldl (stepE w l qs left) []).length<=7 * a.length /\
  ρ.lookup "day"=some (.ref d)/\ρ.lookup "level"=some (.ref kl)/\ρ.lookup "left"=some (.ref kf)/\ρ.lookup "found"=some (.ref H.length)
theorem inner_turn (n:Nat) (x:DayAt w l h s qs d dn k H) (lo:∀ z∈left,0<=z) (hi:∀ z∈left,z < qs.length) {e:Ent} {es0:List Ent} (e0:0<=e.1.2) (e1:e.1.2 < qs.length) (ed:e.1.1.length<=8) (hl:es0.length<=7000) (h7:left.length<=7)
    (a:List Int) (z:Int) (b:List Int) (ρ:Rho) (H':Hp) (i:NI w l qs d kl kf H left e es0 a (z::b) ρ H') :
    Turns (NI w l qs d kl kf H left e es0 (a++[z]) b) (exSs (G (n+2)) (loopAt (loopAt d_longer.body 1) 2) (setL "number" (.int z) ρ) H'):=by
  obtain ⟨rfl,⟨ep,L,rfl⟩,fu,ln,g1,g2,g3,g4,g5,g6,g7⟩:=i
  have fold:(a++[z]).foldl (stepN w l qs e) es0=stepN w l qs e (a.foldl (stepN w l qs e) es0) z:=by rw [List.foldl_append];rfl
  have hz:z∈a++z::b:=by simp
  obtain ⟨q,hq⟩:=some_of_lt (lo z hz) (hi z hz)
  obtain ⟨q',hq'⟩:=some_of_lt e0 e1
  have la:a.length<=7:=Nat.le_trans (by rw [List.length_append];exact Nat.le_add_right _ _) h7
  -- what the turn has to leave
  have key:∀ ρ' H2,ρ'.lookup "day"=some (.ref d)/\ρ'.lookup "level"=some (.ref kl)/\ρ'.lookup "left"=some (.ref kf)/\ρ'.lookup "found"=some (.ref H.length)/\ρ'.lookup "done"=some (.tup (e.1.1.map .int))/\ρ'.lookup "last"=some (.int e.1.2)/\ρ'.lookup "leaves"=some (.int e.2.1) ->
      (∃ ep L,H2=H++.tab ((stepN w l qs e (a.foldl (stepN w l qs e) es0) z).map entV) ep::L)->NI w l qs d kl kf H (a++z::b) e es0 (a++[z]) b ρ' H2:=fun ρ' H2 g hh=>by
    unfold NI
    rw [fold]
    refine ⟨by simp,hh,full_stepN fu,?_,g⟩
    have:=len_stepN w l qs e (a.foldl (stepN w l qs e) es0) z
    rw [List.length_append,List.length_singleton];exact Nat.le_trans this (Nat.succ_le_succ ln)
  have fe:stepN w l qs e (a.foldl (stepN w l qs e) es0) z=if e.1.1.contains z then a.foldl (stepN w l qs e) es0 else match leavesI w l q'.1 e.2.1 q with | some t=>putB (a.foldl (stepN w l qs e) es0) (ins e.1.1 z,z) t e.1.2 | Option.none=>a.foldl (stepN w l qs e) es0:=by
    unfold stepN nextT;rw [hq',hq]
  rw [fe] at key
  clear fe fold
  generalize a.foldl (stepN w l qs e) es0=es at fu ln key ⊢
  have y:=x.kept (Kept.app H (.tab (es.map entV) ep::L))
  have c1:=in_tup (H++.tab (es.map entV) ep::L) z e.1.1
  refine ss_if (c:=e.1.1.contains z) (ev_cmp (ev_var (setL_self _ _ _)) (ev_var (by repeat (first | assumption | with_reducible first | exact setL_self _ _ _ | refine setL_other (by decide) ?_))) c1) ?_
  cases hc:e.1.1.contains z with
  | true =>
    rw [hc,if_pos rfl] at key
    exact ss_cont (Turns.cont (key _ _ ⟨(by repeat (first | assumption | with_reducible first | exact setL_self _ _ _ | refine setL_other (by decide) ?_)),(by repeat (first | assumption | with_reducible first | exact setL_self _ _ _ | refine setL_other (by decide) ?_)),(by repeat (first | assumption | with_reducible first | exact setL_self _ _ _ | refine setL_other (by decide) ?_)),(by repeat (first | assumption | with_reducible first | exact setL_self _ _ _ | refine setL_other (by decide) ?_)),(by repeat (first | assumption | with_reducible first | exact setL_self _ _ _ | refine setL_other (by decide) ?_)),(by repeat (first | assumption | with_reducible first | exact setL_self _ _ _ | refine setL_other (by decide) ?_)),(by repeat (first | assumption | with_reducible first | exact setL_self _ _ _ | refine setL_other (by decide) ?_))⟩ ⟨ep,L,rfl⟩))
  | false =>
    rw [hc,if_neg (by simp)] at key
    have c2:=y.stops
    have c3:=stop_at y.list e0 hq'
    have c4:=tq_0 q' (H++.tab (es.map entV) ep::L)
    have c5:=c_left n y (lo z hz) hq q'.1 e.2.1
    show Turns _ (exSs _ (S.asg "time" _::_) _ _)
    refine ss_asg (by repeat (first | with_reducible (first | assumption | exact setL_self _ _ _ | refine setL_other (by decide) ?_ | exact ev_int _ | exact ev_none | exact ev_bool _ | exact evs_nil | apply evs_cons | apply ev_var | apply ev_tup | apply ev_attr | apply ev_idx | apply ev_not | apply ev_cmp | apply ev_bin2 | apply ev_isinst | apply ev_call (G_hd _) ?_ rfl | apply ev_bi (G_hd _)) | rfl)) ?_
    refine ss_if (ev_cmp (ev_var (setL_self _ _ _)) ev_none (isnt_none _ _)) ?_
    cases hv:leavesI w l q'.1 e.2.1 q with
    | none =>
      rw [hv] at key
      exact Turns.here (key _ _ ⟨(by repeat (first | assumption | with_reducible first | exact setL_self _ _ _ | refine setL_other (by decide) ?_)),(by repeat (first | assumption | with_reducible first | exact setL_self _ _ _ | refine setL_other (by decide) ?_)),(by repeat (first | assumption | with_reducible first | exact setL_self _ _ _ | refine setL_other (by decide) ?_)),(by repeat (first | assumption | with_reducible first | exact setL_self _ _ _ | refine setL_other (by decide) ?_)),(by repeat (first | assumption | with_reducible first | exact setL_self _ _ _ | refine setL_other (by decide) ?_)),(by repeat (first | assumption | with_reducible first | exact setL_self _ _ _ | refine setL_other (by decide) ?_)),(by repeat (first | assumption | with_reducible first | exact setL_self _ _ _ | refine setL_other (by decide) ?_))⟩ ⟨ep,L,rfl⟩)
    | some t =>
      rw [hv] at key
      dsimp only at key
      obtain ⟨M,ei⟩:=ev_ins (n:=n+2) (ρ:=setL "time" (.int t) (setL "number" (.int z) ρ)) (H:=H++.tab (es.map entV) ep::L) (ds:=e.1.1) (z:=z) (by repeat (first | assumption | with_reducible first | exact setL_self _ _ _ | refine setL_other (by decide) ?_)) (by repeat (first | assumption | with_reducible first | exact setL_self _ _ _ | refine setL_other (by decide) ?_)) ed
      rw [app_tab] at ei
      obtain ⟨ep',c6⟩:=c_put (n+1) (get_tab H (L++M) (.tab (es.map entV) ep)) fu (by omega) (ins e.1.1 z,z) t e.1.2
      rw [set_tab] at c6
      show Turns _ (exSs _ (S.expr _::_) (setL "time" (.int t) (setL "number" (.int z) ρ)) _)
      refine ss_expr (ev_call (vs:=[.ref H.length,keyV (ins e.1.1 z,z),.int t,.int e.1.2]) (G_hd _) (evs_cons (ev_var (by repeat (first | assumption | with_reducible first | exact setL_self _ _ _ | refine setL_other (by decide) ?_))) (evs_cons (ev_tup (evs_cons ei (evs_one (ev_var (by repeat (first | assumption | with_reducible first | exact setL_self _ _ _ | refine setL_other (by decide) ?_)))))) (evs_cons (ev_var (by repeat (first | assumption | with_reducible first | exact setL_self _ _ _ | refine setL_other (by decide) ?_))) (evs_one (ev_var (by repeat (first | assumption | with_reducible first | exact setL_self _ _ _ | refine setL_other (by decide) ?_))))))) rfl c6) ?_
      exact Turns.here (key _ _ ⟨(by repeat (first | assumption | with_reducible first | exact setL_self _ _ _ | refine setL_other (by decide) ?_)),(by repeat (first | assumption | with_reducible first | exact setL_self _ _ _ | refine setL_other (by decide) ?_)),(by repeat (first | assumption | with_reducible first | exact setL_self _ _ _ | refine setL_other (by decide) ?_)),(by repeat (first | assumption | with_reducible first | exact setL_self _ _ _ | refine setL_other (by decide) ?_)),(by repeat (first | assumption | with_reducible first | exact setL_self _ _ _ | refine setL_other (by decide) ?_)),(by repeat (first | assumption | with_reducible first | exact setL_self _ _ _ | refine setL_other (by decide) ?_)),(by repeat (first | assumption | with_reducible first | exact setL_self _ _ _ | refine setL_other (by decide) ?_))⟩ ⟨ep',L++M,rfl⟩)
theorem outer_turn (n:Nat) (x:DayAt w l h s qs d dn k H) (hlev:H[kl]?=some (.tab (lev.map entV) epl)) (hleft:H[kf]?=some (.list (left.map .int))) (lo:∀ z∈left,0<=z) (hi:∀ z∈left,z < qs.length) (h7:left.length<=7) (li:LevIn qs.length lev)
    (a:List Ent) (e:Ent) (b:List Ent) (ρ:Rho) (H':Hp) (i:LI w l qs d kl kf H left lev a (e::b) ρ H') :
    Turns (LI w l qs d kl kf H left lev (a++[e]) b) (exSs (G (n+2)) (loopAt d_longer.body 1) (setL "key" (keyV e.1) ρ) H'):=by
  obtain ⟨rfl,⟨ep,L,rfl⟩,fu,ln,g1,g2,g3,g4⟩:=i
  have he:e∈a++e::b:=by simp
  have len:a.length < 1000:=by have:=li.len;rw [List.length_append,List.length_cons] at this;omega
  have fold:(a++[e]).foldl (stepE w l qs left) []=left.foldl (stepN w l qs e) (a.foldl (stepE w l qs left) []):=by rw [List.foldl_append];rfl
  generalize a.foldl (stepE w l qs left) []=es at fu ln fold ⊢
  have kp:=Kept.app H (.tab (es.map entV) ep::L)
  have c1:index (.ref kl) (keyV e.1) (H++.tab (es.map entV) ep::L)=.ok (valV e.2) _:=idx_tab (kp _ _ hlev) (by rw [tabGet_of,getE_mem (x:=e.2) he li.nodup];rfl)
  have c2:index (valV e.2) (.int 0) (H++.tab (es.map entV) ep::L)=.ok (.int e.2.1) _:=rfl
  have hleft':=kp _ _ hleft
  refine ss_unpack (v:=keyV e.1) (vs:=[.tup (e.1.1.map .int),.int e.1.2]) (G_hd _) (ev_var (setL_self _ _ _)) rfl rfl ?_
  refine ss_asg (v:=.int e.2.1) (H1:=H++.tab (es.map entV) ep::L) (by repeat (first | with_reducible (first | assumption | exact setL_self _ _ _ | refine setL_other (by decide) ?_ | exact ev_int _ | exact ev_none | exact ev_bool _ | exact evs_nil | apply evs_cons | apply ev_var | apply ev_tup | apply ev_attr | apply ev_idx | apply ev_not | apply ev_cmp | apply ev_bin2 | apply ev_isinst | apply ev_call (G_hd _) ?_ rfl | apply ev_bi (G_hd _)) | rfl)) ?_
  have lp:=forL_all V.int (fun v ρ1 H2=>exSs (G (n+2)) (loopAt (loopAt d_longer.body 1) 2) (setL "number" v ρ1) H2) (sameO (.ref kf) (H++.tab (es.map entV) ep::L)) (NI w l qs d kl kf H left e es)
    (fun a b ρ H' i=>by obtain ⟨_,⟨ep,L,rfl⟩,_⟩:=i;exact same_list hleft' (Kept.app _ _ _ _ hleft)) (inner_turn n x lo hi (li.low e he) (li.high e he) (li.few e he) (by omega) h7) left
    (setL "leaves" (.int e.2.1) (setL "last" (.int e.1.2) (setL "done" (.tup (e.1.1.map .int)) (setL "key" (keyV e.1) ρ)))) (H++.tab (es.map entV) ep::L) ⟨rfl,⟨ep,L,rfl⟩,fu,Nat.le_refl _,(by repeat (first | assumption | with_reducible first | exact setL_self _ _ _ | refine setL_other (by decide) ?_)),(by repeat (first | assumption | with_reducible first | exact setL_self _ _ _ | refine setL_other (by decide) ?_)),(by repeat (first | assumption | with_reducible first | exact setL_self _ _ _ | refine setL_other (by decide) ?_)),(by repeat (first | assumption | with_reducible first | exact setL_self _ _ _ | refine setL_other (by decide) ?_)),(by repeat (first | assumption | with_reducible first | exact setL_self _ _ _ | refine setL_other (by decide) ?_)),(by repeat (first | assumption | with_reducible first | exact setL_self _ _ _ | refine setL_other (by decide) ?_)),(by repeat (first | assumption | with_reducible first | exact setL_self _ _ _ | refine setL_other (by decide) ?_))⟩
  obtain ⟨ρ',H',er,⟨_,hh,fu',ln',k1,k2,k3,k4,_⟩⟩:=lp
  refine ss_for (v:=.ref kf) (G_hd _) (ev_var (by repeat (first | assumption | with_reducible first | exact setL_self _ _ _ | refine setL_other (by decide) ?_))) (items_list hleft') er ?_
  refine ⟨ρ',H',rfl,by simp,?_,?_,?_,k1,k2,k3,k4⟩
  · rw [fold];exact hh
  · rw [fold];exact fu'
  · rw [fold,List.length_append,List.length_singleton];omega
theorem c_longer (n:Nat) (x:DayAt w l h s qs d dn k H) (hlev:H[kl]?=some (.tab (lev.map entV) epl)) (hleft:H[kf]?=some (.list (left.map .int))) (lo:∀ z∈left,0<=z) (hi:∀ z∈left,z < qs.length) (h7:left.length<=7) (li:LevIn qs.length lev) :
    ∃ (ep:Nat) (L:Hp),(G (n+3)).call "longer" [.ref d,.ref kl,.ref kf] H=.ok (.ref H.length) (H++.tab ((longerP w l qs left lev).map entV) ep::L):=by
  rw [G_call (d:=d_longer) (by kernel_rfl)]
  refine runDef_P (ρ:=[("day",.ref d),("level",.ref kl),("left",.ref kf)]) (P:=fun r=>∃ (ep:Nat) (L:Hp),r=.ok (.ref H.length) (H++.tab ((longerP w l qs left lev).map entV) ep::L)) rfl ?_
  refine ss_asg (v:=.ref H.length) (H1:=H++[.tab [] 0]) rfl ?_
  have hlev':=Kept.app H [.tab [] 0] _ _ hlev
  obtain ⟨ρ',H',er,⟨_,⟨ep,L,rfl⟩,_,_,k1,k2,k3,k4⟩⟩:=forL_all (fun e:Ent=>keyV e.1) (fun v ρ1 H2=>exSs (G (n+2)) (loopAt d_longer.body 1) (setL "key" v ρ1) H2) (sameO (.ref kl) (H++[.tab [] 0])) (LI w l qs d kl kf H left lev)
    (fun a b ρ H' i=>by obtain ⟨_,⟨ep,L,rfl⟩,_⟩:=i;exact same_tab hlev' (Kept.app _ _ _ _ hlev)) (outer_turn n x hlev hleft lo hi h7 li) lev
    (setL "found" (.ref H.length) [("day",.ref d),("level",.ref kl),("left",.ref kf)]) (H++[.tab [] 0]) ⟨rfl,⟨0,[],rfl⟩,(fun _ q=>nomatch q),Nat.zero_le _,rfl,rfl,rfl,rfl⟩
  refine ss_for (v:=.ref kl) (G_hd _) (ev_var rfl) (items_tab hlev') er ?_
  exact ss_ret (ev_var k4) ⟨ep,L,rfl⟩
end
theorem foldl_inv {α β:Type} {f:β->α->β} {I:β->Prop}:∀ {l:List α} {b:β},I b->(∀ b a,a∈l->I b->I (f b a))->I (l.foldl f b)
  | [],_,h,_=>h
  | a::l,b,h,hs=>foldl_inv (l:=l) (hs b a (List.mem_cons_self ..) h) fun b a' ha=>hs b a' (List.mem_cons_of_mem _ ha)
theorem foldl_reach {α β:Type} {f:β->α->β} {I P:β->Prop} {x:α}:∀ {l:List α} {b:β},I b->(∀ b a,a∈l->I b->I (f b a))->(∀ b a,a∈l->I b->P b->P (f b a))->x∈l->(∀ b,I b->P (f b x))->P (l.foldl f b)
  | [],_,_,_,_,hx,_=>nomatch hx
  | a::l,b,h,hs,hp,hx,hr=>by
    have h1:=hs b a (List.mem_cons_self ..) h
    have hs':∀ b a',a'∈l->I b->I (f b a'):=fun b a' ha=>hs b a' (List.mem_cons_of_mem _ ha)
    have hp':∀ b a',a'∈l->I b->P b->P (f b a'):=fun b a' ha=>hp b a' (List.mem_cons_of_mem _ ha)
    rcases List.mem_cons.mp hx with rfl | hx
    · exact (foldl_inv (I:=fun b=>I b/\P b) (l:=l) ⟨h1,hr b h⟩ fun b a' ha q=>⟨hs' b a' ha q.1,hp' b a' ha q.1 q.2⟩).2
    · exact foldl_reach (l:=l) h1 hs' hp' hx hr
theorem ins_perm (ds:List Int) (z:Int):(ins ds z).Perm (ds++[z]):=List.mergeSort_perm _ _
theorem ins_mem {ds:List Int} {z x:Int}:x∈ins ds z ↔ x∈ds\/x=z:=by rw [(ins_perm ds z).mem_iff];simp
theorem ins_len (ds:List Int) (z:Int):(ins ds z).length=ds.length+1:=by rw [(ins_perm ds z).length_eq];simp
theorem ins_rise {ds:List Int} {z:Int} (h:ds.Pairwise (· < ·)) (hz:z∉ds):(ins ds z).Pairwise (· < ·):=by
  have nd:(ins ds z).Nodup:=by
    rw [(ins_perm ds z).nodup_iff,List.nodup_append]
    exact ⟨h.imp fun q=>Int.ne_of_lt q,List.nodup_cons.mpr ⟨List.not_mem_nil,List.nodup_nil⟩,fun a ha b hb=>by rw [List.mem_singleton] at hb;rw [hb];exact fun q=>hz (q▸ha)⟩
  have so:(ins ds z).Pairwise fun a b=>decide (a<=b)=true:=List.pairwise_mergeSort sort_tr sort_tot _
  exact (so.and nd).imp fun ⟨q1,q2⟩=>Int.lt_iff_le_and_ne.mpr ⟨of_decide_eq_true q1,q2⟩
structure EntOk (left:List Int) (i:Nat) (e:Ent):Prop where
  rise:e.1.1.Pairwise (· < ·)
  sub:∀ d∈e.1.1,d∈left
  len:e.1.1.length=i
  last:e.1.2∈e.1.1
section
variable {w:Str} {l:Int} {qs:List Q4} {left:List Int} {lev:List Ent} {i:Nat}
theorem longer_mem {e':Ent} (h:e'∈longerP w l qs left lev):∃ e∈lev,∃ z∈left,∃ t,z∉e.1.1/\nextT w l qs e z=some t/\e'=((ins e.1.1 z,z),t,some e.1.2):=by
  have key:∀ e'∈longerP w l qs left lev,∃ e∈lev,∃ z∈left,∃ t,z∉e.1.1/\nextT w l qs e z=some t/\e'=((ins e.1.1 z,z),t,some e.1.2) :=
    foldl_inv (I:=fun es=>∀ e'∈es,∃ e∈lev,∃ z∈left,∃ t,z∉e.1.1/\nextT w l qs e z=some t/\e'=((ins e.1.1 z,z),t,some e.1.2)) (fun _ q=>nomatch q) fun es e he hes =>
      foldl_inv (I:=fun es=>∀ e'∈es,∃ e∈lev,∃ z∈left,∃ t,z∉e.1.1/\nextT w l qs e z=some t/\e'=((ins e.1.1 z,z),t,some e.1.2)) hes fun es z hz hes=>by
        rcases stepN_cases w l qs e es z with q | ⟨t,hc,hv,q⟩
        · rw [q];exact hes
        · rw [q]
          intro e' he'
          rcases mem_putB he' with rfl | he'
          · exact ⟨e,he,z,hz,t,(fun q=>by rw [List.contains_iff_mem.mpr q] at hc;exact Bool.noConfusion hc),hv,rfl⟩
          · exact hes e' he'
  exact key e' h
theorem longer_ok (h:∀ e∈lev,EntOk left i e):∀ e∈longerP w l qs left lev,EntOk left (i+1) e:=by
  intro e' he'
  obtain ⟨e,he,z,hz,t,hn,_,rfl⟩:=longer_mem he'
  have q:=h e he
  exact ⟨ins_rise q.rise hn,fun d hd=>(ins_mem.mp hd).elim (q.sub d) fun r=>r▸hz,by rw [ins_len,q.len],ins_mem.mpr (.inr rfl)⟩
theorem nodup_step {e:Ent} {es:List Ent} {z:Int} (h:(es.map (·.1)).Nodup):((stepN w l qs e es z).map (·.1)).Nodup:=by
  rcases stepN_cases w l qs e es z with q | ⟨t,hc,hv,q⟩
  · rw [q];exact h
  · rw [q];exact nodup_putB h
theorem longer_nodup:((longerP w l qs left lev).map (·.1)).Nodup :=
  foldl_inv (I:=fun es:List Ent=>(es.map (·.1)).Nodup) (b:=[]) List.nodup_nil fun _ _ _ h=>foldl_inv (I:=fun es:List Ent=>(es.map (·.1)).Nodup) h fun _ _ _ h=>nodup_step h
theorem Has.step {e:Ent} {es:List Ent} {z:Int} {k:Key} {t:Int} (h:Has es k t) (nd:(es.map (·.1)).Nodup):Has (stepN w l qs e es z) k t:=by
  rcases stepN_cases w l qs e es z with q | ⟨t,hc,hv,q⟩
  · rw [q];exact h
  · rw [q];exact h.putB nd
theorem longer_has {e:Ent} {z t:Int} (he:e∈lev) (hz:z∈left) (hn:z∉e.1.1) (ht:nextT w l qs e z=some t):Has (longerP w l qs left lev) (ins e.1.1 z,z) t:=by
  refine foldl_reach (I:=fun es:List Ent=>(es.map (·.1)).Nodup) (P:=fun es=>Has es (ins e.1.1 z,z) t) (x:=e) List.nodup_nil (fun _ _ _ h=>foldl_inv (I:=fun es:List Ent=>(es.map (·.1)).Nodup) h fun _ _ _ h=>nodup_step h) (fun es e' _ nd hh=>?_) he fun es nd=>?_
  · exact (foldl_inv (I:=fun es:List Ent=>(es.map (·.1)).Nodup/\Has es (ins e.1.1 z,z) t) ⟨nd,hh⟩ fun _ _ _ h=>⟨nodup_step h.1,h.2.step h.1⟩).2
  · refine foldl_reach (I:=fun es:List Ent=>(es.map (·.1)).Nodup) (P:=fun es=>Has es (ins e.1.1 z,z) t) (x:=z) nd (fun _ _ _ h=>nodup_step h) (fun _ _ _ nd hh=>hh.step nd) hz fun es nd=>?_
    have hc:e.1.1.contains z=false:=by rw [<- Bool.not_eq_true,List.contains_iff_mem];exact hn
    have q:stepN w l qs e es z=putB es (ins e.1.1 z,z) t e.1.2:=by unfold stepN;rw [hc,ht];rfl
    rw [q];exact has_putB _ _ _ _
end
theorem nodup_len {α:Type} [DecidableEq α]:∀ {l u:List α},l.Nodup->(∀ x∈l,x∈u)->l.length<=u.length
  | [],_,_,_=>Nat.zero_le _
  | a::l,u,nd,h=>by
    rw [List.nodup_cons] at nd
    have ha:=h a (List.mem_cons_self ..)
    have:=nodup_len (l:=l) (u:=u.erase a) nd.2 fun x hx=>(List.mem_erase_of_ne (fun q=>nd.1 (show a∈l by rw [<- q];exact hx))).mpr (h x (List.mem_cons_of_mem _ hx))
    rw [List.length_erase_of_mem ha] at this
    exact Nat.le_trans (Nat.succ_le_succ this) (Nat.le_of_eq (Nat.sub_add_cancel (List.length_pos_of_mem ha)))
noncomputable def upto (a:Int):Nat->List Int
  | 0=>[]
  | n+1=>a::upto (a+1) n
theorem up1 {x a:Int} {n:Nat} (h:x < a+(n+1:Nat)):x < a+1+n:=by rw [Int.natCast_succ,Int.add_comm (n:Int) 1,<- Int.add_assoc] at h;exact h
theorem rise_upto:∀ (n:Nat) (a:Int) (ds:List Int),ds.Pairwise (· < ·)->(∀ d∈ds,a<=d/\d < a+n)->ds.Sublist (upto a n)
  | 0,a,ds,_,h=>by
    cases ds with
    | nil=>exact List.Sublist.slnil
    | cons d r=>have:=h d (List.mem_cons_self ..);exact absurd (Int.lt_of_le_of_lt this.1 this.2) (by rw [Int.natCast_zero,Int.add_zero];exact Int.lt_irrefl _)
  | n+1,a,ds,hp,h=>by
    cases ds with
    | nil=>exact List.nil_sublist _
    | cons d r =>
      obtain ⟨h1,h2⟩:=List.pairwise_cons.mp hp
      have hd:=h d (List.mem_cons_self ..)
      by_cases q:d=a
      · subst q
        exact (rise_upto n (d+1) r h2 fun x hx=>⟨h1 x hx,up1 (h x (List.mem_cons_of_mem _ hx)).2⟩).cons_cons d
      · refine (rise_upto n (a+1) (d::r) hp fun x hx=>?_).cons a
        have hda:=Int.lt_iff_le_and_ne.mpr ⟨hd.1,Ne.symm q⟩
        refine ⟨?_,up1 (h x hx).2⟩
        rcases List.mem_cons.mp hx with rfl | hx
        · exact hda
        · exact Int.lt_trans hda (h1 x hx)
noncomputable def subs:List Int->List (List Int)
  | []=>[[]]
  | a::r=>subs r++(subs r).map (a::·)
theorem mem_subs {ds u:List Int} (h:ds.Sublist u):ds∈subs u:=by
  induction h with
  | slnil=>exact List.mem_singleton.mpr rfl
  | cons a _ ih=>exact List.mem_append.mpr (.inl ih)
  | cons_cons a _ ih=>exact List.mem_append.mpr (.inr (List.mem_map.mpr ⟨_,ih,rfl⟩))
noncomputable def univ:List Key:=(subs (upto 0 7)).flatMap fun ds=>(upto 0 7).map fun z=>(ds,z)
theorem univ_len:univ.length=896:=by decide +kernel
theorem mem_upto:∀ (n:Nat) (a z:Int),a<=z->z < a+n->z∈upto a n
  | 0,a,z,h1,h2=>absurd (Int.lt_of_le_of_lt h1 h2) (by rw [Int.natCast_zero,Int.add_zero];exact Int.lt_irrefl _)
  | n+1,a,z,h1,h2=>by
    by_cases q:z=a
    · rw [q];exact List.mem_cons_self ..
    · exact List.mem_cons_of_mem _ (mem_upto n (a+1) z (Int.lt_iff_le_and_ne.mpr ⟨h1,Ne.symm q⟩) (up1 h2))
structure LeftOk (m:Nat) (left:List Int):Prop where
  low:∀ z∈left,0<=z
  high:∀ z∈left,z < m
  rise:left.Pairwise (· < ·)
  few:left.length<=7
  m7:m<=7
theorem EntOk.univ {m i:Nat} {left:List Int} {e:Ent} (h:EntOk left i e) (lo:LeftOk m left):e.1∈univ:=by
  have:=lo.m7
  refine List.mem_flatMap.mpr ⟨e.1.1,mem_subs (rise_upto 7 0 _ h.rise fun d hd=>?_),List.mem_map.mpr ⟨e.1.2,mem_upto 7 0 _ ?_ ?_,rfl⟩⟩
  · exact ⟨lo.low d (h.sub d hd),Int.lt_of_lt_of_le (lo.high d (h.sub d hd)) (Int.ofNat_le.mpr this)⟩
  · exact lo.low _ (h.sub _ h.last)
  · exact Int.lt_of_lt_of_le (lo.high _ (h.sub _ h.last)) (Int.ofNat_le.mpr this)
theorem EntOk.le7 {m i:Nat} {left:List Int} {e:Ent} (h:EntOk left i e) (lo:LeftOk m left):i<=7:=by
  rw [<- h.len]
  exact Nat.le_trans (nodup_len (h.rise.imp fun q=>Int.ne_of_lt q) h.sub) lo.few
structure Shape (left:List Int) (j:Nat) (f lv:List Ent):Prop where
  lev:∀ e∈lv,EntOk left (j+1) e
  fnd:∀ e∈f,∃ i,i<=j/\EntOk left i e
  nodup:((f++lv).map (·.1)).Nodup
  first:f=[]->j=0
section
variable {m j:Nat} {left:List Int} {f lv:List Ent} (lo:LeftOk m left) (x:Shape left j f lv)
include lo x
omit lo in
theorem Shape.all:∀ e∈f++lv,∃ i,EntOk left i e:=fun e he=>by
  rcases List.mem_append.mp he with he | he
  · obtain ⟨i,_,q⟩:=x.fnd e he;exact ⟨i,q⟩
  · exact ⟨_,x.lev e he⟩
theorem Shape.size:f.length+lv.length<=896:=by
  have:=nodup_len (l:=(f++lv).map (·.1)) (u:=univ) x.nodup fun k hk=>by
    obtain ⟨e,he,rfl⟩:=List.mem_map.mp hk
    obtain ⟨i,q⟩:=x.all e he
    exact q.univ lo
  rw [univ_len,List.length_map,List.length_append] at this
  exact this
theorem Shape.levIn:LevIn m lv:=by
  have:=x.size lo
  have nd:=x.nodup
  rw [List.map_append,List.nodup_append] at nd
  refine ⟨fun e he=>lo.low _ ((x.lev e he).sub _ (x.lev e he).last),fun e he=>lo.high _ ((x.lev e he).sub _ (x.lev e he).last),fun e he=>?_,nd.2.1,by omega⟩
  rw [(x.lev e he).len]
  exact Nat.le_trans ((x.lev e he).le7 lo) (by decide)
theorem Shape.firstOk (hf:f=[]):firstOk (lv.map entV)=true:=by
  have h0:=x.first hf
  unfold Mine.firstOk
  rw [List.all_eq_true]
  intro y hy
  obtain ⟨e,he,rfl⟩:=List.mem_map.mp hy
  have q:=x.lev e he
  have hl:=q.len
  rw [h0] at hl
  obtain ⟨d,hd⟩:=List.length_eq_one_iff.mp hl
  have la:=q.last
  rw [hd,List.mem_singleton] at la
  have l1:=lo.low _ (q.sub _ q.last)
  have l2:=lo.high _ (q.sub _ q.last)
  have l3:=lo.m7
  show (decide (e.1.1=[e.1.2])&&(decide (0<=e.1.2)&&decide (e.1.2 < 7)))=true
  rw [hd,<- la]
  rw [decide_eq_true rfl,decide_eq_true l1,decide_eq_true (Int.lt_of_lt_of_le l2 (Int.ofNat_le.mpr l3):e.1.2 < 7)];rfl
theorem Shape.ends (hj:7<=j):lv=[]:=by
  cases lv with
  | nil=>rfl
  | cons e r=>exact absurd (Nat.le_trans (Nat.succ_le_succ hj) ((x.lev e (List.mem_cons_self ..)).le7 lo)) (by decide)
omit lo in
theorem Shape.next (w:Str) (l:Int) (qs:List Q4) (hne:lv≠[]):Shape left (j+1) (f++lv) (longerP w l qs left lv):=by
  have hl:=longer_ok (w:=w) (l:=l) (qs:=qs) x.lev
  refine ⟨hl,fun e he=>?_,?_,fun q=>absurd (List.append_eq_nil_iff.mp q).2 hne⟩
  · rcases List.mem_append.mp he with he | he
    · obtain ⟨i,hi,q⟩:=x.fnd e he;exact ⟨i,Nat.le_succ_of_le hi,q⟩
    · exact ⟨j+1,Nat.le_refl _,x.lev e he⟩
  · rw [List.map_append,List.nodup_append]
    refine ⟨x.nodup,longer_nodup,fun a ha b hb q=>?_⟩
    obtain ⟨e,he,rfl⟩:=List.mem_map.mp ha
    obtain ⟨e',he',rfl⟩:=List.mem_map.mp hb
    have h1:=(hl e' he').len
    rw [<- q] at h1
    rcases List.mem_append.mp he with he | he
    · obtain ⟨i,hi,r⟩:=x.fnd e he
      have:=r.len;omega
    · have:=(x.lev e he).len;omega
end
theorem merge_app:∀ (lv f:List Ent),((f++lv).map (·.1)).Nodup->tabMerge (f.map entV) (lv.map entV)=(f++lv).map entV
  | [],f,_=>by rw [List.append_nil];rfl
  | e::lv,f,nd=>by
    have q:tabMerge (f.map entV) ((e::lv).map entV)=tabMerge (tabPut (f.map entV) e.1 (valV e.2)) (lv.map entV):=rfl
    have hg:getE f e.1=Option.none:=by
      cases hg:getE f e.1 with
      | none=>rfl
      | some y =>
        rw [List.map_append,List.nodup_append] at nd
        exact absurd rfl (nd.2.2 e.1 (List.mem_map.mpr ⟨_,getE_some hg,rfl⟩) e.1 (List.mem_map.mpr ⟨e,List.mem_cons_self ..,rfl⟩))
    have e2:putE f e.1 e.2=f++[e]:=by unfold putE;rw [hg,if_neg (by simp)]
    have nd':(((f++[e])++lv).map (·.1)).Nodup:=by rw [List.append_assoc];exact nd
    rw [q,tabPut_of,e2,merge_app lv (f++[e]) nd',List.append_assoc];rfl
noncomputable def leftOf (m:Nat) (os:List Int):List Int:=((List.range m).map fun k:Nat=>(k:Int)).filter fun z=>!os.contains z
theorem left_ok {m:Nat} (os:List Int) (h7:m<=7):LeftOk m (leftOf m os):=by
  have mem:∀ z∈leftOf m os,0<=z/\z < m:=fun z hz=>by
    obtain ⟨k,hk,rfl⟩:=List.mem_map.mp (List.mem_filter.mp hz).1
    exact ⟨Int.natCast_nonneg k,Int.ofNat_lt.mpr (List.mem_range.mp hk)⟩
  refine ⟨fun z hz=>(mem z hz).1,fun z hz=>(mem z hz).2,?_,?_,h7⟩
  · refine List.Pairwise.filter _ (List.pairwise_map.mpr (List.pairwise_lt_range.imp fun q=>Int.ofNat_lt.mpr q))
  · refine Nat.le_trans (List.length_filter_le ..) ?_
    rw [List.length_map,List.length_range];exact h7
noncomputable def step1 (w:Str) (l:Int) (qs:List Q4) (p t:Int) (es:List Ent) (z:Int):List Ent:=match qs[z.toNat]? with
  | some q=>(match leavesI w l p t q with
    | some t'=>putE es ([z],z) (t',Option.none)
    | Option.none=>es)
  | Option.none=>es
noncomputable def firstP (w:Str) (l:Int) (qs:List Q4) (p t:Int) (left:List Int):List Ent:=left.foldl (step1 w l qs p t) []
theorem step1_cases (w:Str) (l:Int) (qs:List Q4) (p t:Int) (es:List Ent) (z:Int):step1 w l qs p t es z=es\/∃ q t',qs[z.toNat]?=some q/\leavesI w l p t q=some t'/\step1 w l qs p t es z=putE es ([z],z) (t',Option.none):=by
  unfold step1
  cases hq:qs[z.toNat]? with
  | none=>exact .inl rfl
  | some q =>
    dsimp only
    cases hv:leavesI w l p t q with
    | none=>exact .inl rfl
    | some t'=>exact .inr ⟨q,t',rfl,hv,rfl⟩
theorem len_step1 (w:Str) (l:Int) (qs:List Q4) (p t:Int) (es:List Ent) (z:Int):(step1 w l qs p t es z).length<=es.length+1:=by
  rcases step1_cases w l qs p t es z with q | ⟨_,_,_,_,q⟩
  · rw [q];exact Nat.le_succ _
  · rw [q];exact len_putE _ _ _
theorem first_shape (w:Str) (l:Int) (qs:List Q4) (p t:Int) (left:List Int):Shape left 0 [] (firstP w l qs p t left):=by
  have key:(∀ e∈firstP w l qs p t left,EntOk left 1 e)/\((firstP w l qs p t left).map (·.1)).Nodup:=by
    refine foldl_inv (I:=fun es:List Ent=>(∀ e∈es,EntOk left 1 e)/\(es.map (·.1)).Nodup) (b:=[]) ⟨(fun _ q=>nomatch q),List.nodup_nil⟩ fun es z hz ih=>?_
    rcases step1_cases w l qs p t es z with q | ⟨_,_,_,_,q⟩
    · rw [q];exact ih
    · rw [q]
      refine ⟨fun e he=>?_,nodup_putE ih.2⟩
      rcases mem_putE he with rfl | he
      · exact ⟨List.pairwise_singleton _ _,fun d hd=>by rw [List.mem_singleton.mp hd];exact hz,rfl,List.mem_singleton.mpr rfl⟩
      · exact ih.1 e he.1
  exact ⟨key.1,(fun _ q=>nomatch q),key.2,fun _=>rfl⟩
theorem first_has {w:Str} {l:Int} {qs:List Q4} {p t:Int} {left:List Int} {z t':Int} {q:Q4} (hz:z∈left) (hq:qs[z.toNat]?=some q) (hv:leavesI w l p t q=some t'):Has (firstP w l qs p t left) ([z],z) t':=by
  have one:∀ es,Has (step1 w l qs p t es z) ([z],z) t':=fun es=>by
    have e:step1 w l qs p t es z=putE es ([z],z) (t',Option.none):=by unfold step1;rw [hq];dsimp only;rw [hv]
    rw [e];exact ⟨_,put_mem _ _ _,Int.le_refl _⟩
  refine foldl_reach (I:=fun _:List Ent=>True) (P:=fun es=>Has es ([z],z) t') trivial (fun _ _ _ _=>trivial) (fun es a _ _ ih=>?_) hz fun es _=>one es
  by_cases ea:a=z
  · rw [ea];exact one es
  · rcases step1_cases w l qs p t es a with q | ⟨_,_,_,_,q⟩
    · rw [q];exact ih
    · rw [q]
      obtain ⟨x,hx,hl⟩:=ih
      exact ⟨x,mem_put_other hx fun r=>ea (Prod.mk.inj r).2.symm,hl⟩
section
variable {w:Str} {l h s:Int} {qs:List Q4} {d dn k kf:Nat} {H0:Hp} {left:List Int}
theorem while_tab (n:Nat) (x:DayAt w l h s qs d dn k H0) (hleft:H0[kf]?=some (.list (left.map .int))) (lo:LeftOk qs.length left) (P:Nat->List Ent->List Ent->Prop)
    (step:∀ j f lv,Shape left j f lv->P j f lv->lv≠[]->P (j+1) (f++lv) (longerP w l qs left lv)):∀ (fuel j:Nat) (f lv:List Ent) (ρ:Rho) (H:Hp) (kl ep epl:Nat),j<=7->8<=fuel+j->Kept H0 H ->
      H[H0.length]?=some (.tab (f.map entV) ep)->H[kl]?=some (.tab (lv.map entV) epl)->H0.length≠kl->ρ.lookup "day"=some (.ref d)->ρ.lookup "left"=some (.ref kf)->ρ.lookup "found"=some (.ref H0.length)->ρ.lookup "level"=some (.ref kl)->Shape left j f lv->P j f lv ->
      ∃ (ρ':Rho) (H':Hp) (f':List Ent) (j' ep':Nat),whileL (fun ρ H=>evT (G (n+3)) ρ (.cmp (.call "len" [(.var "level")]) .gt (.int 0)) H) (fun ρ H=>exSs (G (n+3)) (loopAt d_table.body 7) ρ H) fuel ρ H=.next ρ' H'/\ρ'.lookup "found"=some (.ref H0.length)/\Kept H0 H'/\H'[H0.length]?=some (.tab (f'.map entV) ep')/\Shape left j' f' []/\P j' f' []
  | 0,j,f,lv,ρ,H,kl,ep,epl,h7,h8,_,_,_,_,_,_,_,_,_,_=>absurd (Nat.le_trans h8 (by rw [Nat.zero_add];exact h7)) (by decide)
  | fuel+1,j,f,lv,ρ,H,kl,ep,epl,h7,h8,kp,hf,hl,hne,g1,g2,g3,g4,sh,pp=>by
    have e1:=len_tab hl
    have et:evT (G (n+3)) ρ (.cmp (.call "len" [(.var "level")]) .gt (.int 0)) H=.ok (decide ((0:Int) < (lv.map entV).length)) H:=by
      unfold evT
      rw [ev_cmp (ev_bi (G_hd _) (evs_one (ev_var g4)) e1) (ev_int 0) (cmp_gt _ _ _)];rfl
    rw [whileL,et]
    dsimp only
    by_cases hlne:lv=[]
    · subst hlne;exact ⟨ρ,H,f,j,ep,rfl,g3,kp,hf,sh,pp⟩
    · have hd:decide ((0:Int) < (lv.map entV).length)=true:=decide_eq_true (by rw [List.length_map];exact Int.ofNat_lt.mpr (List.length_pos_iff.mpr hlne))
      rw [hd,if_pos rfl]
      have hj:j < 7:=(Nat.lt_or_ge j 7).resolve_right fun q=>hlne (sh.ends lo q)
      have sz:=sh.size lo
      have e2:=upd_tab hf hl hne (by
        cases f with
        | nil=>exact .inr (sh.firstOk lo rfl)
        | cons a b=>exact .inl rfl) (by rw [List.length_map,List.length_map];omega)
      rw [merge_app lv f sh.nodup] at e2
      obtain ⟨ep1,hep1⟩:∃ ep1,ep1=tabMEp (f.map entV) (lv.map entV) ep:=⟨_,rfl⟩
      rw [<- hep1] at e2
      have lt:=(List.getElem?_eq_some_iff.mp hf).1
      have kp1:Kept H0 (H.set H0.length (.tab ((f++lv).map entV) ep1)):=kp.set (Nat.le_refl _) _
      have hf1:(H.set H0.length (O.tab ((f++lv).map entV) ep1))[H0.length]?=some (.tab ((f++lv).map entV) ep1):=by rw [List.getElem?_set_self lt]
      have hl1:(H.set H0.length (O.tab ((f++lv).map entV) ep1))[kl]?=some (.tab (lv.map entV) epl):=by rw [List.getElem?_set_ne hne];exact hl
      have len1:(H.set H0.length (O.tab ((f++lv).map entV) ep1)).length=H.length:=List.length_set
      generalize H.set H0.length (O.tab ((f++lv).map entV) ep1)=H1 at e2 kp1 hf1 hl1 len1
      obtain ⟨ep2,L,e3⟩:=c_longer n (x.kept kp1) hl1 (kp1 _ _ hleft) lo.low lo.high lo.few (sh.levIn lo)
      have kp2:=Kept.app H1 (.tab ((longerP w l qs left lv).map entV) ep2::L)
      have eb:Is (.next (setL "level" (.ref H1.length) ρ) (H1++.tab ((longerP w l qs left lv).map entV) ep2::L)) (exSs (G (n+3)) (loopAt d_table.body 7) ρ H):=by
        refine ss_expr (ev_meth (ev_var g3) (kind_tab hf) rfl (evs_one (ev_var g4)) e2) ?_
        refine ss_asg (ev_call (vs:=[.ref d,.ref kl,.ref kf]) (H1:=H1) (G_hd _) (evs_cons (ev_var g1) (evs_cons (ev_var g4) (evs_one (ev_var g2)))) rfl e3) ?_
        rfl
      unfold Is at eb
      rw [eb]
      exact while_tab n x hleft lo P step fuel (j+1) (f++lv) (longerP w l qs left lv) (setL "level" (.ref H1.length) ρ) _ H1.length ep1 ep2 hj (Nat.le_trans h8 (Nat.le_of_eq (by rw [Nat.add_assoc,Nat.add_comm 1]))) (kp1.trans kp2) (kp2 _ _ hf1) (get_tab _ _ _) (Nat.ne_of_lt (len1.symm▸lt)) (by repeat (first | assumption | with_reducible first | exact setL_self _ _ _ | refine setL_other (by decide) ?_)) (by repeat (first | assumption | with_reducible first | exact setL_self _ _ _ | refine setL_other (by decide) ?_)) (by repeat (first | assumption | with_reducible first | exact setL_self _ _ _ | refine setL_other (by decide) ?_)) (by repeat (first | assumption | with_reducible first | exact setL_self _ _ _ | refine setL_other (by decide) ?_)) (sh.next w l qs hlne) (step j f lv sh pp hlne)
end
theorem max_mono {a b c:Int} (h:a<=b):(if a < c then c else a)<=(if b < c then c else b):=by split <;> split <;> omega
theorem leaves_mono {w:Str} {l p t t':Int} {q:Q4} {r:Int} (h:leavesI w l p t q=some r) (ht:t'<=t):∃ r',leavesI w l p t' q=some r'/\r'<=r:=by
  have hm:begI w l p t' q<=begI w l p t q:=max_mono (Int.add_le_add_right ht _)
  unfold leavesI at h ⊢
  by_cases hb:q.2.2.1 < begI w l p t q
  · rw [if_pos hb] at h;cases h
  · rw [if_neg hb] at h
    cases h
    rw [if_neg (Int.not_lt.mpr (Int.le_trans hm (Int.not_lt.mp hb)))]
    exact ⟨_,rfl,Int.add_le_add_right hm _⟩
noncomputable def Made (w:Str) (l:Int) (qs:List Q4) (p t:Int) (e:Ent):Prop:=∃ (zs:List Int) (q:Q4),(zs++[e.1.2]).Perm e.1.1/\qs[e.1.2.toNat]?=some q/\behindI w l qs (zs++[e.1.2]) p t=some (q.1,e.2.1)
section
variable {w:Str} {l:Int} {qs:List Q4} {left:List Int} {p t:Int}
theorem behind_one {z t':Int} {q:Q4} (hq:qs[z.toNat]?=some q) (hv:leavesI w l p t q=some t'):behindI w l qs [z] p t=some (q.1,t'):=by
  rw [behind_cons,hq,Option.bind_some,hv];rfl
theorem behind_one_inv {z:Int} {x:Int×Int} (h:behindI w l qs [z] p t=some x):∃ q,qs[z.toNat]?=some q/\leavesI w l p t q=some x.2/\x.1=q.1:=by
  obtain ⟨q,hq,h⟩:=Option.bind_eq_some_iff.mp ((behind_cons w l qs z [] p t).symm.trans h)
  obtain ⟨t2,hv,h⟩:=Option.bind_eq_some_iff.mp h
  cases h
  exact ⟨q,hq,hv,rfl⟩
theorem behind_last {a:List Int} {z:Int} {x:Int×Int} (h:behindI w l qs (a++[z]) p t=some x):∃ y q,behindI w l qs a p t=some y/\qs[z.toNat]?=some q/\leavesI w l y.1 y.2 q=some x.2/\x.1=q.1:=by
  rw [behind_app] at h
  obtain ⟨y,e,h⟩:=Option.bind_eq_some_iff.mp h
  obtain ⟨q,e1,e2,e3⟩:=behind_one_inv h
  exact ⟨y,q,e,e1,e2,e3⟩
theorem first_made {e:Ent} (h:e∈firstP w l qs p t left):Made w l qs p t e:=by
  have key:∀ e∈firstP w l qs p t left,Made w l qs p t e:=by
    refine foldl_inv (I:=fun es:List Ent=>∀ e∈es,Made w l qs p t e) (b:=[]) (fun _ q=>nomatch q) fun es z hz ih=>?_
    rcases step1_cases w l qs p t es z with q | ⟨q,t',hq,hv,r⟩
    · rw [q];exact ih
    · rw [r]
      intro e he
      rcases mem_putE he with rfl | he
      · exact ⟨[],q,List.Perm.refl _,hq,behind_one hq hv⟩
      · exact ih e he.1
  exact key e h
theorem longer_made {lev:List Ent} (h:∀ e∈lev,Made w l qs p t e) {e':Ent} (he':e'∈longerP w l qs left lev):Made w l qs p t e':=by
  obtain ⟨e,he,z,hz,t',hn,hv,rfl⟩:=longer_mem he'
  obtain ⟨zs,q,pm,hq,hb⟩:=h e he
  unfold nextT at hv
  rw [hq] at hv
  dsimp only at hv
  cases hq2:qs[z.toNat]? with
  | none=>rw [hq2] at hv;cases hv
  | some q2 =>
    rw [hq2] at hv
    dsimp only at hv
    refine ⟨zs++[e.1.2],q2,?_,hq2,?_⟩
    · exact (pm.append_right [z]).trans (ins_perm e.1.1 z).symm
    · show behindI w l qs ((zs++[e.1.2])++[z]) p t=some (q2.1,t')
      rw [behind_app,hb]
      exact behind_one hq2 hv
structure Full2 (w:Str) (l:Int) (qs:List Q4) (left:List Int) (p t:Int) (f g:List Ent):Prop where
  first:∀ z∈left,∀ q t',qs[z.toNat]?=some q->leavesI w l p t q=some t'->Has g ([z],z) t'
  next:∀ e∈f,∀ z∈left,z∉e.1.1->∀ t',nextT w l qs e z=some t'->Has g (ins e.1.1 z,z) t'
  made:∀ e∈g,Made w l qs p t e
theorem has_all {f:List Ent} (c1:∀ z∈left,∀ q t',qs[z.toNat]?=some q->leavesI w l p t q=some t'->Has f ([z],z) t') (c2:∀ e∈f,∀ z∈left,z∉e.1.1->∀ t',nextT w l qs e z=some t'->Has f (ins e.1.1 z,z) t') :
    ∀ (n:Nat) (zs:List Int) (z:Int) (x:Int×Int),zs.length=n->(zs++[z]).Nodup->(∀ y∈zs++[z],y∈left)->behindI w l qs (zs++[z]) p t=some x->∃ ds,ds.Perm (zs++[z])/\Has f (ds,z) x.2
  | 0,zs,z,x,hn,nd,hl,hb=>by
    have:zs=[]:=List.length_eq_zero_iff.mp hn
    subst this
    obtain ⟨q,e1,e2,_⟩:=behind_one_inv hb
    exact ⟨[z],List.Perm.refl _,c1 z (hl z (List.mem_singleton.mpr rfl)) q _ e1 e2⟩
  | n+1,zs,z,x,hn,nd,hl,hb=>by
    rcases nil_or_snoc zs with rfl | ⟨zs',y,rfl⟩
    · cases hn
    · obtain ⟨x1,q,hb1,hq,hv,_⟩:=behind_last hb
      have nd1:=List.nodup_append.mp nd
      obtain ⟨ds,pm,x',hx,hle⟩:=has_all c1 c2 n zs' y x1 (by rw [List.length_append] at hn;exact Nat.succ.inj hn) nd1.1 (fun u hu=>hl u (List.mem_append.mpr (.inl hu))) hb1
      obtain ⟨_,qy,_,hqy,_,hp⟩:=behind_last hb1
      rw [hp] at hv
      obtain ⟨r,hr,hrl⟩:=leaves_mono hv hle
      have hn2:z∉ds:=fun q=>nd1.2.2 z (pm.mem_iff.mp q) z (List.mem_singleton.mpr rfl) rfl
      obtain ⟨x2,hx2,hle2⟩:=c2 ((ds,y),x') hx z (hl z (List.mem_append.mpr (.inr (List.mem_singleton.mpr rfl)))) hn2 r (by unfold nextT;rw [hqy];dsimp only;rw [hq];exact hr)
      exact ⟨ins ds z,(ins_perm ds z).trans (pm.append_right [z]),x2,hx2,Int.le_trans hle2 hrl⟩
end
theorem rise_eq:∀ {a b:List Int},a.Pairwise (· < ·)->b.Pairwise (· < ·)->a.Perm b->a=b
  | [],b,_,_,pm=>(List.nil_perm.mp pm).symm
  | x::a,[],_,_,pm=>nomatch List.perm_nil.mp pm
  | x::a,y::b,ha,hb,pm=>by
    obtain ⟨ha1,ha2⟩:=List.pairwise_cons.mp ha
    obtain ⟨hb1,hb2⟩:=List.pairwise_cons.mp hb
    have e:x=y:=by
      have h1:x∈y::b:=pm.mem_iff.mp (List.mem_cons_self ..)
      have h2:y∈x::a:=pm.mem_iff.mpr (List.mem_cons_self ..)
      rcases List.mem_cons.mp h1 with h1 | h1
      · exact h1
      · rcases List.mem_cons.mp h2 with h2 | h2
        · exact h2.symm
        · have:=hb1 x h1;have:=ha1 y h2;omega
    subst e
    rw [rise_eq ha2 hb2 ((List.perm_cons x).mp pm)]
noncomputable def endOf (w:Str) (l h s:Int) (qs:List Q4) (os:List Int):Option Int:=(behindI w l qs os h s).map fun x=>x.2+apartI w l x.1 h
structure Least (w:Str) (l h s:Int) (qs:List Q4) (os:List Int) (r:Option Int):Prop where
  made:∀ g,r=some g->∃ zs,zs.Perm (leftOf qs.length os)/\endOf w l h s qs (os++zs)=some g
  low:∀ zs e,zs.Perm (leftOf qs.length os)->endOf w l h s qs (os++zs)=some e->∃ g,r=some g/\g<=e
theorem mem_left {m:Nat} {os:List Int} {z:Int}:z∈leftOf m os ↔ (0<=z/\z < m)/\z∉os:=by
  unfold leftOf
  rw [List.mem_filter,List.mem_map]
  have hc:(!os.contains z)=true ↔ z∉os:=by rw [Bool.not_eq_true',<- Bool.not_eq_true,List.contains_iff_mem]
  rw [hc]
  refine and_congr_left fun _=>⟨?_,fun h=>⟨z.toNat,List.mem_range.mpr ((Int.toNat_lt h.1).mpr h.2),Int.toNat_of_nonneg h.1⟩⟩
  rintro ⟨k,hk,rfl⟩
  exact ⟨Int.natCast_nonneg _,Int.ofNat_lt.mpr (List.mem_range.mp hk)⟩
theorem left_rise (m:Nat) (os:List Int):(leftOf m os).Pairwise (· < ·) :=
  List.Pairwise.filter _ (List.pairwise_map.mpr (List.pairwise_lt_range.imp fun q=>Int.ofNat_lt.mpr q))
theorem left_nodup (m:Nat) (os:List Int):(leftOf m os).Nodup:=(left_rise m os).imp fun q=>Int.ne_of_lt q
theorem left_cons {m:Nat} {os:List Int} {z:Int} (hz:z∈leftOf m os):(z::leftOf m (os++[z])).Perm (leftOf m os):=by
  have hn:z∉leftOf m (os++[z]):=fun q=>(mem_left.mp q).2 (by simp)
  refine (List.perm_ext_iff_of_nodup (List.nodup_cons.mpr ⟨hn,left_nodup _ _⟩) (left_nodup _ _)).mpr fun a=>?_
  rw [List.mem_cons,mem_left,mem_left]
  have hz':=mem_left.mp hz
  constructor
  · rintro (rfl | ⟨h1,h2⟩)
    · exact hz'
    · exact ⟨h1,fun q=>h2 (List.mem_append.mpr (.inl q))⟩
  · rintro ⟨h1,h2⟩
    by_cases e:a=z
    · exact .inl e
    · exact .inr ⟨h1,fun q=>(List.mem_append.mp q).elim h2 fun q=>e (List.mem_singleton.mp q)⟩
section
variable {w:Str} {l h s:Int} {qs:List Q4} {os:List Int}
theorem Least.one {r r':Option Int} (a:Least w l h s qs os r) (b:Least w l h s qs os r'):r=r':=by
  cases r with
  | none =>
    cases r' with
    | none=>rfl
    | some g =>
      obtain ⟨zs,pm,e⟩:=b.made g rfl
      obtain ⟨_,q,_⟩:=a.low zs g pm e
      cases q
  | some g =>
    obtain ⟨zs,pm,e⟩:=a.made g rfl
    obtain ⟨g',rfl,h1⟩:=b.low zs g pm e
    obtain ⟨zs',pm',e'⟩:=b.made g' rfl
    obtain ⟨g2,q,h2⟩:=a.low zs' g' pm' e'
    cases q
    have:g=g':=by omega
    rw [this]
theorem Least.mono {g v z:Int} (a:Least w l h s qs os (some g)) (hz:z∈leftOf qs.length os) (b:Least w l h s qs (os++[z]) (some v)):g<=v:=by
  obtain ⟨zs,pm,e⟩:=b.made v rfl
  rw [List.append_assoc] at e
  obtain ⟨g',q,hl⟩:=a.low ([z]++zs) v ((pm.cons z).trans (left_cons hz)) e
  cases q;exact hl
theorem Least.step {g:Int} (a:Least w l h s qs os (some g)) (hne:leftOf qs.length os≠[]):∃ z∈leftOf qs.length os,∀ r,Least w l h s qs (os++[z]) r->r=some g:=by
  obtain ⟨zs,pm,e⟩:=a.made g rfl
  cases zs with
  | nil=>exact absurd (List.nil_perm.mp pm) hne
  | cons z zs =>
    have hz:z∈leftOf qs.length os:=pm.mem_iff.mp (List.mem_cons_self ..)
    refine ⟨z,hz,fun r b=>?_⟩
    have pm2:zs.Perm (leftOf qs.length (os++[z])):=(List.perm_cons z).mp (pm.trans (left_cons hz).symm)
    obtain ⟨v,rfl,hv⟩:=b.low zs g pm2 (by rw [List.append_assoc];exact e)
    have:=a.mono hz b
    have:v=g:=by omega
    rw [this]
theorem end_app {zs:List Int} {p t:Int} (hb:behindI w l qs os h s=some (p,t)):endOf w l h s qs (os++zs)=(behindI w l qs zs p t).map fun x=>x.2+apartI w l x.1 h:=by
  unfold endOf;rw [behind_app,hb];rfl
theorem least_none (hb:behindI w l qs os h s=Option.none):Least w l h s qs os Option.none :=
  ⟨fun _ q=>(by cases q),fun zs e _ q=>by unfold endOf at q;rw [behind_app,hb] at q;cases q⟩
theorem least_full (hl:leftOf qs.length os=[]):Least w l h s qs os (endOf w l h s qs os) :=
  ⟨fun g q=>⟨[],by rw [hl],by rw [List.append_nil];exact q⟩,fun zs e pm q=>by
    rw [hl] at pm
    rw [List.perm_nil.mp pm,List.append_nil] at q
    exact ⟨e,q,Int.le_refl _⟩⟩
noncomputable def less (a:Option Int) (t:Int):Option Int:=match a with
  | Option.none=>some t
  | some g=>if t < g then some t else some g
noncomputable def stepM (w:Str) (l h:Int) (qs:List Q4) (f:List Ent) (left:List Int) (a:Option Int) (z:Int):Option Int:=match getE f (left,z) with
  | some x=>(match qs[z.toNat]? with
    | some q=>less a (x.1+apartI w l q.1 h)
    | Option.none=>a)
  | Option.none=>a
noncomputable def minP (w:Str) (l h:Int) (qs:List Q4) (f:List Ent) (left:List Int):Option Int:=left.foldl (stepM w l h qs f left) Option.none
theorem less_le (a:Option Int) (t:Int):∃ g,less a t=some g/\g<=t:=by
  unfold less
  cases a with
  | none=>exact ⟨t,rfl,Int.le_refl _⟩
  | some g =>
    dsimp only
    split
    · exact ⟨t,rfl,Int.le_refl _⟩
    · exact ⟨g,rfl,by omega⟩
theorem less_le' {a:Option Int} {b t:Int} (h:∃ g,a=some g/\g<=b):∃ g,less a t=some g/\g<=b:=by
  obtain ⟨g,rfl,hl⟩:=h
  unfold less
  dsimp only
  split
  · exact ⟨t,rfl,by omega⟩
  · exact ⟨g,rfl,hl⟩
theorem less_cases {a:Option Int} {t g:Int} (h:less a t=some g):g=t\/a=some g:=by
  unfold less at h
  cases a with
  | none=>cases h;exact .inl rfl
  | some g' =>
    dsimp only at h
    split at h
    · cases h;exact .inl rfl
    · exact .inr h
theorem minP_from {f:List Ent} {left:List Int} {g:Int} (hg:minP w l h qs f left=some g):∃ z∈left,∃ x q,getE f (left,z)=some x/\qs[z.toNat]?=some q/\g=x.1+apartI w l q.1 h:=by
  have key:∀ g,minP w l h qs f left=some g->∃ z∈left,∃ x q,getE f (left,z)=some x/\qs[z.toNat]?=some q/\g=x.1+apartI w l q.1 h:=by
    refine foldl_inv (I:=fun a:Option Int=>∀ g,a=some g->∃ z∈left,∃ x q,getE f (left,z)=some x/\qs[z.toNat]?=some q/\g=x.1+apartI w l q.1 h) (fun _ q=>by cases q) fun a z hz ih g hg=>?_
    unfold stepM at hg
    cases hx:getE f (left,z) with
    | none=>rw [hx] at hg;exact ih g hg
    | some x =>
      rw [hx] at hg
      dsimp only at hg
      cases hq:qs[z.toNat]? with
      | none=>rw [hq] at hg;exact ih g hg
      | some q =>
        rw [hq] at hg
        dsimp only at hg
        rcases less_cases hg with e | e
        · exact ⟨z,hz,x,q,hx,hq,e⟩
        · exact ih g e
  exact key g hg
theorem minP_le {f:List Ent} {left:List Int} {z:Int} {x:Int×Option Int} {q:Q4} (hz:z∈left) (hx:getE f (left,z)=some x) (hq:qs[z.toNat]?=some q):∃ g,minP w l h qs f left=some g/\g<=x.1+apartI w l q.1 h:=by
  refine foldl_reach (I:=fun _:Option Int=>True) (P:=fun a=>∃ g,a=some g/\g<=x.1+apartI w l q.1 h) (x:=z) trivial (fun _ _ _ _=>trivial) (fun a z' _ _ ih=>?_) hz fun a _=>?_
  · unfold stepM
    cases getE f (left,z') with
    | none=>exact ih
    | some x' =>
      dsimp only
      cases qs[z'.toNat]? with
      | none=>exact ih
      | some q'=>exact less_le' ih
  · unfold stepM
    rw [hx]
    dsimp only
    rw [hq]
    exact less_le _ _
theorem least_table {p t:Int} {f:List Ent} {j:Nat} (hb:behindI w l qs os h s=some (p,t)) (sh:Shape (leftOf qs.length os) j f []) (c:Full2 w l qs (leftOf qs.length os) p t f f) (hne:leftOf qs.length os≠[]) :
    Least w l h s qs os (minP w l h qs f (leftOf qs.length os)):=by
  have nd:=sh.nodup
  rw [List.append_nil] at nd
  refine ⟨fun g hg=>?_,fun zs e pm he=>?_⟩
  · obtain ⟨z,hz,x,q,hx,hq,rfl⟩:=minP_from hg
    obtain ⟨zs,q',pm,hq',hb'⟩:=c.made _ (getE_some hx)
    dsimp only at pm hq' hb'
    rw [hq] at hq';cases hq'
    exact ⟨zs++[z],pm,by rw [end_app hb,hb'];rfl⟩
  · rcases nil_or_snoc zs with rfl | ⟨zs',z,rfl⟩
    · exact absurd (List.nil_perm.mp pm) hne
    · rw [end_app hb] at he
      obtain ⟨x',hb',rfl⟩:=Option.map_eq_some_iff.mp he
      have mem:∀ y∈zs'++[z],y∈leftOf qs.length os:=fun y hy=>pm.mem_iff.mp hy
      obtain ⟨ds,pd,x,hx,hle⟩:=has_all c.first c.next zs'.length zs' z x' rfl (pm.nodup_iff.mpr (left_nodup _ _)) mem hb'
      obtain ⟨i,_,oe⟩:=sh.fnd _ hx
      have hds:ds=leftOf qs.length os:=rise_eq oe.rise (left_rise _ _) (pd.trans pm)
      rw [hds] at hx
      have hz:=mem z (List.mem_append.mpr (.inr (List.mem_singleton.mpr rfl)))
      obtain ⟨_,q,_,hq,_,hp⟩:=behind_last hb'
      obtain ⟨g,hg,hgl⟩:=minP_le (w:=w) (l:=l) (h:=h) hz (getE_mem hx nd) hq
      refine ⟨g,hg,?_⟩
      rw [hp]
      exact Int.le_trans hgl (Int.add_le_add_right hle _)
end
section
variable {w:Str} {l h s:Int} {qs:List Q4} {d dn k:Nat} {H:Hp}
noncomputable def rowV (w:Str) (l p t:Int) (q:Q4):V:=.tup [.int (t+apartI w l p q.1),.int (begI w l p t q),.int (begI w l p t q+q.2.2.2)]
noncomputable def rowsI (w:Str) (l:Int) (qs:List Q4):List Int->Int->Int->List V
  | [],_,_=>[]
  | z::r,p,t=>match qs[z.toNat]? with
    | some q=>rowV w l p t q::rowsI w l qs r q.1 (begI w l p t q+q.2.2.2)
    | Option.none=>[]
theorem leaves_is {w:Str} {l p t t':Int} {q:Q4} (h:leavesI w l p t q=some t'):t'=begI w l p t q+q.2.2.2:=by
  unfold leavesI at h
  split at h
  · cases h
  · cases h;rfl
theorem rows_snoc {w:Str} {l:Int} {qs:List Q4} {z:Int} {q:Q4} (hq:qs[z.toNat]?=some q):∀ (a:List Int) (p t p' t':Int),behindI w l qs a p t=some (p',t')->rowsI w l qs (a++[z]) p t=rowsI w l qs a p t++[rowV w l p' t' q]
  | [],p,t,p',t',e=>by
    cases e
    show (match qs[z.toNat]? with | some q=>_ | Option.none=>_)=_
    rw [hq];rfl
  | y::a,p,t,p',t',e=>by
    have ih:=rows_snoc (w:=w) (l:=l) hq a
    rw [behind_cons] at e
    obtain ⟨u,hu,e⟩:=Option.bind_eq_some_iff.mp e
    obtain ⟨t1,h1,e⟩:=Option.bind_eq_some_iff.mp e
    show (match qs[y.toNat]? with | some q=>_ | Option.none=>_)=(match qs[y.toNat]? with | some q=>_ | Option.none=>_)++_
    rw [hu]
    dsimp only
    rw [leaves_is h1] at e
    exact congrArg (_::·) (ih _ _ _ _ e)
noncomputable def RowsOk (w:Str) (l h s:Int) (qs:List Q4) (a:List Int) (p t:Int) (rows:List V):Prop :=
  rows=rowsI w l qs a h s/\rows.length=a.length/\∀ a' z,a=a'++[z]->∃ (q:Q4) (c b:V) (rs:List V),qs[z.toNat]?=some q/\p=q.1/\rows=rs++[.tup [c,b,.int t]]
noncomputable def TI (w:Str) (l h s:Int) (qs:List Q4) (os:List Int) (d:Nat) (K:Hp) (a b:List Int) (ρ:Rho) (H':Hp):Prop :=
  a++b=os/\∃ (p t:Int) (rows:List V),behindI w l qs a h s=some (p,t)/\H'=K++[.list rows]/\RowsOk w l h s qs a p t rows/\ρ.lookup "day"=some (.ref d)/\ρ.lookup "found"=some (.ref K.length)/\ρ.lookup "place"=some (.int p)/\ρ.lookup "time"=some (.int t)
noncomputable def TJ (w:Str) (l h s:Int) (qs:List Q4) (os:List Int) (K:Hp) (r:RS):Prop:=behindI w l qs os h s=Option.none/\∃ ρ rows,r=.raise "Missed" ρ (K++[.list rows])
theorem behind_snoc {w:Str} {l p t p' t':Int} {qs:List Q4} {a:List Int} {z:Int} {q:Q4} (e:behindI w l qs a p t=some (p',t')) (hq:qs[z.toNat]?=some q) (b:List Int) :
    behindI w l qs (a++z::b) p t=(leavesI w l p' t' q).bind fun t2=>behindI w l qs b q.1 t2:=by
  rw [behind_app,e]
  show behindI w l qs (z::b) p' t'=_
  rw [behind_cons,hq];rfl
theorem tt_turn (n:Nat) {K:Hp} (x:DayAt w l h s qs d dn k K) {os:List Int} (ok:Ord qs.length os) (a:List Int) (z:Int) (b:List Int) (ρ:Rho) (H':Hp) (i:TI w l h s qs os d K a (z::b) ρ H') :
    Turns (TI w l h s qs os d K (a++[z]) b) (exSs (G (n+1)) (loopAt d_timetable.body 4) (setL "number" (.int z) ρ) H')\/TJ w l h s qs os K (exSs (G (n+1)) (loopAt d_timetable.body 4) (setL "number" (.int z) ρ) H'):=by
  obtain ⟨rfl,p,t,rows,eb,rfl,ro,g1,g2,g3,g4⟩:=i
  have hz:z∈a++z::b:=by simp
  obtain ⟨q,hq⟩:=some_of_lt (ok.low z hz) (ok.high z hz)
  have y:=x.ext (ext_app K [.list rows])
  have e1:=y.stops
  have e2:=stop_at y.list (ok.low z hz) hq
  have e3:=y.road
  have e4:=c_apart n w l p q.1 (K++[.list rows])
  have e5:=c_served n w l p t q (K++[.list rows])
  have e6:bin .add (.int t) (.int (apartI w l p q.1)) (K++[.list rows])=.ok (.int (t+apartI w l p q.1)) (K++[.list rows]):=rfl
  have sn:=behind_snoc eb hq
  unfold servedV at e5
  unfold leavesI at sn
  by_cases hb:q.2.2.1 < begI w l p t q
  · right
    rw [if_pos hb] at e5
    simp only [if_pos hb] at sn
    refine ss_asg (by repeat (first | with_reducible (first | assumption | exact setL_self _ _ _ | refine setL_other (by decide) ?_ | exact ev_int _ | exact ev_none | exact ev_bool _ | exact evs_nil | apply evs_cons | apply ev_var | apply ev_tup | apply ev_attr | apply ev_idx | apply ev_not | apply ev_cmp | apply ev_bin2 | apply ev_isinst | apply ev_call (G_hd _) ?_ rfl | apply ev_bi (G_hd _)) | rfl)) ?_
    refine ss_asg (by repeat (first | with_reducible (first | assumption | exact setL_self _ _ _ | refine setL_other (by decide) ?_ | exact ev_int _ | exact ev_none | exact ev_bool _ | exact evs_nil | apply evs_cons | apply ev_var | apply ev_tup | apply ev_attr | apply ev_idx | apply ev_not | apply ev_cmp | apply ev_bin2 | apply ev_isinst | apply ev_call (G_hd _) ?_ rfl | apply ev_bi (G_hd _)) | rfl)) ?_
    refine ss_asg (by repeat (first | with_reducible (first | assumption | exact setL_self _ _ _ | refine setL_other (by decide) ?_ | exact ev_int _ | exact ev_none | exact ev_bool _ | exact evs_nil | apply evs_cons | apply ev_var | apply ev_tup | apply ev_attr | apply ev_idx | apply ev_not | apply ev_cmp | apply ev_bin2 | apply ev_isinst | apply ev_call (G_hd _) ?_ rfl | apply ev_bi (G_hd _)) | rfl)) ?_
    refine ss_if (ev_cmp (ev_var (setL_self _ _ _)) ev_none (is_none _ _)) ?_
    exact ss_raise (G_hd _) ⟨sn b,_,_,rfl⟩
  · left
    rw [if_neg hb] at e5
    simp only [if_neg hb] at sn
    have la:rows.length < line:=by
      have:=ok.few
      rw [List.length_append] at this
      rw [ro.2.1];unfold line;omega
    have e7:=m_append (v:=.tup [.int (t+apartI w l p q.1),.int (begI w l p t q),.int (begI w l p t q+q.2.2.2)]) (len_app1 K (.list rows)) la
    rw [set_app1] at e7
    refine ss_asg (by repeat (first | with_reducible (first | assumption | exact setL_self _ _ _ | refine setL_other (by decide) ?_ | exact ev_int _ | exact ev_none | exact ev_bool _ | exact evs_nil | apply evs_cons | apply ev_var | apply ev_tup | apply ev_attr | apply ev_idx | apply ev_not | apply ev_cmp | apply ev_bin2 | apply ev_isinst | apply ev_call (G_hd _) ?_ rfl | apply ev_bi (G_hd _)) | rfl)) ?_
    refine ss_asg (by repeat (first | with_reducible (first | assumption | exact setL_self _ _ _ | refine setL_other (by decide) ?_ | exact ev_int _ | exact ev_none | exact ev_bool _ | exact evs_nil | apply evs_cons | apply ev_var | apply ev_tup | apply ev_attr | apply ev_idx | apply ev_not | apply ev_cmp | apply ev_bin2 | apply ev_isinst | apply ev_call (G_hd _) ?_ rfl | apply ev_bi (G_hd _)) | rfl)) ?_
    refine ss_asg (by repeat (first | with_reducible (first | assumption | exact setL_self _ _ _ | refine setL_other (by decide) ?_ | exact ev_int _ | exact ev_none | exact ev_bool _ | exact evs_nil | apply evs_cons | apply ev_var | apply ev_tup | apply ev_attr | apply ev_idx | apply ev_not | apply ev_cmp | apply ev_bin2 | apply ev_isinst | apply ev_call (G_hd _) ?_ rfl | apply ev_bi (G_hd _)) | rfl)) ?_
    refine ss_if (ev_cmp (ev_var (setL_self _ _ _)) ev_none (is_none _ _)) ?_
    refine ss_unpack (G_hd _) (ev_var (setL_self _ _ _)) rfl rfl ?_
    refine ss_expr (ev_meth (w:=.ref K.length) (H1:=K++[.list rows]) (vs:=[.tup [.int (t+apartI w l p q.1),.int (begI w l p t q),.int (begI w l p t q+q.2.2.2)]]) (by repeat (first | with_reducible (first | assumption | exact setL_self _ _ _ | refine setL_other (by decide) ?_ | exact ev_int _ | exact ev_none | exact ev_bool _ | exact evs_nil | apply evs_cons | apply ev_var | apply ev_tup | apply ev_attr | apply ev_idx | apply ev_not | apply ev_cmp | apply ev_bin2 | apply ev_isinst | apply ev_call (G_hd _) ?_ rfl | apply ev_bi (G_hd _)) | rfl)) (kind_list (len_app1 _ _)) rfl (by repeat (first | with_reducible (first | assumption | exact setL_self _ _ _ | refine setL_other (by decide) ?_ | exact ev_int _ | exact ev_none | exact ev_bool _ | exact evs_nil | apply evs_cons | apply ev_var | apply ev_tup | apply ev_attr | apply ev_idx | apply ev_not | apply ev_cmp | apply ev_bin2 | apply ev_isinst | apply ev_call (G_hd _) ?_ rfl | apply ev_bi (G_hd _)) | rfl)) e7) ?_
    have e8:index (tupQ q) (.int 0) (K++[.list (rows++[.tup [.int (t+apartI w l p q.1),.int (begI w l p t q),.int (begI w l p t q+q.2.2.2)]])])=.ok (.int q.1) _:=rfl
    refine ss_asg (by repeat (first | with_reducible (first | assumption | exact setL_self _ _ _ | refine setL_other (by decide) ?_ | exact ev_int _ | exact ev_none | exact ev_bool _ | exact evs_nil | apply evs_cons | apply ev_var | apply ev_tup | apply ev_attr | apply ev_idx | apply ev_not | apply ev_cmp | apply ev_bin2 | apply ev_isinst | apply ev_call (G_hd _) ?_ rfl | apply ev_bi (G_hd _)) | rfl)) ?_
    refine ss_asg (by repeat (first | with_reducible (first | assumption | exact setL_self _ _ _ | refine setL_other (by decide) ?_ | exact ev_int _ | exact ev_none | exact ev_bool _ | exact evs_nil | apply evs_cons | apply ev_var | apply ev_tup | apply ev_attr | apply ev_idx | apply ev_not | apply ev_cmp | apply ev_bin2 | apply ev_isinst | apply ev_call (G_hd _) ?_ rfl | apply ev_bi (G_hd _)) | rfl)) ?_
    refine Turns.here ⟨by simp,q.1,begI w l p t q+q.2.2.2,_,sn [],rfl,⟨by rw [rows_snoc hq a h s p t eb,<- ro.1];rfl,by simp [ro.2.1],fun a' z' ha=>?_⟩,(by repeat (first | assumption | with_reducible first | exact setL_self _ _ _ | refine setL_other (by decide) ?_)),(by repeat (first | assumption | with_reducible first | exact setL_self _ _ _ | refine setL_other (by decide) ?_)),(by repeat (first | assumption | with_reducible first | exact setL_self _ _ _ | refine setL_other (by decide) ?_)),(by repeat (first | assumption | with_reducible first | exact setL_self _ _ _ | refine setL_other (by decide) ?_))⟩
    obtain ⟨rfl,hzz⟩:=List.append_inj' ha rfl
    cases hzz
    exact ⟨q,_,_,rows,hq,rfl,rfl⟩
noncomputable def BadAns (m:Nat) (os:List Int) (H:Hp) (r:R V):Prop:=¬ Ord m os/\∃ H',r=.raise "BadOrder" H'/\Kept H H'
noncomputable def TimeAns (w:Str) (l h s:Int) (qs:List Q4) (os:List Int) (H:Hp) (r:R V):Prop :=
  BadAns qs.length os H r\/(Ord qs.length os/\behindI w l qs os h s=Option.none/\∃ H',r=.raise "Missed" H'/\Kept H H') \/
  ∃ p t rows k H',Ord qs.length os/\behindI w l qs os h s=some (p,t)/\r=.ok (.ref k) H'/\Kept H H'/\H.length<=k/\H'[k]?=some (.list rows)/\RowsOk w l h s qs os p t rows
theorem c_time (n:Nat) (x:DayAt w l h s qs d dn k H) {o:Nat} {os:List Int} (ho:H[o]?=some (.list (os.map .int))) (few:os.length<=100):TimeAns w l h s qs os H ((G (n+3)).call "timetable" [.ref d,.ref o] H):=by
  rw [G_call (d:=d_timetable) (by kernel_rfl)]
  refine runDef_P (ρ:=[("day",.ref d),("order",.ref o)]) (P:=TimeAns w l h s qs os H) rfl ?_
  rcases c_need n x ho few with ⟨ok,e0⟩ | ⟨no,H',e0,kp⟩
  · have y:=x.ext (ext_app H [.keys os])
    have z:=y.ext (ext_app (H++[.keys os]) [.list []])
    have e1:=z.home
    have e2:=z.start
    have ho2:((H++[O.keys os])++[O.list []])[o]?=some (.list (os.map .int)):=(ext_app _ _).get ((ext_app _ _).get ho)
    refine ss_expr (ev_call (H1:=H) (G_hd _) (evs_cons (ev_var rfl) (evs_one (ev_var rfl))) rfl e0) ?_
    refine ss_asg (ev_list evs_nil) ?_
    refine ss_asg (v:=.int h) (ev_attr (ev_var rfl) e1) ?_
    refine ss_asg (v:=.int s) (ev_attr (ev_var rfl) e2) ?_
    have lp:=forL_or V.int (fun v ρ1 H2=>exSs (G (n+2)) (loopAt d_timetable.body 4) (setL "number" v ρ1) H2) (sameO (.ref o) ((H++[.keys os])++[.list []])) (TI w l h s qs os d (H++[.keys os])) (TJ w l h s qs os (H++[.keys os]))
      (fun r ⟨_,_,_,e⟩=>by rw [e];exact ⟨rfl,fun _=>rfl⟩) (fun a b ρ H' i=>by obtain ⟨_,_,_,_,_,rfl,_⟩:=i;exact same_list ho2 ((ext_app _ _).get ((ext_app _ _).get ho))) (tt_turn (n+1) y ok) os []
      (setL "time" (.int s) (setL "place" (.int h) (setL "found" (.ref (H++[O.keys os]).length) [("day",.ref d),("order",.ref o)]))) ((H++[.keys os])++[.list []]) ⟨rfl,h,s,[],rfl,rfl,⟨rfl,rfl,fun a' z q=>absurd (congrArg List.length q) (by rw [List.length_append];exact Nat.succ_ne_zero _ ∘ Eq.symm)⟩,rfl,rfl,rfl,rfl⟩
    refine ss_for (v:=.ref o) (r:=forL (fun v ρ1 H2=>exSs (G (n+2)) (loopAt d_timetable.body 4) (setL "number" v ρ1) H2) (sameO (.ref o) ((H++[.keys os])++[.list []])) (os.map .int) (setL "time" (.int s) (setL "place" (.int h) (setL "found" (.ref (H++[O.keys os]).length) [("day",.ref d),("order",.ref o)]))) ((H++[.keys os])++[.list []])) (G_hd _) rfl (items_list ho2) rfl ?_
    rcases lp with ⟨ρ',H',e,_,p,t,rows,eb,rfl,ro,g1,g2,g3,g4⟩ | ⟨eb,ρ',rows,e⟩
    · rw [e,RS.bind_next]
      refine ss_ret (ev_var g2) ?_
      exact .inr (.inr ⟨p,t,rows,_,_,ok,eb,rfl,(Kept.app _ _).trans (Kept.app _ _),by rw [List.length_append];exact Nat.le_add_right _ _,len_app1 _ _,ro⟩)
    · rw [e]
      exact .inr (.inl ⟨ok,eb,_,rfl,(Kept.app _ _).trans (Kept.app _ _)⟩)
  · exact ss_expr_raise (ev_call (H1:=H) (G_hd _) (evs_cons (ev_var rfl) (evs_one (ev_var rfl))) rfl e0) (.inl ⟨no,H',rfl,kp⟩)
theorem c_begun (n:Nat) (x:DayAt w l h s qs d dn k H) {o:Nat} {os:List Int} (ho:H[o]?=some (.list (os.map .int))) (ok:Ord qs.length os):∃ H',Kept H H'/\(G (n+4)).call "begun_at" [.ref d,.ref o] H=.ok (placeV (behindI w l qs os h s)) H':=by
  rw [G_call (d:=d_begun_at) (by kernel_rfl)]
  refine runDef_P (ρ:=[("day",.ref d),("begun",.ref o)]) (P:=fun r=>∃ H',Kept H H'/\r=.ok (placeV (behindI w l qs os h s)) H') rfl ?_
  have e0:=(c_need (n+1) x ho ok.few).elim (·.2) fun q=>absurd ok q.1
  have y:=x.ext (ext_app H [.keys os])
  have ho1:(H++[O.keys os])[o]?=some (.list (os.map .int)):=(ext_app _ _).get ho
  refine ss_expr (ev_call (H1:=H) (G_hd _) (evs_cons (ev_var rfl) (evs_one (ev_var rfl))) rfl e0) ?_
  rcases c_time n y ho1 ok.few with ⟨no,_⟩ | ⟨_,eb,H',e1,kp⟩ | ⟨p,t,rows,j,H',_,eb,e1,kp,_,hj,ro⟩
  · exact absurd ok no
  · have t1:Is (.raise "Missed" [("day",.ref d),("begun",.ref o)] H') (exSs (G (n+3)) [.asg "rows" (.call "timetable" [(.var "day"),(.var "begun")])] [("day",.ref d),("begun",.ref o)] (H++[.keys os])) :=
      ss_asg_raise (ev_call (vs:=[.ref d,.ref o]) (H1:=H++[.keys os]) (G_hd _) (evs_cons (ev_var rfl) (evs_one (ev_var rfl))) rfl e1) rfl
    refine ss_try (G_hd _) t1 ?_
    rw [eb]
    show Fin _ (RS.bind (exH { G (n+3) with hd:=true } "Missed" [("Missed",.none)] [("day",.ref d),("begun",.ref o)] H') _)
    rw [exH_here (by decide) ev_none]
    exact ⟨H',(Kept.app _ _).trans kp,rfl⟩
  · have t1:Is (.next (setL "rows" (.ref j) [("day",.ref d),("begun",.ref o)]) H') (exSs (G (n+3)) [.asg "rows" (.call "timetable" [(.var "day"),(.var "begun")])] [("day",.ref d),("begun",.ref o)] (H++[.keys os])) :=
      ss_asg (ev_call (vs:=[.ref d,.ref o]) (H1:=H++[.keys os]) (G_hd _) (evs_cons (ev_var rfl) (evs_one (ev_var rfl))) rfl e1) rfl
    refine ss_try (G_hd _) t1 ?_
    show Fin _ (exSs _ _ _ _)
    have z:=y.kept kp
    have ho2:=kp _ _ ho1
    have kp2:=(Kept.app H [.keys os]).trans kp
    have e2:=bi_len_ref ho2
    have e3:=z.home
    have e4:=z.start
    have e5:=z.stops
    have e6:=bi_len_ref hj
    have g1:List.lookup "day" (setL "rows" (.ref j) [("day",.ref d),("begun",.ref o)])=some (.ref d):=rfl
    have g2:List.lookup "begun" (setL "rows" (.ref j) [("day",.ref d),("begun",.ref o)])=some (.ref o):=rfl
    have g3:List.lookup "rows" (setL "rows" (.ref j) [("day",.ref d),("begun",.ref o)])=some (.ref j):=rfl
    rw [eb]
    refine ss_if (c:=((os.map V.int).length:Int)==0) (ev_cmp (ev_bi (G_hd _) (evs_one (ev_var g2)) e2) (ev_int _) (cmp_eq_int _ _ _)) ?_
    rcases nil_or_snoc os with hos | ⟨os',z',hos⟩
    · rw [hos] at eb ⊢
      cases eb
      exact ss_ret (v:=.tup [.int h,.int s]) (by repeat (first | with_reducible (first | assumption | exact setL_self _ _ _ | refine setL_other (by decide) ?_ | exact ev_int _ | exact ev_none | exact ev_bool _ | exact evs_nil | apply evs_cons | apply ev_var | apply ev_tup | apply ev_attr | apply ev_idx | apply ev_not | apply ev_cmp | apply ev_bin2 | apply ev_isinst | apply ev_call (G_hd _) ?_ rfl | apply ev_bi (G_hd _)) | rfl)) ⟨H',kp2,rfl⟩
    · obtain ⟨q,c,b,rs,hq,hp,hr⟩:=ro.2.2 os' z' hos
      rw [show (((os.map V.int).length:Int)==0)=false from by rw [hos];exact len_snoc _ _ _]
      have i1:=idx_last ho2 (xs:=os'.map V.int) (v:=.int z') (by rw [hos,List.map_append];rfl)
      have i2:=idx_last hj hr
      have i3:=stop_at z.list (ok.low z' (hos▸List.mem_append.mpr (.inr (List.mem_singleton.mpr rfl)))) hq
      rw [hp]
      exact ss_ret (v:=.tup [.int q.1,.int t]) (H1:=H') (ev_tup (evs_cons (ev_idx (ev_idx (ev_attr (ev_var g1) e5) (ev_idx (ev_var g2) (ev_sub (ev_bi (G_hd _) (evs_one (ev_var g2)) e2) (ev_int 1)) i1) i3) (ev_int 0) rfl) (evs_one (ev_idx (ev_idx (ev_var g3) (ev_sub (ev_bi (G_hd _) (evs_one (ev_var g3)) e6) (ev_int 1)) i2) (ev_int 2) rfl)))) ⟨H',kp2,rfl⟩
end
section
variable {w:Str} {l h s:Int} {qs:List Q4} {d dn k:Nat} {H:Hp}
theorem ev_leftL {n:Nat} {ρ:Rho} {H:Hp} {x b:String} {m:Nat} {o:Nat} {os:List Int} {itE:E} (hx:x≠b) (gb:ρ.lookup b=some (.ref o)) (ho:H[o]?=some (.list (os.map .int))) (hm:m<=100) (hit:evE (G n) ρ itE H=.ok (.int m) H) :
    evE (G n) ρ (.comp (.var x) x (.call "range" [itE]) (.var x) .notIn (.var b)) H=.ok (.ref H.length) (H++[.list ((leftOf m os).map .int)]):=by
  have e1:items H (.rng 0 m 1)=some (((List.range m).map fun k:Nat=>(k:Int)).map .int):=items_range hm
  refine ev_comp (G_hd _) (ev_bi (v:=.rng 0 m 1) (G_hd _) (evs_one hit) rfl) e1 (turns_filter V.int V.int (fun z=>!os.contains z) _ _ (sameO (.rng 0 m 1) H) H (fun _=>rfl) ((List.range m).map fun k:Nat=>(k:Int)) [] (fun z _ ys=>⟨?_,ev_var (lookup_here _ _ _)⟩) (by rw [List.length_map,List.length_range,List.length_nil,Nat.zero_add];exact Nat.le_trans hm (by decide)))
  exact ev_cmpR (ev_var (lookup_here _ _ _)) (ev_var (by rw [lookup_next (fun q=>hx q.symm)];exact gb)) (notin_list ((ext_app H [.list ys]).get ho) z)
noncomputable def FI (w:Str) (l:Int) (qs:List Q4) (p t:Int) (d kf:Nat) (H:Hp) (left a b:List Int) (ρ:Rho) (H':Hp):Prop :=
  a++b=left/\(∃ ep,H'=H++[.tab ((a.foldl (step1 w l qs p t) []).map entV) ep])/\(a.foldl (step1 w l qs p t) []).length<=a.length /\
  ρ.lookup "day"=some (.ref d)/\ρ.lookup "left"=some (.ref kf)/\ρ.lookup "level"=some (.ref H.length)/\ρ.lookup "place"=some (.int p)/\ρ.lookup "time"=some (.int t)
theorem first_turn (n:Nat) (x:DayAt w l h s qs d dn k H) {kf:Nat} {left:List Int} {p t:Int} (lo:LeftOk qs.length left) (a:List Int) (z:Int) (b:List Int) (ρ:Rho) (H':Hp) (i:FI w l qs p t d kf H left a (z::b) ρ H') :
    Turns (FI w l qs p t d kf H left (a++[z]) b) (exSs (G (n+2)) (loopAt d_table.body 5) (setL "number" (.int z) ρ) H'):=by
  obtain ⟨rfl,⟨ep,rfl⟩,ln,g1,g2,g3,g4,g5⟩:=i
  have fold:(a++[z]).foldl (step1 w l qs p t) []=step1 w l qs p t (a.foldl (step1 w l qs p t) []) z:=by rw [List.foldl_append];rfl
  have hz:z∈a++z::b:=by simp
  have la:=lo.few
  rw [List.length_append,List.length_cons] at la
  obtain ⟨q,hq⟩:=some_of_lt (lo.low z hz) (lo.high z hz)
  have key:∀ ρ' H2,ρ'.lookup "day"=some (.ref d)/\ρ'.lookup "left"=some (.ref kf)/\ρ'.lookup "level"=some (.ref H.length)/\ρ'.lookup "place"=some (.int p)/\ρ'.lookup "time"=some (.int t) ->
      (∃ ep,H2=H++[.tab ((step1 w l qs p t (a.foldl (step1 w l qs p t) []) z).map entV) ep])->FI w l qs p t d kf H (a++z::b) (a++[z]) b ρ' H2:=fun ρ' H2 g hh=>by
    unfold FI
    rw [fold]
    refine ⟨by simp,hh,?_,g⟩
    have:=len_step1 w l qs p t (a.foldl (step1 w l qs p t) []) z
    rw [List.length_append,List.length_singleton];exact Nat.le_trans this (Nat.succ_le_succ ln)
  have fe:∀ es,step1 w l qs p t es z=match leavesI w l p t q with | some t'=>putE es ([z],z) (t',Option.none) | Option.none=>es:=fun es=>by
    unfold step1;rw [hq] <;> rfl
  rw [fe] at key
  clear fe fold
  generalize a.foldl (step1 w l qs p t) []=es at ln key ⊢
  have y:=x.ext (ext_app H [.tab (es.map entV) ep])
  have c5:=c_left n y (lo.low z hz) hq p t
  refine ss_asg (by repeat (first | with_reducible (first | assumption | exact setL_self _ _ _ | refine setL_other (by decide) ?_ | exact ev_int _ | exact ev_none | exact ev_bool _ | exact evs_nil | apply evs_cons | apply ev_var | apply ev_tup | apply ev_attr | apply ev_idx | apply ev_not | apply ev_cmp | apply ev_bin2 | apply ev_isinst | apply ev_call (G_hd _) ?_ rfl | apply ev_bi (G_hd _)) | rfl)) ?_
  refine ss_if (ev_cmp (ev_var (setL_self _ _ _)) ev_none (isnt_none _ _)) ?_
  cases hv:leavesI w l p t q with
  | none =>
    rw [hv] at key
    exact Turns.here (key _ _ ⟨(by repeat (first | assumption | with_reducible first | exact setL_self _ _ _ | refine setL_other (by decide) ?_)),(by repeat (first | assumption | with_reducible first | exact setL_self _ _ _ | refine setL_other (by decide) ?_)),(by repeat (first | assumption | with_reducible first | exact setL_self _ _ _ | refine setL_other (by decide) ?_)),(by repeat (first | assumption | with_reducible first | exact setL_self _ _ _ | refine setL_other (by decide) ?_)),(by repeat (first | assumption | with_reducible first | exact setL_self _ _ _ | refine setL_other (by decide) ?_))⟩ ⟨ep,rfl⟩)
  | some t' =>
    rw [hv] at key
    dsimp only at key
    have e2:=setK_tab (len_app1 H (.tab (es.map entV) ep)) ([z],z) (valV (t',Option.none)) (by rw [List.length_map];exact Nat.lt_of_le_of_lt (Nat.le_trans ln (Nat.le_trans (Nat.le_add_right _ _) la)) (by decide))
    rw [tabPut_of,set_app1] at e2
    show Turns _ (exSs _ (S.setidx _ _ _::_) (setL "leaves" (.int t') (setL "number" (.int z) ρ)) _)
    exact ss_setidx (v:=.tup [.int t',.none]) (w:=.ref H.length) (k:=keyV ([z],z)) (ev_tup (evs_cons (ev_var (by repeat (first | assumption | with_reducible first | exact setL_self _ _ _ | refine setL_other (by decide) ?_))) (evs_one ev_none))) (ev_var (by repeat (first | assumption | with_reducible first | exact setL_self _ _ _ | refine setL_other (by decide) ?_))) (ev_tup (evs_cons (ev_tup (evs_one (ev_var (by repeat (first | assumption | with_reducible first | exact setL_self _ _ _ | refine setL_other (by decide) ?_))))) (evs_one (ev_var (by repeat (first | assumption | with_reducible first | exact setL_self _ _ _ | refine setL_other (by decide) ?_)))))) e2 (Turns.here (key _ _ ⟨(by repeat (first | assumption | with_reducible first | exact setL_self _ _ _ | refine setL_other (by decide) ?_)),(by repeat (first | assumption | with_reducible first | exact setL_self _ _ _ | refine setL_other (by decide) ?_)),(by repeat (first | assumption | with_reducible first | exact setL_self _ _ _ | refine setL_other (by decide) ?_)),(by repeat (first | assumption | with_reducible first | exact setL_self _ _ _ | refine setL_other (by decide) ?_)),(by repeat (first | assumption | with_reducible first | exact setL_self _ _ _ | refine setL_other (by decide) ?_))⟩ ⟨_,rfl⟩))
theorem begun_bad (n:Nat) (x:DayAt w l h s qs d dn k H) {o:Nat} {os:List Int} (ho:H[o]?=some (.list (os.map .int))) (few:os.length<=100) (no:¬ Ord qs.length os):BadAns qs.length os H ((G (n+4)).call "begun_at" [.ref d,.ref o] H):=by
  rw [G_call (d:=d_begun_at) (by kernel_rfl)]
  refine runDef_P (ρ:=[("day",.ref d),("begun",.ref o)]) (P:=BadAns qs.length os H) rfl ?_
  rcases c_need (n+1) x ho few with ⟨ok,_⟩ | ⟨_,H',e0,kp⟩
  · exact absurd ok no
  · exact ss_expr_raise (ev_call (H1:=H) (G_hd _) (evs_cons (ev_var rfl) (evs_one (ev_var rfl))) rfl e0) ⟨no,H',rfl,kp⟩
theorem table_bad (n:Nat) (x:DayAt w l h s qs d dn k H) {o:Nat} {os:List Int} (ho:H[o]?=some (.list (os.map .int))) (few:os.length<=100) (no:¬ Ord qs.length os):BadAns qs.length os H ((G (n+5)).call "table" [.ref d,.ref o] H):=by
  rw [G_call (d:=d_table) (by kernel_rfl)]
  refine runDef_P (ρ:=[("day",.ref d),("begun",.ref o)]) (P:=BadAns qs.length os H) rfl ?_
  obtain ⟨_,H',e0,kp⟩:=begun_bad n x ho few no
  exact ss_asg_raise (ev_call (H1:=H) (G_hd _) (evs_cons (ev_var rfl) (evs_one (ev_var rfl))) rfl e0) ⟨no,H',rfl,kp⟩
theorem least_bad (n:Nat) (x:DayAt w l h s qs d dn k H) {o:Nat} {os:List Int} (ho:H[o]?=some (.list (os.map .int))) (few:os.length<=100) (no:¬ Ord qs.length os):BadAns qs.length os H ((G (n+5)).call "least" [.ref d,.ref o] H):=by
  rw [G_call (d:=d_least) (by kernel_rfl)]
  refine runDef_P (ρ:=[("day",.ref d),("begun",.ref o)]) (P:=BadAns qs.length os H) rfl ?_
  obtain ⟨_,H',e0,kp⟩:=begun_bad n x ho few no
  exact ss_if_raise (by rw [evE_cmp,cmpV,ev_call (H1:=H) (G_hd _) (evs_cons (ev_var rfl) (evs_one (ev_var rfl))) rfl e0];rfl) ⟨no,H',rfl,kp⟩
noncomputable def TabAns (w:Str) (l h s:Int) (qs:List Q4) (os:List Int) (H:Hp) (P:Int->Int->Nat->List Ent->List Ent->Prop) (r:R V):Prop :=
  ∃ (k:Nat) (H':Hp),r=.ok (.ref k) H'/\Kept H H'/\H.length<=k/\match behindI w l qs os h s with
    | Option.none=>H'[k]?=some (.tab [] 0)
    | some x=>∃ (f:List Ent) (j ep:Nat),H'[k]?=some (.tab (f.map entV) ep)/\Shape (leftOf qs.length os) j f []/\P x.1 x.2 j f []
theorem c_table (n:Nat) (x:DayAt w l h s qs d dn k H) {o:Nat} {os:List Int} (ho:H[o]?=some (.list (os.map .int))) (ok:Ord qs.length os) (h7:qs.length<=7) (P:Int->Int->Nat->List Ent->List Ent->Prop)
    (p0:∀ p t,P p t 0 [] (firstP w l qs p t (leftOf qs.length os))) (step:∀ p t j f lv,Shape (leftOf qs.length os) j f lv->P p t j f lv->lv≠[]->P p t (j+1) (f++lv) (longerP w l qs (leftOf qs.length os) lv)) :
    TabAns w l h s qs os H P ((G (n+5)).call "table" [.ref d,.ref o] H):=by
  rw [G_call (d:=d_table) (by kernel_rfl)]
  refine runDef_P (ρ:=[("day",.ref d),("begun",.ref o)]) (P:=TabAns w l h s qs os H P) rfl ?_
  obtain ⟨H1,kp1,e1⟩:=c_begun n x ho ok
  have lo:=left_ok os h7
  refine ss_asg (ev_call (vs:=[.ref d,.ref o]) (H1:=H) (G_hd _) (evs_cons (ev_var rfl) (evs_one (ev_var rfl))) rfl e1) ?_
  refine ss_if (ev_cmp (ev_var (setL_self _ _ _)) ev_none (is_none _ _)) ?_
  cases hb:behindI w l qs os h s with
  | none =>
    refine ss_ret (v:=.ref H1.length) (H1:=H1++[.tab [] 0]) rfl ⟨_,_,rfl,kp1.trans (Kept.app _ _),kp1.len,?_⟩
    rw [hb];exact len_app1 _ _
  | some pt =>
    obtain ⟨p,t⟩:=pt
    have y:=x.kept kp1
    have ho1:=kp1 _ _ ho
    have c1:=y.stops
    have c2:=bi_len_ref y.list
    rw [List.length_map] at c2
    show Fin _ (exSs _ (S.unpack _ _::_) _ _)
    refine ss_unpack (v:=.tup [.int p,.int t]) (G_hd _) (ev_var (setL_self _ _ _)) rfl rfl ?_
    refine ss_asg (ev_leftL (os:=os) (m:=qs.length) (by decide) rfl ho1 (by omega) (ev_bi (G_hd _) (evs_one (ev_attr (ev_var rfl) c1)) c2)) ?_
    generalize hH2:H1++[O.list ((leftOf qs.length os).map .int)]=H2
    have kp2:Kept H1 H2:=by rw [<- hH2];exact Kept.app _ _
    have hl2:H2[H1.length]?=some (.list ((leftOf qs.length os).map .int)):=by rw [<- hH2];exact len_app1 _ _
    have y2:=y.kept kp2
    refine ss_asg (v:=.ref H2.length) (H1:=H2++[.tab [] 0]) rfl ?_
    have hl3:=Kept.app H2 [.tab [] 0] _ _ hl2
    generalize hρ:setL "level" (.ref H2.length) (setL "left" (.ref H1.length) (setL "time" (.int t) (setL "place" (.int p) (setL "here" (placeV (some (p,t))) [("day",.ref d),("begun",.ref o)]))))=ρ
    obtain ⟨ρ',H',er,⟨_,⟨ep,rfl⟩,_,k1,k2,k3,k4,k5⟩⟩:=forL_all V.int (fun v ρ1 H2=>exSs (G (n+4)) (loopAt d_table.body 5) (setL "number" v ρ1) H2) (sameO (.ref H1.length) (H2++[.tab [] 0])) (FI w l qs p t d H1.length H2 (leftOf qs.length os))
      (fun a b ρ H' i=>by obtain ⟨_,⟨ep,rfl⟩,_⟩:=i;exact same_list hl3 (Kept.app _ _ _ _ hl2)) (first_turn (n+2) y2 lo) (leftOf qs.length os)
      ρ (H2++[.tab [] 0]) ⟨rfl,⟨0,rfl⟩,Nat.le_refl _,by rw [<- hρ];rfl,by rw [<- hρ];rfl,by rw [<- hρ];rfl,by rw [<- hρ];rfl,by rw [<- hρ];rfl⟩
    refine ss_for (v:=.ref H1.length) (G_hd _) (ev_var (by rw [<- hρ];rfl)) (items_list hl3) er ?_
    generalize hH3:H2++[O.tab ((List.foldl (step1 w l qs p t) [] (leftOf qs.length os)).map entV) ep]=H3
    have kp3:Kept H2 H3:=by rw [<- hH3];exact Kept.app _ _
    have hv3:H3[H2.length]?=some (.tab ((firstP w l qs p t (leftOf qs.length os)).map entV) ep):=by rw [<- hH3];exact len_app1 _ _
    have len3:H3.length=H2.length+1:=by rw [<- hH3,List.length_append,List.length_singleton]
    rw [RS.bind_next]
    refine ss_asg (v:=.ref H3.length) (H1:=H3++[.tab [] 0]) rfl ?_
    obtain ⟨ρ2,H4,f,j,ep',ew,g1,kp4,hf,sh,pf⟩:=while_tab (n+1) (y2.kept kp3) (kp3 _ _ hl2) lo (P p t) (step p t) 64 0 [] (firstP w l qs p t (leftOf qs.length os)) (setL "found" (.ref H3.length) ρ') (H3++[.tab [] 0]) H2.length 0 ep (by omega) (by omega) (Kept.app _ _) (len_app1 _ _) (Kept.app _ _ _ _ hv3) (by omega) (by repeat (first | assumption | with_reducible first | exact setL_self _ _ _ | refine setL_other (by decide) ?_)) (by repeat (first | assumption | with_reducible first | exact setL_self _ _ _ | refine setL_other (by decide) ?_)) (by repeat (first | assumption | with_reducible first | exact setL_self _ _ _ | refine setL_other (by decide) ?_)) (by repeat (first | assumption | with_reducible first | exact setL_self _ _ _ | refine setL_other (by decide) ?_)) (first_shape ..) (p0 p t)
    refine ss_while (G_hd _) ew ?_
    rw [RS.bind_next]
    refine ss_ret (ev_var g1) ⟨_,_,rfl,kp1.trans (kp2.trans (kp3.trans kp4)),(kp1.trans (kp2.trans kp3)).len,?_⟩
    rw [hb]
    exact ⟨f,j,ep',hf,sh,pf⟩
end
section
variable {w:Str} {l:Int} {qs:List Q4} {left:List Int} {p t:Int}
noncomputable def levs (w:Str) (l:Int) (qs:List Q4) (left:List Int) (p t:Int):Nat->List Ent×List Ent
  | 0=>([],firstP w l qs p t left)
  | j+1=>((levs w l qs left p t j).1++(levs w l qs left p t j).2,longerP w l qs left (levs w l qs left p t j).2)
theorem levs_end {j:Nat} {f:List Ent} (h:levs w l qs left p t j=(f,[])):∀ i,levs w l qs left p t (j+i)=(f,[])
  | 0=>h
  | i+1=>by
    have e:levs w l qs left p t (j+(i+1))=((levs w l qs left p t (j+i)).1++(levs w l qs left p t (j+i)).2,longerP w l qs left (levs w l qs left p t (j+i)).2):=rfl
    rw [e,levs_end h i]
    exact congrArg (·,[]) (List.append_nil f)
theorem levs_one {i j:Nat} {f g:List Ent} (h:levs w l qs left p t i=(f,[])) (h2:levs w l qs left p t j=(g,[])):f=g:=by
  rcases Nat.le_total i j with q | q
  · obtain ⟨k,rfl⟩:=Nat.exists_eq_add_of_le q
    exact congrArg Prod.fst ((levs_end h k).symm.trans h2)
  · obtain ⟨k,rfl⟩:=Nat.exists_eq_add_of_le q
    exact congrArg Prod.fst (h.symm.trans (levs_end h2 k))
end
theorem apart_self {w:Str} {l h:Int} (hl:1<=l):apartI w l h h=0:=by
  unfold apartI
  have e:((h - h).natAbs:Int)=0:=by rw [Int.sub_self];rfl
  rw [e]
  split
  · rfl
  · rw [if_neg (Int.not_lt.mpr (by rw [Int.sub_zero];exact Int.le_trans (by decide) hl))]
section
variable {w:Str} {l h s:Int} {qs:List Q4} {d dn k:Nat} {H:Hp}
noncomputable def EndAns (w:Str) (l h s:Int) (qs:List Q4) (os:List Int) (H:Hp) (r:R V):Prop :=
  BadAns qs.length os H r\/(Ord qs.length os/\behindI w l qs os h s=Option.none/\∃ H',r=.raise "Missed" H'/\Kept H H')\/∃ p t H',Ord qs.length os/\behindI w l qs os h s=some (p,t)/\r=.ok (.int (t+apartI w l p h)) H'/\Kept H H'
theorem c_ends (n:Nat) (hl:1<=l) (x:DayAt w l h s qs d dn k H) {o:Nat} {os:List Int} (ho:H[o]?=some (.list (os.map .int))) (few:os.length<=100):EndAns w l h s qs os H ((G (n+4)).call "ends" [.ref d,.ref o] H):=by
  rw [G_call (d:=d_ends) (by kernel_rfl)]
  refine runDef_P (ρ:=[("day",.ref d),("order",.ref o)]) (P:=EndAns w l h s qs os H) rfl ?_
  rcases c_time n x ho few with ⟨no,H',e1,kp⟩ | ⟨ok,eb,H',e1,kp⟩ | ⟨p,t,rows,j,H',ok,hb,e1,kp,_,hj,ro⟩
  · exact ss_asg_raise (ev_call (vs:=[.ref d,.ref o]) (H1:=H) (G_hd _) (evs_cons (ev_var rfl) (evs_one (ev_var rfl))) rfl e1) (.inl ⟨no,H',rfl,kp⟩)
  · exact ss_asg_raise (ev_call (vs:=[.ref d,.ref o]) (H1:=H) (G_hd _) (evs_cons (ev_var rfl) (evs_one (ev_var rfl))) rfl e1) (.inr (.inl ⟨ok,eb,H',rfl,kp⟩))
  · refine ss_asg (ev_call (vs:=[.ref d,.ref o]) (H1:=H) (G_hd _) (evs_cons (ev_var rfl) (evs_one (ev_var rfl))) rfl e1) ?_
    have z:=x.kept kp
    have ho2:=kp _ _ ho
    have e2:=bi_len_ref ho2
    have e3:=z.home
    have e4:=z.start
    have e5:=z.stops
    have e6:=bi_len_ref hj
    have e7:=z.road
    have g1:List.lookup "day" (setL "rows" (.ref j) [("day",.ref d),("order",.ref o)])=some (.ref d):=rfl
    have g2:List.lookup "order" (setL "rows" (.ref j) [("day",.ref d),("order",.ref o)])=some (.ref o):=rfl
    have g3:List.lookup "rows" (setL "rows" (.ref j) [("day",.ref d),("order",.ref o)])=some (.ref j):=rfl
    refine ss_if (c:=((os.map V.int).length:Int)==0) (ev_cmp (ev_bi (G_hd _) (evs_one (ev_var g2)) e2) (ev_int _) (cmp_eq_int _ _ _)) ?_
    rcases nil_or_snoc os with hos | ⟨os',z',hos⟩
    · rw [hos] at hb ok ⊢
      have hb':=hb
      cases hb
      refine ss_ret (v:=.int s) (by repeat (first | with_reducible (first | assumption | exact setL_self _ _ _ | refine setL_other (by decide) ?_ | exact ev_int _ | exact ev_none | exact ev_bool _ | exact evs_nil | apply evs_cons | apply ev_var | apply ev_tup | apply ev_attr | apply ev_idx | apply ev_not | apply ev_cmp | apply ev_bin2 | apply ev_isinst | apply ev_call (G_hd _) ?_ rfl | apply ev_bi (G_hd _)) | rfl)) (.inr (.inr ⟨h,s,H',ok,hb',?_,kp⟩))
      rw [apart_self hl,Int.add_zero];rfl
    · obtain ⟨q,c,b,rs,hq,hp,hr⟩:=ro.2.2 os' z' hos
      rw [show (((os.map V.int).length:Int)==0)=false from by rw [hos];exact len_snoc _ _ _]
      have i1:=idx_last ho2 (xs:=os'.map V.int) (v:=.int z') (by rw [hos,List.map_append];rfl)
      have i2:=idx_last hj hr
      have i3:=stop_at z.list (ok.low z' (hos▸List.mem_append.mpr (.inr (List.mem_singleton.mpr rfl)))) hq
      have a1:=c_apart (n+2) w l q.1 h H'
      show Fin _ (exSs _ (S.asg _ _::_) _ _)
      refine ss_asg (v:=tupQ q) (H1:=H') (ev_idx (ev_attr (ev_var g1) e5) (ev_idx (ev_var g2) (ev_sub (ev_bi (G_hd _) (evs_one (ev_var g2)) e2) (ev_int 1)) i1) i3) ?_
      exact ss_ret (H1:=H') (ev_add (ev_idx (ev_idx (ev_var (setL_other (by decide) g3)) (ev_sub (ev_bi (G_hd _) (evs_one (ev_var (setL_other (by decide) g3))) e6) (ev_int 1)) i2) (ev_int 2) rfl) (ev_call (vs:=[.tup [.str w,.int l],.int q.1,.int h]) (H1:=H') (G_hd _) (evs_cons (ev_attr (ev_var (setL_other (by decide) g1)) e7) (evs_cons (ev_idx (ev_var (setL_self _ _ _)) (ev_int 0) rfl) (evs_one (ev_attr (ev_var (setL_other (by decide) g1)) e3)))) rfl a1)) (.inr (.inr ⟨p,t,H',ok,hb,by rw [hp];rfl,kp⟩))
theorem Has.app {f g:List Ent} {k:Key} {t:Int} (h:Has f k t):Has (f++g) k t:=let ⟨x,hx,hl⟩:=h;⟨x,List.mem_append.mpr (.inl hx),hl⟩
theorem Has.app' {f g:List Ent} {k:Key} {t:Int} (h:Has g k t):Has (f++g) k t:=let ⟨x,hx,hl⟩:=h;⟨x,List.mem_append.mpr (.inr hx),hl⟩
theorem pf_first (w:Str) (l:Int) (qs:List Q4) (left:List Int) (p t:Int):Full2 w l qs left p t [] ([]++firstP w l qs p t left) :=
  ⟨fun _ hz _ _ hq hv=>(first_has hz hq hv).app',(fun _ q=>nomatch q),fun e he=>first_made ((List.mem_append.mp he).resolve_left fun q=>nomatch q)⟩
theorem pf_next {left:List Int} {p t:Int} {f lv:List Ent} (c:Full2 w l qs left p t f (f++lv)):Full2 w l qs left p t (f++lv) ((f++lv)++longerP w l qs left lv) :=
  ⟨fun z hz q t' hq hv=>(c.first z hz q t' hq hv).app,fun e he z hz hn t' ht=>(List.mem_append.mp he).elim (fun he=>(c.next e he z hz hn t' ht).app) fun he=>(longer_has he hz hn ht).app',
    fun e he=>(List.mem_append.mp he).elim (c.made e) fun he=>longer_made (fun e he=>c.made e (List.mem_append.mpr (.inr he))) he⟩
noncomputable def PL (w:Str) (l:Int) (qs:List Q4) (left:List Int) (p t:Int) (j:Nat) (f lv:List Ent):Prop:=levs w l qs left p t j=(f,lv)/\Full2 w l qs left p t f (f++lv)
theorem c_table2 (n:Nat) (x:DayAt w l h s qs d dn k H) {o:Nat} {os:List Int} (ho:H[o]?=some (.list (os.map .int))) (ok:Ord qs.length os) (h7:qs.length<=7):TabAns w l h s qs os H (PL w l qs (leftOf qs.length os)) ((G (n+5)).call "table" [.ref d,.ref o] H) :=
  c_table n x ho ok h7 (PL w l qs (leftOf qs.length os)) (fun p t=>⟨rfl,pf_first w l qs _ p t⟩) fun p t j f lv _ c _=>⟨by show ((levs w l qs _ p t j).1++(levs w l qs _ p t j).2,longerP w l qs _ (levs w l qs _ p t j).2)=_;rw [c.1],pf_next c.2⟩
noncomputable def MI (w:Str) (l h:Int) (qs:List Q4) (f:List Ent) (left:List Int) (d kt:Nat) (H:Hp) (a b:List Int) (ρ:Rho) (H':Hp):Prop :=
  a++b=left/\H'=H/\ρ.lookup "day"=some (.ref d)/\ρ.lookup "rows"=some (.ref kt)/\ρ.lookup "left"=some (.tup (left.map .int))/\ρ.lookup "found"=some (optI (a.foldl (stepM w l h qs f left) Option.none))
theorem least_turn (n:Nat) (x:DayAt w l h s qs d dn k H) {kt ep:Nat} {f:List Ent} (hf:H[kt]?=some (.tab (f.map entV) ep)) {left:List Int} (lo:LeftOk qs.length left) (a:List Int) (z:Int) (b:List Int) (ρ:Rho) (H':Hp) (i:MI w l h qs f left d kt H a (z::b) ρ H') :
    Turns (MI w l h qs f left d kt H (a++[z]) b) (exSs (G (n+1)) (loopAt d_least.body 5) (setL "number" (.int z) ρ) H'):=by
  obtain ⟨rfl,rfl,g1,g2,g3,g4⟩:=i
  have fold:(a++[z]).foldl (stepM w l h qs f (a++z::b)) Option.none=stepM w l h qs f (a++z::b) (a.foldl (stepM w l h qs f (a++z::b)) Option.none) z:=by rw [List.foldl_append];rfl
  have hz:z∈a++z::b:=by simp
  obtain ⟨q,hq⟩:=some_of_lt (lo.low z hz) (lo.high z hz)
  have key:∀ ρ',ρ'.lookup "day"=some (.ref d)/\ρ'.lookup "rows"=some (.ref kt)/\ρ'.lookup "left"=some (.tup ((a++z::b).map .int))->ρ'.lookup "found"=some (optI (stepM w l h qs f (a++z::b) (a.foldl (stepM w l h qs f (a++z::b)) Option.none) z))->MI w l h qs f (a++z::b) d kt H' (a++[z]) b ρ' H':=fun ρ' g hh=>by
    unfold MI
    rw [fold]
    exact ⟨by simp,rfl,g.1,g.2.1,g.2.2,hh⟩
  have fe:∀ c,stepM w l h qs f (a++z::b) c z=match getE f (a++z::b,z) with | some x=>less c (x.1+apartI w l q.1 h) | Option.none=>c:=fun c=>by
    unfold stepM
    cases getE f (a++z::b,z) with
    | none=>rfl
    | some x=>dsimp only;rw [hq]
  rw [fe] at key
  clear fe fold
  generalize a.foldl (stepM w l h qs f (a++z::b)) Option.none=c at g4 key
  generalize a++z::b=left at lo hz g3 key ⊢
  have c1:=in_tab hf (left,z)
  rw [contains_iff_get] at c1
  refine ss_if (ev_cmp (u:=keyV (left,z)) (ev_tup (evs_cons (ev_var (by repeat (first | assumption | with_reducible first | exact setL_self _ _ _ | refine setL_other (by decide) ?_))) (evs_one (ev_var (by repeat (first | assumption | with_reducible first | exact setL_self _ _ _ | refine setL_other (by decide) ?_)))))) (ev_var (by repeat (first | assumption | with_reducible first | exact setL_self _ _ _ | refine setL_other (by decide) ?_))) c1) ?_
  cases hg:getE f (left,z) with
  | none =>
    rw [hg] at key
    exact Turns.here (key _ ⟨(by repeat (first | assumption | with_reducible first | exact setL_self _ _ _ | refine setL_other (by decide) ?_)),(by repeat (first | assumption | with_reducible first | exact setL_self _ _ _ | refine setL_other (by decide) ?_)),(by repeat (first | assumption | with_reducible first | exact setL_self _ _ _ | refine setL_other (by decide) ?_))⟩ (by repeat (first | assumption | with_reducible first | exact setL_self _ _ _ | refine setL_other (by decide) ?_)))
  | some y =>
    rw [hg] at key
    dsimp only at key
    have c2:index (.ref kt) (keyV (left,z)) H'=.ok (valV y) H':=idx_tab hf (by rw [tabGet_of,hg];rfl)
    have c3:index (valV y) (.int 0) H'=.ok (.int y.1) H':=rfl
    have e1:=x.stops
    have e2:=stop_at x.list (lo.low z hz) hq
    have e3:=x.road
    have e4:=x.home
    have e5:=c_apart n w l q.1 h H'
    have e6:=tq_0 q H'
    have e7:bin .add (.int y.1) (.int (apartI w l q.1 h)) H'=.ok (.int (y.1+apartI w l q.1 h)) H':=rfl
    show Turns _ (exSs _ (S.asg _ _::_) _ _)
    refine ss_asg (v:=.int (y.1+apartI w l q.1 h)) (H1:=H') (ev_bin2 (ev_idx (ev_idx (ev_var (by repeat (first | assumption | with_reducible first | exact setL_self _ _ _ | refine setL_other (by decide) ?_))) (ev_tup (evs_cons (ev_var (by repeat (first | assumption | with_reducible first | exact setL_self _ _ _ | refine setL_other (by decide) ?_))) (evs_one (ev_var (by repeat (first | assumption | with_reducible first | exact setL_self _ _ _ | refine setL_other (by decide) ?_)))))) c2) (ev_int 0) c3) (by repeat (first | with_reducible (first | assumption | exact setL_self _ _ _ | refine setL_other (by decide) ?_ | exact ev_int _ | exact ev_none | exact ev_bool _ | exact evs_nil | apply evs_cons | apply ev_var | apply ev_tup | apply ev_attr | apply ev_idx | apply ev_not | apply ev_cmp | apply ev_bin2 | apply ev_isinst | apply ev_call (G_hd _) ?_ rfl | apply ev_bi (G_hd _)) | rfl)) e7) ?_
    cases c with
    | none =>
      refine ss_if (c:=true) (H1:=H') (show evBo _ _ _ _ _=_ from ev_or (c:=true) (H1:=H') (ev_cmp (ev_var (by repeat (first | assumption | with_reducible first | exact setL_self _ _ _ | refine setL_other (by decide) ?_))) ev_none (is_none _ _)) rfl) ?_
      show Turns _ (exSs _ (S.asg _ _::_) _ _)
      exact ss_asg (ev_var (setL_self _ _ _)) (Turns.here (key _ ⟨(by repeat (first | assumption | with_reducible first | exact setL_self _ _ _ | refine setL_other (by decide) ?_)),(by repeat (first | assumption | with_reducible first | exact setL_self _ _ _ | refine setL_other (by decide) ?_)),(by repeat (first | assumption | with_reducible first | exact setL_self _ _ _ | refine setL_other (by decide) ?_))⟩ (setL_self _ _ _)))
    | some g =>
      have e8:=cmp_lt (y.1+apartI w l q.1 h) g H'
      refine ss_if (c:=decide (y.1+apartI w l q.1 h < g)) (H1:=H') (show evBo _ _ _ _ _=_ from ev_or (c:=false) (H1:=H') (ev_cmp (u:=.int g) (ev_var (by repeat (first | assumption | with_reducible first | exact setL_self _ _ _ | refine setL_other (by decide) ?_))) ev_none rfl) (show evE _ _ _ _=_ from ev_cmp (ev_var (setL_self _ _ _)) (ev_var (by repeat (first | assumption | with_reducible first | exact setL_self _ _ _ | refine setL_other (by decide) ?_))) e8)) ?_
      unfold less at key
      dsimp only at key
      by_cases hlt:y.1+apartI w l q.1 h < g
      · rw [decide_eq_true hlt]
        rw [if_pos hlt] at key
        show Turns _ (exSs _ (S.asg _ _::_) _ _)
        exact ss_asg (ev_var (setL_self _ _ _)) (Turns.here (key _ ⟨(by repeat (first | assumption | with_reducible first | exact setL_self _ _ _ | refine setL_other (by decide) ?_)),(by repeat (first | assumption | with_reducible first | exact setL_self _ _ _ | refine setL_other (by decide) ?_)),(by repeat (first | assumption | with_reducible first | exact setL_self _ _ _ | refine setL_other (by decide) ?_))⟩ (setL_self _ _ _)))
      · rw [decide_eq_false hlt]
        rw [if_neg hlt] at key
        exact Turns.here (key _ ⟨(by repeat (first | assumption | with_reducible first | exact setL_self _ _ _ | refine setL_other (by decide) ?_)),(by repeat (first | assumption | with_reducible first | exact setL_self _ _ _ | refine setL_other (by decide) ?_)),(by repeat (first | assumption | with_reducible first | exact setL_self _ _ _ | refine setL_other (by decide) ?_))⟩ (by repeat (first | assumption | with_reducible first | exact setL_self _ _ _ | refine setL_other (by decide) ?_)))
theorem c_least (n:Nat) (hl:1<=l) (x:DayAt w l h s qs d dn k H) {o:Nat} {os:List Int} (ho:H[o]?=some (.list (os.map .int))) (ok:Ord qs.length os) (h7:qs.length<=7) :
    ∃ r H',(G (n+6)).call "least" [.ref d,.ref o] H=.ok (optI r) H'/\Kept H H'/\Least w l h s qs os r:=by
  rw [G_call (d:=d_least) (by kernel_rfl)]
  refine runDef_P (ρ:=[("day",.ref d),("begun",.ref o)]) (P:=fun res=>∃ r H',res=.ok (optI r) H'/\Kept H H'/\Least w l h s qs os r) rfl ?_
  obtain ⟨H1,kp1,e1⟩:=c_begun (n+1) x ho ok
  have lo:=left_ok os h7
  refine ss_if (ev_cmp (ev_call (vs:=[.ref d,.ref o]) (H1:=H) (G_hd _) (evs_cons (ev_var rfl) (evs_one (ev_var rfl))) rfl e1) ev_none (is_none _ _)) ?_
  cases hb:behindI w l qs os h s with
  | none=>exact ss_ret ev_none ⟨Option.none,H1,rfl,kp1,least_none hb⟩
  | some pt =>
    obtain ⟨p,t⟩:=pt
    have y:=x.kept kp1
    have ho1:=kp1 _ _ ho
    have c1:=y.stops
    have c2:=bi_len_ref y.list
    rw [List.length_map] at c2
    show Fin _ (exSs _ (S.asg _ _::_) _ _)
    have el:=ev_leftL (n:=n+5) (ρ:=[("day",.ref d),("begun",.ref o)]) (x:="number") (b:="begun") (itE:=.call "len" [(.attr (.var "day") "stops")]) (os:=os) (m:=qs.length) (by decide) rfl ho1 (by omega) (ev_bi (G_hd _) (evs_one (ev_attr (ev_var rfl) c1)) c2)
    refine ss_asg (ev_bi (G_hd _) (evs_one el) (bi_tuple_ref (len_app1 H1 (.list ((leftOf qs.length os).map .int))))) ?_
    have kp2:=Kept.app H1 [.list ((leftOf qs.length os).map .int)]
    generalize H1++[O.list ((leftOf qs.length os).map .int)]=H2 at kp2 ⊢
    have k12:=kp1.trans kp2
    have b1:∀ H,builtin "len" [.tup ((leftOf qs.length os).map .int)] H=.ok (.int ((leftOf qs.length os).map V.int).length) H:=fun _=>rfl
    refine ss_if (c:=(((leftOf qs.length os).map V.int).length:Int)==0) (ev_cmp (ev_bi (G_hd _) (evs_one (ev_var (setL_self _ _ _))) (b1 _)) (ev_int _) (cmp_eq_int _ _ _)) ?_
    by_cases hne:leftOf qs.length os=[]
    · obtain ⟨H3,e2,kp3⟩:∃ H',(G (n+5)).call "ends" [.ref d,.ref o] H2=.ok (.int (t+apartI w l p h)) H'/\Kept H2 H':=by
        rcases c_ends (n+1) hl (x.kept k12) (k12 _ _ ho) ok.few with ⟨no,_⟩ | ⟨_,q,_⟩ | ⟨p',t',H3,_,q,e2,kp3⟩
        · exact absurd ok no
        · rw [hb] at q;cases q
        · rw [hb] at q;cases q;exact ⟨H3,e2,kp3⟩
      have ll:=least_full (w:=w) (l:=l) (h:=h) (s:=s) hne
      unfold endOf at ll
      rw [hb] at ll
      rw [hne]
      exact ss_ret (ev_call (vs:=[.ref d,.ref o]) (H1:=H2) (G_hd _) (evs_cons (ev_var rfl) (evs_one (ev_var rfl))) rfl e2) ⟨some (t+apartI w l p h),H3,rfl,k12.trans kp3,ll⟩
    · have hz:((((leftOf qs.length os).map V.int).length:Int)==0)=false:=by
        have:=List.length_pos_iff.mpr hne
        rw [beq_eq_false_iff_ne,List.length_map];omega
      rw [hz]
      obtain ⟨kt,H3,e2,kp3,_,ta⟩:=c_table2 n (x.kept k12) (k12 _ _ ho) ok h7
      rw [hb] at ta
      obtain ⟨f,j,ep,hf,sh,pf⟩:=ta
      have pf:=pf.2
      dsimp only at pf
      have k13:=k12.trans kp3
      have z:=x.kept k13
      show Fin _ (exSs _ (S.asg _ _::_) _ _)
      refine ss_asg (ev_call (vs:=[.ref d,.ref o]) (H1:=H2) (G_hd _) (evs_cons (ev_var rfl) (evs_one (ev_var rfl))) rfl e2) ?_
      refine ss_asg ev_none ?_
      obtain ⟨ρ',H',er,⟨_,rfl,_,_,_,g4⟩⟩:=forL_all V.int (fun v ρ1 H2=>exSs (G (n+5)) (loopAt d_least.body 5) (setL "number" v ρ1) H2) (sameO (.tup ((leftOf qs.length os).map .int)) H3) (MI w l h qs f (leftOf qs.length os) d kt H3)
        (fun _ _ _ _ _=>rfl) (least_turn (n+4) z hf lo) (leftOf qs.length os)
        (setL "found" .none (setL "rows" (.ref kt) (setL "left" (.tup ((leftOf qs.length os).map .int)) [("day",.ref d),("begun",.ref o)]))) H3 ⟨rfl,rfl,rfl,rfl,rfl,rfl⟩
      refine ss_for (v:=.tup ((leftOf qs.length os).map .int)) (G_hd _) (ev_var rfl) rfl er ?_
      rw [RS.bind_next]
      rw [List.append_nil] at pf
      exact ss_ret (ev_var g4) ⟨minP w l h qs f (leftOf qs.length os),H',rfl,k13,least_table hb sh pf hne⟩
end
theorem Ord.len {m:Nat} {os:List Int} (h:Ord m os):os.length<=m:=by
  have:=nodup_len (l:=os) (u:=(List.range m).map fun k:Nat=>(k:Int)) h.nodup fun z hz=>List.mem_map.mpr ⟨z.toNat,List.mem_range.mpr ((Int.toNat_lt (h.low z hz)).mpr (h.high z hz)),Int.toNat_of_nonneg (h.low z hz)⟩
  rwa [List.length_map,List.length_range] at this
theorem Ord.snoc {m:Nat} {os:List Int} (h:Ord m os) (hm:m<=7) {z:Int} (hz:z∈leftOf m os):Ord m (os++[z]):=by
  obtain ⟨⟨z0,z1⟩,zn⟩:=mem_left.mp hz
  have:=h.len
  refine ⟨fun y hy=>?_,fun y hy=>?_,List.nodup_append.mpr ⟨h.nodup,List.nodup_cons.mpr ⟨List.not_mem_nil,List.nodup_nil⟩,fun a ha b hb=>by rw [List.mem_singleton] at hb;rw [hb];exact fun q=>zn (q▸ha)⟩,by rw [List.length_append,List.length_singleton];omega⟩
  · rcases List.mem_append.mp hy with hy | hy
    · exact h.low y hy
    · rw [List.mem_singleton.mp hy];exact z0
  · rcases List.mem_append.mp hy with hy | hy
    · exact h.high y hy
    · rw [List.mem_singleton.mp hy];exact z1
theorem ord_nil (m:Nat):Ord m []:=⟨(fun _ q=>nomatch q),(fun _ q=>nomatch q),List.nodup_nil,by decide⟩
theorem eq_opt (r:Option Int) (g:Int) (H:Hp):cmp .eq (optI r) (.int g) H=some (decide (r=some g)):=by
  cases r with
  | none=>rfl
  | some v =>
    rw [show optI (some v)=.int v from rfl,cmp_eq_int]
    by_cases h:v=g
    · rw [h];simp
    · simp [h]
theorem range_rise (m:Nat):(rangeI m).Pairwise (· < ·):=List.pairwise_map.mpr (List.pairwise_lt_range.imp fun q=>Int.ofNat_lt.mpr q)
section
variable {w:Str} {l h s:Int} {qs:List Q4} {d dn k:Nat} {H:Hp}
theorem ev_plus {n:Nat} {ρ:Rho} {x:String} {e:E} {H H1:Hp} {o:Nat} {os:List Int} {z:Int} (g1:ρ.lookup x=some (.ref o)) (he:evE (G n) ρ e H=.ok (.int z) H1) (ho:H1[o]?=some (.list (os.map .int))) (hl:os.length<=100) :
    ∃ (k:Nat) (H2:Hp),evE (G n) ρ (.bin .add (.var x) (.list [e])) H=.ok (.ref k) H2/\Kept H1 H2/\H2[k]?=some (.list ((os++[z]).map .int))/\H1.length<=k:=by
  have e1:=bin_add_ref (i:=o) (j:=H1.length) (H:=H1++[.list [.int z]]) ((ext_app _ _).get ho) (len_app1 _ _) (by rw [List.length_map];exact Nat.le_trans (Nat.add_le_add_right hl 1) (by decide))
  refine ⟨_,_,ev_bin2 (ev_var g1) (ev_list (evs_one he)) e1,(Kept.app _ _).trans (Kept.app _ _),?_,by rw [List.length_append];exact Nat.le_add_right _ _⟩
  rw [len_app1,List.map_append];rfl
noncomputable def FO (w:Str) (l h s:Int) (qs:List Q4) (os:List Int) (g:Int) (d o:Nat) (H:Hp) (a b:List Int) (ρ:Rho) (H':Hp):Prop :=
  a++b=rangeI qs.length/\Kept H H'/\ρ.lookup "day"=some (.ref d)/\ρ.lookup "order"=some (.ref o)/\ρ.lookup "goal"=some (.int g)/\∀ y∈a,y∈leftOf qs.length os->∃ r,Least w l h s qs (os++[y]) r/\r≠some g
noncomputable def FA (w:Str) (l h s:Int) (qs:List Q4) (os:List Int) (g:Int) (H:Hp) (z:Int) (H':Hp):Prop :=
  Kept H H'/\z∈leftOf qs.length os/\Least w l h s qs (os++[z]) (some g)/\∀ y∈leftOf qs.length os,y < z->∃ r,Least w l h s qs (os++[y]) r/\r≠some g
theorem first_of_turn (n:Nat) (hl:1<=l) (x:DayAt w l h s qs d dn k H) {o:Nat} {os:List Int} (ho:H[o]?=some (.list (os.map .int))) (ok:Ord qs.length os) (h7:qs.length<=7) {g:Int} (a:List Int) (z:Int) (b:List Int) (ρ:Rho) (H':Hp) (i:FO w l h s qs os g d o H a (z::b) ρ H') :
    Turns (FO w l h s qs os g d o H (a++[z]) b) (exSs (G (n+6)) (loopAt d_first_of.body 0) (setL "number" (.int z) ρ) H')\/∃ z' H2,exSs (G (n+6)) (loopAt d_first_of.body 0) (setL "number" (.int z) ρ) H'=.ret (.int z') H2/\FA w l h s qs os g H z' H2:=by
  obtain ⟨hab,kp,g1,g2,g3,g4⟩:=i
  have hz:z∈rangeI qs.length:=by rw [<- hab];simp
  have hz':=mem_rangeI.mp hz
  have c1:=notin_list (kp _ _ ho) z
  have go:∀ H2 (r:Option Int),Kept H H2->(z∈leftOf qs.length os->Least w l h s qs (os++[z]) r/\r≠some g)->FO w l h s qs os g d o H (a++[z]) b (setL "number" (.int z) ρ) H2:=fun H2 r kp2 hr =>
    ⟨by rw [<- hab];simp,kp2,(by repeat (first | assumption | with_reducible first | exact setL_self _ _ _ | refine setL_other (by decide) ?_)),(by repeat (first | assumption | with_reducible first | exact setL_self _ _ _ | refine setL_other (by decide) ?_)),(by repeat (first | assumption | with_reducible first | exact setL_self _ _ _ | refine setL_other (by decide) ?_)),fun y hy hyl=>by
      rcases List.mem_append.mp hy with hy | hy
      · exact g4 y hy hyl
      · rw [List.mem_singleton.mp hy] at hyl ⊢;exact ⟨r,hr hyl⟩⟩
  cases hc:os.contains z with
  | true =>
    left
    rw [hc] at c1
    refine ss_if (c:=false) (H1:=H') (show evBo _ _ _ _ _=_ from ev_and (c:=false) (H1:=H') (ev_cmp (ev_var (setL_self _ _ _)) (ev_var (by repeat (first | assumption | with_reducible first | exact setL_self _ _ _ | refine setL_other (by decide) ?_))) c1) rfl) ?_
    exact Turns.here (go H' Option.none kp fun q=>absurd (List.contains_iff_mem.mp hc) (mem_left.mp q).2)
  | false =>
    rw [hc] at c1
    have hzl:z∈leftOf qs.length os:=mem_left.mpr ⟨hz',fun q=>by rw [List.contains_iff_mem.mpr q] at hc;exact Bool.noConfusion hc⟩
    obtain ⟨k2,H2,e2,kp2,hk2,hk3⟩:=ev_plus (n:=n+6) (ρ:=setL "number" (.int z) ρ) (x:="order") (e:=.var "number") (H:=H') (z:=z) (by repeat (first | assumption | with_reducible first | exact setL_self _ _ _ | refine setL_other (by decide) ?_)) (ev_var (setL_self _ _ _)) (kp _ _ ho) (by have:=ok.len;omega)
    have kp12:=kp.trans kp2
    obtain ⟨r,H3,e3,kp3,ls⟩:=c_least n hl (x.kept kp12) hk2 (ok.snoc h7 hzl) h7
    have kp13:=kp12.trans kp3
    have e4:=eq_opt r g H3
    have e5:evE (G (n+6)) (setL "number" (.int z) ρ) (.and [(.cmp (.var "number") .notIn (.var "order")),(.cmp (.call "least" [(.var "day"),(.bin .add (.var "order") (.list [(.var "number")]))]) .eq (.var "goal"))]) H'=.ok (.bool (decide (r=some g))) H3 :=
      (show evBo _ _ _ _ _=_ from ev_and (c:=true) (H1:=H') (ev_cmp (ev_var (setL_self _ _ _)) (ev_var (by repeat (first | assumption | with_reducible first | exact setL_self _ _ _ | refine setL_other (by decide) ?_))) c1) (show evE _ _ _ _=_ from ev_cmp (ev_call (vs:=[.ref d,.ref k2]) (H1:=H2) (G_hd _) (evs_cons (ev_var (by repeat (first | assumption | with_reducible first | exact setL_self _ _ _ | refine setL_other (by decide) ?_))) (evs_one e2)) rfl e3) (ev_var (by repeat (first | assumption | with_reducible first | exact setL_self _ _ _ | refine setL_other (by decide) ?_))) e4))
    by_cases hr:r=some g
    · right
      rw [decide_eq_true hr] at e5
      refine ⟨z,H3,?_,kp13,hzl,hr▸ls,fun y hy hlt=>g4 y ?_ hy⟩
      · show Is (.ret (.int z) H3) _
        exact ss_if e5 (ss_ret (ev_var (setL_self _ _ _)) rfl)
      · have hy':y∈a++z::b:=by rw [hab];exact mem_rangeI.mpr (mem_left.mp hy).1
        rcases List.mem_append.mp hy' with q | q
        · exact q
        · have rs:=range_rise qs.length
          rw [<- hab] at rs
          have:=(List.pairwise_append.mp rs).2.1
          rcases List.mem_cons.mp q with rfl | q
          · omega
          · have:=(List.pairwise_cons.mp this).1 y q;omega
    · left
      rw [decide_eq_false hr] at e5
      exact ss_if e5 (Turns.here (go H3 r kp13 fun _=>⟨ls,hr⟩))
theorem c_first (n:Nat) (hl:1<=l) (x:DayAt w l h s qs d dn k H) {o:Nat} {os:List Int} (ho:H[o]?=some (.list (os.map .int))) (ok:Ord qs.length os) (h7:qs.length<=7) {g:Int} (ls:Least w l h s qs os (some g)) (hne:leftOf qs.length os≠[]) :
    ∃ z H',(G (n+7)).call "first_of" [.ref d,.ref o,.int g] H=.ok (.int z) H'/\FA w l h s qs os g H z H':=by
  rw [G_call (d:=d_first_of) (by kernel_rfl)]
  refine runDef_P (ρ:=[("day",.ref d),("order",.ref o),("goal",.int g)]) (P:=fun r=>∃ z H',r=.ok (.int z) H'/\FA w l h s qs os g H z H') rfl ?_
  have c1:=x.stops
  have c2:=bi_len_ref x.list
  rw [List.length_map] at c2
  have lp:=forL_or V.int (fun v ρ1 H2=>exSs (G (n+6)) (loopAt d_first_of.body 0) (setL "number" v ρ1) H2) (sameO (.rng 0 qs.length 1) H) (FO w l h s qs os g d o H) (fun r=>∃ z' H2,r=.ret (.int z') H2/\FA w l h s qs os g H z' H2)
    (fun r ⟨_,_,e,_⟩=>by rw [e];exact ⟨rfl,fun _=>rfl⟩) (fun _ _ _ _ _=>rfl) (first_of_turn n hl x ho ok h7) (rangeI qs.length) [] [("day",.ref d),("order",.ref o),("goal",.int g)] H ⟨rfl,Kept.refl _,rfl,rfl,rfl,fun _ q=>nomatch q⟩
  rcases lp with ⟨ρ',H',e,_,_,_,_,_,no⟩ | ⟨z,H',e,fa⟩
  · obtain ⟨z,hz,un⟩:=ls.step hne
    obtain ⟨r,lr,hr⟩:=no z (by rw [List.nil_append];exact mem_rangeI.mpr (mem_left.mp hz).1) hz
    exact absurd (un r lr) hr
  · refine ss_for (v:=.rng 0 qs.length 1) (H1:=H) (G_hd _) (ev_bi (v:=.rng 0 qs.length 1) (G_hd _) (evs_one (ev_bi (G_hd _) (evs_one (ev_attr (ev_var rfl) c1)) c2)) rfl) (items_range (by omega)) e ?_
    exact ⟨z,H',rfl,fa⟩
structure Tour (w:Str) (l h s:Int) (qs:List Q4) (g:Int) (os:List Int):Prop where
  ord:Ord qs.length os
  least:∀ i,i<=os.length->Least w l h s qs (os.take i) (some g)
  first:∀ (i:Nat) (z:Int),os[i]?=some z->∀ y∈leftOf qs.length (os.take i),y < z->∃ r,Least w l h s qs (os.take i++[y]) r/\r≠some g
theorem Tour.snoc {g z:Int} {os:List Int} (a:Tour w l h s qs g os) (h7:qs.length<=7) {H H':Hp} (fa:FA w l h s qs os g H z H'):Tour w l h s qs g (os++[z]):=by
  obtain ⟨_,hz,hl,hf⟩:=fa
  refine ⟨a.ord.snoc h7 hz,fun i hi=>?_,fun i y hy=>?_⟩
  · rw [List.length_append,List.length_singleton] at hi
    rcases Nat.lt_or_ge i (os.length+1) with q | q
    · rw [List.take_append_of_le_length (Nat.le_of_lt_succ q)];exact a.least i (Nat.le_of_lt_succ q)
    · have:i=os.length+1:=Nat.le_antisymm hi q
      rw [this,List.take_of_length_le (by simp)];exact hl
  · rcases Nat.lt_or_ge i os.length with q | q
    · rw [List.getElem?_append_left q] at hy
      rw [List.take_append_of_le_length (Nat.le_of_lt q)]
      exact a.first i y hy
    · rw [List.getElem?_append_right q] at hy
      have hi:i=os.length:=by
        exact Nat.le_antisymm (Nat.sub_eq_zero_iff_le.mp (Nat.lt_one_iff.mp (List.getElem?_eq_some_iff.mp hy).1)) q
      subst hi
      rw [Nat.sub_self] at hy
      cases hy
      rw [List.take_append_of_le_length (Nat.le_refl _),List.take_length]
      exact hf
theorem left_ne {os:List Int} {m:Nat} (ok:Ord m os) (hlt:os.length < m):leftOf m os≠[]:=by
  intro q
  have:=nodup_len (l:=rangeI m) (u:=os) ((range_rise m).imp fun q=>Int.ne_of_lt q) fun z hz=>by
    apply Classical.byContradiction
    intro hn
    have:z∈leftOf m os:=mem_left.mpr ⟨mem_rangeI.mp hz,hn⟩
    rw [q] at this;cases this
  unfold rangeI at this
  rw [List.length_map,List.length_range] at this;omega
theorem best_while (n:Nat) (hl:1<=l) (h7:qs.length<=7) {H0:Hp} (x:DayAt w l h s qs d dn k H0) {g:Int}:∀ (fuel:Nat) (os:List Int) (ρ:Rho) (H:Hp) (o:Nat),qs.length < fuel+os.length->Kept H0 H->H[o]?=some (.list (os.map .int))->ρ.lookup "day"=some (.ref d)->ρ.lookup "order"=some (.ref o)->ρ.lookup "goal"=some (.int g)->Tour w l h s qs g os->H0.length<=o ->
    ∃ (ρ':Rho) (H':Hp) (os':List Int) (o':Nat),whileL (fun ρ H=>evT (G (n+7)) ρ (.cmp (.call "len" [(.var "order")]) .lt (.call "len" [(.attr (.var "day") "stops")])) H) (fun ρ H=>exSs (G (n+7)) (loopAt d_best.body 3) ρ H) fuel ρ H=.next ρ' H'/\ρ'.lookup "order"=some (.ref o')/\Kept H0 H'/\H'[o']?=some (.list (os'.map .int))/\Tour w l h s qs g os'/\os'.length=qs.length/\H0.length<=o'
  | 0,os,ρ,H,o,hlt,_,_,_,_,_,t,_=>absurd hlt (Nat.not_lt.mpr (by rw [Nat.zero_add];exact t.ord.len))
  | fuel+1,os,ρ,H,o,hlt,kp,ho,g1,g2,g3,t,hfo=>by
    have y:=x.kept kp
    have c1:=y.stops
    have c2:=bi_len_ref y.list
    have c3:=bi_len_ref ho
    rw [List.length_map] at c2 c3
    have et:evT (G (n+7)) ρ (.cmp (.call "len" [(.var "order")]) .lt (.call "len" [(.attr (.var "day") "stops")])) H=.ok (decide ((os.length:Int) < qs.length)) H:=by
      unfold evT
      rw [ev_cmp (ev_bi (G_hd _) (evs_one (ev_var g2)) c3) (ev_bi (G_hd _) (evs_one (ev_attr (ev_var g1) c1)) c2) (cmp_lt _ _ _)];rfl
    rw [whileL,et]
    dsimp only
    by_cases hlen:(os.length:Int) < qs.length
    · rw [decide_eq_true hlen,if_pos rfl]
      obtain ⟨z,H1,e1,fa⟩:=c_first n hl y ho t.ord h7 (by have:=t.least os.length (Nat.le_refl _);rwa [List.take_length] at this) (left_ne t.ord (Int.ofNat_lt.mp hlen))
      obtain ⟨k2,H2,e2,kp2,hk2,hk3⟩:=ev_plus (n:=n+7) (ρ:=ρ) (x:="order") (e:=.call "first_of" [(.var "day"),(.var "order"),(.var "goal")]) (H:=H) (z:=z) g2 (ev_call (vs:=[.ref d,.ref o,.int g]) (H1:=H) (G_hd _) (evs_cons (ev_var g1) (evs_cons (ev_var g2) (evs_one (ev_var g3)))) rfl e1) (fa.1 _ _ ho) (Nat.le_trans t.ord.len (Nat.le_trans h7 (by decide)))
      have eb:Is (.next (setL "order" (.ref k2) ρ) H2) (exSs (G (n+7)) (loopAt d_best.body 3) ρ H):=ss_asg e2 rfl
      unfold Is at eb
      rw [eb]
      exact best_while n hl h7 x fuel (os++[z]) (setL "order" (.ref k2) ρ) H2 k2 (by rw [List.length_append,List.length_singleton];exact Nat.lt_of_lt_of_le hlt (Nat.le_of_eq (by rw [Nat.add_assoc,Nat.add_comm 1]))) (kp.trans (fa.1.trans kp2)) hk2 (by repeat (first | assumption | with_reducible first | exact setL_self _ _ _ | refine setL_other (by decide) ?_)) (by repeat (first | assumption | with_reducible first | exact setL_self _ _ _ | refine setL_other (by decide) ?_)) (by repeat (first | assumption | with_reducible first | exact setL_self _ _ _ | refine setL_other (by decide) ?_)) (t.snoc h7 fa) (Nat.le_trans (kp.trans fa.1).len hk3)
    · rw [decide_eq_false hlen,if_neg (by decide)]
      exact ⟨ρ,H,os,o,rfl,g2,kp,ho,t,Nat.le_antisymm t.ord.len (Int.ofNat_le.mp (Int.not_lt.mp hlen)),hfo⟩
noncomputable def BestAns (w:Str) (l h s:Int) (qs:List Q4) (H:Hp) (r:R V):Prop :=
  (∃ H',r=.ok .none H'/\Kept H H'/\Least w l h s qs [] Option.none)\/∃ (g:Int) (os:List Int) (o:Nat) (H':Hp),r=.ok (.ref o) H'/\Kept H H'/\H'[o]?=some (.list (os.map .int))/\Tour w l h s qs g os/\os.length=qs.length/\H.length<=o
theorem c_best (n:Nat) (hl:1<=l) (x:DayAt w l h s qs d dn k H) (h7:qs.length<=7):BestAns w l h s qs H ((G (n+8)).call "best" [.ref d] H):=by
  rw [G_call (d:=d_best) (by kernel_rfl)]
  refine runDef_P (ρ:=[("day",.ref d)]) (P:=BestAns w l h s qs H) rfl ?_
  have kp1:=Kept.app H [.list []]
  obtain ⟨r,H2,e1,kp2,ls⟩:=c_least (n+1) hl (x.kept kp1) (o:=H.length) (os:=[]) (len_app1 _ _) (ord_nil _) h7
  have kp12:=kp1.trans kp2
  refine ss_asg (ev_call (vs:=[.ref d,.ref H.length]) (H1:=H++[.list []]) (G_hd _) (evs_cons (ev_var rfl) (evs_one (ev_list evs_nil))) rfl e1) ?_
  refine ss_if (ev_cmp (ev_var (setL_self _ _ _)) ev_none (is_none _ _)) ?_
  cases r with
  | none=>exact ss_ret ev_none (.inl ⟨H2,rfl,kp12,ls⟩)
  | some g =>
    show Fin _ (exSs _ (S.asg _ _::_) _ _)
    refine ss_asg (ev_list evs_nil) ?_
    have t0:Tour w l h s qs g []:=⟨ord_nil _,fun i _=>by rw [List.take_nil];exact ls,fun i z q=>by simp at q⟩
    obtain ⟨ρ',H',os,o,ew,g1,kp3,ho,t,hlen,hfo⟩:=best_while n hl h7 (x.kept kp12) (g:=g) 64 [] (setL "order" (.ref H2.length) (setL "goal" (.int g) [("day",.ref d)])) (H2++[.list []]) H2.length (Nat.lt_of_le_of_lt h7 (by decide)) (Kept.app _ _) (len_app1 _ _) rfl rfl rfl t0 (Nat.le_refl _)
    refine ss_while (G_hd _) ew ?_
    rw [RS.bind_next]
    exact ss_ret (ev_var g1) (.inr ⟨g,os,o,H',rfl,kp12.trans kp3,ho,t,hlen,Nat.le_trans kp12.len hfo⟩)
end
section
variable {w:Str} {l h s:Int} {qs:List Q4}
noncomputable def Feas (w:Str) (l h s:Int) (qs:List Q4):Prop:=∃ zs e,zs.Perm (leftOf qs.length [])/\endOf w l h s qs zs=some e
noncomputable def feasB (w:Str) (l h s:Int) (qs:List Q4):Bool:=@decide (Feas w l h s qs) (Classical.propDecidable _)
theorem least_feas {r:Option Int} (ls:Least w l h s qs [] r):r.isSome=feasB w l h s qs:=by
  unfold feasB
  cases r with
  | none=>exact (@decide_eq_false _ (Classical.propDecidable _) fun ⟨zs,e,pm,he⟩=>by obtain ⟨_,q,_⟩:=ls.low zs e pm he;cases q).symm
  | some g=>exact (@decide_eq_true _ (Classical.propDecidable _) (by obtain ⟨zs,pm,e⟩:=ls.made g rfl;exact ⟨zs,g,pm,e⟩)).symm
end
noncomputable def pick (qs:List Q4) (ks:List Int):List Q4:=ks.map fun z=>qs.getD z.toNat (0,0,0,0)
noncomputable def Nums (m:Nat) (ks:List Int):Prop:=(∀ z∈ks,0<=z/\z < m)/\ks.length<=m
theorem nums_range (m:Nat):Nums m (rangeI m):=⟨fun _ hz=>mem_rangeI.mp hz,Nat.le_of_eq (rangeI_len m)⟩
theorem Nums.filter {m:Nat} {ks:List Int} (x:Nums m ks) (p:Int->Bool):Nums m (ks.filter p):=⟨fun z hz=>x.1 z (List.mem_filter.mp hz).1,Nat.le_trans (List.length_filter_le _ _) x.2⟩
theorem bi_list_rng {m:Nat} (hm:m<=7) (H:Hp):builtin "list" [.rng 0 m 1] H=.ok (.ref H.length) (H++[.list ((rangeI m).map .int)]):=by
  have q:builtin "list" [.rng 0 m 1] H=ifR (rngOk 0 m 1=true) (new (.list ((rangeL 0 m 1).map .int)) H):=rfl
  rw [q,ifR_of (rng_ok (Nat.le_trans hm (by decide))),rangeL_one];rfl
section
variable {w:Str} {l h s:Int} {qs:List Q4} {d dn k:Nat} {H:Hp}
theorem get_pick {z:Int} (h0:0<=z) (h1:z < qs.length):qs[z.toNat]?=some (qs.getD z.toNat (0,0,0,0)):=by
  rw [List.getD_eq_getElem?_getD,List.getElem?_eq_getElem ((Int.toNat_lt h0).mpr h1)];rfl
theorem day_pick (D:DayOk w l h s qs) {ks:List Int} (x:Nums qs.length ks):DayOk w l h s (pick qs ks):=⟨D.word,D.l0,D.l1,D.h0,D.h1,D.s0,D.s1,by unfold pick;rw [List.length_map];exact Nat.le_trans x.2 D.few,fun q hq=>by
  obtain ⟨z,hz,rfl⟩:=List.mem_map.mp hq
  exact D.stops _ (List.mem_of_getElem? (get_pick (x.1 z hz).1 (x.1 z hz).2))⟩
theorem c_has (n:Nat) (D:DayOk w l h s qs) (x:DayAt w l h s qs d dn k H) {o:Nat} {ks:List Int} (ho:H[o]?=some (.list (ks.map .int))) (hk:Nums qs.length ks) :
    ∃ (H':Hp),(G (n+7)).call "has_tour" [.ref d,.ref o] H=.ok (.bool (feasB w l h s (pick qs ks))) H'/\Kept H H':=by
  rw [G_call (d:=d_has_tour) (by kernel_rfl)]
  refine runDef_P (ρ:=[("day",.ref d),("kept",.ref o)]) (P:=fun res=>∃ (H':Hp),res=.ok (.bool (feasB w l h s (pick qs ks))) H'/\Kept H H') rfl ?_
  have tf:=turns_map V.int (fun z=>tupQ (qs.getD z.toNat (0,0,0,0))) (fun y H2=>evE (G (n+6)) (("number",y)::[("day",.ref d),("kept",.ref o)]) (.idx (.attr (.var "day") "stops") (.var "number")) H2) (sameO (.ref o) H) H (fun ys=>same_list ho ((ext_app _ _).get ho)) ks (fun z hz ys=>by
      have y:=x.kept (Kept.app H [.list ys])
      obtain ⟨z0,z1⟩:=hk.1 z hz
      have c2:=idx_ref (i:=z.toNat) (v:=tupQ (qs.getD z.toNat (0,0,0,0))) y.list (by rw [List.getElem?_map,get_pick z0 z1];rfl)
      rw [Int.toNat_of_nonneg z0] at c2
      exact ev_idx (ev_attr (ev_var rfl) y.stops) (ev_var rfl) c2) (Nat.le_trans (Nat.le_trans hk.2 D.few) (by decide))
  rw [show ks.map (fun z=>tupQ (qs.getD z.toNat (0,0,0,0)))=(pick qs ks).map tupQ from by unfold pick;rw [List.map_map];rfl] at tf
  have ec:=ev_comp0 (G_hd _) (ev_var (x:="kept") (ρ:=[("day",.ref d),("kept",.ref o)]) rfl) (items_list ho) tf
  have c1:=x.road
  have c2:=x.home
  have c3:=x.start
  have kp1:=Kept.app H [.list ((pick qs ks).map tupQ)]
  have D2:=day_pick D hk
  have hl:=len_app1 H (.list ((pick qs ks).map tupQ))
  generalize H++[O.list ((pick qs ks).map tupQ)]=H1 at ec kp1 hl
  have d1:=c_day (n+1) w l h s (pick qs ks) H.length H1 hl D2
  have da:DayAt w l h s (pick qs ks) (H1.length+1) H1.length (H1.length+2) (DayH H1 (dayFs w l h s (H1.length+2)) [.list ((pick qs ks).map tupQ)]):=by
    refine ⟨dayH_inst _ _ _,dayH_ns _ _ _,?_⟩
    unfold DayH
    rw [List.getElem?_append_right (Nat.le_add_right _ _),Nat.add_sub_cancel_left];rfl
  have kp2:Kept H1 (DayH H1 (dayFs w l h s (H1.length+2)) [.list ((pick qs ks).map tupQ)]):=Kept.app _ _
  generalize H1.length+1=dd at d1 da
  generalize DayH H1 (dayFs w l h s (H1.length+2)) [.list ((pick qs ks).map tupQ)]=H2 at d1 da kp2
  refine ss_asg (ev_call (vs:=[.tup [.str w,.int l],.int h,.int s,.ref H.length]) (H1:=H1) (G_hd _) (evs_cons (ev_attr (ev_var rfl) c1) (evs_cons (ev_attr (ev_var rfl) c2) (evs_cons (ev_attr (ev_var rfl) c3) (evs_one ec)))) rfl d1) ?_
  have kp3:=Kept.app H2 [.list []]
  obtain ⟨r,H3,e1,kp4,ls⟩:=c_least n D.l0 (da.kept kp3) (o:=H2.length) (os:=[]) (len_app1 _ _) (ord_nil _) D2.few
  have en:cmp .isNot (optI r) .none H3=some (feasB w l h s (pick qs ks)):=by rw [<- least_feas ls];cases r <;> rfl
  exact ss_ret (ev_cmp (ev_call (vs:=[.ref dd,.ref H2.length]) (H1:=H2++[.list []]) (G_hd _) (evs_cons (ev_var (setL_self _ _ _)) (evs_one (ev_list evs_nil))) rfl e1) ev_none en) ⟨H3,rfl,kp1.trans (kp2.trans (kp3.trans kp4))⟩
theorem pick_all (qs:List Q4):pick qs (rangeI qs.length)=qs:=by
  unfold pick rangeI
  rw [List.map_map]
  refine List.ext_getElem (by rw [List.length_map,List.length_range]) fun i h1 h2=>?_
  rw [List.getElem_map,List.getElem_range]
  show qs.getD ((i:Int)).toNat _=_
  rw [Int.toNat_natCast,List.getD_eq_getElem?_getD,List.getElem?_eq_getElem h2];rfl
noncomputable def downI (m:Nat):List Int:=(List.range m).map fun k:Nat=>(m:Int) - 1 - k
theorem down_eq (m:Nat):rangeL ((m:Int) - 1) m (-1)=downI m:=List.map_congr_left fun k _=>by rw [Int.neg_mul,Int.one_mul,<- Int.sub_eq_add_neg]
noncomputable def without (ks:List Int) (z:Int):List Int:=ks.filter fun y=>!(y==z)
noncomputable def clashStep (w:Str) (l h s:Int) (qs:List Q4) (ks:List Int) (z:Int):List Int:=if feasB w l h s (pick qs (without ks z)) then ks else without ks z
noncomputable def clashL (w:Str) (l h s:Int) (qs:List Q4):List Int:=(downI qs.length).foldl (clashStep w l h s qs) (rangeI qs.length)
theorem ev_without {n:Nat} {ρ:Rho} {H:Hp} {kk:Nat} {ks:List Int} {z:Int} {x y:String} {t:E} (g:ρ.lookup y=some (.ref kk)) (hkk:H[kk]?=some (.list (ks.map .int))) (hl:ks.length<=7)
    (ht:∀ (u:Int) (ys:List V),evE (G n) ((x,.int u)::ρ) t (H++[.list ys])=.ok (.int z) (H++[.list ys])):evE (G n) ρ (.comp (.var x) x (.var y) (.var x) .ne t) H=.ok (.ref H.length) (H++[.list ((without ks z).map .int)]) :=
  ev_comp (G_hd _) (ev_var g) (items_list hkk) (turns_filter V.int V.int (fun y=>!(y==z)) _ _ (sameO (.ref kk) H) H (fun ys=>same_list hkk ((ext_app _ _).get hkk)) ks [] (fun u _ ys=>⟨ev_cmpR (ev_var (lookup_here _ _ _)) (ht u ys) (cmp_ne_int _ _ _),ev_var (lookup_here _ _ _)⟩) (by rw [List.length_nil,Nat.zero_add];exact Nat.le_trans hl (by decide)))
noncomputable def CL (w:Str) (l h s:Int) (qs:List Q4) (d:Nat) (H:Hp) (a:List Int) (ρ:Rho) (H':Hp):Prop:=Kept H H'/\ρ.lookup "day"=some (.ref d)/\∃ kk:Nat,ρ.lookup "kept"=some (.ref kk)/\H'[kk]?=some (.list ((a.foldl (clashStep w l h s qs) (rangeI qs.length)).map .int))/\Nums qs.length (a.foldl (clashStep w l h s qs) (rangeI qs.length))
theorem c_clash (n:Nat) (D:DayOk w l h s qs) (x:DayAt w l h s qs d dn k H):∃ H',(G (n+8)).call "clash" [.ref d] H=.ok (if feasB w l h s qs then .none else .tup ((clashL w l h s qs).map .int)) H'/\Kept H H':=by
  rw [G_call (d:=d_clash) (by kernel_rfl)]
  refine runDef_P (ρ:=[("day",.ref d)]) (P:=fun r=>∃ H',r=.ok (if feasB w l h s qs then .none else .tup ((clashL w l h s qs).map .int)) H'/\Kept H H') rfl ?_
  have c1:=x.stops
  have c2:=bi_len_ref x.list
  rw [List.length_map] at c2
  have kp1:=Kept.app H [.list ((rangeI qs.length).map .int)]
  refine ss_asg (ev_bi (G_hd _) (evs_one (ev_bi (v:=.rng 0 qs.length 1) (G_hd _) (evs_one (ev_bi (G_hd _) (evs_one (ev_attr (ev_var rfl) c1)) c2)) rfl)) (bi_list_rng D.few H)) ?_
  have hl:=len_app1 H (.list ((rangeI qs.length).map .int))
  generalize H++[O.list ((rangeI qs.length).map .int)]=H1 at kp1 hl ⊢
  obtain ⟨H2,e1,kp2⟩:=c_has n D (x.kept kp1) hl (nums_range _)
  rw [pick_all] at e1
  refine ss_if (ev_call (vs:=[.ref d,.ref H.length]) (H1:=H1) (G_hd _) (evs_cons (ev_var rfl) (evs_one (ev_var rfl))) rfl e1) ?_
  have k12:=kp1.trans kp2
  cases feasB w l h s qs with
  | true=>exact ss_ret ev_none ⟨H2,rfl,k12⟩
  | false =>
    show Fin _ (exSs _ (S.forR _ _ _::_) _ _)
    obtain ⟨ρ',H',er,kp3,_,kk,g1,hkk,_⟩:=forL_all V.int (fun v ρ1 H2=>exSs (G (n+7)) [.asg "others" (.comp (.var "other") "other" (.var "kept") (.var "other") .ne (.var "number")),.iff (.not (.call "has_tour" [(.var "day"),(.var "others")])) [.asg "kept" (.var "others")] []] (setL "number" v ρ1) H2) (fun _=>true) (fun a _ ρ H'=>CL w l h s qs d H a ρ H') (fun _ _ _ _ _=>rfl) (by
        rintro a z b ρ H' ⟨kp,g1,kk,g2,hkk,nk⟩
        unfold CL
        rw [List.foldl_append]
        show Turns (fun ρ H'=>Kept H H'/\ρ.lookup "day"=some (.ref d)/\∃ kk:Nat,ρ.lookup "kept"=some (.ref kk)/\H'[kk]?=some (.list ((clashStep w l h s qs (a.foldl (clashStep w l h s qs) (rangeI qs.length)) z).map .int))/\Nums qs.length (clashStep w l h s qs (a.foldl (clashStep w l h s qs) (rangeI qs.length)) z)) _
        generalize a.foldl (clashStep w l h s qs) (rangeI qs.length)=ks at hkk nk ⊢
        unfold clashStep
        refine ss_asg (ev_without (by repeat (first | assumption | with_reducible first | exact setL_self _ _ _ | refine setL_other (by decide) ?_)) hkk (Nat.le_trans nk.2 D.few) fun u ys=>ev_var (by rw [lookup_next (by decide)];exact setL_self _ _ _)) ?_
        have kp4:=Kept.app H' [.list ((without ks z).map .int)]
        have hl4:=len_app1 H' (.list ((without ks z).map .int))
        have nk4:Nums qs.length (without ks z):=nk.filter fun y=>!(y==z)
        generalize without ks z=os at kp4 hl4 nk4 ⊢
        generalize H'++[O.list (os.map .int)]=H4 at kp4 hl4 ⊢
        obtain ⟨H5,e5,kp5⟩:=c_has n D (x.kept (kp.trans kp4)) hl4 nk4
        refine ss_if (ev_not (ev_call (vs:=[.ref d,.ref H'.length]) (H1:=H4) (G_hd _) (evs_cons (ev_var (by repeat (first | assumption | with_reducible first | exact setL_self _ _ _ | refine setL_other (by decide) ?_))) (evs_one (ev_var (setL_self _ _ _)))) rfl e5) rfl) ?_
        have k45:=kp4.trans kp5
        cases feasB w l h s (pick qs os) with
        | true=>exact Turns.here ⟨kp.trans k45,(by repeat (first | assumption | with_reducible first | exact setL_self _ _ _ | refine setL_other (by decide) ?_)),kk,(by repeat (first | assumption | with_reducible first | exact setL_self _ _ _ | refine setL_other (by decide) ?_)),k45 _ _ hkk,nk⟩
        | false=>exact ss_asg (ev_var (setL_self _ _ _)) (Turns.here ⟨kp.trans k45,(by repeat (first | assumption | with_reducible first | exact setL_self _ _ _ | refine setL_other (by decide) ?_)),H'.length,setL_self _ _ _,kp5 _ _ hl4,nk4⟩))
      (downI qs.length) (setL "kept" (.ref H.length) [("day",.ref d)]) H2 ⟨k12,rfl,H.length,rfl,kp2 _ _ hl,nums_range _⟩
    have c3:=(x.kept k12).stops
    have c4:=bi_len_ref (x.kept k12).list
    rw [List.length_map] at c4
    rw [<- down_eq] at er
    refine ss_forR (G_hd _) (ev_bi (v:=.rng 0 qs.length 1) (G_hd _) (evs_one (ev_bi (G_hd _) (evs_one (ev_attr (ev_var rfl) c3)) c4)) rfl) (Nat.le_trans D.few (by decide)) er ?_
    rw [RS.bind_next]
    exact ss_ret (ev_bi (G_hd _) (evs_one (ev_var g1)) (bi_tuple_ref hkk)) ⟨H',rfl,kp3⟩
noncomputable def ToldAns (w:Str) (l h s:Int) (qs:List Q4) (H:Hp) (r:R V):Prop :=
  (∃ H',r=.ok (.tup [.str (Str.ofString "clash"),.tup ((clashL w l h s qs).map .int)]) H'/\Kept H H'/\Least w l h s qs [] Option.none)\/∃ (g:Int) (os:List Int) (o:Nat) (H':Hp),r=.ok (.tup [.str (Str.ofString "tour"),.ref o,.int g]) H'/\Kept H H'/\H'[o]?=some (.list (os.map .int))/\Tour w l h s qs g os/\os.length=qs.length/\H.length<=o
theorem c_told (n:Nat) (D:DayOk w l h s qs) (x:DayAt w l h s qs d dn k H):ToldAns w l h s qs H ((G (n+9)).call "told" [.ref d] H):=by
  rw [G_call (d:=d_told) (by kernel_rfl)]
  refine runDef_P (ρ:=[("day",.ref d)]) (P:=ToldAns w l h s qs H) rfl ?_
  rcases c_best n D.l0 x D.few with ⟨H1,e1,kp1,ls⟩ | ⟨g,os,o,H1,e1,kp1,ho,t,hlen,hfo⟩
  · refine ss_asg (ev_call (vs:=[.ref d]) (H1:=H) (G_hd _) (evs_one (ev_var rfl)) rfl e1) ?_
    refine ss_if (c:=true) (H1:=H1) (ev_cmp (ev_var (setL_self _ _ _)) ev_none rfl) ?_
    obtain ⟨H2,e2,kp2⟩:=c_clash n D (x.kept kp1)
    rw [<- least_feas ls] at e2
    exact ss_ret (ev_tup (evs_cons (v:=.str (Str.ofString "clash")) rfl (evs_one (ev_call (vs:=[.ref d]) (H1:=H1) (G_hd _) (evs_one (ev_var rfl)) rfl e2)))) (.inl ⟨H2,rfl,kp1.trans kp2,ls⟩)
  · refine ss_asg (ev_call (vs:=[.ref d]) (H1:=H) (G_hd _) (evs_one (ev_var rfl)) rfl e1) ?_
    refine ss_if (c:=false) (H1:=H1) (ev_cmp (ev_var (setL_self _ _ _)) ev_none rfl) ?_
    have kp2:=Kept.app H1 [.list []]
    obtain ⟨r,H2,e2,kp3,ls⟩:=c_least (n+2) D.l0 (x.kept (kp1.trans kp2)) (o:=H1.length) (os:=[]) (len_app1 _ _) (ord_nil _) D.few
    have er:r=some g:=ls.one (t.least 0 (Nat.zero_le _))
    rw [er] at e2
    have kp:=kp2.trans kp3
    exact ss_ret (ev_tup (evs_cons (v:=.str (Str.ofString "tour")) rfl (evs_cons (ev_var (setL_self _ _ _)) (evs_one (ev_call (vs:=[.ref d,.ref H1.length]) (H1:=H1++[.list []]) (G_hd _) (evs_cons (ev_var rfl) (evs_one (ev_list evs_nil))) rfl e2))))) (.inr ⟨g,os,o,H2,rfl,kp1.trans kp,kp _ _ ho,t,hlen,hfo⟩)
end
noncomputable def tabA (es:List Ent):AP:=fun n H v=>∃ k ep,v=.ref k/\n<=k/\H[k]?=some (.tab (es.map entV) ep)
theorem good_tab (es:List Ent):Good (tabA es):=by
  refine ⟨fun ⟨k,ep,a,b,c⟩ h=>⟨k,ep,a,b,h k _ b c⟩,?_,?_⟩
  · rintro n m H _ _ ⟨i,ep,rfl,_,hi⟩ ⟨j,ep',rfl,_,hj⟩
    unfold eqT
    rw [tabAt_of hi]
    dsimp only
    rw [tabAt_of hj]
    refine if_pos ⟨rfl,List.all_eq_true.mpr fun x hx=>?_⟩
    obtain ⟨e,_,rfl⟩:=List.mem_map.mp hx
    show (snap 8 H (valV e.2)).isSome=true
    obtain ⟨_,_,b⟩:=e
    cases b <;> rfl
  · rintro n H _ ⟨k,ep,rfl,hk,h⟩ f
    have hs:(H.set k (.tab [] (ep+1)))[k]?=some (.tab [] (ep+1)):=List.getElem?_set_self (List.getElem?_eq_some_iff.mp h).1
    exact ⟨H.set k (.tab [] (ep+1)),chg_of (H1:=H.set k (.tab [] (ep+1))) (b:=false) (kind_tab h) (fun _=>ev_meth (ev_var rfl) (kind_tab h) rfl evs_nil (by
      show mClear (.ref k) H=_
      rw [mClear,tabR,optR_of (show refAt (.ref k)=some k from rfl),optR_of (tabAt_of h)])) (fun q=>absurd q (by decide)) (test2_no (kind_tab hs) (by decide)) (fun q=>absurd q (by decide)) (fun _=>rfl),set_low _ hk⟩
section
variable {w:Str} {l h s:Int} {qs:List Q4} {d dn k:Nat} {H:Hp}
theorem Tour.one {g g':Int} {os zs:List Int} (t:Tour w l h s qs g os) (u:Tour w l h s qs g' zs) (e:os.length=zs.length):g=g'/\os=zs:=by
  have hg:g=g':=Option.some.inj (Least.one (t.least 0 (Nat.zero_le _)) (u.least 0 (Nat.zero_le _)))
  subst hg
  refine ⟨rfl,?_⟩
  have low:∀ {os zs:List Int},Tour w l h s qs g os->Tour w l h s qs g zs->∀ i y z,os.take i=zs.take i->os[i]?=some y->zs[i]?=some z->¬ y < z:=fun {os zs} t u i y z e hy hz hlt=>by
    obtain ⟨hi,hyi⟩:=List.getElem?_eq_some_iff.mp hy
    have ht:os.take (i+1)=os.take i++[y]:=by rw [List.take_succ,hy];rfl
    have hm:y∈leftOf qs.length (zs.take i):=mem_left.mpr ⟨⟨t.ord.low y (List.mem_of_getElem? hy),t.ord.high y (List.mem_of_getElem? hy)⟩,fun q=>by
      have nd:=t.ord.nodup.sublist (List.take_sublist (i+1) os)
      rw [ht,e] at nd
      exact (List.nodup_append.mp nd).2.2 y q y (List.mem_singleton.mpr rfl) rfl⟩
    obtain ⟨r,lr,hr⟩:=u.first i z hz y hm hlt
    have:=t.least (i+1) hi
    rw [ht,e] at this
    exact hr (Least.one lr this)
  have key:∀ i,i<=os.length->os.take i=zs.take i:=fun i=>by
    induction i with
    | zero=>intro _;rfl
    | succ i ih =>
      intro hi
      have e0:=ih (Nat.le_of_succ_le hi)
      have hy:=List.getElem?_eq_getElem hi
      have hz:=List.getElem?_eq_getElem (e▸hi:i < zs.length)
      have:=Int.le_antisymm (Int.not_lt.mp (low u t i _ _ e0.symm hz hy)) (Int.not_lt.mp (low t u i _ _ e0 hy hz))
      rw [List.take_succ,List.take_succ,e0,hy,hz,this]
  have:=key os.length (Nat.le_refl _)
  rwa [List.take_length,e,List.take_length] at this
noncomputable def drvF (kd:Int):String:=if kd=0 then "timetable" else if kd=1 then "ends" else if kd=2 then "table" else "least"
noncomputable abbrev drvB:List S:=[.iff (.cmp (.var "_law_kind") .eq (.int 0)) [.ret (.call "timetable" [(.var "_law_day"),(.var "_law_order_here")])] [],.iff (.cmp (.var "_law_kind") .eq (.int 1)) [.ret (.call "ends" [(.var "_law_day"),(.var "_law_order_here")])] [],.iff (.cmp (.var "_law_kind") .eq (.int 2)) [.ret (.call "table" [(.var "_law_day"),(.var "_law_order_here")])] [],.ret (.call "least" [(.var "_law_day"),(.var "_law_order_here")])]
theorem drv_body (n:Nat) {o:Nat} {kd:Int}:exSs (G n) drvB [("_law_day",.ref d),("_law_order_here",.ref o),("_law_kind",.int kd)] H=ofR [("_law_day",.ref d),("_law_order_here",.ref o),("_law_kind",.int kd)] ((G n).call (drvF kd) [.ref d,.ref o] H) fun v H1=>.ret v H1:=by
  have one:∀ f ss,builtin f [.ref d,.ref o] H=.stuck->exSs (G n) (.ret (.call f [(.var "_law_day"),(.var "_law_order_here")])::ss) [("_law_day",.ref d),("_law_order_here",.ref o),("_law_kind",.int kd)] H=ofR [("_law_day",.ref d),("_law_order_here",.ref o),("_law_kind",.int kd)] ((G n).call f [.ref d,.ref o] H) fun v H1=>.ret v H1:=fun f ss hb=>by
    rw [exSs_cons,exS_ret,ev_call (vs:=[.ref d,.ref o]) (H1:=H) (G_hd _) (evs_cons (ev_var rfl) (evs_one (ev_var rfl))) hb rfl]
    cases (G n).call f [.ref d,.ref o] H <;> rfl
  show Is _ _
  refine ss_if (ev_eqI (ev_var rfl)) ?_
  unfold drvF
  by_cases h0:kd=0
  · rw [beq_iff_eq.mpr h0,if_pos h0];exact one "timetable" _ rfl
  rw [beq_eq_false_iff_ne.mpr h0,if_neg h0]
  refine ss_if (ev_eqI (ev_var rfl)) ?_
  by_cases h1:kd=1
  · rw [beq_iff_eq.mpr h1,if_pos h1];exact one "ends" _ rfl
  rw [beq_eq_false_iff_ne.mpr h1,if_neg h1]
  refine ss_if (ev_eqI (ev_var rfl)) ?_
  by_cases h2:kd=2
  · rw [beq_iff_eq.mpr h2,if_pos h2];exact one "table" _ rfl
  rw [beq_eq_false_iff_ne.mpr h2,if_neg h2]
  exact one _ _ rfl
noncomputable abbrev word (x:String):V:=.tup [.str (Str.ofString x)]
theorem good_word (x:String):Good (oneA (word x)):=good_tup (fun v hv=>by rw [List.mem_singleton.mp hv];exact pl_str 7 _) fun u hu=>by cases hu
noncomputable def DrvAns (A:AP) (H:Hp) (r:R V):Prop:=(∃ v H',r=.ok v H'/\Kept H H'/\A H.length H' v)\/(∃ H',r=.raise "Missed" H'/\Kept H H'/\∀ n H v,oneA (word "missed") n H v->A n H v)\/∃ H',r=.raise "BadOrder" H'/\Kept H H'/\∀ n H v,oneA (word "order") n H v->A n H v
theorem c_driven (n:Nat) {o:Nat} {kd:Int} {A:AP} (ha:DrvAns A H ((G n).call (drvF kd) [.ref d,.ref o] H)):∃ v H',(G (n+1)).call "_law_driven" [.ref d,.ref o,.int kd] H=.ok v H'/\Kept H H'/\A H.length H' v:=by
  rw [G_call (d:=d__law_driven) (by kernel_rfl)]
  refine runDef_P (ρ:=[("_law_day",.ref d),("_law_order_here",.ref o),("_law_kind",.int kd)]) (P:=fun r=>∃ v H',r=.ok v H'/\Kept H H'/\A H.length H' v) rfl ?_
  refine ss_try (G_hd _) (drv_body n) ?_
  rcases ha with ⟨v,H',e,kp,a⟩ | ⟨H',e,kp,a⟩ | ⟨H',e,kp,a⟩
  · rw [e];exact ⟨v,H',rfl,kp,a⟩
  · rw [e]
    show Fin _ (RS.bind (exH { G n with hd:=true } "Missed" (("Missed",.tup [(.str "missed")])::_) _ H') _)
    rw [exH_here (v:=word "missed") (H1:=H') (by decide) rfl]
    exact ⟨_,H',rfl,kp,a _ _ _ rfl⟩
  · rw [e]
    show Fin _ (RS.bind (exH { G n with hd:=true } "BadOrder" (("Missed",.tup [(.str "missed")])::("BadOrder",.tup [(.str "order")])::[]) _ H') _)
    rw [exH_next (by decide),exH_here (v:=word "order") (H1:=H') (by decide) rfl]
    exact ⟨_,H',rfl,kp,a _ _ _ rfl⟩
noncomputable def Answ (w:Str) (l h s:Int) (qs:List Q4) (os:List Int) (f:Nat->Nat->Hp->R V):Prop:=∃ A,Good A/\∀ d dn k o H,DayAt w l h s qs d dn k H->H[o]?=some (.list (os.map .int))->∃ v H',f d o H=.ok v H'/\Kept H H'/\A H.length H' v
theorem good_opt (r:Option Int):Good (oneA (optI r)):=by
  cases r with
  | none=>exact good_none
  | some i=>exact good_int i
theorem rows_pl (w:Str) (l:Int) (qs:List Q4):∀ (os:List Int) (p t:Int),∀ v∈rowsI w l qs os p t,Pl 7 v
  | [],_,_,_,hv=>nomatch hv
  | z::r,p,t,v,hv=>by
    have ih:=rows_pl w l qs r
    have e:rowsI w l qs (z::r) p t=(match qs[z.toNat]? with | some q=>rowV w l p t q::rowsI w l qs r q.1 (begI w l p t q+q.2.2.2) | Option.none=>[]):=rfl
    rw [e] at hv
    cases hq:qs[z.toNat]? with
    | none=>rw [hq] at hv;cases hv
    | some q =>
      rw [hq] at hv
      rcases List.mem_cons.mp hv with rfl | hv
      · exact pl_tup (pl_ints 6 [t+apartI w l p q.1,begI w l p t q,begI w l p t q+q.2.2.2])
      · exact ih _ _ v hv
theorem drv_time (n:Nat) {os:List Int} (few:os.length<=100):∃ A,Good A/\∀ d dn k o H,DayAt w l h s qs d dn k H->H[o]?=some (.list (os.map .int))->DrvAns A H ((G (n+3)).call "timetable" [.ref d,.ref o] H):=by
  by_cases ok:Ord qs.length os
  · cases hb:behindI w l qs os h s with
    | none =>
      refine ⟨oneA (word "missed"),good_word _,fun d dn k o H x ho=>?_⟩
      rcases c_time n x ho few with ⟨no,_⟩ | ⟨_,_,H',e,kp⟩ | ⟨p,t,rows,k',H',_,q,_⟩
      · exact absurd ok no
      · exact .inr (.inl ⟨H',e,kp,fun _ _ _ q=>q⟩)
      · rw [hb] at q;cases q
    | some pt =>
      refine ⟨listA (rowsI w l qs os h s),good_list (rows_pl w l qs os h s),fun d dn k o H x ho=>?_⟩
      rcases c_time n x ho few with ⟨no,_⟩ | ⟨_,q,_⟩ | ⟨p,t,rows,k',H',_,_,e,kp,lk,hk,ro⟩
      · exact absurd ok no
      · rw [hb] at q;cases q
      · exact .inl ⟨_,H',e,kp,k',rfl,lk,by rw [<- ro.1];exact hk⟩
  · refine ⟨oneA (word "order"),good_word _,fun d dn k o H x ho=>?_⟩
    rcases c_time n x ho few with ⟨_,H',e,kp⟩ | ⟨q,_⟩ | ⟨p,t,rows,k',H',q,_⟩
    · exact .inr (.inr ⟨H',e,kp,fun _ _ _ q=>q⟩)
    · exact absurd q ok
    · exact absurd q ok
theorem drv_ends (n:Nat) (hl:1<=l) {os:List Int} (few:os.length<=100):∃ A,Good A/\∀ d dn k o H,DayAt w l h s qs d dn k H->H[o]?=some (.list (os.map .int))->DrvAns A H ((G (n+4)).call "ends" [.ref d,.ref o] H):=by
  by_cases ok:Ord qs.length os
  · cases hb:behindI w l qs os h s with
    | none =>
      refine ⟨oneA (word "missed"),good_word _,fun d dn k o H x ho=>?_⟩
      rcases c_ends n hl x ho few with ⟨no,_⟩ | ⟨_,_,H',e,kp⟩ | ⟨p,t,H',_,q,_⟩
      · exact absurd ok no
      · exact .inr (.inl ⟨H',e,kp,fun _ _ _ q=>q⟩)
      · rw [hb] at q;cases q
    | some pt =>
      refine ⟨oneA (.int (pt.2+apartI w l pt.1 h)),good_int _,fun d dn k o H x ho=>?_⟩
      rcases c_ends n hl x ho few with ⟨no,_⟩ | ⟨_,q,_⟩ | ⟨p,t,H',_,q,e,kp⟩
      · exact absurd ok no
      · rw [hb] at q;cases q
      · rw [hb] at q;cases q;exact .inl ⟨_,H',e,kp,rfl⟩
  · refine ⟨oneA (word "order"),good_word _,fun d dn k o H x ho=>?_⟩
    rcases c_ends n hl x ho few with ⟨_,H',e,kp⟩ | ⟨q,_⟩ | ⟨p,t,H',q,_⟩
    · exact .inr (.inr ⟨H',e,kp,fun _ _ _ q=>q⟩)
    · exact absurd q ok
    · exact absurd q ok
theorem drv_table (n:Nat) (h7:qs.length<=7) {os:List Int} (few:os.length<=100):∃ A,Good A/\∀ d dn k o H,DayAt w l h s qs d dn k H->H[o]?=some (.list (os.map .int))->DrvAns A H ((G (n+5)).call "table" [.ref d,.ref o] H):=by
  by_cases ok:Ord qs.length os
  · cases hb:behindI w l qs os h s with
    | none =>
      refine ⟨tabA [],good_tab _,fun d dn k o H x ho=>?_⟩
      obtain ⟨k',H',e,kp,lk,ta⟩:=c_table2 n x ho ok h7
      rw [hb] at ta
      exact .inl ⟨_,H',e,kp,k',0,rfl,lk,ta⟩
    | some pt =>
      by_cases hf:∃ j f,levs w l qs (leftOf qs.length os) pt.1 pt.2 j=(f,[])
      · obtain ⟨j,f,hf⟩:=hf
        refine ⟨tabA f,good_tab _,fun d dn k o H x ho=>?_⟩
        obtain ⟨k',H',e,kp,lk,ta⟩:=c_table2 n x ho ok h7
        rw [hb] at ta
        obtain ⟨f',j',ep,hk,_,pf⟩:=ta
        exact .inl ⟨_,H',e,kp,k',ep,rfl,lk,by rw [levs_one hf pf.1];exact hk⟩
      · refine ⟨tabA [],good_tab _,fun d dn k o H x ho=>?_⟩
        obtain ⟨k',H',e,kp,lk,ta⟩:=c_table2 n x ho ok h7
        rw [hb] at ta
        obtain ⟨f',j',ep,hk,_,pf⟩:=ta
        exact absurd ⟨j',f',pf.1⟩ hf
  · refine ⟨oneA (word "order"),good_word _,fun d dn k o H x ho=>?_⟩
    obtain ⟨_,H',e,kp⟩:=table_bad n x ho few ok
    exact .inr (.inr ⟨H',e,kp,fun _ _ _ q=>q⟩)
theorem drv_least (n:Nat) (hl:1<=l) (h7:qs.length<=7) {os:List Int} (few:os.length<=100):∃ A,Good A/\∀ d dn k o H,DayAt w l h s qs d dn k H->H[o]?=some (.list (os.map .int))->DrvAns A H ((G (n+6)).call "least" [.ref d,.ref o] H):=by
  by_cases ok:Ord qs.length os
  · by_cases hr:∃ r,Least w l h s qs os r
    · obtain ⟨r,hr⟩:=hr
      refine ⟨oneA (optI r),good_opt r,fun d dn k o H x ho=>?_⟩
      obtain ⟨r',H',e,kp,ls⟩:=c_least n hl x ho ok h7
      exact .inl ⟨_,H',e,kp,by rw [hr.one ls];rfl⟩
    · refine ⟨oneA .none,good_none,fun d dn k o H x ho=>?_⟩
      obtain ⟨r',H',e,kp,ls⟩:=c_least n hl x ho ok h7
      exact absurd ⟨r',ls⟩ hr
  · refine ⟨oneA (word "order"),good_word _,fun d dn k o H x ho=>?_⟩
    obtain ⟨_,H',e,kp⟩:=least_bad (n+1) x ho few ok
    exact .inr (.inr ⟨H',e,kp,fun _ _ _ q=>q⟩)
theorem tour_no {g:Int} {os:List Int} (t:Tour w l h s qs g os) (a:Least w l h s qs [] Option.none):False:=by
  have:=a.one (t.least 0 (Nat.zero_le _));cases this
theorem c_best2 (n:Nat) (hl:1<=l) (h7:qs.length<=7) (os:List Int):Answ w l h s qs os fun d _ H=>(G (n+8)).call "best" [.ref d] H:=by
  by_cases hr:∃ g zs,Tour w l h s qs g zs/\zs.length=qs.length
  · obtain ⟨g,zs,t,hz⟩:=hr
    refine ⟨listA (zs.map .int),good_list (pl_ints 7 zs),fun d dn k o H x ho=>?_⟩
    rcases c_best n hl x h7 with ⟨H',e,kp,no⟩ | ⟨g',zs',o',H',e,kp,hk,t',hl',ln⟩
    · exact (tour_no t no).elim
    · exact ⟨_,H',e,kp,o',rfl,ln,by rw [(t.one t' (hz.trans hl'.symm)).2];exact hk⟩
  · refine ⟨oneA .none,good_none,fun d dn k o H x ho=>?_⟩
    rcases c_best n hl x h7 with ⟨H',e,kp,_⟩ | ⟨g',zs',o',H',e,kp,hk,t',hl',ln⟩
    · exact ⟨_,H',e,kp,rfl⟩
    · exact absurd ⟨g',zs',t',hl'⟩ hr
theorem c_clash2 (n:Nat) (D:DayOk w l h s qs) (os:List Int):Answ w l h s qs os fun d _ H=>(G (n+8)).call "clash" [.ref d] H :=
  ⟨oneA (if feasB w l h s qs then .none else .tup ((clashL w l h s qs).map .int)),by
    cases feasB w l h s qs with
    | true=>exact good_none
    | false=>exact good_ints _,fun d dn k o H x ho=>by
    obtain ⟨H',e,kp⟩:=c_clash n D x
    exact ⟨_,H',e,kp,rfl⟩⟩
theorem c_told2 (n:Nat) (D:DayOk w l h s qs) (os:List Int):Answ w l h s qs os fun d _ H=>(G (n+9)).call "told" [.ref d] H:=by
  by_cases hr:∃ g zs,Tour w l h s qs g zs/\zs.length=qs.length
  · obtain ⟨g,zs,t,hz⟩:=hr
    refine ⟨tourA zs g,good_tour _ _ (Nat.le_trans (Nat.le_of_eq hz) D.few),fun d dn k o H x ho=>?_⟩
    rcases c_told n D x with ⟨H',e,kp,no⟩ | ⟨g',zs',o',H',e,kp,hk,t',hl',ln⟩
    · exact (tour_no t no).elim
    · obtain ⟨rfl,rfl⟩:=t.one t' (hz.trans hl'.symm)
      exact ⟨_,H',e,kp,o',rfl,ln,hk⟩
  · refine ⟨oneA (.tup [.str (Str.ofString "clash"),.tup ((clashL w l h s qs).map .int)]),good_tup (fun v hv=>?_) (fun u hu=>?_),fun d dn k o H x ho=>?_⟩
    · simp only [List.mem_cons,List.not_mem_nil,or_false] at hv
      rcases hv with rfl | rfl
      · exact pl_str 7 _
      · exact pl_tup (pl_ints 6 _)
    · cases hu;exact ⟨"tuple",fun _=>rfl,by decide⟩
    rcases c_told n D x with ⟨H',e,kp,_⟩ | ⟨g',zs',o',H',e,kp,hk,t',hl',ln⟩
    · exact ⟨_,H',e,kp,rfl⟩
    · exact absurd ⟨g',zs',t',hl'⟩ hr
theorem drv_any (n:Nat) (D:DayOk w l h s qs) {os:List Int} (few:os.length<=100) (kd:Int):∃ A,Good A/\∀ d dn k o H,DayAt w l h s qs d dn k H->H[o]?=some (.list (os.map .int))->DrvAns A H ((G (n+6)).call (drvF kd) [.ref d,.ref o] H):=by
  unfold drvF
  by_cases h0:kd=0
  · rw [if_pos h0];exact drv_time (n+3) few
  rw [if_neg h0]
  by_cases h1:kd=1
  · rw [if_pos h1];exact drv_ends (n+2) D.l0 few
  rw [if_neg h1]
  by_cases h2:kd=2
  · rw [if_pos h2];exact drv_table (n+1) D.few few
  rw [if_neg h2]
  exact drv_least n D.l0 D.few few
theorem c_answer (n:Nat) (D:DayOk w l h s qs) {os:List Int} (few:os.length<=100) (kd:Int):Answ w l h s qs os fun d o H=>(G (n+10)).call "_law_answer" [.ref d,.ref o,.int kd] H:=by
  have run:∀ {A:AP} {H:Hp} {d o:Nat},Fin (fun r=>∃ v H',r=.ok v H'/\Kept H H'/\A H.length H' v) (exSs (G (n+9)) d__law_answer.body [("_law_day",.ref d),("_law_order_here",.ref o),("_law_kind",.int kd)] H)->∃ v H',(G (n+10)).call "_law_answer" [.ref d,.ref o,.int kd] H=.ok v H'/\Kept H H'/\A H.length H' v:=fun {A H d o} q=>by
    rw [G_call (d:=d__law_answer) (by kernel_rfl)]
    exact runDef_P (ρ:=[("_law_day",.ref d),("_law_order_here",.ref o),("_law_kind",.int kd)]) (P:=fun r=>∃ v H',r=.ok v H'/\Kept H H'/\A H.length H' v) rfl q
  have lt:∀ H d o,evE (G (n+9)) [("_law_day",.ref d),("_law_order_here",.ref o),("_law_kind",.int kd)] (.cmp (.var "_law_kind") .lt (.int 4)) H=.ok (.bool (decide (kd < 4))) H:=fun H d o=>ev_cmp (ev_var rfl) (ev_int 4) (cmp_lt _ _ _)
  by_cases h4:kd < 4
  · obtain ⟨A,g,h⟩:=drv_any (n+2) D few kd
    refine ⟨A,g,fun d dn k o H x ho=>run (ss_if (lt H d o) ?_)⟩
    rw [decide_eq_true h4]
    obtain ⟨v,H',e,r⟩:=c_driven (n+8) (h d dn k o H x ho)
    exact ss_ret (ev_call (vs:=[.ref d,.ref o,.int kd]) (H1:=H) (G_hd _) (evs_cons (ev_var rfl) (evs_cons (ev_var rfl) (evs_one (ev_var rfl)))) rfl e) ⟨v,H',rfl,r⟩
  by_cases h5:kd=4
  · obtain ⟨A,g,h⟩:=c_best2 (n+1) D.l0 D.few os
    refine ⟨A,g,fun d dn k o H x ho=>run (ss_if (lt H d o) ?_)⟩
    rw [decide_eq_false h4]
    refine ss_if (ev_eqI (ev_var rfl)) ?_
    rw [beq_iff_eq.mpr h5]
    obtain ⟨v,H',e,r⟩:=h d dn k o H x ho
    exact ss_ret (ev_call (vs:=[.ref d]) (H1:=H) (G_hd _) (evs_one (ev_var rfl)) rfl e) ⟨v,H',rfl,r⟩
  by_cases h6:kd=5
  · obtain ⟨A,g,h⟩:=c_clash2 (n+1) D os
    refine ⟨A,g,fun d dn k o H x ho=>run (ss_if (lt H d o) ?_)⟩
    rw [decide_eq_false h4]
    refine ss_if (ev_eqI (ev_var rfl)) ?_
    rw [beq_eq_false_iff_ne.mpr h5]
    refine ss_if (ev_eqI (ev_var rfl)) ?_
    rw [beq_iff_eq.mpr h6]
    obtain ⟨v,H',e,r⟩:=h d dn k o H x ho
    exact ss_ret (ev_call (vs:=[.ref d]) (H1:=H) (G_hd _) (evs_one (ev_var rfl)) rfl e) ⟨v,H',rfl,r⟩
  obtain ⟨A,g,h⟩:=c_told2 n D os
  refine ⟨A,g,fun d dn k o H x ho=>run (ss_if (lt H d o) ?_)⟩
  rw [decide_eq_false h4]
  refine ss_if (ev_eqI (ev_var rfl)) ?_
  rw [beq_eq_false_iff_ne.mpr h5]
  refine ss_if (ev_eqI (ev_var rfl)) ?_
  rw [beq_eq_false_iff_ne.mpr h6]
  obtain ⟨v,H',e,r⟩:=h d dn k o H x ho
  exact ss_ret (ev_call (vs:=[.ref d]) (H1:=H) (G_hd _) (evs_one (ev_var rfl)) rfl e) ⟨v,H',rfl,r⟩
end
end Mine.L14
namespace Mine.L14
section
open Mine PySem PySem.NumText PySem.Builtin PySem.Builtin.Str Mine.K
noncomputable def num (i:Int):Str:=Str.ofString (toString i)
theorem num_cps (m:Nat):(num m).cps.toList=(Nat.toDigits 10 m).map Char.toNat:=PySem.W.KIN.signs_num m
theorem str_ext {a b:Str} (h:a.cps.toList=b.cps.toList):a=b:=Str.ext' (Array.toList_inj.mp h)
theorem app_cps (a b:Str):(a++b).cps.toList=a.cps.toList++b.cps.toList:=by rw [Str.cps_append,Array.toList_append]
theorem digit_nat:∀ d:Nat,d < 10->(Nat.digitChar d).toNat=48+d:=by decide
theorem num_small {m:Nat} (h:m < 10):num m=⟨#[48+m]⟩:=str_ext (by rw [num_cps,Nat.toDigits_of_lt_base h,List.map_singleton,digit_nat m h])
theorem num_step {m:Nat} (h:10<=m):num m=num ((m / 10:Nat):Int)++⟨#[48+m % 10]⟩:=str_ext (by
  have hm:m % 10 < 10:=Nat.mod_lt m (by decide)
  have t:Nat.toDigits 10 (m / 10)++Nat.toDigits 10 (m % 10)=Nat.toDigits 10 (10 * (m / 10)+m % 10):=Nat.toDigits_append_toDigits (by decide) (by omega) hm
  rw [Nat.div_add_mod] at t
  rw [num_cps,app_cps,num_cps,<- t,List.map_append,Nat.toDigits_of_lt_base hm,List.map_singleton,digit_nat _ hm])
theorem num_digits (m:Nat):∀ c∈(num m).cps.toList,48<=c/\c<=57:=by
  induction m using Nat.strongRecOn with
  | _ m ih =>
    by_cases h:m < 10
    · rw [num_small h]
      intro c hc
      have:c=48+m:=by simpa using hc
      omega
    · rw [num_step (by omega),app_cps]
      intro c hc
      rcases List.mem_append.mp hc with hc | hc
      · exact ih (m / 10) (by omega) c hc
      · have:c=48+m % 10:=by simpa using hc
        omega
theorem num_len:∀ (k m:Nat),m < 10 ^ (k+1)->1<=(num m).length/\(num m).length<=k+1
  | 0,m,h=>by
    rw [num_small (by simpa using h)]
    exact ⟨Nat.le_refl 1,Nat.le_refl 1⟩
  | k+1,m,h=>by
    by_cases h2:m < 10
    · rw [num_small h2]
      exact ⟨Nat.le_refl 1,Nat.le_add_left 1 _⟩
    · have:=num_len k (m / 10) (by rw [Nat.pow_succ] at h;omega)
      rw [num_step (by omega),Str.length_append]
      show 1<=_+1/\_+1<=_
      omega
theorem num_first (m:Nat):1<=m->∃ c r,(num m).cps.toList=c::r/\c≠48:=by
  induction m using Nat.strongRecOn with
  | _ m ih =>
    intro h0
    by_cases h:m < 10
    · exact ⟨48+m,[],by rw [num_small h],by omega⟩
    · obtain ⟨c,r,e,hc⟩:=ih (m / 10) (by omega) (by omega)
      exact ⟨c,r++[48+m % 10],by rw [num_step (by omega),app_cps,e];rfl,hc⟩
theorem num_int {m:Nat} (h:m<=1000000000000):PySem.intText? (num m)=some (m:Int):=by
  have hl:=num_len 12 m (by omega)
  have hne:(num m).cps.toList≠[]:=fun q=>by
    have e:(num m).cps.toList.length=(num m).length:=Array.length_toList
    rw [q] at e
    have:(num m).length=0:=e.symm
    omega
  rw [intText_digits (num_digits m) hne (by omega),num_cps,PySem.W.KIN.val_back]
theorem figs:∀ d:Nat,d < 10->48+d∈(Str.ofString "0123456789").cps.toList:=by decide +kernel
theorem in_figures {c:Nat} (h:48<=c/\c<=57):(!(occurrences (Str.ofString "0123456789") ⟨#[c]⟩ 0 (Str.ofString "0123456789").length 1).isEmpty)=true:=by
  rw [StrLaws.found_one,decide_eq_true_eq]
  obtain ⟨d,rfl⟩:=Nat.exists_eq_add_of_le h.1
  exact figs d (Nat.lt_of_add_lt_add_left (Nat.lt_succ_of_le h.2))
theorem join_two (s x y:Str) (r:List Str):Str.join s (x::y::r)=x++s++Str.join s (y::r):=rfl
theorem cut_uniq {c:Nat}:∀ {a b r r':List Nat},c∉a->c∉b->a++c::r=b++c::r'->a=b/\r=r'
  | [],[],_,_,_,_,e=>⟨rfl,by simpa using e⟩
  | [],y::b,_,_,_,hb,e=>by simp at e;exact absurd (e.1▸List.mem_cons_self ..) hb
  | x::a,[],_,_,ha,_,e=>by simp at e;exact absurd (e.1▸List.mem_cons_self ..) ha
  | x::a,y::b,_,_,ha,hb,e=>by
    simp only [List.cons_append,List.cons.injEq] at e
    obtain ⟨h1,h2⟩:=cut_uniq (fun q=>ha (List.mem_cons_of_mem _ q)) (fun q=>hb (List.mem_cons_of_mem _ q)) e.2
    exact ⟨by rw [e.1,h1],h2⟩
theorem join_uniq (c:Nat):∀ (ps qs:List Str),ps≠[]->qs≠[]->(∀ p∈ps,c∉p.cps.toList)->(∀ p∈qs,c∉p.cps.toList)->Str.join ⟨#[c]⟩ ps=Str.join ⟨#[c]⟩ qs->ps=qs
  | [],_,h,_,_,_,_=>absurd rfl h
  | _,[],_,h,_,_,_=>absurd rfl h
  | [p],[q],_,_,_,_,e=>by rw [show p=q from e]
  | [p],q::q2::qs,_,_,hp,_,e=>by
    have e2:=congrArg (fun x:Str=>x.cps.toList) e
    simp only [join_two,app_cps] at e2
    refine absurd ?_ (hp p (List.mem_cons_self ..))
    rw [show p.cps.toList=_ from e2];simp
  | p::p2::ps,[q],_,_,_,hq,e=>by
    have e2:=congrArg (fun x:Str=>x.cps.toList) e
    simp only [join_two,app_cps] at e2
    refine absurd ?_ (hq q (List.mem_cons_self ..))
    rw [show q.cps.toList=_ from e2.symm];simp
  | p::p2::ps,q::q2::qs,_,_,hp,hq,e=>by
    have e2:=congrArg (fun x:Str=>x.cps.toList) e
    simp only [join_two,app_cps,List.append_assoc] at e2
    obtain ⟨h1,h2⟩:=cut_uniq (c:=c) (hp p (List.mem_cons_self ..)) (hq q (List.mem_cons_self ..)) (by simpa using e2)
    rw [str_ext h1,join_uniq c (p2::ps) (q2::qs) (fun h=>nomatch h) (fun h=>nomatch h) (fun x hx=>hp x (List.mem_cons_of_mem _ hx)) (fun x hx=>hq x (List.mem_cons_of_mem _ hx)) (str_ext h2)]
theorem split_of (c:Nat) {ps:List Str} (hne:ps≠[]) (hf:∀ p∈ps,c∉p.cps.toList):Txt.split (Str.join ⟨#[c]⟩ ps) ⟨#[c]⟩=ps:=by
  refine join_uniq c _ _ (fun q=>?_) hne (StrLaws.split_free _ c) hf (StrLaws.join_split _ _)
  have:=PyProof.Rows.split_pos (Str.join ⟨#[c]⟩ ps) ⟨#[c]⟩
  rw [q] at this
  exact absurd this (by decide)
end
open Mine PySem Mine.K
inductive Pt where
  | w (s:Str)
  | n (m:Nat)
noncomputable def Pt.word:Pt->Str
  | .w s=>s
  | .n m=>num m
noncomputable def Pt.form:Pt->V
  | .w s=>.str s
  | .n _=>.none
noncomputable def Pt.found:Pt->Option V
  | .w _=>Option.none
  | .n m=>some (.int m)
noncomputable def Pln (n:Nat) (x:Str):Prop:=x.length<=n/\∀ c∈x.cps.toList,c≠32/\c≠10/\c < 128
noncomputable def Pt.Ok:Pt->Prop
  | .w s=>Pln 13 s
  | .n m=>m<=1000000000000
theorem Pln.num {m:Nat} (h:m<=1000000000000):Pln 13 (num m) :=
  ⟨(num_len 12 m (by omega)).2,fun c hc=>by have:=num_digits m c hc;omega⟩
theorem Pt.Ok.pln {p:Pt} (h:p.Ok):Pln 13 p.word:=by
  cases p with
  | w s=>exact h
  | n m=>exact Pln.num h
noncomputable abbrev sp:Str:=⟨#[32]⟩
noncomputable abbrev nl:Str:=⟨#[10]⟩
theorem sp_eq:Str.ofString " "=sp:=by decide +kernel
theorem nl_eq:Str.ofString "\n"=nl:=by decide +kernel
theorem em_eq:Str.ofString ""=Str.empty:=by decide +kernel
theorem join_mem {c x:Nat}:∀ {ps:List Str},x∈(Str.join ⟨#[c]⟩ ps).cps.toList->x=c\/∃ p∈ps,x∈p.cps.toList
  | [],h=>nomatch h
  | [p],h=>.inr ⟨p,List.mem_cons_self ..,h⟩
  | p::q::r,h=>by
    rw [join_two,app_cps,app_cps] at h
    rcases List.mem_append.mp h with h | h
    · rcases List.mem_append.mp h with h | h
      · exact .inr ⟨p,List.mem_cons_self ..,h⟩
      · exact .inl (by simpa using h)
    · rcases join_mem h with h | ⟨s,hs,h⟩
      · exact .inl h
      · exact .inr ⟨s,List.mem_cons_of_mem _ hs,h⟩
theorem join_le {c k:Nat}:∀ {ps:List Str},(∀ p∈ps,p.length<=k)->(Str.join ⟨#[c]⟩ ps).length<=(k+1) * ps.length
  | [],_=>Nat.zero_le _
  | [p],h=>by
    have:=h p (List.mem_cons_self ..)
    show p.length<=(k+1) * 1
    omega
  | p::q::r,h=>by
    have h1:=h p (List.mem_cons_self ..)
    have h2:=join_le (c:=c) (ps:=q::r) fun x hx=>h x (List.mem_cons_of_mem _ hx)
    rw [join_two,Str.length_append,Str.length_append,List.length_cons,Nat.mul_succ]
    show p.length+1+_<=_
    omega
noncomputable def row (ps:List Pt):Str:=Str.join sp (ps.map Pt.word)
theorem row_free {ps:List Pt} (h:∀ p∈ps,p.Ok) {c:Nat} (hc:c∈(row ps).cps.toList):c≠10/\c < 128:=by
  rcases join_mem hc with rfl | ⟨x,hx,h2⟩
  · decide
  · obtain ⟨p,hp,rfl⟩:=List.mem_map.mp hx
    exact ((h p hp).pln.2 c h2).2
theorem row_le {ps:List Pt} (h:∀ p∈ps,p.Ok):(row ps).length<=14 * ps.length:=by
  have:=join_le (c:=32) (k:=13) (ps:=ps.map Pt.word) fun x hx=>by
    obtain ⟨p,hp,rfl⟩:=List.mem_map.mp hx
    exact (h p hp).pln.1
  rwa [List.length_map] at this
theorem strOk_of {x:Str} (h:∀ c∈x.cps.toList,c < 128):PyData.strOk x=true:=by
  unfold PyData.strOk
  rw [Array.all_eq_true']
  intro c hc
  have:=h c (Array.mem_toList_iff.mpr hc)
  exact decide_eq_true (by omega)
noncomputable def text (rs:List Str):Str:=Str.join nl (rs++[Str.empty])
theorem text_nil:text []=Str.empty:=rfl
theorem text_cons (r:Str):∀ rs:List Str,text (r::rs)=r++nl++text rs
  | []=>rfl
  | _::_=>rfl
theorem text_join:∀ rs:List Str,Str.join Str.empty (rs.map (·++nl))=text rs
  | []=>rfl
  | [r]=>by rw [text_cons,text_nil,Str.append_empty];rfl
  | r::q::rs=>by
    have ih:=text_join (q::rs)
    rw [text_cons,<- ih]
    show r++nl++Str.empty++_=_
    rw [Str.append_empty]
theorem split_text {rs:List Str} (h:∀ r∈rs,∀ c∈r.cps.toList,c≠10):Txt.split (text rs) nl=rs++[Str.empty] :=
  split_of 10 (by simp) fun p hp=>by
    rcases List.mem_append.mp hp with hp | hp
    · exact fun hc=>h p hp 10 hc rfl
    · rw [List.mem_singleton.mp hp];exact fun hc=>nomatch hc
theorem split_row {ps:List Pt} (hne:ps≠[]) (h:∀ p∈ps,p.Ok):Txt.split (row ps) sp=ps.map Pt.word :=
  split_of 32 (by simpa using hne) fun x hx=>by
    obtain ⟨p,hp,rfl⟩:=List.mem_map.mp hx
    exact fun hc=>((h p hp).pln.2 32 hc).1 rfl
noncomputable abbrev wd (s:String):Pt:=.w (Str.ofString s)
noncomputable def row0 (w:Str) (l:Nat):List Pt:=[.w w,.n l]
noncomputable def row1 (h s:Nat):List Pt:=[wd "home",.n h,wd "at",.n s]
noncomputable def rowQ (q:Q4):List Pt:=[wd "stop",.n q.1.toNat,wd "from",.n q.2.1.toNat,wd "to",.n q.2.2.1.toNat,wd "for",.n q.2.2.2.toNat]
noncomputable def rowsD (w:Str) (l h s:Nat) (qs:List Q4):List Str:=row (row0 w l)::row (row1 h s)::qs.map fun q=>row (rowQ q)
structure QOk (q:Q4):Prop where
  a:0<=q.1/\q.1<=1000000000000
  b:0<=q.2.1/\q.2.1<=1000000000000
  c:0<=q.2.2.1/\q.2.2.1<=1000000000000
  d:0<=q.2.2.2/\q.2.2.2<=1000000000000
theorem l_stop:(Str.ofString "stop ").cps.toList=(Str.ofString "stop").cps.toList++[32]:=by decide +kernel
theorem l_from:(Str.ofString " from ").cps.toList=32::(Str.ofString "from").cps.toList++[32]:=by decide +kernel
theorem l_to:(Str.ofString " to ").cps.toList=32::(Str.ofString "to").cps.toList++[32]:=by decide +kernel
theorem l_for:(Str.ofString " for ").cps.toList=32::(Str.ofString "for").cps.toList++[32]:=by decide +kernel
theorem l_home:(Str.ofString "home ").cps.toList=(Str.ofString "home").cps.toList++[32]:=by decide +kernel
theorem l_at:(Str.ofString " at ").cps.toList=32::(Str.ofString "at").cps.toList++[32]:=by decide +kernel
theorem join_one (s x:Str):Str.join s [x]=x:=rfl
theorem row_q (acc:Str) (q:Q4):acc++Str.ofString "stop "++num q.1.toNat++Str.ofString " from "++num q.2.1.toNat++Str.ofString " to "++num q.2.2.1.toNat++Str.ofString " for "++num q.2.2.2.toNat++Str.ofString "\n"=acc++(row (rowQ q)++nl):=str_ext (by
  simp only [row,rowQ,List.map,Pt.word,join_two,join_one,app_cps,List.append_assoc,List.cons_append,List.nil_append,l_stop,l_from,l_to,l_for,nl_eq])
theorem row_0 (w:Str) (l:Nat):w++Str.ofString " "++num l++Str.ofString "\n"=row (row0 w l)++nl:=by rw [sp_eq,nl_eq];rfl
theorem row_1 (acc:Str) (h s:Nat):acc++Str.ofString "home "++num h++Str.ofString " at "++num s++Str.ofString "\n"=acc++(row (row1 h s)++nl):=str_ext (by
  simp only [row,row1,List.map,Pt.word,join_two,join_one,app_cps,List.append_assoc,List.cons_append,List.nil_append,l_home,l_at,nl_eq])
theorem QOk.rowOk {q:Q4} (h:QOk q):∀ p∈rowQ q,p.Ok:=by
  have w:∀ s∈[Str.ofString "stop",Str.ofString "from",Str.ofString "to",Str.ofString "for"],Pln 13 s:=by unfold Pln;decide +kernel
  obtain ⟨⟨_,a⟩,⟨_,b⟩,⟨_,c⟩,⟨_,d⟩⟩:=h
  intro p hp
  simp only [rowQ,List.mem_cons,List.not_mem_nil,or_false] at hp
  rcases hp with rfl | rfl | rfl | rfl | rfl | rfl | rfl | rfl
  · exact w _ (by simp)
  · exact Int.toNat_le.mpr a
  · exact w _ (by simp)
  · exact Int.toNat_le.mpr b
  · exact w _ (by simp)
  · exact Int.toNat_le.mpr c
  · exact w _ (by simp)
  · exact Int.toNat_le.mpr d
theorem StopOk.q {w:Str} {l:Int} {q:Q4} (hl:l<=1000000000) (h:StopOk w l q.1 q.2.1 q.2.2.1 q.2.2.2):QOk q:=by
  obtain ⟨p0,p1,o0,oc,c1,s0,s1⟩:=h
  have hm:many w l<=l+1:=by unfold many;split <;> omega
  exact ⟨⟨p0,by omega⟩,⟨o0,by omega⟩,⟨by omega,c1⟩,⟨s0,s1⟩⟩
structure NumD (w:Str) (l h s:Int) (qs:List Q4):Prop where
  w:w=sLine\/w=sRing
  l:1<=l/\l<=1000000000
  h:0<=h/\h<=1000000000000
  s:0<=s/\s<=1000000000000
  few:qs.length<=7
  q:∀ q∈qs,QOk q
noncomputable abbrev txtD (w:Str) (l h s:Int) (qs:List Q4):Str:=text (rowsD w l.toNat h.toNat s.toNat qs)
theorem NumD.pln {w:Str} (h:w=sLine\/w=sRing):Pln 13 w:=by
  have:∀ s∈[sLine,sRing],Pln 13 s:=by unfold Pln;decide +kernel
  rcases h with rfl | rfl
  · exact this _ (by simp)
  · exact this _ (by simp)
theorem NumD.row0 {w:Str} {l h s:Int} {qs:List Q4} (ok:NumD w l h s qs):∀ p∈L14.row0 w l.toNat,p.Ok:=by
  intro p hp
  simp only [L14.row0,List.mem_cons,List.not_mem_nil,or_false] at hp
  rcases hp with rfl | rfl
  · exact NumD.pln ok.w
  · exact Int.toNat_le.mpr (by have:=ok.l;omega)
theorem NumD.row1 {w:Str} {l h s:Int} {qs:List Q4} (ok:NumD w l h s qs):∀ p∈L14.row1 h.toNat s.toNat,p.Ok:=by
  have w:∀ s∈[Str.ofString "home",Str.ofString "at"],Pln 13 s:=by unfold Pln;decide +kernel
  intro p hp
  simp only [L14.row1,List.mem_cons,List.not_mem_nil,or_false] at hp
  rcases hp with rfl | rfl | rfl | rfl
  · exact w _ (by simp)
  · exact Int.toNat_le.mpr ok.h.2
  · exact w _ (by simp)
  · exact Int.toNat_le.mpr ok.s.2
theorem NumD.rows {w:Str} {l h s:Int} {qs:List Q4} (ok:NumD w l h s qs):∀ r∈rowsD w l.toNat h.toNat s.toNat qs,r.length<=112/\∀ c∈r.cps.toList,c≠10/\c < 128:=by
  intro r hr
  simp only [rowsD,List.mem_cons,List.mem_map] at hr
  have go:∀ ps:List Pt,ps.length<=8->(∀ p∈ps,p.Ok)->(row ps).length<=112/\∀ c∈(row ps).cps.toList,c≠10/\c < 128:=fun ps hl ho=>⟨by have:=row_le ho;omega,fun c hc=>row_free ho hc⟩
  rcases hr with rfl | rfl | ⟨q,hq,rfl⟩
  · exact go _ (show 2<=8 by decide) ok.row0
  · exact go _ (show 4<=8 by decide) ok.row1
  · exact go _ (show 8<=8 by decide) (ok.q q hq).rowOk
theorem text_chars {rs:List Str} (h:∀ r∈rs,∀ c∈r.cps.toList,c < 128):∀ c∈(text rs).cps.toList,c < 128:=fun c hc=>by
  rcases join_mem hc with rfl | ⟨p,hp,hc⟩
  · decide
  · rcases List.mem_append.mp hp with hp | hp
    · exact h p hp c hc
    · rw [List.mem_singleton.mp hp] at hc;exact nomatch hc
end Mine.L14
namespace Mine.L14
open Mine PySem Mine.K
theorem bi_len_str {x:Str} (h:x.length<=line) (H:Hp):builtin "len" [.str x] H=.ok (.int x.length) H:=by
  show biLen (.str x) H=_
  rw [biLen,optR_of (show lenV (.str x) H=some x.length from if_pos h)]
theorem bi_int_str {x:Str} {i:Int} (h:x.length<=640) (e:intText? x=some i) (H:Hp):builtin "int" [.str x] H=.ok (.int i) H:=by
  show biInt (.str x) H=_
  rw [biInt,optR_of (show strAt (.str x)=some x from rfl),ifR_of h,optR_of e]
theorem bools_true {α:Type}:∀ cs:List α,bools (cs.map fun _=>V.bool true)=some (cs.map fun _=>true)
  | []=>rfl
  | c::cs=>by
    have ih:=bools_true cs
    unfold bools at ih ⊢
    rw [List.map_cons,List.mapM_cons,ih];rfl
theorem bi_all_true {α:Type} {cs:List α} {k:Nat} {H:Hp} (h:H[k]?=some (.list (cs.map fun _=>V.bool true))):builtin "all" [.ref k] H=.ok (.bool true) H:=by
  show biAll (.ref k) H=_
  rw [biAll,optR_of (show (listAt (.ref k) H).bind bools=some (cs.map fun _=>true) by rw [listAt_of h];exact bools_true cs),show (cs.map fun _=>true).all id=true from List.all_eq_true.mpr fun x hx=>(List.mem_map.mp hx).elim fun _ q=>q.2.symm]
theorem items_str {x:Str} (h:Pln 13 x) (H:Hp):items H (.str x)=some (x.cps.toList.map fun c=>.str ⟨#[c]⟩):=by
  have h1:(x.cps.all (· < 128))=true:=by
    rw [Array.all_eq_true']
    intro c hc
    exact decide_eq_true (h.2 c (Array.mem_toList_iff.mpr hc)).2.2
  have h2:decide (x.length<=line)=true:=decide_eq_true (Nat.le_trans h.1 (by decide))
  have q:items H (.str x)=if (x.cps.all (· < 128)&&decide (x.length<=line))=true then some (signs x) else Option.none:=rfl
  rw [q,h1,h2];rfl
theorem sign_ne {c:Nat} (h:c≠48):(((⟨#[c]⟩:Str)==Str.ofString "0")=false):=by
  have e:Str.ofString "0"=⟨#[48]⟩:=by decide +kernel
  rw [e]
  refine beq_eq_false_iff_ne.mpr fun q=>h ?_
  have:=congrArg (fun x:Str=>x.cps.toList) q
  exact (List.cons.inj this).1
theorem ev_cmp2 {Γ:Fn} {ρ:Rho} {l m r:E} {op op':Cm} {a b c:V} {t:Bool} {H:Hp} (hl:evE Γ ρ l H=.ok a H) (hm:evE Γ ρ m H=.ok b H) (hc:cmp op a b H=some true) (hr:evE Γ ρ r H=.ok c H) (hd:cmp op' b c H=some t):evE Γ ρ (.cmp2 l op m op' r) H=.ok (.bool t) H:=by
  rw [evE_cmp2,hl,R.bind_ok,hm,R.bind_ok,optR_of hc,if_pos rfl,hr,R.bind_ok,optR_of hd]
theorem c_number (n m:Nat) (H:Hp) (hm:m<=1000000000000):∃ o,(G (n+1)).call "number_of" [.str (num m)] H=.ok (.int m) (H++[o]):=by
  rw [G_call (d:=d_number_of) (by kernel_rfl)]
  have hp:=Pln.num hm
  have hl:=num_len 12 m (Nat.lt_of_le_of_lt hm (by decide))
  have hl2:(num m).length<=line:=Nat.le_trans hl.2 (by decide)
  have bl:=bi_len_str hl2
  have hf:=num_digits m
  have hi:=bi_int_str (Nat.le_trans hl.2 (by decide)) (num_int hm)
  have h0:1 < (num m).length->∃ c r,(num m).cps.toList=c::r/\c≠48:=fun h1=>num_first m (Nat.pos_of_ne_zero fun q=>by
    rw [q,show ((0:Nat):Int)=(0:Nat) from rfl,num_small (by decide)] at h1
    exact absurd h1 (by decide))
  generalize num m=x at *
  refine ⟨.list (x.cps.toList.map fun _=>.bool true),?_⟩
  have ec:evE (G n) [("word",.str x)] (.comp0 (.cmp (.var "sign") .isIn (.glob "FIGURES")) "sign" (.var "word")) H=.ok (.ref H.length) (H++[.list (x.cps.toList.map fun _=>.bool true)]):=by
    refine ev_comp0 (v:=.str x) (H1:=H) (G_hd _) (ev_var rfl) (items_str hp H) (turns_map (fun c=>V.str ⟨#[c]⟩) (fun _=>V.bool true) _ _ H (fun _=>rfl) x.cps.toList (fun c hc ys=>?_) ?_)
    · exact ev_cmp (u:=.str ⟨#[c]⟩) (v:=.str (Str.ofString "0123456789")) (ev_var rfl) (ev_glob (by rw [G_const];rfl)) (congrArg some (in_figures (hf c hc)))
    · rw [Array.length_toList];exact hl2
  have ea:=bi_all_true (cs:=x.cps.toList) (len_app1 H _)
  generalize H++[O.list (x.cps.toList.map fun _=>.bool true)]=H1 at ec ea ⊢
  have l1:(0:Int) < x.length:=Int.ofNat_lt.mpr hl.1
  have l2:(x.length:Int)<=15:=Int.ofNat_le.mpr (Nat.le_trans hl.2 (by decide))
  have t1:cmp .lt (.int 0) (.int x.length) H=some true:=by rw [cmp_lt,decide_eq_true l1]
  have t2:cmp .le (.int x.length) (.int 15) H=some true:=by rw [cmp_le,decide_eq_true l2]
  refine runDef_is (ρ:=[("word",.str x)]) rfl ?_
  refine ss_if (c:=false) (H1:=H1) (show evBo _ _ false _ _=_ from ev_or (c:=false) (ev_not (ev_cmp2 (ev_int 0) (ev_bi (G_hd _) (evs_one (ev_var rfl)) (bl H)) t1 (ev_glob (by rw [G_const];rfl)) t2) rfl) (show evE _ _ _ _=_ from ev_not (ev_bi (G_hd _) (evs_one ec) ea) rfl)) ?_
  refine ss_if (c:=false) (H1:=H1) (show evBo _ _ true _ _=_ from ev_and (c:=decide ((1:Int) < x.length)) (ev_cmp (ev_bi (G_hd _) (evs_one (ev_var rfl)) (bl H1)) (ev_int 1) (cmp_gt _ _ _)) ?_) (ss_ret (ev_bi (G_hd _) (evs_one (ev_var rfl)) (hi H1)) rfl)
  by_cases h1:1 < x.length
  · have h1':(1:Int) < x.length:=Int.ofNat_lt.mpr h1
    obtain ⟨c,r,e,hc⟩:=h0 h1
    have ei:index (.str x) (.int 0) H1=.ok (.str ⟨#[c]⟩) H1:=(optR_of (show Mine.rowV (.str x) H1=some (signs x) from if_pos hl2)).trans (item_at (i:=0) (by unfold signs;rw [e];rfl))
    rw [decide_eq_true h1',if_pos rfl]
    exact ev_cmp (Γ:=G n) (ρ:=[("word",.str x)]) (u:=.str ⟨#[c]⟩) (ev_idx (ev_var (x:="word") rfl) (ev_int 0) ei) rfl (by rw [cmp_eq_str,sign_ne hc])
  · have h1':¬ (1:Int) < x.length:=fun q=>h1 (Int.ofNat_lt.mp q)
    rw [decide_eq_false h1'];rfl
theorem m_split {x y:Str} {ps:List Str} (H:Hp) (hx:x.length<=line) (hy:y.length≠0) (hs:Txt.split x y=ps) (hl:ps.length<=line) (ho:∀ p∈ps,∀ c∈p.cps.toList,c < 128):me1 mSplit (.str x) [.str y] H=.ok (.ref H.length) (H++[.list (ps.map .str)]):=by
  show mSplit (.str x) (.str y) H=_
  rw [mSplit,optR_of (show strAt (.str x)=some x from rfl),optR_of (show strAt (.str y)=some y from rfl),hs,ifR_of ⟨hx,hy,hl,List.all_eq_true.mpr fun p hp=>strOk_of (ho p hp)⟩];rfl
noncomputable def NumH (H:Hp) (ws done:List V) (L:Hp):Hp:=H++.list ws::.list done::.own::L
section
variable (H:Hp) (ws done:List V) (L:Hp)
theorem numH_0:(NumH H ws done L)[H.length]?=some (.list ws):=by unfold NumH;rw [List.getElem?_append_right (Nat.le_refl _),Nat.sub_self];rfl
theorem numH_1:(NumH H ws done L)[H.length+1]?=some (.list done):=by unfold NumH;rw [List.getElem?_append_right (Nat.le_add_right _ _),Nat.add_sub_cancel_left];rfl
theorem numH_2:(NumH H ws done L)[H.length+2]?=some .own:=by unfold NumH;rw [List.getElem?_append_right (Nat.le_add_right _ _),Nat.add_sub_cancel_left];rfl
theorem numH_set (d':List V):(NumH H ws done L).set (H.length+1) (.list d')=NumH H ws d' L:=by unfold NumH;rw [List.set_append_right _ _ (Nat.le_add_right _ _),Nat.add_sub_cancel_left];rfl
theorem numH_app (o:O):NumH H ws done L++[o]=NumH H ws done (L++[o]):=by unfold NumH;rw [List.append_assoc];rfl
end
noncomputable abbrev numB:List S:=[.iff (.cmp (.var "wanted") .is .none) [.expr (.meth (.var "found") "append" [(.call "number_of" [(.var "word")])])] [.iff (.cmp (.var "word") .ne (.var "wanted")) [.raise "NoDay"] []]]
theorem num_turn (n:Nat) (H:Hp) (ws done:List V) (L:Hp) (ρ:Rho) (p:Pt) (hp:p.Ok) (hd:done.length < line) (hf:ρ.lookup "found"=some (.ref (H.length+1))) :
    Turns (fun ρ' H'=>ρ'.lookup "found"=some (.ref (H.length+1))/\∃ L',H'=NumH H ws (done++p.found.toList) L') (exSs (G (n+1)) numB (setL "wanted" p.form (setL "word" (.str p.word) ρ)) (NumH H ws done L)):=by
  cases p with
  | w x =>
    show Turns _ (exSs _ numB (setL "wanted" (.str x) (setL "word" (.str x) ρ)) _)
    refine ss_if (c:=false) (ev_cmp (u:=.str x) (ev_var (setL_self _ _ _)) ev_none rfl) ?_
    refine ss_if (c:=false) (ev_cmp (u:=.str x) (v:=.str x) (ev_var (by repeat (first | assumption | with_reducible first | exact setL_self _ _ _ | refine setL_other (by decide) ?_))) (ev_var (setL_self _ _ _)) (by rw [cmp_ne_str,beq_self_eq_true];rfl)) (Turns.here ⟨(by repeat (first | assumption | with_reducible first | exact setL_self _ _ _ | refine setL_other (by decide) ?_)),L,?_⟩)
    show _=NumH H ws (done++[]) L
    rw [List.append_nil]
  | n m =>
    obtain ⟨o,e⟩:=c_number n m (NumH H ws done L) hp
    rw [numH_app] at e
    have ea:=m_append (v:=.int m) (numH_1 H ws done (L++[o])) hd
    rw [numH_set] at ea
    show Turns _ (exSs _ numB (setL "wanted" .none (setL "word" (.str (num m)) ρ)) _)
    refine ss_if (c:=true) (ev_cmp (u:=.none) (ev_var (setL_self _ _ _)) ev_none rfl) ?_
    exact ss_expr (ev_meth (vs:=[.int m]) (ev_var (by repeat (first | assumption | with_reducible first | exact setL_self _ _ _ | refine setL_other (by decide) ?_))) (kind_list (numH_1 H ws done L)) rfl (evs_one (ev_call (vs:=[.str (num m)]) (H1:=NumH H ws done L) (G_hd _) (evs_one (ev_var (by repeat (first | assumption | with_reducible first | exact setL_self _ _ _ | refine setL_other (by decide) ?_)))) rfl e)) ea) (Turns.here ⟨(by repeat (first | assumption | with_reducible first | exact setL_self _ _ _ | refine setL_other (by decide) ?_)),_,rfl⟩)
theorem ss_forZ {T:RS->Prop} {Γ:Fn} {ρ:Rho} {xs:List String} {l t:E} {b ss:List S} {H H1:Hp} {v:V} {us ws:List V} {r:RS} (hd:Γ.hd=false) (he:evEs Γ ρ [l,t] H=.ok [v,.tup ws] H1) (hl:listAt v H1=some us) (hq:us.length=ws.length)
    (hf:forL (fun v ρ1 H2=>unpackV xs v ρ1 H2 fun ρ2=>exSs Γ b ρ2 H2) (fun H'=>sameO v H1 H'&&isOwn H'[H1.length]?) (pairsZ us ws) ρ (H1++[.own])=r) (k:T (r.bind fun ρ1 H2=>exSs Γ ss ρ1 H2)):T (exSs Γ (.forZ xs l t b::ss) ρ H):=by
  have q:exSs Γ (.forZ xs l t b::ss) ρ H=r.bind fun ρ1 H2=>exSs Γ ss ρ1 H2:=by
    rw [exSs_cons,exS_forZ,hdS_of hd,he,ofR_ok,forZ,optS_of hl,optS_of (show tupAt (.tup ws)=some ws from rfl),ifS_of hq,hf]
  rw [q];exact k
theorem c_numbers (n:Nat) (ps:List Pt) (H:Hp) (hne:ps≠[]) (ho:∀ p∈ps,p.Ok) (hl:ps.length<=8) :
    ∃ L,(G (n+2)).call "numbers_of" [.str (row ps),.tup (ps.map Pt.form)] H=.ok (.ref (H.length+1)) (NumH H (ps.map fun p=>.str p.word) (ps.filterMap Pt.found) L):=by
  rw [G_call (d:=d_numbers_of) (by kernel_rfl)]
  have es:=m_split H (x:=row ps) (y:=sp) (ps:=ps.map Pt.word) (Nat.le_trans (row_le ho) (Nat.le_trans (Nat.mul_le_mul_left 14 hl) (by decide))) (by decide) (split_row hne ho) (by rw [List.length_map];exact Nat.le_trans hl (by decide)) (fun x hx c hc=>by
    obtain ⟨p,hp,rfl⟩:=List.mem_map.mp hx
    exact ((ho p hp).pln.2 c hc).2.2)
  rw [List.map_map] at es
  have es':me1 mSplit (.str (row ps)) [.str sp] H=.ok (.ref H.length) (H++[.list (ps.map fun p=>.str p.word)]):=es
  have lw:(ps.map fun p=>V.str p.word).length=(ps.map Pt.form).length:=by rw [List.length_map,List.length_map]
  have z:pairsZ (ps.map fun p=>V.str p.word) (ps.map Pt.form)=ps.map fun p=>.tup [.str p.word,p.form]:=by
    unfold pairsZ
    rw [List.zip_map',List.map_map];rfl
  refine runDef_P (ρ:=[("row",.str (row ps)),("form",.tup (ps.map Pt.form))]) (P:=fun r=>∃ L,r=.ok (.ref (H.length+1)) (NumH H (ps.map fun p=>.str p.word) (ps.filterMap Pt.found) L)) rfl ?_
  generalize hws:(ps.map fun p=>V.str p.word)=ws at *
  refine ss_asg (ev_meth (w:=.str (row ps)) (vs:=[.str sp]) (H1:=H) (H2:=H) (ev_var rfl) rfl rfl (evs_one (by rw [evE_con,sp_eq];rfl)) es') ?_
  have w1:(H++[.list ws])[H.length]?=some (.list ws):=len_app1 H _
  refine ss_if (c:=false) (ev_cmp (ev_bi (G_hd _) (evs_one (ev_var rfl)) (bi_len_ref w1)) (ev_bi (v:=.int (ps.map Pt.form).length) (G_hd _) (evs_one (ev_var rfl)) rfl) (by rw [cmp_ne_int,lw,beq_self_eq_true];rfl)) ?_
  refine ss_asg (ev_list evs_nil) ?_
  have w2:=(ext_app (H++[.list ws]) [.list []]).get w1
  have len2:(H++[O.list ws]).length=H.length+1:=by rw [List.length_append];rfl
  have len3:(H++[O.list ws]++[O.list []]).length=H.length+2:=by rw [List.length_append,len2];rfl
  rw [len2]
  obtain ⟨ρ',H',e',f',L',rfl,_⟩:=forL_all (fun p:Pt=>V.tup [.str p.word,p.form]) (fun v ρ1 H2=>unpackV ["word","wanted"] v ρ1 H2 fun ρ2=>exSs (G (n+1)) numB ρ2 H2) (fun H'=>sameO (.ref H.length) (H++[.list ws]++[.list []]) H'&&isOwn H'[(H++[O.list ws]++[O.list []]).length]?)
    (fun a b ρ H'=>ρ.lookup "found"=some (.ref (H.length+1))/\∃ L',H'=NumH H ws (a.filterMap Pt.found) L'/\a++b=ps) (fun a b ρ H' ⟨_,L',e,_⟩=>by
      rw [e,len3,numH_2,same_list w2 (numH_0 H ws _ L')];rfl) (by
      rintro a p b ρ H' ⟨f,L',rfl,rfl⟩
      have la:(a.filterMap Pt.found).length < line:=by
        have:=List.length_filterMap_le Pt.found a
        rw [List.length_append,List.length_cons] at hl
        exact Nat.lt_of_le_of_lt (Nat.le_trans this (Nat.le_trans (Nat.le_add_right _ _) hl)) (by decide)
      obtain ⟨ρ2,H2,q1,q2,L2,q3⟩:=num_turn n H ws (a.filterMap Pt.found) L' ρ p (ho p (List.mem_append.mpr (.inr (List.mem_cons_self ..)))) la f
      refine ⟨ρ2,H2,q1,q2,L2,?_,by rw [List.append_assoc];rfl⟩
      rw [q3,List.filterMap_append]
      cases hp:p.found with
      | none=>rw [List.filterMap_cons_none hp];rfl
      | some v=>rw [List.filterMap_cons_some hp];rfl)
    ps (setL "found" (.ref (H.length+1)) (setL "words" (.ref H.length) [("row",.str (row ps)),("form",.tup (ps.map Pt.form))])) (H++[.list ws]++[.list []]++[.own]) ⟨rfl,[],by rw [List.append_assoc,List.append_assoc];rfl,rfl⟩
  exact ss_forZ (v:=.ref H.length) (r:=.next ρ' (NumH H ws (ps.filterMap Pt.found) L')) (G_hd _) (evs_cons (ev_var rfl) (evs_one (ev_var rfl))) (listAt_of w2) lw (by rw [z];exact e') (ss_ret (ev_var f') ⟨L',rfl⟩)
theorem catS_ok {ρ:Rho}:∀ (ps:List (Bool×String)) (ys:List Str) (x:Str),ps.map (partS ρ)=ys.map some->(∀ y∈ys,y.length<=13)->x.length+13 * ys.length<=line->catS ρ ps x=some (ys.foldl (·++·) x)
  | [],[],x,_,_,_=>rfl
  | [],_::_,x,e,_,_=>nomatch e
  | _::_,[],x,e,_,_=>nomatch e
  | p::ps,y::ys,x,e,h,hl=>by
    have e1:=(List.cons.inj e).1
    have hy:=h y (List.mem_cons_self ..)
    have hl':x.length+13 * (ys.length+1)<=line:=hl
    have hx:(x++y).length+13 * ys.length<=line:=by
      rw [Str.length_append,Nat.add_assoc]
      refine Nat.le_trans (Nat.add_le_add_left ?_ _) hl'
      rw [Nat.mul_succ,Nat.add_comm];exact Nat.add_le_add_left hy _
    show (partS ρ p).bind _=_
    rw [show partS ρ p=some y from e1,Option.bind_some,if_pos (Nat.le_trans (Nat.le_add_right _ _) hx)]
    exact catS_ok ps ys (x++y) (List.cons.inj e).2 (fun z hz=>h z (List.mem_cons_of_mem _ hz)) hx
theorem ev_fstr {Γ:Fn} {ρ:Rho} {ps:List (Bool×String)} {ys:List Str} {z:Str} {H:Hp} (h:ps.map (partS ρ)=ys.map some) (hy:∀ y∈ys,y.length<=13) (hl:ys.length<=20) (hz:ys.foldl (·++·) Str.empty=z):evE Γ ρ (.fstr ps) H=.ok (.str z) H:=by
  rw [evE_fstr,optR_of (catS_ok ps ys Str.empty h hy (Nat.le_trans (Nat.add_le_add_left (Nat.mul_le_mul_left 13 hl) _) (by decide))),hz]
theorem part_int {ρ:Rho} {x:String} {i:Int} (h:ρ.lookup x=some (.int i)) (hi:0<=i/\i<=1000000000000):partS ρ (true,x)=some (num i.toNat):=by
  have q:partS ρ (true,x)=(ρ.lookup x).bind fmtS:=rfl
  have q2:fmtS (.int i)=some (num i):=if_pos (by obtain ⟨k,rfl⟩:=Int.eq_ofNat_of_zero_le hi.1;exact Nat.lt_of_le_of_lt (Int.ofNat_le.mp hi.2) (by decide))
  rw [q,h,Option.bind_some,q2,Int.toNat_of_nonneg hi.1]
theorem part_str {ρ:Rho} {x:String} {t:Str} (h:ρ.lookup x=some (.str t)) (hl:t.length<=line):partS ρ (true,x)=some t:=by
  have q:partS ρ (true,x)=(ρ.lookup x).bind fmtS:=rfl
  rw [q,h,Option.bind_some];exact if_pos hl
theorem len_num {i:Int} (h:0<=i/\i<=1000000000000):(num i.toNat).length<=13:=(Pln.num (Int.toNat_le.mpr h.2)).1
theorem lits:∀ s∈["stop "," from "," to "," for ","\n", " ", "home ", " at "],(Str.ofString s).length<=13:=by decide +kernel
noncomputable abbrev wE:E:=.fstr [(false,"stop "),(true,"place"),(false," from "),(true,"opens"),(false," to "),(true,"closes"),(false," for "),(true,"stay"),(false,"\n")]
theorem ev_q {Γ:Fn} {ρ:Rho} {q:Q4} {H:Hp} (hq:QOk q) (h1:ρ.lookup "place"=some (.int q.1)) (h2:ρ.lookup "opens"=some (.int q.2.1)) (h3:ρ.lookup "closes"=some (.int q.2.2.1)) (h4:ρ.lookup "stay"=some (.int q.2.2.2)):evE Γ ρ wE H=.ok (.str (row (rowQ q)++nl)) H:=by
  refine ev_fstr (ys:=[Str.ofString "stop ",num q.1.toNat,Str.ofString " from ",num q.2.1.toNat,Str.ofString " to ",num q.2.2.1.toNat,Str.ofString " for ",num q.2.2.2.toNat,Str.ofString "\n"]) ?_ ?_ (show 9<=20 by decide) ?_
  · show [_,partS ρ (true,"place"),_,partS ρ (true,"opens"),_,partS ρ (true,"closes"),_,partS ρ (true,"stay"),_]=_
    rw [part_int h1 hq.a,part_int h2 hq.b,part_int h3 hq.c,part_int h4 hq.d];rfl
  · intro y hy
    simp only [List.mem_cons,List.not_mem_nil,or_false] at hy
    rcases hy with rfl | rfl | rfl | rfl | rfl | rfl | rfl | rfl | rfl
    · exact lits _ (by decide)
    · exact len_num hq.a
    · exact lits _ (by decide)
    · exact len_num hq.b
    · exact lits _ (by decide)
    · exact len_num hq.c
    · exact lits _ (by decide)
    · exact len_num hq.d
    · exact lits _ (by decide)
  · rw [<- Str.empty_append (row (rowQ q)++nl),<- row_q];rfl
theorem textsV_ok:∀ ys:List Str,textsV (ys.map .str)=some ys
  | []=>rfl
  | y::ys=>by
    have ih:=textsV_ok ys
    unfold textsV at ih ⊢
    rw [List.map_cons,List.mapM_cons,ih];rfl
theorem sum_le {k:Nat}:∀ {ys:List Str},(∀ y∈ys,y.length<=k)->(ys.map (·.length)).sum<=k * ys.length
  | [],_=>Nat.zero_le _
  | y::ys,h=>by
    rw [List.map_cons,List.sum_cons,List.length_cons,Nat.mul_succ,Nat.add_comm]
    exact Nat.add_le_add (sum_le (ys:=ys) fun z hz=>h z (List.mem_cons_of_mem _ hz)) (h y (List.mem_cons_self ..))
theorem m_join {ys:List Str} {k:Nat} {H:Hp} (h:H[k]?=some (.list (ys.map .str))) (hl:∀ y∈ys,y.length<=113) (hn:ys.length<=100) (ho:PyData.strOk (Str.join Str.empty ys)=true):me1 mJoin (.str Str.empty) [.ref k] H=.ok (.str (Str.join Str.empty ys)) H:=by
  have j:Txt.join Str.empty ys=Str.join Str.empty ys:=StrLaws.glued_eq_join _ _
  have j2:JoinOk Str.empty ys=true:=by
    have:=sum_le hl
    unfold JoinOk
    rw [StrLaws.joinTotal,show Str.empty.length=0 from rfl,Bool.not_eq_true']
    refine decide_eq_false ?_
    rw [show sizeLine=16777216 from rfl]
    omega
  show mJoin (.str Str.empty) (.ref k) H=_
  rw [mJoin,optR_of (show strAt (.str Str.empty)=some Str.empty from rfl),optR_of (show (listAt (.ref k) H).bind textsV=some ys by rw [listAt_of h];exact textsV_ok ys),ifR_of ⟨j2,by rw [j];exact ho⟩,j]
theorem c_written (n:Nat) {w:Str} {l h s:Int} {qs:List Q4} {d dn k:Nat} {H:Hp} (D:DayAt w l h s qs d dn k H) (ok:NumD w l h s qs) :
    ∃ o,(G (n+1)).call "written" [.ref d] H=.ok (.str (txtD w l h s qs)) (H++[o]):=by
  rw [G_call (d:=d_written) (by kernel_rfl)]
  have hw:w.length<=13:=(NumD.pln ok.w).1
  refine ⟨.list (((rowsD w l.toNat h.toNat s.toNat qs).map (·++nl)).map .str),?_⟩
  refine runDef_is (ρ:=[("day",.ref d)]) rfl ?_
  refine ss_unpack (v:=.tup [.str w,.int l]) (H1:=H) (G_hd _) (ev_attr (ev_var rfl) D.road) rfl rfl ?_
  refine ss_asg (v:=.int h) (H1:=H) (ev_attr (ev_var rfl) D.home) ?_
  refine ss_asg (v:=.int s) (H1:=H) (ev_attr (ev_var rfl) D.start) ?_
  generalize hρ:setL "start" (.int s) (setL "home" (.int h) (setL "length" (.int l) (setL "word" (.str w) [("day",.ref d)])))=ρ
  have v0:ρ.lookup "day"=some (.ref d):=by rw [<- hρ];rfl
  have v1:ρ.lookup "word"=some (.str w):=by rw [<- hρ];rfl
  have v2:ρ.lookup "length"=some (.int l):=by rw [<- hρ];rfl
  have v3:ρ.lookup "home"=some (.int h):=by rw [<- hρ];rfl
  have v4:ρ.lookup "start"=some (.int s):=by rw [<- hρ];rfl
  have hl:0<=l/\l<=1000000000000:=⟨Int.le_trans (by decide) ok.l.1,Int.le_trans ok.l.2 (by decide)⟩
  have f0:evE (G n) ρ (.fstr [(true,"word"),(false," "),(true,"length"),(false,"\n")]) H=.ok (.str (row (row0 w l.toNat)++nl)) H:=by
    refine ev_fstr (ys:=[w,Str.ofString " ",num l.toNat,Str.ofString "\n"]) ?_ ?_ (show 4<=20 by decide) ?_
    · show [partS ρ (true,"word"),_,partS ρ (true,"length"),_]=_
      rw [part_str v1 (Nat.le_trans hw (by decide)),part_int v2 hl];rfl
    · intro y hy
      simp only [List.mem_cons,List.not_mem_nil,or_false] at hy
      rcases hy with rfl | rfl | rfl | rfl
      · exact hw
      · exact lits _ (by decide)
      · exact len_num hl
      · exact lits _ (by decide)
    · rw [<- row_0]
      show Str.empty++w++_++_++_=_
      rw [Str.empty_append]
  have f1:evE (G n) ρ (.fstr [(false,"home "),(true,"home"),(false," at "),(true,"start"),(false,"\n")]) H=.ok (.str (row (row1 h.toNat s.toNat)++nl)) H:=by
    refine ev_fstr (ys:=[Str.ofString "home ",num h.toNat,Str.ofString " at ",num s.toNat,Str.ofString "\n"]) ?_ ?_ (show 5<=20 by decide) ?_
    · show [_,partS ρ (true,"home"),_,partS ρ (true,"start"),_]=_
      rw [part_int v3 ok.h,part_int v4 ok.s];rfl
    · intro y hy
      simp only [List.mem_cons,List.not_mem_nil,or_false] at hy
      rcases hy with rfl | rfl | rfl | rfl | rfl
      · exact lits _ (by decide)
      · exact len_num ok.h
      · exact lits _ (by decide)
      · exact len_num ok.s
      · exact lits _ (by decide)
    · rw [<- Str.empty_append (row (row1 h.toNat s.toNat)++nl),<- row_1];rfl
  refine ss_asg (ev_list (evs_cons f0 (evs_one f1))) ?_
  have kl:=D.list
  have e3:=(D.ext (ext_app H [.list [.str (row (row0 w l.toNat)++nl),.str (row (row1 h.toNat s.toNat)++nl)]])).stops
  have kl2:=(ext_app H [.list [.str (row (row0 w l.toNat)++nl),.str (row (row1 h.toNat s.toNat)++nl)]]).get kl
  obtain ⟨ρ',H',e',f',rfl,_⟩:=forL_all tupQ (fun v ρ1 H2=>unpackV ["place","opens","closes","stay"] v ρ1 H2 fun ρ2=>exSs (G n) [.expr (.meth (.var "rows") "append" [wE])] ρ2 H2) (sameO (.ref k) (H++[.list [.str (row (row0 w l.toNat)++nl),.str (row (row1 h.toNat s.toNat)++nl)]]))
    (fun a b ρ H'=>ρ.lookup "rows"=some (.ref H.length)/\H'=H++[.list (.str (row (row0 w l.toNat)++nl)::.str (row (row1 h.toNat s.toNat)++nl)::a.map fun q=>.str (row (rowQ q)++nl))]/\a++b=qs) (fun a b ρ H' i=>by rw [i.2.1];exact same_list kl2 ((ext_app _ _).get kl)) (by
      rintro a q b ρ H' ⟨f,rfl,rfl⟩
      have la:=ok.few
      rw [List.length_append,List.length_cons] at la
      have ea:=m_append (v:=.str (row (rowQ q)++nl)) (len_app1 H (.list (.str (row (row0 w l.toNat)++nl)::.str (row (row1 h.toNat s.toNat)++nl)::a.map fun q=>.str (row (rowQ q)++nl)))) (by
        show (a.map _).length+1+1 < line
        rw [List.length_map];unfold line;omega)
      rw [set_app1] at ea
      show Turns _ (exSs (G n) _ (setL "stay" (.int q.2.2.2) (setL "closes" (.int q.2.2.1) (setL "opens" (.int q.2.1) (setL "place" (.int q.1) ρ)))) _)
      exact ss_expr (ev_meth (vs:=[.str (row (rowQ q)++nl)]) (ev_var (by repeat (first | assumption | with_reducible first | exact setL_self _ _ _ | refine setL_other (by decide) ?_))) (kind_list (len_app1 _ _)) rfl (evs_one (ev_q (ok.q q (List.mem_append.mpr (.inr (List.mem_cons_self ..)))) (by repeat (first | assumption | with_reducible first | exact setL_self _ _ _ | refine setL_other (by decide) ?_)) (by repeat (first | assumption | with_reducible first | exact setL_self _ _ _ | refine setL_other (by decide) ?_)) (by repeat (first | assumption | with_reducible first | exact setL_self _ _ _ | refine setL_other (by decide) ?_)) (by repeat (first | assumption | with_reducible first | exact setL_self _ _ _ | refine setL_other (by decide) ?_)))) ea) (Turns.here ⟨(by repeat (first | assumption | with_reducible first | exact setL_self _ _ _ | refine setL_other (by decide) ?_)),by rw [List.map_append];rfl,by rw [List.append_assoc];rfl⟩))
    qs (setL "rows" (.ref H.length) ρ) (H++[.list [.str (row (row0 w l.toNat)++nl),.str (row (row1 h.toNat s.toNat)++nl)]]) ⟨setL_self ..,rfl,rfl⟩
  refine ss_forT (v:=.ref k) (G_hd _) (ev_attr (ev_var (setL_other (by decide) v0)) e3) (listAt_of kl2) (items_list kl2) e' ?_
  rw [RS.bind_next]
  have tj:Str.join Str.empty ((rowsD w l.toNat h.toNat s.toNat qs).map (·++nl))=txtD w l h s qs:=text_join _
  have hr:=ok.rows
  have ey:(.str (row (row0 w l.toNat)++nl)::.str (row (row1 h.toNat s.toNat)++nl)::qs.map fun q=>V.str (row (rowQ q)++nl))=((rowsD w l.toNat h.toNat s.toNat qs).map (·++nl)).map V.str:=by
    unfold rowsD
    rw [List.map_cons,List.map_cons,List.map_cons,List.map_cons,List.map_map,List.map_map];rfl
  rw [ey,<- tj]
  refine ss_ret (ev_meth (w:=.str Str.empty) (vs:=[.ref H.length]) (by rw [evE_con,em_eq];rfl) rfl rfl (evs_one (ev_var f')) (m_join (len_app1 H _) ?_ ?_ ?_)) rfl
  · intro y hy
    obtain ⟨r,h1,rfl⟩:=List.mem_map.mp hy
    rw [Str.length_append]
    exact Nat.succ_le_succ (hr r h1).1
  · have:=ok.few
    rw [List.length_map]
    show (qs.map _).length+1+1<=100
    rw [List.length_map];omega
  · rw [tj]
    exact strOk_of (text_chars fun r h1 c hc=>((hr r h1).2 c hc).2)
theorem clip_nat {n k:Nat} (h:k<=n):clipV n (k:Int)=k:=by
  unfold clipV
  rw [if_neg (Int.not_lt.mpr (Int.natCast_nonneg k)),Int.min_eq_left (Int.ofNat_le.mpr h),Int.max_eq_right (Int.natCast_nonneg k),Int.toNat_natCast]
theorem slice_of {xs:List V} {i:Nat} {a b:V} {x y:Option Int} {H:Hp} (h:H[i]?=some (.list xs)) (ha:intO a=some x) (hb:intO b=some y):sliceV (.ref i) a b H=.ok (.ref H.length) (H++[.list (cutL xs x y)]):=by
  rw [sliceV,optR_of (listAt_of h),optR_of ha,optR_of hb];rfl
theorem numH_ext (H:Hp) (ws done:List V) (L:Hp):Ext H (NumH H ws done L):=ext_app _ _
noncomputable def RdH (P:Hp) (done sl:List V) (L:Hp):Hp:=P++.list done::.list sl::L
section
variable (P:Hp) (done sl:List V) (L:Hp)
theorem rdH_0:(RdH P done sl L)[P.length]?=some (.list done):=by unfold RdH;rw [List.getElem?_append_right (Nat.le_refl _),Nat.sub_self];rfl
theorem rdH_1:(RdH P done sl L)[P.length+1]?=some (.list sl):=by unfold RdH;rw [List.getElem?_append_right (Nat.le_add_right _ _),Nat.add_sub_cancel_left];rfl
theorem rdH_set (d':List V):(RdH P done sl L).set P.length (.list d')=RdH P d' sl L:=by unfold RdH;rw [List.set_append_right _ _ (Nat.le_refl _),Nat.sub_self];rfl
theorem rdH_num (ws ds:List V) (M:Hp):NumH (RdH P done sl L) ws ds M=RdH P done sl (L++.list ws::.list ds::.own::M):=by unfold RdH NumH;rw [List.append_assoc];rfl
theorem rdH_ext:Ext P (RdH P done sl L):=ext_app _ _
end
structure RdV (P:Hp) (a b c d:V) (ρ:Rho):Prop where
  stops:ρ.lookup "stops"=some (.ref P.length)
  word:ρ.lookup "word"=some a
  length:ρ.lookup "length"=some b
  home:ρ.lookup "home"=some c
  start:ρ.lookup "start"=some d
noncomputable abbrev rdB:List S:=[
    .unpack ["place","opens","closes","stay"] (.call "numbers_of" [(.var "row"),(.tup [(.str "stop"),.none,(.str "from"),.none,(.str "to"),.none,(.str "for"),.none])]),
    .expr (.meth (.var "stops") "append" [(.tup [(.var "place"),(.var "opens"),(.var "closes"),(.var "stay")])])]
theorem rd_turn (n:Nat) (P:Hp) (done sl:List V) (L:Hp) (ρ:Rho) (a b c d:V) (q:Q4) (hq:QOk q) (hd:done.length < line) (hv:RdV P a b c d ρ) :
    Turns (fun ρ' H'=>RdV P a b c d ρ'/\∃ L',H'=RdH P (done++[tupQ q]) sl L') (exSs (G (n+2)) rdB (setL "row" (.str (row (rowQ q))) ρ) (RdH P done sl L)):=by
  obtain ⟨M,e⟩:=c_numbers n (rowQ q) (RdH P done sl L) (fun q=>nomatch q) hq.rowOk (show 8<=8 by decide)
  have hg:=numH_1 (RdH P done sl L) ((rowQ q).map fun p=>.str p.word) ((rowQ q).filterMap Pt.found) M
  rw [show (rowQ q).filterMap Pt.found=[.int (q.1.toNat:Int),.int (q.2.1.toNat:Int),.int (q.2.2.1.toNat:Int),.int (q.2.2.2.toNat:Int)] from rfl,Int.toNat_of_nonneg hq.a.1,Int.toNat_of_nonneg hq.b.1,Int.toNat_of_nonneg hq.c.1,Int.toNat_of_nonneg hq.d.1] at e hg
  rw [rdH_num] at e hg
  generalize L++O.list ((rowQ q).map fun p=>.str p.word)::.list [.int q.1,.int q.2.1,.int q.2.2.1,.int q.2.2.2]::.own::M=L' at e hg
  have ea:=m_append (v:=tupQ q) (rdH_0 P done sl L') hd
  rw [rdH_set] at ea
  obtain ⟨h1,h2,h3,h4,h5⟩:=hv
  refine ss_unpack (G_hd _) (ev_call (vs:=[.str (row (rowQ q)),.tup ((rowQ q).map Pt.form)]) (H1:=RdH P done sl L) (G_hd _) (evs_cons (ev_var (setL_self _ _ _)) (evs_one (v:=.tup ((rowQ q).map Pt.form)) rfl)) rfl e) (listAt_of hg) rfl ?_
  exact ss_expr (ev_meth (vs:=[tupQ q]) (ev_var (by repeat (first | assumption | with_reducible first | exact setL_self _ _ _ | refine setL_other (by decide) ?_))) (kind_list (rdH_0 P done sl L')) rfl (evs_one (ev_tup (evs_cons (ev_var (by repeat (first | assumption | with_reducible first | exact setL_self _ _ _ | refine setL_other (by decide) ?_))) (evs_cons (ev_var (by repeat (first | assumption | with_reducible first | exact setL_self _ _ _ | refine setL_other (by decide) ?_))) (evs_cons (ev_var (by repeat (first | assumption | with_reducible first | exact setL_self _ _ _ | refine setL_other (by decide) ?_))) (evs_one (ev_var (by repeat (first | assumption | with_reducible first | exact setL_self _ _ _ | refine setL_other (by decide) ?_))))))))) ea) (Turns.here ⟨⟨(by repeat (first | assumption | with_reducible first | exact setL_self _ _ _ | refine setL_other (by decide) ?_)),(by repeat (first | assumption | with_reducible first | exact setL_self _ _ _ | refine setL_other (by decide) ?_)),(by repeat (first | assumption | with_reducible first | exact setL_self _ _ _ | refine setL_other (by decide) ?_)),(by repeat (first | assumption | with_reducible first | exact setL_self _ _ _ | refine setL_other (by decide) ?_)),(by repeat (first | assumption | with_reducible first | exact setL_self _ _ _ | refine setL_other (by decide) ?_))⟩,L',rfl⟩)
theorem not_in {w:Str} (h:w=sLine\/w=sRing) (H:Hp):cmp .notIn (.str w) (.tup [.str sLine,.str sRing]) H=some false:=by
  have e:cmp .notIn (.str w) (.tup [.str sLine,.str sRing]) H=some (!((sLine==w)||((sRing==w)||false))):=rfl
  rw [e]
  rcases h with rfl | rfl
  · rw [beq_self_eq_true];rfl
  · rw [beq_self_eq_true,Bool.true_or,Bool.or_true];rfl
theorem c_read (n:Nat) (w:Str) (l h s:Int) (qs:List Q4) (H:Hp) (ok:NumD w l h s qs) (day:DayOk w l h s qs) :
    ∃ d dn k H',(G (n+6)).call "read" [.str (txtD w l h s qs)] H=.ok (.ref d) H'/\DayAt w l h s qs d dn k H'/\Kept H H'/\H.length<=d/\H.length<=dn/\H.length<=k:=by
  rw [G_call (d:=d_read) (by kernel_rfl)]
  have hr:=ok.rows
  have few:=ok.few
  have lrs:(rowsD w l.toNat h.toNat s.toNat qs).length=qs.length+2:=by unfold rowsD;rw [List.length_cons,List.length_cons,List.length_map]
  have es:=m_split H (x:=txtD w l h s qs) (y:=nl) (ps:=rowsD w l.toNat h.toNat s.toNat qs++[Str.empty]) (by
      have:=join_le (c:=10) (k:=112) (ps:=rowsD w l.toNat h.toNat s.toNat qs++[Str.empty]) fun p hp=>by
        rcases List.mem_append.mp hp with hp | hp
        · exact (hr p hp).1
        · rw [List.mem_singleton.mp hp];decide
      rw [List.length_append,lrs] at this
      exact Nat.le_trans this (Nat.le_trans (Nat.mul_le_mul_left 113 (Nat.add_le_add_right (Nat.add_le_add_right few 2) 1)) (by decide))) (by decide) (split_text fun r h1 c hc=>((hr r h1).2 c hc).1) (by rw [List.length_append,lrs];exact Nat.le_trans (Nat.add_le_add_right (Nat.add_le_add_right few 2) 1) (by decide)) (fun p hp c hc=>by
        rcases List.mem_append.mp hp with hp | hp
        · exact ((hr p hp).2 c hc).2
        · rw [List.mem_singleton.mp hp] at hc;exact nomatch hc)
  have evs:(rowsD w l.toNat h.toNat s.toNat qs++[Str.empty]).map V.str=.str (row (row0 w l.toNat))::.str (row (row1 h.toNat s.toNat))::((qs.map fun q=>.str (row (rowQ q)))++[.str Str.empty]):=by
    unfold rowsD
    rw [List.map_append,List.map_cons,List.map_cons,List.map_map];rfl
  rw [evs] at es
  have lsl:(qs.map fun q=>V.str (row (rowQ q))).length=qs.length:=List.length_map _
  generalize hsl:(qs.map fun q=>V.str (row (rowQ q)))=sl at es lsl
  have lvs:(V.str (row (row0 w l.toNat))::.str (row (row1 h.toNat s.toNat))::(sl++[.str Str.empty])).length=qs.length+3:=by rw [List.length_cons,List.length_cons,List.length_append,lsl];rfl
  generalize hvs:(V.str (row (row0 w l.toNat))::.str (row (row1 h.toNat s.toNat))::(sl++[.str Str.empty]))=vs at es lvs
  have g1:(H++[O.list vs])[H.length]?=some (.list vs):=len_app1 H _
  have x1:=Kept.app H [.list vs]
  generalize H++[O.list vs]=H1 at es g1 x1
  have lt3:cmp .lt (.int vs.length) (.int 3) H1=some false:=by
    have:¬ (vs.length:Int) < 3:=by rw [lvs];omega
    rw [cmp_lt,decide_eq_false this]
  refine runDef_P (ρ:=[("text",.str (txtD w l h s qs))]) (P:=fun r=>∃ d dn k H',r=.ok (.ref d) H'/\DayAt w l h s qs d dn k H'/\Kept H H'/\H.length<=d/\H.length<=dn/\H.length<=k) rfl ?_
  refine ss_if (c:=false) (H1:=H) (ev_not (c:=true) (ev_isinst (ev_var rfl) rfl) rfl) ?_
  refine ss_asg (ev_meth (w:=.str (txtD w l h s qs)) (vs:=[.str nl]) (H1:=H) (H2:=H) (ev_var rfl) rfl rfl (evs_one (by rw [evE_con,nl_eq];rfl)) es) ?_
  have i9:index (.ref H.length) (.int (vs.length - 1)) H1=.ok (.str Str.empty) H1:=idx_last g1 (xs:=V.str (row (row0 w l.toNat))::.str (row (row1 h.toNat s.toNat))::sl) hvs.symm
  refine ss_if (c:=false) (H1:=H1) (show evBo _ _ false _ _=_ from ev_or (c:=false) (ev_cmp (ev_bi (G_hd _) (evs_one (ev_var rfl)) (bi_len_ref g1)) (ev_int 3) lt3) (show evE _ _ _ _=_ from ev_cmp (ev_idx (ev_var rfl) (ev_sub (ev_bi (G_hd _) (evs_one (ev_var rfl)) (bi_len_ref g1)) (ev_int 1)) i9) rfl (by rw [em_eq,cmp_ne_str,beq_self_eq_true];rfl))) ?_
  have gr0:vs[0]?=some (.str (row (row0 w l.toNat))):=by rw [<- hvs];rfl
  have gr1:vs[1]?=some (.str (row (row1 h.toNat s.toNat))):=by rw [<- hvs];rfl
  have es0:=m_split H1 (x:=row (row0 w l.toNat)) (y:=sp) (ps:=(row0 w l.toNat).map Pt.word) (Nat.le_trans (row_le ok.row0) (show 14 * 2<=line by decide)) (by decide) (split_row (fun q=>nomatch q) ok.row0) (show 2<=line by decide) (fun x hx c hc=>by
    obtain ⟨p,hp,rfl⟩:=List.mem_map.mp hx
    exact ((ok.row0 p hp).pln.2 c hc).2.2)
  have g2:=len_app1 H1 (.list (((row0 w l.toNat).map Pt.word).map .str))
  have x12:=Kept.app H1 [.list (((row0 w l.toNat).map Pt.word).map .str)]
  generalize H1++[O.list (((row0 w l.toNat).map Pt.word).map .str)]=H2 at es0 g2 x12
  refine ss_asg (v:=.str w) (ev_idx (ev_meth (vs:=[.str sp]) (ev_idx (ev_var rfl) (ev_int 0) (idx_ref (i:=0) g1 gr0)) rfl rfl (evs_one (by rw [evE_con,sp_eq];rfl)) es0) (ev_int 0) (idx_ref (i:=0) g2 rfl)) ?_
  refine ss_if (c:=false) (ev_cmp (u:=.str w) (v:=.tup [.str sLine,.str sRing]) (ev_var (setL_self _ _ _)) (ev_tup (evs_cons (ev_glob (by rw [G_const];rfl)) (evs_one (ev_glob (by rw [G_const];rfl))))) (not_in ok.w H2)) ?_
  obtain ⟨L3,e3⟩:=c_numbers (n+3) (row0 w l.toNat) H2 (fun q=>nomatch q) ok.row0 (show 2<=8 by decide)
  have g3:=numH_1 H2 ((row0 w l.toNat).map fun p=>.str p.word) ((row0 w l.toNat).filterMap Pt.found) L3
  rw [show (row0 w l.toNat).filterMap Pt.found=[.int (l.toNat:Int)] from rfl,Int.toNat_of_nonneg (Int.le_trans (by decide) ok.l.1)] at e3 g3
  have x23:Kept H2 (NumH H2 ((row0 w l.toNat).map fun p=>.str p.word) [.int l] L3):=Kept.app _ _
  generalize NumH H2 ((row0 w l.toNat).map fun p=>.str p.word) [.int l] L3=H3 at e3 g3 x23
  refine ss_asg (v:=.int l) (H1:=H3) (ev_idx (ev_call (vs:=[.str (row (row0 w l.toNat)),.tup ((row0 w l.toNat).map Pt.form)]) (H1:=H2) (G_hd _) (evs_cons (ev_idx (u:=.ref H.length) (ev_var (by repeat (first | assumption | with_reducible first | exact setL_self _ _ _ | refine setL_other (by decide) ?_))) (ev_int 0) (idx_ref (i:=0) (x12 _ _ g1) gr0)) (evs_one (ev_tup (evs_cons (ev_var (setL_self _ _ _)) (evs_one ev_none))))) rfl e3) (ev_int 0) (idx_ref (i:=0) g3 rfl)) ?_
  obtain ⟨L4,e4⟩:=c_numbers (n+3) (row1 h.toNat s.toNat) H3 (fun q=>nomatch q) ok.row1 (show 4<=8 by decide)
  have g4:=numH_1 H3 ((row1 h.toNat s.toNat).map fun p=>.str p.word) ((row1 h.toNat s.toNat).filterMap Pt.found) L4
  rw [show (row1 h.toNat s.toNat).filterMap Pt.found=[.int (h.toNat:Int),.int (s.toNat:Int)] from rfl,Int.toNat_of_nonneg ok.h.1,Int.toNat_of_nonneg ok.s.1] at e4 g4
  have x34:Kept H3 (NumH H3 ((row1 h.toNat s.toNat).map fun p=>.str p.word) [.int h,.int s] L4):=Kept.app _ _
  generalize NumH H3 ((row1 h.toNat s.toNat).map fun p=>.str p.word) [.int h,.int s] L4=H4 at e4 g4 x34
  have x13:=x12.trans x23
  have x14:=x13.trans x34
  refine ss_unpack (v:=.ref (H3.length+1)) (H1:=H4) (G_hd _) (ev_call (vs:=[.str (row (row1 h.toNat s.toNat)),.tup ((row1 h.toNat s.toNat).map Pt.form)]) (H1:=H3) (G_hd _) (evs_cons (ev_idx (u:=.ref H.length) (ev_var (by repeat (first | assumption | with_reducible first | exact setL_self _ _ _ | refine setL_other (by decide) ?_))) (ev_int 1) (idx_ref (i:=1) (x13 _ _ g1) gr1)) (evs_one (v:=.tup ((row1 h.toNat s.toNat).map Pt.form)) rfl)) rfl e4) (listAt_of g4) rfl ?_
  refine ss_asg (ev_list evs_nil) ?_
  generalize hρ:setL "stops" (.ref H4.length) _=ρ
  have v1:ρ.lookup "rows"=some (.ref H.length):=by rw [<- hρ];rfl
  have v2:RdV H4 (.str w) (.int l) (.int h) (.int s) ρ:=by rw [<- hρ];exact ⟨rfl,rfl,rfl,rfl,rfl⟩
  clear hρ
  have g5:=(x14.trans (Kept.app _ [.list []])) _ _ g1
  have cut:cutL vs (some 2) (some ((vs.length:Int) - 1))=sl:=by
    have h1:((vs.length:Int) - 1)=((qs.length+2:Nat):Int):=by rw [lvs];omega
    show (vs.drop (clipV vs.length ((2:Nat):Int))).take (clipV vs.length ((vs.length:Int) - 1) - clipV vs.length ((2:Nat):Int))=sl
    rw [h1,clip_nat (by omega),clip_nat (by omega),<- hvs,Nat.add_sub_cancel]
    show (sl++_).take qs.length=sl
    rw [<- lsl,List.take_left'];rfl
  have es5:=slice_of (a:=.int 2) (b:=.int ((vs.length:Int) - 1)) g5 rfl rfl
  rw [cut] at es5
  rw [show H4++[O.list []]++[O.list sl]=RdH H4 [] sl [] from by unfold RdH;rw [List.append_assoc];rfl,show (H4++[O.list []]).length=H4.length+1 from by rw [List.length_append];rfl] at es5
  obtain ⟨ρ6,H6,e6,r6,L6,rfl,_⟩:=forL_all (fun q=>V.str (row (rowQ q))) (fun v ρ1 H2=>exSs (G (n+5)) rdB (setL "row" v ρ1) H2) (sameO (.ref (H4.length+1)) (RdH H4 [] sl []))
    (fun a b ρ H'=>RdV H4 (.str w) (.int l) (.int h) (.int s) ρ/\∃ L,H'=RdH H4 (a.map tupQ) sl L/\a++b=qs) (fun a b ρ H' ⟨_,L,e,_⟩=>by rw [e];exact same_list (rdH_1 ..) (rdH_1 ..)) (by
      rintro a q b ρ H' ⟨r,L,rfl,rfl⟩
      obtain ⟨ρ2,H2,q1,q2,L2,q3⟩:=rd_turn (n+3) H4 (a.map tupQ) sl L ρ _ _ _ _ q (ok.q q (List.mem_append.mpr (.inr (List.mem_cons_self ..)))) (by
        rw [List.length_append] at few
        rw [List.length_map];exact Nat.lt_of_le_of_lt (Nat.le_trans (Nat.le_add_right _ _) few) (by decide)) r
      exact ⟨ρ2,H2,q1,q2,L2,by rw [q3,List.map_append];rfl,by rw [List.append_assoc];rfl⟩) qs ρ (RdH H4 [] sl []) ⟨v2,[],rfl,rfl⟩
  refine ss_for (v:=.ref (H4.length+1)) (xs:=qs.map fun q=>.str (row (rowQ q))) (G_hd _) (ev_slice (ev_var v1) (ev_int 2) (ev_sub (ev_bi (G_hd _) (evs_one (ev_var v1)) (bi_len_ref g5)) (ev_int 1)) es5) (by rw [hsl];exact items_list (rdH_1 ..)) e6 ?_
  rw [RS.bind_next]
  have g6:=rdH_0 H4 (qs.map tupQ) sl L6
  have x6:Kept H (RdH H4 (qs.map tupQ) sl L6):=x1.trans (x14.trans (Kept.app _ _))
  generalize RdH H4 (qs.map tupQ) sl L6=H6 at g6 x6
  obtain ⟨h1,h2,h3,h4,h5⟩:=r6
  refine ss_ret (ev_call (vs:=[.tup [.str w,.int l],.int h,.int s,.ref H4.length]) (H1:=H6) (G_hd _) (evs_cons (ev_tup (evs_cons (ev_var h2) (evs_one (ev_var h3)))) (evs_cons (ev_var h4) (evs_cons (ev_var h5) (evs_one (ev_var h1))))) rfl (c_day n w l h s qs H4.length H6 g6 day)) ⟨H6.length+1,H6.length,H6.length+2,_,rfl,⟨dayH_inst ..,dayH_ns ..,?_⟩,x6.trans (Kept.app _ _),Nat.le_succ_of_le x6.len,x6.len,Nat.le_trans x6.len (Nat.le_add_right _ _)⟩
  unfold DayH
  rw [List.getElem?_append_right (Nat.le_add_right _ _),Nat.add_sub_cancel_left];rfl
noncomputable def OI (ns:List Int) (k0:Int) (m:Nat) (H:Hp) (c:Nat) (a b:List Nat) (ρ:Rho) (H':Hp):Prop :=
  a.length+b.length=c/\(∃ (os ls:List Int) (kl:Nat) (L:Hp),H'=H++.list (os.map .int)::L/\H'[kl]?=some (.list (ls.map .int))/\H.length < kl/\os.length=a.length/\os.length+ls.length=m/\ρ.lookup "_law_left"=some (.ref kl)) /\
  ρ.lookup "_law_script"=some (.scr ns)/\ρ.lookup "_law_k"=some (.int k0)/\ρ.lookup "_law_order_here"=some (.ref H.length)
theorem order_turn (n:Nat) {ns:List Int} {k0:Int} {m c:Nat} {H:Hp} (hns:ns.length<=63) (hm:m<=7) (hc:c<=m) (a:List Nat) (z:Nat) (b:List Nat) (ρ:Rho) (H':Hp) (i:OI ns k0 m H c a (z::b) ρ H') :
    Turns (OI ns k0 m H c (a++[z]) b) (exSs (G (n+1)) (loopAt d__law_order.body 2) (setL "_law_j" (.int z) ρ) H'):=by
  obtain ⟨rfl,⟨os,ls,kl,L,rfl,hl,lt,lo,len,g3⟩,g1,g4,g2⟩:=i
  rw [List.length_cons] at hc
  have lpos:0 < ls.length:=Nat.lt_of_add_lt_add_left (n:=os.length) (by rw [len,lo];exact Nat.lt_of_lt_of_le (Nat.add_lt_add_left (Nat.succ_pos _) _) hc)
  have lposI:(0:Int) < ls.length:=Int.ofNat_lt.mpr lpos
  have la:os.length<=7:=Nat.le_trans (Nat.le.intro len) hm
  have ll:ls.length<=7:=Nat.le_trans (Nat.le.intro ((Nat.add_comm _ _).trans len)) hm
  have zp:(0:Int) < (z:Int)+3:=Int.ofNat_lt.mpr (Nat.succ_pos _)
  have e1:=c_cellI n ns k0 (H++.list (os.map .int)::L) hns
  generalize cellI ns k0=cc at e1
  have e3:=bi_len_ref hl
  rw [List.length_map] at e3
  have f1:=fmod_lt ((cc.fdiv 7).fmod ((z:Int)+3)) lposI
  obtain ⟨at',hat⟩:∃ k:Nat,((cc.fdiv 7).fmod ((z:Int)+3)).fmod ls.length=(k:Int):=⟨_,(Int.toNat_of_nonneg f1.1).symm⟩
  rw [hat] at f1
  have hat':at' < ls.length:=Int.ofNat_lt.mp f1.2
  have ev:=ev_mod (Γ:=G (n+1)) (ρ:=setL "_law_j" (.int z) ρ) (ev_mod (ev_fdiv (ev_call (es:=[.var "_law_script",.var "_law_k"]) (G_hd _) (evs_cons (ev_var (by repeat (first | assumption | with_reducible first | exact setL_self _ _ _ | refine setL_other (by decide) ?_))) (evs_one (ev_var (by repeat (first | assumption | with_reducible first | exact setL_self _ _ _ | refine setL_other (by decide) ?_))))) rfl e1) (ev_int 7) (by decide)) (ev_add (ev_var (setL_self _ _ _)) (ev_int 3)) (Int.ne_of_gt zp)) (ev_bi (es:=[.var "_law_left"]) (G_hd _) (evs_one (ev_var (by repeat (first | assumption | with_reducible first | exact setL_self _ _ _ | refine setL_other (by decide) ?_)))) e3) (Int.ne_of_gt lposI)
  rw [hat] at ev
  refine ss_asg ev ?_
  have e5:index (.ref kl) (.int at') (H++.list (os.map .int)::L)=.ok (.int ls[at']) (H++.list (os.map .int)::L):=idx_ref hl (by rw [List.getElem?_map,List.getElem?_eq_getElem hat'];rfl)
  have e6:=m_append (v:=.int ls[at']) (get_tab H L (.list (os.map .int))) (by rw [List.length_map];exact Nat.lt_of_le_of_lt la (by decide))
  rw [set_tab] at e6
  refine ss_expr (ev_meth (w:=.ref H.length) (H1:=H++.list (os.map .int)::L) (vs:=[.int ls[at']]) (ev_var (by repeat (first | assumption | with_reducible first | exact setL_self _ _ _ | refine setL_other (by decide) ?_))) (kind_list (get_tab _ _ _)) rfl (evs_one (ev_idx (ev_var (by repeat (first | assumption | with_reducible first | exact setL_self _ _ _ | refine setL_other (by decide) ?_))) (ev_var (setL_self _ _ _)) e5)) e6) ?_
  have hl2:(H++O.list (os.map .int++[.int ls[at']])::L)[kl]?=some (.list (ls.map .int)):=by
    rw [<- set_tab H L (.list (os.map .int)),List.getElem?_set_ne (Nat.ne_of_lt lt)];exact hl
  generalize hH1:H++O.list (os.map .int++[.int ls[at']])::L=H1 at hl2 ⊢
  have lm:(ls.map V.int).length=ls.length:=List.length_map _
  have s1:=slice_of (a:=.none) (b:=.int at') hl2 rfl rfl
  have c1:cutL (ls.map V.int) Option.none (some (at':Int))=(ls.take at').map .int:=by
    show ((ls.map V.int).drop 0).take (clipV (ls.map V.int).length (at':Int) - 0)=_
    rw [lm,clip_nat (Nat.le_of_lt hat'),List.drop_zero,Nat.sub_zero,List.map_take]
  rw [c1] at s1
  have s2:=slice_of (a:=.int ((at':Int)+1)) (b:=.none) (Kept.app H1 [.list ((ls.take at').map .int)] _ _ hl2) rfl rfl
  have c2:cutL (ls.map V.int) (some ((at':Int)+1)) Option.none=(ls.drop (at'+1)).map .int:=by
    show ((ls.map V.int).drop (clipV (ls.map V.int).length ((at'+1:Nat):Int))).take ((ls.map V.int).length - clipV (ls.map V.int).length ((at'+1:Nat):Int))=_
    rw [lm,clip_nat hat',List.take_of_length_le (by rw [List.length_drop,lm];exact Nat.le_refl _),List.map_drop]
  rw [c2] at s2
  have s3:=bin_add_ref (i:=H1.length) (j:=(H1++[O.list ((ls.take at').map .int)]).length) (H:=(H1++[O.list ((ls.take at').map .int)])++[.list ((ls.drop (at'+1)).map .int)]) ((ext_app _ _).get (len_app1 _ _)) (len_app1 _ _) (by rw [List.length_map,List.length_map,List.length_take,List.length_drop];exact Nat.le_trans (Nat.add_le_add (Nat.le_trans (Nat.min_le_right _ _) ll) (Nat.le_trans (Nat.sub_le _ _) ll)) (by decide))
  refine ss_asg (ev_bin2 (ev_slice (ev_var (by repeat (first | assumption | with_reducible first | exact setL_self _ _ _ | refine setL_other (by decide) ?_))) ev_none (ev_var (by repeat (first | assumption | with_reducible first | exact setL_self _ _ _ | refine setL_other (by decide) ?_))) s1) (ev_slice (ev_var (by repeat (first | assumption | with_reducible first | exact setL_self _ _ _ | refine setL_other (by decide) ?_))) (ev_add (ev_var (by repeat (first | assumption | with_reducible first | exact setL_self _ _ _ | refine setL_other (by decide) ?_))) (ev_int 1)) ev_none s2) s3) ?_
  refine Turns.here ⟨by rw [List.length_append,List.length_singleton,List.length_cons,Nat.add_assoc,Nat.add_comm 1],⟨os++[ls[at']],ls.take at'++ls.drop (at'+1),_,_,by rw [<- hH1,List.map_append,List.append_assoc,List.append_assoc,List.append_assoc,List.cons_append];rfl,?_,?_,?_,?_,setL_self _ _ _⟩,(by repeat (first | assumption | with_reducible first | exact setL_self _ _ _ | refine setL_other (by decide) ?_)),(by repeat (first | assumption | with_reducible first | exact setL_self _ _ _ | refine setL_other (by decide) ?_)),(by repeat (first | assumption | with_reducible first | exact setL_self _ _ _ | refine setL_other (by decide) ?_))⟩
  · rw [len_app1,List.map_append]
  · rw [List.length_append,List.length_append,<- hH1,List.length_append,Nat.add_assoc,Nat.add_assoc];exact Nat.lt_add_of_pos_right (Nat.add_pos_left (Nat.succ_pos _) _)
  · rw [List.length_append,List.length_append,lo];rfl
  · rw [List.length_append,List.length_append,List.length_take,List.length_drop,List.length_singleton,Nat.min_eq_left (Nat.le_of_lt hat'),Nat.add_assoc,<- Nat.add_assoc 1,Nat.add_comm 1,Nat.add_sub_cancel' hat'];exact len
theorem c_order (n:Nat) (ns:List Int) (m:Nat) (k0:Int) (H:Hp) (hns:ns.length<=63) (hm:m<=7) :
    ∃ (os:List Int) (k:Nat) (H':Hp),(G (n+2)).call "_law_order" [.scr ns,.int m,.int k0] H=.ok (.ref k) H'/\Kept H H'/\H'[k]?=some (.list (os.map .int))/\os.length<=7/\H.length<=k:=by
  rw [G_call (d:=d__law_order) (by kernel_rfl)]
  refine runDef_P (ρ:=[("_law_script",.scr ns),("_law_many_here",.int m),("_law_k",.int k0)]) (P:=fun r=>∃ (os:List Int) (k:Nat) (H':Hp),r=.ok (.ref k) H'/\Kept H H'/\H'[k]?=some (.list (os.map .int))/\os.length<=7/\H.length<=k) rfl ?_
  refine ss_asg (v:=.ref H.length) (H1:=H++[.list []]) rfl ?_
  refine ss_asg (ev_bi (G_hd _) (evs_one (ev_bi (v:=.rng 0 m 1) (G_hd _) (evs_one (ev_var rfl)) rfl)) (bi_list_rng hm _)) ?_
  generalize hH2:(H++[O.list []])++[O.list ((rangeI m).map .int)]=H2
  have mp:(0:Int) < (m:Int)+1:=Int.ofNat_lt.mpr (Nat.succ_pos m)
  have e2:=c_cellI n ns k0 H2 hns
  have f1:=fmod_lt (cellI ns k0) mp
  obtain ⟨c,hc⟩:∃ k:Nat,(cellI ns k0).fmod ((m:Int)+1)=(k:Int):=⟨_,(Int.toNat_of_nonneg f1.1).symm⟩
  rw [hc] at f1
  have cm:c<=m:=Nat.le_of_lt_succ (Int.ofNat_lt.mp f1.2)
  have it:items H2 (.rng 0 c 1)=some ((List.range c).map fun k:Nat=>V.int (k:Int)):=by rw [items_range (Nat.le_trans cm (Nat.le_trans hm (by decide))),rangeI,List.map_map];rfl
  generalize hρ:setL "_law_left" (.ref (H++[O.list []]).length) (setL "_law_order_here" (.ref H.length) [("_law_script",.scr ns),("_law_many_here",.int m),("_law_k",.int k0)])=ρ
  have r1:ρ.lookup "_law_script"=some (.scr ns):=by rw [<- hρ];rfl
  have r2:ρ.lookup "_law_many_here"=some (.int m):=by rw [<- hρ];rfl
  have r3:ρ.lookup "_law_k"=some (.int k0):=by rw [<- hρ];rfl
  obtain ⟨ρ',H',er,⟨_,⟨os,ls,kl,L,rfl,_,_,lo,len,_⟩,_,_,k2⟩⟩:=forL_all (fun k:Nat=>V.int (k:Int)) (fun v ρ1 H2=>exSs (G (n+1)) (loopAt d__law_order.body 2) (setL "_law_j" v ρ1) H2) (sameO (.rng 0 c 1) H2) (OI ns k0 m H c)
    (fun a b ρ H' i=>rfl) (order_turn n hns hm cm) (List.range c) ρ H2
    ⟨by rw [List.length_nil,Nat.zero_add,List.length_range],⟨[],rangeI m,(H++[O.list []]).length,[.list ((rangeI m).map .int)],by rw [<- hH2,List.append_assoc];rfl,by rw [<- hH2];exact len_app1 _ _,by rw [List.length_append];exact Nat.lt_succ_self _,rfl,by rw [List.length_nil,Nat.zero_add,rangeI_len],by rw [<- hρ];rfl⟩,r1,r3,by rw [<- hρ];rfl⟩
  have ev:=ev_mod (Γ:=G (n+1)) (ρ:=ρ) (ev_call (es:=[.var "_law_script",.var "_law_k"]) (G_hd _) (evs_cons (ev_var r1) (evs_one (ev_var r3))) rfl e2) (ev_add (ev_var (x:="_law_many_here") r2) (ev_int 1)) (Int.ne_of_gt mp)
  rw [hc] at ev
  refine ss_for (v:=.rng 0 c 1) (H1:=H2) (G_hd _) (ev_bi (v:=.rng 0 c 1) (G_hd _) (evs_one ev) rfl) it er ?_
  rw [RS.bind_next]
  exact ss_ret (ev_var k2) ⟨os,_,_,rfl,Kept.app _ _,get_tab _ _ _,Nat.le_trans (Nat.le.intro len) hm,Nat.le_refl _⟩
noncomputable abbrev q0:Q4:=(0,0,0,0)
noncomputable def backQ (qs:List Q4):List Q4:=(List.range qs.length).map fun z=>qs.getD (qs.length - 1 - z) q0
theorem back_mem {qs:List Q4} {q:Q4} (h:q∈backQ qs):q∈qs:=by
  obtain ⟨z,hz,rfl⟩:=List.mem_map.mp h
  have hlt:qs.length - 1 - z < qs.length:=by have:=List.mem_range.mp hz;omega
  rw [List.getD_eq_getElem?_getD,List.getElem?_eq_getElem hlt]
  exact List.getElem_mem hlt
theorem back_len (qs:List Q4):(backQ qs).length=qs.length:=by unfold backQ;rw [List.length_map,List.length_range]
theorem idx_neg {qs:List Q4} {k:Nat} {z:Nat} {H:Hp} (h:H[k]?=some (.list (qs.map tupQ))) (hz:z < qs.length):index (.ref k) (.int (-1 - z)) H=.ok (tupQ (qs.getD (qs.length - 1 - z) q0)) H:=by
  refine (optR_of (listAt_of h)).trans (optR_of ?_)
  have hp:place (-1 - z) (qs.map tupQ).length=some (qs.length - 1 - z):=by
    have h0:(-1:Int) - z < 0:=Int.sub_lt_of_sub_lt (Int.lt_of_lt_of_le (by decide) (Int.natCast_nonneg z))
    have h1:(-1:Int) - z=-((z+1:Nat):Int):=by rw [Int.natCast_add,Int.neg_add,Int.add_comm,Int.sub_eq_add_neg];rfl
    unfold place
    rw [List.length_map,if_neg (Int.not_le.mpr h0),h1,if_pos (Int.neg_le_neg (Int.ofNat_le.mpr hz)),Int.add_comm,<- Int.sub_eq_add_neg,<- Int.ofNat_sub hz,Int.toNat_natCast,Nat.sub_sub,Nat.add_comm 1]
  rw [hp]
  show (qs.map tupQ)[_]?=_
  rw [List.getElem?_map,List.getD_eq_getElem?_getD,List.getElem?_eq_getElem (Nat.lt_of_le_of_lt (Nat.sub_le _ _) (Nat.sub_lt (Nat.lt_of_le_of_lt (Nat.zero_le _) hz) (by decide)))];rfl
theorem ev_back {n:Nat} {ρ:Rho} {qs:List Q4} {k:Nat} {H:Hp} (g:ρ.lookup "_law_stops"=some (.ref k)) (h:H[k]?=some (.list (qs.map tupQ))) (hl:qs.length<=7) :
    evE (G n) ρ (.comp0 (.idx (.var "_law_stops") (.bin .sub (.neg (.int 1)) (.var "_law_k"))) "_law_k" (.call "range" [(.call "len" [(.var "_law_stops")])])) H=.ok (.ref H.length) (H++[.list ((backQ qs).map tupQ)]):=by
  have b:=bi_len_ref h
  rw [List.length_map] at b
  have t:=turns_map (fun z:Nat=>V.int (z:Int)) (fun z=>tupQ (qs.getD (qs.length - 1 - z) q0)) (fun y H2=>evE (G n) (("_law_k",y)::ρ) (.idx (.var "_law_stops") (.bin .sub (.neg (.int 1)) (.var "_law_k"))) H2) (sameO (.rng 0 qs.length 1) H) H (fun _=>rfl) (List.range qs.length) (fun z hz ys=>ev_idx (ev_var (by rw [lookup_next (by decide)];exact g)) (ev_sub (x:=-1) (show evE _ _ (.neg _) _=_ from rfl) (ev_var (lookup_here _ _ _))) (idx_neg ((ext_app H [.list ys]).get h) (List.mem_range.mp hz))) (by rw [List.length_range];exact Nat.le_trans hl (by decide))
  have it:items H (.rng 0 qs.length 1)=some ((List.range qs.length).map fun k:Nat=>V.int (k:Int)):=by rw [items_range (Nat.le_trans hl (by decide)),rangeI,List.map_map];rfl
  rw [show (List.range qs.length).map (fun z=>tupQ (qs.getD (qs.length - 1 - z) q0))=(backQ qs).map tupQ from by unfold backQ;rw [List.map_map];rfl] at t
  exact ev_comp0 (G_hd _) (ev_bi (v:=.rng 0 qs.length 1) (G_hd _) (evs_one (ev_bi (G_hd _) (evs_one (ev_var g)) b)) rfl) it t
theorem DayOk.num {w:Str} {l h s:Int} {qs:List Q4} (D:DayOk w l h s qs):NumD w l h s qs :=
  ⟨D.word,⟨D.l0,D.l1⟩,⟨D.h0,by have:=D.h1;have:=D.l1;unfold many at *;split at * <;> omega⟩,⟨D.s0,D.s1⟩,D.few,fun q hq=>(D.stops q hq).q D.l1⟩
theorem c_again (n:Nat) {w:Str} {l h s:Int} {qs:List Q4} {d dn k:Nat} {H:Hp} (D:DayOk w l h s qs) (x:DayAt w l h s qs d dn k H) {ρ:Rho} {e:E} (he:evE (G (n+6)) ρ e H=.ok (.ref d) H) :
    ∃ d' dn' k' H',evE (G (n+6)) ρ (.call "read" [(.call "written" [e])]) H=.ok (.ref d') H'/\DayAt w l h s qs d' dn' k' H'/\Kept H H'/\H.length<=d'/\H.length<=dn'/\H.length<=k':=by
  obtain ⟨o,e1⟩:=c_written (n+5) x D.num
  obtain ⟨d',dn',k',H',e2,x2,kp,h1,h2,h3⟩:=c_read n w l h s qs (H++[o]) D.num D
  have le:=(Kept.app H [o]).len
  exact ⟨d',dn',k',H',ev_call (vs:=[.str (txtD w l h s qs)]) (H1:=H++[o]) (G_hd _) (evs_one (ev_call (vs:=[.ref d]) (H1:=H) (G_hd _) (evs_one he) rfl e1)) rfl e2,x2,(Kept.app _ _).trans kp,Nat.le_trans le h1,Nat.le_trans le h2,Nat.le_trans le h3⟩
theorem ev_menuI {Γ:Fn} {ρ:Rho} {es:List E} {i:E} {vs:List V} {v k:V} {H H1 H2:Hp} (h:evEs Γ ρ es H=.ok vs H1) (ha:evE Γ ρ i H1=.ok k H2) (hi:index (.lst vs) k H2=.ok v H2):evE Γ ρ (.menu es i) H=.ok v H2:=by
  rw [evE_menu,h,R.bind_ok,ha,R.bind_ok,hi]
theorem ev_ite {Γ:Fn} {ρ:Rho} {l r a b:E} {op:Cm} {t:Bool} {H H1:Hp} {v:V} (h:(cmpR op (evE Γ ρ l H) fun H1=>evE Γ ρ r H1)=.ok t H1) (hv:(if t then evE Γ ρ a H1 else evE Γ ρ b H1)=.ok v H1):evE Γ ρ (.ite l op r a b) H=.ok v H1:=by
  rw [evE_ite,h,R.bind_ok,hv]
section
variable {w:Str} {l h s:Int} {qs rs:List Q4} {ns:List Int} {ks ko kd d0 d1 ih io:Nat}
noncomputable def leNames:List String:=["_law_script","_law_road","_law_home","_law_start","_law_stops","_law_others","_law_days","_law_held","_law_one_list"]
structure LE (w:Str) (l h s:Int) (ns:List Int) (ks ko kd ih io:Nat) (ρ:Rho):Prop where
  script:ρ.lookup "_law_script"=some (.scr ns)
  road:ρ.lookup "_law_road"=some (.tup [.str w,.int l])
  home:ρ.lookup "_law_home"=some (.int h)
  start:ρ.lookup "_law_start"=some (.int s)
  stops:ρ.lookup "_law_stops"=some (.ref ks)
  others:ρ.lookup "_law_others"=some (.ref ko)
  days:ρ.lookup "_law_days"=some (.ref kd)
  held:ρ.lookup "_law_held"=some (.ref ih)
  one:ρ.lookup "_law_one_list"=some (.ref io)
theorem LE.oth {x:String} {ρ ρ':Rho} (g:LE w l h s ns ks ko kd ih io ρ) (o:Oth x ρ ρ') (hx:∀ y∈leNames,y≠x):LE w l h s ns ks ko kd ih io ρ' :=
  ⟨(o _ (hx _ (by decide))).trans g.script,(o _ (hx _ (by decide))).trans g.road,(o _ (hx _ (by decide))).trans g.home,(o _ (hx _ (by decide))).trans g.start,(o _ (hx _ (by decide))).trans g.stops,(o _ (hx _ (by decide))).trans g.others,(o _ (hx _ (by decide))).trans g.days,(o _ (hx _ (by decide))).trans g.held,(o _ (hx _ (by decide))).trans g.one⟩
theorem LE.cell {n:Nat} {ρ:Rho} {H:Hp} (g:LE w l h s ns ks ko kd ih io ρ) (hns:ns.length<=63) {e:E} {j:Int} (he:evE (G (n+1)) ρ e H=.ok (.int j) H):evE (G (n+1)) ρ (.call "_law_cell_at" [.var "_law_script",e]) H=.ok (.int (cellI ns j)) H :=
  ev_call (G_hd _) (evs_cons (ev_var g.script) (evs_one he)) rfl (c_cellI n ns j H hns)
structure Wd (w:Str) (l h s:Int) (qs rs:List Q4) (ks ko kd d0 d1:Nat) (H:Hp):Prop where
  stops:H[ks]?=some (.list (qs.map tupQ))
  others:H[ko]?=some (.list (rs.map tupQ))
  days:H[kd]?=some (.list [.ref d0,.ref d1])
  x0:∃ dn k,DayAt w l h s qs d0 dn k H
  x1:∃ dn k,DayAt w l h s rs d1 dn k H
theorem Wd.kept {H H':Hp} (x:Wd w l h s qs rs ks ko kd d0 d1 H) (e:Kept H H'):Wd w l h s qs rs ks ko kd d0 d1 H' :=
  ⟨e _ _ x.stops,e _ _ x.others,e _ _ x.days,x.x0.elim fun dn q=>q.elim fun k a=>⟨dn,k,a.kept e⟩,x.x1.elim fun dn q=>q.elim fun k a=>⟨dn,k,a.kept e⟩⟩
theorem Wd.pick (w:Str) (l h s:Int) (qs rs:List Q4) (ks ko kd d0 d1:Nat) (D0:DayOk w l h s qs) (D1:DayOk w l h s rs) {c:Int} (c0:0<=c) (c1:c < 2):∃ qx kx dx,DayOk w l h s qx/\(∀ H,index (.lst [.ref ks,.ref ko]) (.int c) H=.ok (.ref kx) H)/\∀ H,Wd w l h s qs rs ks ko kd d0 d1 H->H[kx]?=some (.list (qx.map tupQ))/\(∃ dn k,DayAt w l h s qx dx dn k H)/\index (.ref kd) (.int c) H=.ok (.ref dx) H:=by
  obtain ⟨i,rfl⟩:=Int.eq_ofNat_of_zero_le c0
  match i,Int.ofNat_lt.mp c1 with
  | 0,_=>exact ⟨qs,ks,d0,D0,fun H=>item_at (xs:=[.ref ks,.ref ko]) (i:=0) rfl,fun H x=>⟨x.stops,x.x0,idx_ref (i:=0) x.days rfl⟩⟩
  | 1,_=>exact ⟨rs,ko,d1,D1,fun H=>item_at (xs:=[.ref ks,.ref ko]) (i:=1) rfl,fun H x=>⟨x.others,x.x1,idx_ref (i:=1) x.days rfl⟩⟩
noncomputable abbrev rB:List S:=loopAt d_law.body 12
theorem round_a {T:RS->Prop} (n:Nat) {ρ:Rho} {H:Hp} {z:Int} (hns:ns.length<=63) (g:LE w l h s ns ks ko kd ih io ρ) (gz:ρ.lookup "_law_k"=some (.int z)) (hq:H[ks]?=some (.list (qs.map tupQ))) (few:qs.length<=7)
    (K:∀ (ρ':Rho) (H':Hp) (c:Int) (oo:Nat) (os:List Int),LE w l h s ns ks ko kd ih io ρ'->ρ'.lookup "_law_cell"=some (.int c)->ρ'.lookup "_law_order_here"=some (.ref oo)->Kept H H'->H'[oo]?=some (.list (os.map .int))->os.length<=8->H.length<=oo->T (exSs (G (n+11)) (rB.drop 3) ρ' H')):T (exSs (G (n+11)) rB ρ H):=by
  refine ss_asgA (g.cell (n:=n+10) hns (ev_add (ev_int 29) (ev_mul (ev_int 2) (ev_var gz) (.inl (by decide))))) fun ρ1 h1 s1=>?_
  have g1:=g.oth s1 (by decide)
  generalize cellI ns (29+2 * z)=c at h1
  have z1:=(s1 "_law_k" (by decide)).trans gz
  obtain ⟨os,oo,H1,e1,kp1,ho,lo,oo1⟩:=c_order (n+9) ns qs.length (30+2 * z) H hns few
  have bl:=bi_len_ref hq
  rw [List.length_map] at bl
  refine ss_asgA (ev_call (vs:=[.scr ns,.int qs.length,.int (30+2 * z)]) (H1:=H) (G_hd _) (evs_cons (ev_var g1.script) (evs_cons (ev_bi (G_hd _) (evs_one (ev_var g1.stops)) bl) (evs_one (ev_add (ev_int 30) (ev_mul (ev_int 2) (ev_var z1) (.inl (by decide))))))) rfl e1) fun ρ2 h2 s2=>?_
  have g2:=g1.oth s2 (by decide)
  have c2:=(s2 "_law_cell" (by decide)).trans h1
  refine ss_if (ev_eqI (ev_mod (ev_fdiv (ev_var c2) (ev_int 14) (by decide)) (ev_int 5) (by decide))) ?_
  cases (c.fdiv 14).fmod 5==0 with
  | false=>exact K ρ2 H1 c oo os g2 c2 h2 kp1 ho (Nat.le_succ_of_le lo) oo1
  | true =>
    have bo:=bi_len_ref ho
    rw [List.length_map] at bo
    have bs:=bi_len_ref (kp1 _ _ hq)
    rw [List.length_map] at bs
    have ei:∃ y,evE (G (n+11)) ρ2 (.ite (.call "len" [(.var "_law_order_here")]) .gt (.int 0) (.idx (.var "_law_order_here") (.int 0)) (.call "len" [(.var "_law_stops")])) H1=.ok (.int y) H1:=by
      have ec:=ev_cmpR (Γ:=G (n+11)) (ρ:=ρ2) (ev_bi (es:=[.var "_law_order_here"]) (G_hd _) (evs_one (ev_var h2)) bo) (ev_int 0) (cmp_gt _ _ _)
      cases os with
      | nil=>exact ⟨_,ev_ite ec (ev_bi (Γ:=G (n+11)) (es:=[.var "_law_stops"]) (G_hd _) (evs_one (ev_var g2.stops)) bs)⟩
      | cons y r =>
        have hp:(0:Int) < ((y::r).length:Nat):=Int.ofNat_lt.mpr (Nat.succ_pos _)
        rw [decide_eq_true hp] at ec
        exact ⟨y,ev_ite ec (ev_idx (Γ:=G (n+11)) (ev_var h2) (ev_int 0) (idx_ref (i:=0) ho rfl))⟩
    obtain ⟨y,ei⟩:=ei
    obtain ⟨k2,H2,e2,kp2,hk2,l2⟩:=ev_plus h2 ei ho (Nat.le_trans lo (by decide))
    refine ss_asgA e2 fun ρ3 h3 s3=>?_
    exact K ρ3 H2 c k2 (os++[y]) (g2.oth s3 (by decide)) ((s3 "_law_cell" (by decide)).trans c2) h3 (kp1.trans kp2) hk2 (by rw [List.length_append];exact Nat.succ_le_succ lo) (Nat.le_trans kp1.len l2)
noncomputable def Up (n:Nat) (H H':Hp):Prop:=∀ i o,n<=i->H[i]?=some o->H'[i]?=some o
theorem Kept.up {H H':Hp} (k:Kept H H') (n:Nat):Up n H H':=fun i o _ q=>k i o q
theorem Up.trans {n:Nat} {H H1 H2:Hp} (a:Up n H H1) (b:Up n H1 H2):Up n H H2:=fun i o q r=>b i o q (a i o q r)
theorem up_set {n k:Nat} (H:Hp) (o:O) (h:k < n):Up n H (H.set k o):=fun i _ q r=>by rw [List.getElem?_set_ne (Nat.ne_of_lt (Nat.lt_of_lt_of_le h q))];exact r
theorem ext_list {k j:Nat} {xs ys:List V} {H:Hp} (h:H[k]?=some (.list xs)) (h2:H[j]?=some (.list ys)) (hl:xs.length+ys.length<=line):me1 mExtend (.ref k) [.ref j] H=.ok .none (H.set k (.list (xs++ys))):=by
  show mExtend (.ref k) (.ref j) H=_
  rw [mExtend,lstR,optR_of (show refAt (.ref k)=some k from rfl),optR_of (listAt_of h),optR_of (listAt_of h2),ifR_of hl]
theorem ne_same {A:AP} (gd:Good A) {n m:Nat} {H:Hp} {v u:V} (a:A n H v) (b:A m H u):cmp .ne v u H=some false:=by
  have q:cmp .ne v u H=(eqT H v u).map (!·):=rfl
  rw [q,gd.same a b];rfl
theorem round_b {T:RS->Prop} (n:Nat) {ρ:Rho} {H0 H:Hp} {c:Int} {oo:Nat} {os:List Int} (hns:ns.length<=63) (D0:DayOk w l h s qs) (D1:DayOk w l h s rs) (g:LE w l h s ns ks ko kd H0.length (H0.length+1) ρ) (gc:ρ.lookup "_law_cell"=some (.int c)) (go:ρ.lookup "_law_order_here"=some (.ref oo)) (x:Wd w l h s qs rs ks ko kd d0 d1 H0) (kp:Kept H0 H) (n0:H0.length+2<=oo) (ho:H[oo]?=some (.list (os.map .int))) (lo:os.length<=8) {ys:List V} (hy:H[H0.length+1]?=some (.list ys))
    (K:∀ (ρ':Rho) (H':Hp) (A:AP) (f e:V) (i j:Nat),LE w l h s ns ks ko kd H0.length (H0.length+1) ρ'->ρ'.lookup "_law_found"=some f->ρ'.lookup "_law_due"=some e->Kept H0 H'->Up (H0.length+2) H H'->(∀ k,k≠H0.length+1->∀ o,H[k]?=some o->H'[k]?=some o)->H'[H0.length+1]?=some (.list (os.map .int))->Good A->A i H' f->A j H' e->H.length<=i->H.length<=j->T (exSs (G (n+11)) (rB.drop 9) ρ' H')):T (exSs (G (n+11)) (rB.drop 3) ρ H):=by
  obtain ⟨c0,c1⟩:=fmod_lt c (b:=2) (by decide)
  obtain ⟨qx,kx,dx,Dx,ex,px⟩:=Wd.pick w l h s qs rs ks ko kd d0 d1 D0 D1 c0 c1
  obtain ⟨A,gd,an⟩:=c_answer (n+1) Dx (Nat.le_trans lo (by decide):os.length<=100) ((c.fdiv 2).fmod 7)
  -- the day anew
  have hk:=(px H (x.kept kp)).1
  have k1:=Kept.app H [.list (qx.map tupQ)]
  have d1':=c_day (n+6) w l h s qx H.length (H++[.list (qx.map tupQ)]) (len_app1 _ _) Dx
  have da:DayAt w l h s qx ((H++[O.list (qx.map tupQ)]).length+1) (H++[O.list (qx.map tupQ)]).length ((H++[O.list (qx.map tupQ)]).length+2) (DayH (H++[O.list (qx.map tupQ)]) (dayFs w l h s ((H++[O.list (qx.map tupQ)]).length+2)) [.list (qx.map tupQ)]):=by
    refine ⟨dayH_inst _ _ _,dayH_ns _ _ _,?_⟩
    unfold DayH
    rw [List.getElem?_append_right (Nat.le_add_right _ _),Nat.add_sub_cancel_left];rfl
  have k2:Kept (H++[O.list (qx.map tupQ)]) (DayH (H++[O.list (qx.map tupQ)]) (dayFs w l h s ((H++[O.list (qx.map tupQ)]).length+2)) [.list (qx.map tupQ)]):=Kept.app _ _
  have bl:=bi_list_ref hk
  generalize H++[O.list (qx.map tupQ)]=H1 at bl k1 d1' da k2
  generalize DayH H1 (dayFs w l h s (H1.length+2)) [.list (qx.map tupQ)]=H2 at d1' da k2
  generalize H1.length+1=da' at d1' da
  refine ss_asgA (ev_call (vs:=[.tup [.str w,.int l],.int h,.int s,.ref H.length]) (H1:=H1) (G_hd _) (evs_cons (ev_var g.road) (evs_cons (ev_var g.home) (evs_cons (ev_var g.start) (evs_one (ev_bi (G_hd _) (evs_one (ev_menuI (evs_cons (ev_var g.stops) (evs_one (ev_var g.others))) (ev_mod (ev_var gc) (ev_int 2) (by decide)) (ex H))) bl))))) rfl d1') fun ρ1 h1 s1=>?_
  have g1:=g.oth s1 (by decide)
  have gc1:=(s1 "_law_cell" (by decide)).trans gc
  have go1:=(s1 "_law_order_here" (by decide)).trans go
  have kp2:=k1.trans k2
  -- its answer
  have ho2:=kp2 _ _ ho
  have bo:=bi_list_ref ho2
  have k3:=Kept.app H2 [.list (os.map .int)]
  obtain ⟨e,H4,e4,k4,a4⟩:=an _ _ _ H2.length (H2++[.list (os.map .int)]) (da.kept k3) (len_app1 _ _)
  have l3:H.length<=(H2++[O.list (os.map .int)]).length:=(kp2.trans k3).len
  generalize H2++[O.list (os.map .int)]=H3 at bo k3 e4 k4 a4 l3
  have kind:∀ {ρ:Rho} {H:Hp},ρ.lookup "_law_cell"=some (.int c)->evE (G (n+11)) ρ (.bin .mod (.bin .fdiv (.var "_law_cell") (.int 2)) (.int 7)) H=.ok (.int ((c.fdiv 2).fmod 7)) H:=fun q=>ev_mod (ev_fdiv (ev_var q) (ev_int 2) (by decide)) (ev_int 7) (by decide)
  refine ss_asgA (ev_call (vs:=[.ref da',.ref H2.length,.int ((c.fdiv 2).fmod 7)]) (H1:=H3) (G_hd _) (evs_cons (ev_var h1) (evs_cons (ev_bi (G_hd _) (evs_one (ev_var go1)) bo) (evs_one (kind gc1)))) rfl e4) fun ρ2 h2 s2=>?_
  have g2:=g1.oth s2 (by decide)
  have gc2:=(s2 "_law_cell" (by decide)).trans gc1
  have go2:=(s2 "_law_order_here" (by decide)).trans go1
  have k14:=kp2.trans (k3.trans k4)
  -- the one list
  have y4:=k14 _ _ hy
  have yl:=(List.getElem?_eq_some_iff.mp y4).1
  refine ss_expr (ev_meth (ev_var g2.one) (kind_list y4) rfl evs_nil (clear_list y4)) ?_
  have y5:(H4.set (H0.length+1) (.list []))[H0.length+1]?=some (.list []):=List.getElem?_set_self yl
  have o5:(H4.set (H0.length+1) (.list []))[oo]?=some (.list (os.map .int)):=by rw [List.getElem?_set_ne (Nat.ne_of_lt n0)];exact k14 _ _ ho
  refine ss_expr (ev_meth (vs:=[.ref oo]) (ev_var g2.one) (kind_list y5) rfl (evs_one (ev_var go2)) (ext_list y5 o5 (by rw [List.length_map];exact Nat.le_trans (Nat.add_le_add_left lo _) (by decide)))) ?_
  rw [List.set_set,List.nil_append]
  have y6:(H4.set (H0.length+1) (.list (os.map .int)))[H0.length+1]?=some (.list (os.map .int)):=List.getElem?_set_self yl
  have o6:(H4.set (H0.length+1) (.list (os.map .int)))[oo]?=some (.list (os.map .int)):=by rw [List.getElem?_set_ne (Nat.ne_of_lt n0)];exact k14 _ _ ho
  have kp6:Kept H0 (H4.set (H0.length+1) (.list (os.map .int))):=(kp.trans k14).set (Nat.le_succ _) _
  have u6:Up (H0.length+2) H4 (H4.set (H0.length+1) (.list (os.map .int))):=up_set _ _ (Nat.lt_succ_self _)
  have v6:∀ k,k≠H0.length+1->∀ o,H[k]?=some o->(H4.set (H0.length+1) (.list (os.map .int)))[k]?=some o:=fun k hk o q=>by rw [List.getElem?_set_ne (Ne.symm hk)];exact k14 _ _ q
  have len6:(H4.set (H0.length+1) (.list (os.map .int))).length=H4.length:=List.length_set
  generalize H4.set (H0.length+1) (O.list (os.map .int))=H6 at y6 o6 kp6 u6 v6 len6 ⊢
  -- the other answer
  have k7:=Kept.app H6 [.list (os.map .int)]
  have b7:=bi_list_ref o6
  have w7:=len_app1 H6 (.list (os.map .int))
  obtain ⟨p7,⟨dn,kk,x7⟩,i7⟩:=px _ (x.kept (kp6.trans k7))
  have hl:H.length<=H6.length:=Nat.le_trans k14.len (Nat.le_of_eq len6.symm)
  have i6:=(px H6 (x.kept kp6)).2.2
  obtain ⟨q0,q1⟩:=fmod_lt (cellI ns 45) (b:=2) (by decide)
  obtain ⟨v,hv,ev⟩:=menu_at (vs:=[.ref (H0.length+1),.ref H6.length]) (H:=H6++[.list (os.map .int)]) q0 q1
  have em:=ev_menuI (Γ:=G (n+11)) (ρ:=ρ2) (evs_cons (ev_var g2.one) (evs_one (ev_bi (es:=[.var "_law_order_here"]) (G_hd _) (evs_one (ev_var go2)) b7))) (ev_mod (g2.cell (n:=n+10) hns (ev_int 45)) (ev_int 2) (by decide)) ev
  obtain ⟨oz,rfl,hoz⟩:∃ oz,v=.ref oz/\(H6++[O.list (os.map .int)])[oz]?=some (.list (os.map .int)):=by
    simp only [List.mem_cons,List.not_mem_nil,or_false] at hv
    rcases hv with rfl | rfl
    · exact ⟨_,rfl,k7 _ _ y6⟩
    · exact ⟨_,rfl,w7⟩
  obtain ⟨f,H8,e8,k8,a8⟩:=an _ _ _ oz (H6++[.list (os.map .int)]) x7 hoz
  have l7:H.length<=(H6++[O.list (os.map .int)]).length:=Nat.le_trans hl k7.len
  refine ss_asgA (ev_call (vs:=[.ref dx,.ref oz,.int ((c.fdiv 2).fmod 7)]) (H1:=H6++[.list (os.map .int)]) (G_hd _) (evs_cons (ev_idx (ev_var g2.days) (ev_mod (ev_var gc2) (ev_int 2) (by decide)) i6) (evs_cons em (evs_one (kind gc2)))) rfl e8) fun ρ3 h3 s3=>?_
  have k68:=k7.trans k8
  have hb:H0.length+2<=H.length:=Nat.le_of_lt (Nat.lt_of_le_of_lt n0 (List.getElem?_eq_some_iff.mp ho).1)
  have a4':=gd.stay a4 fun i o q r=>k68 _ _ (u6 i o (Nat.le_trans (Nat.le_trans hb l3) q) r)
  have h2':=(s3 "_law_due" (by decide)).trans h2
  refine ss_if (c:=false) (ev_cmp (ev_var h3) (ev_var h2') (ne_same gd a8 a4')) ?_
  exact K ρ3 H8 A f e _ _ (g2.oth s3 (by decide)) h3 h2' (kp6.trans k68) (fun i o q r=>k68 _ _ (u6 i o q (k14 _ _ r))) (fun k hk o q=>k68 _ _ (v6 k hk o q)) (k68 _ _ y6) gd a8 a4' l7 l3
noncomputable def HeldOk (n0:Nat) (H:Hp) (v:V):Prop:=∃ A f e i j,v=.tup [f,e]/\Good A/\A i H f/\A j H e/\n0<=i/\n0<=j
theorem HeldOk.stay {n0:Nat} {H H':Hp} {v:V} (a:HeldOk n0 H v) (u:Up n0 H H'):HeldOk n0 H' v:=by
  obtain ⟨A,f,e,i,j,rfl,gd,a1,a2,h1,h2⟩:=a
  exact ⟨A,f,e,i,j,rfl,gd,gd.stay a1 fun k o q r=>u k o (Nat.le_trans h1 q) r,gd.stay a2 fun k o q r=>u k o (Nat.le_trans h2 q) r,h1,h2⟩
noncomputable def RI (w:Str) (l h s:Int) (ns:List Int) (ks ko kd:Nat) (H0:Hp) (a b:List Int) (ρ:Rho) (H:Hp):Prop :=
  a.length+b.length<=7/\Kept H0 H/\LE w l h s ns ks ko kd H0.length (H0.length+1) ρ/\(∃ ys,H[H0.length+1]?=some (.list ys))/\∃ ps,H[H0.length]?=some (.list ps)/\ps.length<=a.length/\((cellI ns 44).fmod 2≠0->ps=[])/\∀ v∈ps,HeldOk (H0.length+2) H v
theorem round_turn (n:Nat) {H0:Hp} (hns:ns.length<=63) (D0:DayOk w l h s qs) (D1:DayOk w l h s rs) (x:Wd w l h s qs rs ks ko kd d0 d1 H0) (a:List Int) (z:Int) (b:List Int) (ρ:Rho) (H:Hp) (i:RI w l h s ns ks ko kd H0 a (z::b) ρ H) :
    Turns (RI w l h s ns ks ko kd H0 (a++[z]) b) (exSs (G (n+11)) rB (setL "_law_k" (.int z) ρ) H):=by
  obtain ⟨la,kp,g,⟨ys,hy⟩,ps,hps,lp,he,hd⟩:=i
  have la':(a++[z]).length+b.length<=7:=by rw [List.length_append,List.length_singleton];rw [List.length_cons] at la;omega
  have lp':ps.length<=(a++[z]).length:=Nat.le_trans lp (by rw [List.length_append];exact Nat.le_add_right _ _)
  have hb:H0.length+2<=H.length:=(List.getElem?_eq_some_iff.mp hy).1
  refine round_a n hns (g.oth (oth_set _ _ _) (by decide)) (setL_self _ _ _) (kp _ _ x.stops) D0.few fun ρ1 H1 c oo os g1 gc go k1 ho lo oo1=>?_
  refine round_b n hns D0 D1 g1 gc go x (kp.trans k1) (Nat.le_trans hb oo1) ho lo (k1 _ _ hy) fun ρ2 H2 A f e i j g2 hf he2 kp2 u2 v2 y2 gd af ae li lj=>?_
  have hp2:=v2 _ (Nat.ne_of_lt (Nat.lt_succ_self _)) _ (k1 _ _ hps)
  have hd2:∀ v∈ps,HeldOk (H0.length+2) H2 v:=fun v hv=>(hd v hv).stay ((k1.up _).trans u2)
  have l1:=Nat.le_trans hb k1.len
  refine ss_if (ev_eqI (ev_mod (g2.cell (n:=n+10) hns (ev_int 44)) (ev_int 2) (by decide))) ?_
  by_cases hm:(cellI ns 44).fmod 2=0
  · rw [beq_iff_eq.mpr hm]
    have u3:Up (H0.length+2) H2 (H2.set H0.length (.list (ps++[.tup [f,e]]))):=up_set _ _ (Nat.lt_add_of_pos_right (by decide))
    refine ss_expr (ev_meth (vs:=[.tup [f,e]]) (ev_var g2.held) (kind_list hp2) rfl (evs_one (ev_tup (evs_cons (ev_var hf) (evs_one (ev_var he2))))) (m_append hp2 (Nat.lt_of_le_of_lt (Nat.le_trans lp' (Nat.le_trans (Nat.le_add_right _ _) la')) (by decide)))) (Turns.here ⟨la',kp2.set (Nat.le_refl _) _,g2,⟨_,by rw [List.getElem?_set_ne (Nat.ne_of_lt (Nat.lt_succ_self _))];exact y2⟩,_,List.getElem?_set_self (List.getElem?_eq_some_iff.mp hp2).1,?_,fun q=>absurd hm q,fun v hv=>?_⟩)
    · rw [List.length_append,List.length_append];exact Nat.succ_le_succ lp
    · rcases List.mem_append.mp hv with hv | hv
      · exact (hd2 v hv).stay u3
      · rw [List.mem_singleton.mp hv]
        exact HeldOk.stay ⟨A,f,e,i,j,rfl,gd,af,ae,Nat.le_trans l1 li,Nat.le_trans l1 lj⟩ u3
  · rw [beq_eq_false_iff_ne.mpr hm]
    obtain ⟨H3,e3,v3⟩:=gd.chg af (n+10)
    have lt2:∀ k o,k < H0.length+2->H2[k]?=some o->H3[k]?=some o:=fun k o q r=>by rw [v3 k (Nat.lt_of_lt_of_le q (Nat.le_trans l1 li))];exact r
    refine ss_expr (ev_call (vs:=[f]) (H1:=H2) (G_hd _) (evs_one (ev_var hf)) rfl e3) (Turns.here ⟨la',fun k o q=>lt2 k o (Nat.lt_of_lt_of_le (List.getElem?_eq_some_iff.mp q).1 (Nat.le_add_right _ _)) (kp2 _ _ q),g2,⟨_,lt2 _ _ (Nat.lt_succ_self _) y2⟩,ps,lt2 _ _ (Nat.lt_add_of_pos_right (by decide)) hp2,lp',he,fun v hv=>?_⟩)
    rw [he hm] at hv;cases hv
end
theorem quads {w:Str} {l:Int}:∀ vs:List V,(∀ v∈vs,∃ p o c s,v=.tup [.int p,.int o,.int c,.int s]/\StopOk w l p o c s)->∃ qs:List Q4,vs=qs.map tupQ/\∀ q∈qs,StopOk w l q.1 q.2.1 q.2.2.1 q.2.2.2
  | [],_=>⟨[],rfl,fun _ q=>nomatch q⟩
  | v::vs,h=>by
    obtain ⟨p,o,c,s,rfl,ok⟩:=h v (List.mem_cons_self ..)
    obtain ⟨qs,rfl,oks⟩:=quads vs fun u hu=>h u (List.mem_cons_of_mem _ hu)
    refine ⟨(p,o,c,s)::qs,rfl,fun q hq=>?_⟩
    rcases List.mem_cons.mp hq with rfl | hq
    · exact ok
    · exact oks q hq
theorem setK_list {xs:List V} {k i:Nat} {v:V} {H:Hp} (h:H[k]?=some (.list xs)) (hi:i < xs.length):setK (.ref k) (.int i) v H=.ok () (H.set k (.list (xs.set i v))):=by
  have e1:keysAt (.ref k) H=Option.none:=at_of (f:=keysO) h
  have e2:tabAt (.ref k) H=Option.none:=at_of (f:=tabO) h
  rw [setK,optR_of (show refAt (.ref k)=some k from rfl),e1]
  dsimp only
  rw [e2]
  dsimp only
  rw [optR_of (listAt_of h),optR_of (show intAt (.int (i:Int))=some (i:Int) from rfl),ifR_of ⟨Int.natCast_nonneg i,Int.ofNat_lt.mpr hi⟩,Int.toNat_natCast]
section
variable {w:Str} {l h s:Int} {qs rs:List Q4} {ns:List Int}
noncomputable def DayIn (n kd:Nat) (w:Str) (l h s:Int) (qs:List Q4) (d:Nat) (H:Hp):Prop:=∃ dn k,DayAt w l h s qs d dn k H/\(n<=d/\d≠kd)/\(n<=dn/\dn≠kd)/\n<=k/\k≠kd
theorem DayIn.kept {n kd d:Nat} {H H':Hp} (x:DayIn n kd w l h s qs d H) (e:Kept H H'):DayIn n kd w l h s qs d H':=x.elim fun dn q=>q.elim fun k a=>⟨dn,k,a.1.kept e,a.2⟩
theorem DayIn.set {n kd d i:Nat} {H:Hp} {o:O} (x:DayIn n kd w l h s qs d H) (hi:i < n\/i=kd):DayIn n kd w l h s qs d (H.set i o):=by
  obtain ⟨dn,k,⟨a,b,c⟩,h1,h2,h3⟩:=x
  have ne:∀ j,n<=j/\j≠kd->i≠j:=fun j q r=>hi.elim (fun u=>Nat.not_lt.mpr q.1 (r▸u)) fun u=>q.2 (r▸u)
  exact ⟨dn,k,⟨by rw [List.getElem?_set_ne (ne _ h1)];exact a,by rw [List.getElem?_set_ne (ne _ h2)];exact b,by rw [List.getElem?_set_ne (ne _ h3)];exact c⟩,h1,h2,h3⟩
noncomputable def Two (n kd:Nat) (w:Str) (l h s:Int) (qs rs:List Q4) (H:Hp):Prop:=∃ d0 d1,H[kd]?=some (.list [.ref d0,.ref d1])/\DayIn n kd w l h s qs d0 H/\DayIn n kd w l h s rs d1 H
theorem again {T:RS->Prop} (m:Nat) {ρ:Rho} {H:Hp} {n kd:Nat} {ss:List S} (hns:ns.length<=63) (D0:DayOk w l h s qs) (D1:DayOk w l h s rs) (gs:ρ.lookup "_law_script"=some (.scr ns)) (gd:ρ.lookup "_law_days"=some (.ref kd)) (nk:n<=kd) (x:Two n kd w l h s qs rs H)
    (K:∀ H',(∀ i o,i≠kd->H[i]?=some o->H'[i]?=some o)->Two n kd w l h s qs rs H'->T (exSs (G (m+11)) ss ρ H')) :
    T (exSs (G (m+11)) (.iff (.cmp (.bin .mod (.call "_law_cell_at" [(.var "_law_script"),(.int 43)]) (.int 2)) .eq (.int 0)) [.setidx (.var "_law_days") (.bin .mod (.bin .fdiv (.call "_law_cell_at" [(.var "_law_script"),(.int 43)]) (.int 2)) (.int 2)) (.call "read" [(.call "written" [(.idx (.var "_law_days") (.bin .mod (.bin .fdiv (.call "_law_cell_at" [(.var "_law_script"),(.int 43)]) (.int 2)) (.int 2)))])])] []::ss) ρ H):=by
  have cell:∀ H,evE (G (m+11)) ρ (.call "_law_cell_at" [(.var "_law_script"),(.int 43)]) H=.ok (.int (cellI ns 43)) H:=fun H=>ev_call (G_hd _) (evs_cons (ev_var gs) (evs_one (ev_int 43))) rfl (c_cellI (m+10) ns 43 H hns)
  refine ss_if (ev_eqI (ev_mod (cell H) (ev_int 2) (by decide))) ?_
  cases (cellI ns 43).fmod 2==0 with
  | false=>exact K H (fun _ _ _ q=>q) x
  | true =>
    have idx:∀ H,evE (G (m+11)) ρ (.bin .mod (.bin .fdiv (.call "_law_cell_at" [(.var "_law_script"),(.int 43)]) (.int 2)) (.int 2)) H=.ok (.int (((cellI ns 43).fdiv 2).fmod 2)) H:=fun H=>ev_mod (ev_fdiv (cell H) (ev_int 2) (by decide)) (ev_int 2) (by decide)
    obtain ⟨c0,c1⟩:=fmod_lt ((cellI ns 43).fdiv 2) (b:=2) (by decide)
    generalize ((cellI ns 43).fdiv 2).fmod 2=c at idx c0 c1
    obtain ⟨i,rfl⟩:=Int.eq_ofNat_of_zero_le c0
    obtain ⟨d0,d1,hd,x0,x1⟩:=x
    have kl:=(List.getElem?_eq_some_iff.mp hd).1
    have go:∀ {qx:List Q4} {dx:Nat},DayOk w l h s qx->DayIn n kd w l h s qx dx H->[V.ref d0,.ref d1][i]?=some (.ref dx)->(∀ d' H',DayIn n kd w l h s qx d' (H'.set kd (.list ([V.ref d0,.ref d1].set i (.ref d'))))->Kept H H'->Two n kd w l h s qs rs (H'.set kd (.list ([V.ref d0,.ref d1].set i (.ref d'))))) ->
        T (exSs (G (m+11)) ([.setidx (.var "_law_days") (.bin .mod (.bin .fdiv (.call "_law_cell_at" [(.var "_law_script"),(.int 43)]) (.int 2)) (.int 2)) (.call "read" [(.call "written" [(.idx (.var "_law_days") (.bin .mod (.bin .fdiv (.call "_law_cell_at" [(.var "_law_script"),(.int 43)]) (.int 2)) (.int 2)))])])]++ss) ρ H):=fun {qx dx} Dx ⟨dn,k,xa,_⟩ hi two=>by
      obtain ⟨d',dn',k',H',e,xb,kp,b1,b2,b3⟩:=c_again (m+5) Dx xa (ev_idx (ev_var gd) (idx H) (idx_ref hd hi))
      have y:DayIn n kd w l h s qx d' H':=⟨dn',k',xb,⟨Nat.le_trans nk (Nat.le_trans (Nat.le_of_lt kl) b1),Nat.ne_of_gt (Nat.lt_of_lt_of_le kl b1)⟩,⟨Nat.le_trans nk (Nat.le_trans (Nat.le_of_lt kl) b2),Nat.ne_of_gt (Nat.lt_of_lt_of_le kl b2)⟩,Nat.le_trans nk (Nat.le_trans (Nat.le_of_lt kl) b3),Nat.ne_of_gt (Nat.lt_of_lt_of_le kl b3)⟩
      exact ss_setidx e (ev_var gd) (idx H') (setK_list (kp _ _ hd) (List.getElem?_eq_some_iff.mp hi).1) (K _ (fun j o q r=>by rw [List.getElem?_set_ne (Ne.symm q)];exact kp _ _ r) (two d' H' (y.set (.inr rfl)) kp))
    have i2:i=0\/i=1:=(Nat.lt_or_ge i 1).imp Nat.lt_one_iff.mp fun q=>Nat.le_antisymm (Nat.le_of_lt_succ (Int.ofNat_lt.mp c1)) q
    rcases i2 with rfl | rfl
    · exact go D0 x0 rfl fun d' H' y kp=>⟨d',d1,List.getElem?_set_self (Nat.lt_of_lt_of_le kl kp.len),y,(x1.kept kp).set (.inr rfl)⟩
    · exact go D1 x1 rfl fun d' H' y kp=>⟨d0,d',List.getElem?_set_self (Nat.lt_of_lt_of_le kl kp.len),(x0.kept kp).set (.inr rfl),y⟩
theorem law_end (m:Nat) {ρ:Rho} {H:Hp} {ks ko kd d0 d1:Nat} (hns:ns.length<=63) (D0:DayOk w l h s qs) (D1:DayOk w l h s rs) (x:Wd w l h s qs rs ks ko kd d0 d1 H) (g:LE w l h s ns ks ko kd H.length (H.length+1) ρ) :
    Fin (fun r=>∃ H',r=.ok (.bool true) H') (exSs (G (m+11)) (d_law.body.drop 12) ρ (H++[.list []]++[.list []])):=by
  have len1:(H++[O.list []]).length=H.length+1:=by rw [List.length_append];rfl
  obtain ⟨c0,c1⟩:=fmod_lt (cellI ns 28) (b:=6) (by decide)
  obtain ⟨c,hc⟩:=Int.eq_ofNat_of_zero_le c0
  rw [hc] at c1
  have l7:2+c<=7:=Nat.add_le_add_left (Nat.le_of_lt_succ (Int.ofNat_lt.mp c1)) 2
  have er:=ev_add (Γ:=G (m+11)) (ρ:=ρ) (H:=H++[.list []]++[.list []]) (ev_int 2) (ev_mod (g.cell (n:=m+10) hns (ev_int 28)) (ev_int 6) (by decide))
  rw [hc,show (2:Int)+(c:Int)=((2+c:Nat):Int) from rfl] at er
  obtain ⟨ρ1,H1,e1,_,kp,g1,_,ps,hps,_,_,hd⟩:=forL_all V.int (fun v ρ1 H2=>exSs (G (m+11)) rB (setL "_law_k" v ρ1) H2) (sameO (.rng 0 (2+c:Nat) 1) (H++[.list []]++[.list []])) (RI w l h s ns ks ko kd H) (fun _ _ _ _ _=>rfl) (round_turn m hns D0 D1 x) (rangeI (2+c)) ρ (H++[.list []]++[.list []])
    ⟨by rw [rangeI_len,List.length_nil,Nat.zero_add];exact l7,(Kept.app _ _).trans (Kept.app _ _),g,⟨[],by rw [<- len1];exact len_app1 _ _⟩,[],(ext_app _ _).get (len_app1 _ _),Nat.le_refl _,fun _=>rfl,fun _ q=>nomatch q⟩
  refine ss_for (v:=.rng 0 (2+c:Nat) 1) (G_hd _) (ev_bi (v:=.rng 0 (2+c:Nat) 1) (G_hd _) (evs_one er) rfl) (items_range (Nat.le_trans l7 (by decide))) e1 ?_
  rw [RS.bind_next]
  have hl:∀ v∈ps,HeldOk (H.length+2) H1 v:=hd
  obtain ⟨ρ2,H2,e2,rfl,g2,_⟩:=forL_all (fun v:V=>v) (fun v ρ1 H2=>unpackV ["_law_one","_law_other"] v ρ1 H2 fun ρ2=>exSs (G (m+11)) [.iff (.cmp (.var "_law_one") .ne (.var "_law_other")) [.ret (.bool false)] []] ρ2 H2) (sameO (.ref H.length) H1) (fun _ b ρ H'=>H'=H1/\LE w l h s ns ks ko kd H.length (H.length+1) ρ/\∀ v∈b,v∈ps) (fun _ _ _ _ i=>by rw [i.1];exact same_list hps hps) (by
      rintro a v b ρ H' ⟨rfl,g,hb⟩
      obtain ⟨A,f,e,i,j,rfl,gd,af,ae,_⟩:=hl v (hb v (List.mem_cons_self ..))
      show Turns _ (exSs (G (m+11)) _ (setL "_law_other" e (setL "_law_one" f ρ)) H')
      exact ss_if (c:=false) (ev_cmp (ev_var (setL_other (by decide) (setL_self _ _ _))) (ev_var (setL_self _ _ _)) (ne_same gd af ae)) (Turns.here ⟨rfl,(g.oth (oth_set "_law_one" f ρ) (by decide)).oth (oth_set _ _ _) (by decide),fun u hu=>hb u (List.mem_cons_of_mem _ hu)⟩)) ps ρ1 H1 ⟨rfl,g1,fun _ q=>q⟩
  rw [List.map_id'] at e2
  refine ss_forT (v:=.ref H.length) (G_hd _) (ev_var g1.held) (listAt_of hps) (items_list hps) e2 ?_
  rw [RS.bind_next]
  have y:=x.kept kp
  obtain ⟨_,_,y0⟩:=y.x0
  obtain ⟨_,_,y1⟩:=y.x1
  have pl:∀ qs:List Q4,∀ v∈qs.map tupQ,Pl 7 v:=fun qs v hv=>by
    obtain ⟨q,_,rfl⟩:=List.mem_map.mp hv
    exact pl_quad 6 q
  exact ss_ret (v:=.bool true) (show evBo _ _ true _ _=_ from ev_and (c:=true) (ev_cmp (ev_attr (ev_idx (ev_var g2.days) (ev_int 0) (idx_ref (i:=0) y.days rfl)) y0.stops) (ev_var g2.stops) (eqV_list (pl qs) y0.list y.stops)) (show evE _ _ _ _=_ from ev_cmp (ev_attr (ev_idx (ev_var g2.days) (ev_int 1) (idx_ref (i:=1) y.days rfl)) y1.stops) (ev_var g2.others) (eqV_list (pl rs) y1.list y.others))) ⟨H2,rfl⟩
theorem day_at {H:Hp} {qs:List Q4}:DayAt w l h s qs (H.length+1) H.length (H.length+2) (DayH H (dayFs w l h s (H.length+2)) [.list (qs.map tupQ)]):=by
  refine ⟨dayH_inst _ _ _,dayH_ns _ _ _,?_⟩
  unfold DayH
  rw [List.getElem?_append_right (Nat.le_add_right _ _),Nat.add_sub_cancel_left];rfl
theorem day_in {n a b:Nat} (h1:n<=a) (h2:a+3<=b):(n<=a+1/\a+1≠b)/\(n<=a/\a≠b)/\n<=a+2/\a+2≠b :=
  ⟨⟨Nat.le_succ_of_le h1,Nat.ne_of_lt (Nat.lt_of_succ_lt h2)⟩,⟨h1,Nat.ne_of_lt (Nat.lt_of_succ_lt (Nat.lt_of_succ_lt h2))⟩,Nat.le_add_right_of_le h1,Nat.ne_of_lt h2⟩
theorem law_mid (m:Nat) {ρ:Rho} {H:Hp} (hns:ns.length<=63) (D0:DayOk w l h s qs) (D1:DayOk w l h s rs) (g1:ρ.lookup "_law_script"=some (.scr ns)) (g2:ρ.lookup "_law_road"=some (.tup [.str w,.int l])) (g3:ρ.lookup "_law_home"=some (.int h)) (g4:ρ.lookup "_law_start"=some (.int s)) {ks ko:Nat} (g5:ρ.lookup "_law_stops"=some (.ref ks)) (g6:ρ.lookup "_law_others"=some (.ref ko))
    (hs:H[ks]?=some (.list (qs.map tupQ))) (ho:H[ko]?=some (.list (rs.map tupQ))):Fin (fun r=>∃ H',r=.ok (.bool true) H') (exSs (G (m+11)) (d_law.body.drop 5) ρ H):=by
  have ls:=(List.getElem?_eq_some_iff.mp hs).1
  have lo:=(List.getElem?_eq_some_iff.mp ho).1
  -- handed
  have b1:=bi_list_ref hs
  have b2:=bi_list_ref (Kept.app H [.list (qs.map tupQ)] _ _ ho)
  refine ss_asgA (ev_list (evs_cons (ev_bi (G_hd _) (evs_one (ev_var g5)) b1) (evs_one (ev_bi (G_hd _) (evs_one (ev_var g6)) b2)))) fun ρ1 h1 s1=>?_
  have len1:(H++[O.list (qs.map tupQ)]).length=H.length+1:=by rw [List.length_append];rfl
  have len2:(H++[O.list (qs.map tupQ)]++[O.list (rs.map tupQ)]).length=H.length+2:=by rw [List.length_append,len1];rfl
  rw [len2] at h1
  rw [len1]
  have y1:(H++[O.list (qs.map tupQ)]++[O.list (rs.map tupQ)]++[O.list [.ref H.length,.ref (H.length+1)]])[H.length]?=some (.list (qs.map tupQ)):=(ext_app _ _).get ((ext_app _ _).get (len_app1 _ _))
  have y2:(H++[O.list (qs.map tupQ)]++[O.list (rs.map tupQ)]++[O.list [.ref H.length,.ref (H.length+1)]])[H.length+1]?=some (.list (rs.map tupQ)):=(ext_app _ _).get (by rw [<- len1];exact len_app1 _ _)
  have y3:(H++[O.list (qs.map tupQ)]++[O.list (rs.map tupQ)]++[O.list [.ref H.length,.ref (H.length+1)]])[H.length+2]?=some (.list [.ref H.length,.ref (H.length+1)]):=by rw [<- len2];exact len_app1 _ _
  have len3:(H++[O.list (qs.map tupQ)]++[O.list (rs.map tupQ)]++[O.list [.ref H.length,.ref (H.length+1)]]).length=H.length+3:=by rw [List.length_append,len2];rfl
  have kp3:Kept H (H++[O.list (qs.map tupQ)]++[O.list (rs.map tupQ)]++[O.list [.ref H.length,.ref (H.length+1)]]):=(Kept.app _ _).trans ((Kept.app _ _).trans (Kept.app _ _))
  generalize H++[O.list (qs.map tupQ)]++[O.list (rs.map tupQ)]++[O.list [.ref H.length,.ref (H.length+1)]]=H3 at y1 y2 y3 len3 kp3 ⊢
  have q2:=(s1 "_law_road" (by decide)).trans g2
  have q3:=(s1 "_law_home" (by decide)).trans g3
  have q4:=(s1 "_law_start" (by decide)).trans g4
  -- the days
  have e4:=c_day (m+6) w l h s qs H.length H3 y1 D0
  have x4:=day_at (w:=w) (l:=l) (h:=h) (s:=s) (H:=H3) (qs:=qs)
  have k4:Kept H3 (DayH H3 (dayFs w l h s (H3.length+2)) [.list (qs.map tupQ)]):=Kept.app _ _
  have len4:(DayH H3 (dayFs w l h s (H3.length+2)) [.list (qs.map tupQ)]).length=H3.length+3:=by unfold DayH;rw [List.length_append];rfl
  generalize DayH H3 (dayFs w l h s (H3.length+2)) [.list (qs.map tupQ)]=H4 at e4 x4 k4 len4
  have e5:=c_day (m+6) w l h s rs (H.length+1) H4 (k4 _ _ y2) D1
  have x5:=day_at (w:=w) (l:=l) (h:=h) (s:=s) (H:=H4) (qs:=rs)
  have k5:Kept H4 (DayH H4 (dayFs w l h s (H4.length+2)) [.list (rs.map tupQ)]):=Kept.app _ _
  have len5:(DayH H4 (dayFs w l h s (H4.length+2)) [.list (rs.map tupQ)]).length=H4.length+3:=by unfold DayH;rw [List.length_append];rfl
  generalize DayH H4 (dayFs w l h s (H4.length+2)) [.list (rs.map tupQ)]=H5 at e5 x5 k5 len5
  refine ss_asgA (ev_list (evs_cons (ev_call (vs:=[.tup [.str w,.int l],.int h,.int s,.ref H.length]) (H1:=H3) (G_hd _) (evs_cons (ev_var q2) (evs_cons (ev_var q3) (evs_cons (ev_var q4) (evs_one (ev_idx (ev_var h1) (ev_int 0) (idx_ref (i:=0) y3 rfl)))))) rfl e4) (evs_one (ev_call (vs:=[.tup [.str w,.int l],.int h,.int s,.ref (H.length+1)]) (H1:=H4) (G_hd _) (evs_cons (ev_var q2) (evs_cons (ev_var q3) (evs_cons (ev_var q4) (evs_one (ev_idx (ev_var h1) (ev_int 1) (idx_ref (i:=1) (k4 _ _ y3) rfl)))))) rfl e5)))) fun ρ2 h2 s2=>?_
  have l3:H.length+3<=H3.length:=Nat.le_of_eq len3.symm
  have l34:H3.length < H4.length:=by rw [len4];exact Nat.lt_add_of_pos_right (by decide)
  have l45:H4.length<=H5.length:=by rw [len5];exact Nat.le_add_right _ _
  have l5:H.length+3<=H5.length:=Nat.le_trans l3 (Nat.le_trans (Nat.le_of_lt l34) l45)
  have n0:H.length≠H5.length:=(day_in (Nat.le_refl _) l5).2.1.2
  have n1:H.length+1≠H5.length:=(day_in (Nat.le_refl _) l5).1.2
  have n2:H.length+2≠H5.length:=(day_in (Nat.le_refl _) l5).2.2.2
  have lt:∀ {i},i < H.length->i≠H5.length:=fun q=>Nat.ne_of_lt (Nat.lt_of_lt_of_le q (Nat.le_trans (Nat.le_add_right _ _) l5))
  have k6:=Kept.app H5 [.list [.ref (H3.length+1),.ref (H4.length+1)]]
  have two:Two (H.length+3) H5.length w l h s qs rs (H5++[.list [.ref (H3.length+1),.ref (H4.length+1)]]):=⟨_,_,len_app1 _ _,⟨_,_,x4.kept (k5.trans k6),day_in l3 (Nat.le_trans (Nat.le_of_eq len4.symm) l45)⟩,⟨_,_,x5.kept k6,day_in (Nat.le_trans l3 (Nat.le_of_lt l34)) (Nat.le_of_eq len5.symm)⟩⟩
  have k36:=k4.trans (k5.trans k6)
  generalize H5++[O.list [.ref (H3.length+1),.ref (H4.length+1)]]=H6 at two k36 ⊢
  have t1:=(s2 "_law_script" (by decide)).trans ((s1 "_law_script" (by decide)).trans g1)
  refine again m hns D0 D1 t1 h2 l5 two fun H7 v7 two7=>?_
  have z1:=v7 _ _ n0 (k36 _ _ y1)
  have z2:=v7 _ _ n1 (k36 _ _ y2)
  have z3:=v7 _ _ n2 (k36 _ _ y3)
  have zs:=v7 _ _ (lt ls) (k36 _ _ (kp3 _ _ hs))
  have zo:=v7 _ _ (lt lo) (k36 _ _ (kp3 _ _ ho))
  have hh:=(s2 "_law_handed" (by decide)).trans h1
  obtain ⟨d0,d1,hd,x0,x1⟩:=two7
  refine ss_expr (ev_meth (ev_idx (ev_var hh) (ev_int 0) (idx_ref (i:=0) z3 rfl)) (kind_list z1) rfl evs_nil (clear_list z1)) ?_
  have w2:(H7.set H.length (.list []))[H.length+1]?=some (.list (rs.map tupQ)):=by rw [List.getElem?_set_ne (Nat.ne_of_lt (Nat.lt_succ_self _))];exact z2
  have w3:(H7.set H.length (.list []))[H.length+2]?=some (.list [.ref H.length,.ref (H.length+1)]):=by rw [List.getElem?_set_ne (Nat.ne_of_lt (Nat.lt_add_of_pos_right (by decide)))];exact z3
  refine ss_expr (ev_meth (vs:=[.tup [.int 0,.int 0,.int 0,.int 0]]) (ev_idx (ev_var hh) (ev_int 1) (idx_ref (i:=1) w3 rfl)) (kind_list w2) rfl (evs_one (ev_tup (evs_cons (ev_int 0) (evs_cons (ev_int 0) (evs_cons (ev_int 0) (evs_one (ev_int 0))))))) (m_append w2 (by rw [List.length_map];exact Nat.lt_of_le_of_lt D1.few (by decide)))) ?_
  have st:∀ i o,i≠H.length->i≠H.length+1->H7[i]?=some o->((H7.set H.length (.list [])).set (H.length+1) (.list (rs.map tupQ++[.tup [.int 0,.int 0,.int 0,.int 0]])))[i]?=some o:=fun i o a b c=>by rw [List.getElem?_set_ne (Ne.symm b),List.getElem?_set_ne (Ne.symm a)];exact c
  have wd:Wd w l h s qs rs ks ko H5.length d0 d1 ((H7.set H.length (.list [])).set (H.length+1) (.list (rs.map tupQ++[.tup [.int 0,.int 0,.int 0,.int 0]]))):=by
    obtain ⟨dn,k,a,_⟩:=(x0.set (o:=.list []) (.inl (Nat.lt_add_of_pos_right (by decide)))).set (o:=.list (rs.map tupQ++[.tup [.int 0,.int 0,.int 0,.int 0]])) (.inl (Nat.add_lt_add_left (show 1 < 3 by decide) H.length))
    obtain ⟨dn',k',a',_⟩:=(x1.set (o:=.list []) (.inl (Nat.lt_add_of_pos_right (by decide)))).set (o:=.list (rs.map tupQ++[.tup [.int 0,.int 0,.int 0,.int 0]])) (.inl (Nat.add_lt_add_left (show 1 < 3 by decide) H.length))
    exact ⟨st _ _ (Nat.ne_of_lt ls) (Nat.ne_of_lt (Nat.lt_succ_of_lt ls)) zs,st _ _ (Nat.ne_of_lt lo) (Nat.ne_of_lt (Nat.lt_succ_of_lt lo)) zo,st _ _ n0.symm n1.symm hd,⟨dn,k,a⟩,dn',k',a'⟩
  generalize (H7.set H.length (O.list [])).set (H.length+1) (.list (rs.map tupQ++[.tup [.int 0,.int 0,.int 0,.int 0]]))=H9 at wd ⊢
  refine ss_asgA (ev_list evs_nil) fun ρ3 h3 s3=>?_
  refine ss_asgA (ev_list evs_nil) fun ρ4 h4 s4=>?_
  rw [show (H9++[O.list []]).length=H9.length+1 from by rw [List.length_append];rfl] at h4
  have up:∀ x,x≠"_law_handed"->x≠"_law_days"->x≠"_law_held"->x≠"_law_one_list"->ρ4.lookup x=ρ.lookup x:=fun x a b c d=>(s4 x d).trans ((s3 x c).trans ((s2 x b).trans (s1 x a)))
  exact law_end m hns D0 D1 wd ⟨(up _ (by decide) (by decide) (by decide) (by decide)).trans g1,(up _ (by decide) (by decide) (by decide) (by decide)).trans g2,(up _ (by decide) (by decide) (by decide) (by decide)).trans g3,(up _ (by decide) (by decide) (by decide) (by decide)).trans g4,(up _ (by decide) (by decide) (by decide) (by decide)).trans g5,(up _ (by decide) (by decide) (by decide) (by decide)).trans g6,(s4 _ (by decide)).trans ((s3 _ (by decide)).trans h2),(s4 _ (by decide)).trans h3,h4⟩
end
theorem law_true (ns:List Int) (hns:ns.length<=63):∃ H',(G 12).call "law" [.scr ns] []=.ok (.bool true) H':=by
  rw [G_call (d:=d_law) (by kernel_rfl)]
  refine runDef_P (ρ:=[("_law_script",.scr ns)]) (P:=fun r=>∃ H',r=.ok (.bool true) H') rfl ?_
  have cell:∀ {ρ:Rho} {H:Hp} (k:Int),ρ.lookup "_law_script"=some (.scr ns)->evE (G 11) ρ (.call "_law_cell_at" [(.var "_law_script"),(.int k)]) H=.ok (.int (cellI ns k)) H:=fun k q=>ev_call (G_hd _) (evs_cons (ev_var q) (evs_one (ev_int k))) rfl (c_cellI 10 ns k _ hns)
  obtain ⟨w,l,e1,hw,l0,l1⟩:=c_road 9 (cellI ns 0) []
  refine ss_asgA (ev_call (vs:=[.int (cellI ns 0)]) (H1:=[]) (G_hd _) (evs_one (cell 0 rfl)) rfl e1) fun ρ1 h1 s1=>?_
  have c1:ρ1.lookup "_law_script"=some (.scr ns):=s1 _ (by decide)
  obtain ⟨h,e2,a0,a1⟩:=c_place 9 w l (cellI ns 1) [] l0
  refine ss_asgA (ev_call (vs:=[.tup [.str w,.int l],.int (cellI ns 1)]) (H1:=[]) (G_hd _) (evs_cons (ev_var h1) (evs_one (cell 1 c1))) rfl e2) fun ρ2 h2 s2=>?_
  have c2:=(s2 "_law_script" (by decide)).trans c1
  have r2:=(s2 "_law_road" (by decide)).trans h1
  obtain ⟨s,e3,b0,b1⟩:=c_start 9 w l (cellI ns 2) [] l0 l1
  refine ss_asgA (ev_call (vs:=[.tup [.str w,.int l],.int (cellI ns 2)]) (H1:=[]) (G_hd _) (evs_cons (ev_var r2) (evs_one (cell 2 c2))) rfl e3) fun ρ3 h3 s3=>?_
  have c3:=(s3 "_law_script" (by decide)).trans c2
  have r3:=(s3 "_law_road" (by decide)).trans r2
  have m3:=(s3 "_law_home" (by decide)).trans h2
  obtain ⟨m,e4,m7⟩:=c_many 10 (cellI ns 3) []
  obtain ⟨vs,e5,lv,ok⟩:=c_stops 7 w l s m ns [] l0 l1 b0 b1 (Nat.le_trans m7 (by decide)) hns
  obtain ⟨qs,rfl,oks⟩:=quads vs ok
  rw [List.length_map] at lv
  refine ss_asgA (ev_call (vs:=[.tup [.str w,.int l],.int s,.scr ns,.int m]) (H1:=[]) (G_hd _) (evs_cons (ev_var r3) (evs_cons (ev_var h3) (evs_cons (ev_var c3) (evs_one (ev_call (vs:=[.int (cellI ns 3)]) (H1:=[]) (G_hd _) (evs_one (cell 3 c3)) rfl e4))))) rfl e5) fun ρ4 h4 s4=>?_
  have few:qs.length<=7:=lv▸m7
  have D0:DayOk w l h s qs:=⟨hw,l0,l1,a0,a1,b0,b1,few,oks⟩
  have D1:DayOk w l h s (backQ qs):=⟨hw,l0,l1,a0,a1,b0,b1,by rw [back_len];exact few,fun q hq=>oks q (back_mem hq)⟩
  have hs:=len_app1 [] (.list (qs.map tupQ))
  refine ss_asgA (ev_back h4 hs few) fun ρ5 h5 s5=>?_
  exact law_mid 0 hns D0 D1 ((s5 _ (by decide)).trans ((s4 _ (by decide)).trans c3)) ((s5 _ (by decide)).trans ((s4 _ (by decide)).trans r3)) ((s5 _ (by decide)).trans ((s4 _ (by decide)).trans m3)) ((s5 _ (by decide)).trans ((s4 _ (by decide)).trans h3)) ((s5 _ (by decide)).trans h4) h5 ((ext_app _ _).get hs) (len_app1 _ _)
end Mine.L14
set_option maxRecDepth 100000
set_option maxHeartbeats 8000000
namespace Mine.L14
open PySem PySem.W PyProof.Rows
noncomputable abbrev r2:OpenRow:=PySem.Challenge.rw_uf040004_14.row
noncomputable abbrev p2:Program:=r2.prog
noncomputable def view:Program:={ p2 with main:={ p2.main with body:=p2.main.body.filter fun s=>match s with | .Assign [.Name n _] _ _=>!(n==("__name__":Str)) | _=>true } }
noncomputable def U:List String:=["LINE","RING","LONGEST","LATEST","MOST","FIGURES","LONGEST_NUMBER","is_within","is_road","is_place","apart","looked_at","need_order","served","timetable","ends","begun_at","left_at","put_better","longer","table","least","written","number_of","numbers_of","read","best","first_of","has_tour","clash","told","_law_cell_at","_law_wide","_law_road_by","_law_places","_law_place_by","_law_start_by","_law_stop_by","_law_stops_by","_law_many","_law_order","_law_driven","_law_answer","_law_changed","law","Day","RouteError","BadRoad","OffRoad","BadTime","TooMany","BadOrder","Missed","NoDay"]
noncomputable def B:List String:=["len","abs","min","max","isinstance","range","list","tuple","sorted","reversed","all","zip","dict","int","bool","str"]
noncomputable def Xs:List String:=["RouteError","BadRoad","OffRoad","BadTime","TooMany","BadOrder","Missed","NoDay"]
theorem left:LeftO p2 view ["LONGEST","LATEST"] (fun s=>recOk (RowW.records r2.toRowW) s) (fun s=>seenOk U B Xs constL clss (fragOf s.heap)) (fun _=>true) 4000:=fun w=>by
  unfold openEnds fencedOpening topFrom
  rw [PySem.W.Fast.te14082659384304107361,PySem.W.Fast.te10274390034422433532,PySem.W.Fast.te14289696077712309145,PySem.W.Fast.te4187177175401517315,PySem.W.Fast.te1435165496053646825,PySem.W.Fast.te14364793385576792824]
  kernel_rfl
theorem isDef:(defOf view r2.name).isSome=true:=by kernel_rfl
noncomputable def dk:DefRec×List (Str×Expr):=(defOf view r2.name).get isDef
theorem hd14 (hc:WalkO view ["LONGEST","LATEST"] (fun _ _=>True) (fun _ h=>Says U B Xs constL clss h) r2.toRowW dk.1 dk.2 fun f vs=>PySem.call f vs):PySem.Challenge.rw_uf040004_14.Holds:=by
  refine holds_law (by decide +kernel) fun said=>?_
  refine holds_open (q:=view) (loose:=["LONGEST","LATEST"]) (Xt:=fun s=>recOk (RowW.records r2.toRowW) s) (XP:=fun _ _=>True) (Yf:=fun s=>seenOk U B Xs constL clss (fragOf s.heap)) (Ya:=fun _=>true) (YP:=fun _ h=>Says U B Xs constL clss h) (N:=4000) left
    (fun w s e=>⟨_,fragOf_in _,e⟩) (fun w h h' x k=>x.keeps k) (fun s e=>trivial) (fun _ _ _ _ _=>trivial) (d:=dk.1) (kwd:=dk.2) (Option.some_get isDef).symm (by kernel_rfl) (by kernel_rfl) (fun s e=>recFacts_of e) (by first | rfl | decide) said (by decide +kernel) ⟨rfl,rfl,rfl,rfl,rfl,by decide +kernel⟩ ?hw hc
  case hw=>w_witness2
end Mine.L14
open PySem PySem.W PyProof.Rows Mine in
theorem PySem.Challenge.cw_uf040004_14_holds : PySem.Challenge.rw_uf040004_14.Holds := by
  refine L14.hd14 ?_
  intro w s₀ s₁ mg mb G Y fa o pm cd doc dV kV ho hd hcd hD hmg hg args vals as hpre hlay hrd hwl hlo
  obtain ⟨K,KX,seen⟩:=Y
  have T:=G.T
  clear ho hd hcd hD
  wrow_args hpre hlay hrd hwl hlo
  rename_i ns _ _ _ _ _ _ _ l vs _ hL _ _ _ hI _ hlen _
  have hlen':ns.length<=63:=by omega
  simp only [seenOk,Bool.and_eq_true] at seen
  obtain ⟨⟨⟨⟨⟨hu,hb⟩,hx⟩,hc⟩,hcl⟩,hm⟩:=seen
  let X:Cx:=cxOf (U:=L14.U) (B:=L14.B) (Xs:=L14.Xs) Challenge.rw_uf040004_14.row.prog w T KX L14.clss hu hb hx hcl hm
  have S:SoundFn X 12 (lk L14.defs L14.clss L14.consts 12):=lk_sound (X:=X) T (okC_at T KX hc X rfl) (by kernel_rfl) (cls_at _ w T KX L14.clss hu hb hx hcl hm) 12
  obtain ⟨H',run⟩:=L14.law_true ns hlen'
  rw [L14.G_eq] at run
  refine law_call (X:=X) rfl S (by decide) hmg run hL hI hlen' fun s' ⟨h',tk,e,k⟩=>?_
  subst e
  exact GoodW.toG ⟨.inl ⟨_,.bool true,[],rfl,fun cls=>rfl,.bool true,(by kernel_rfl),fun _=>⟨List.nodup_nil,fun _ q=>nomatch q⟩⟩,k,rfl,hg⟩

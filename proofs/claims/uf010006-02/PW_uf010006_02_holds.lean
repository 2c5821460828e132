import PyProof.Rows.All
import PySem.SetTable
import PyProof.WalkLemmas
import PyProof.ConsumeWalk
import PyProof.CollectWalk
import PyProof.TupleKey
import PyProof.DictRoadsH
import PyProof.IsRules
import PyProof.EqKinds
import PyProof.ExcAttrAll.ValueError
import PyProof.ListNew
import PyProof.ListMulAny
import PyProof.SetKind
import PyProof.Rows.SortRunsK
import PyProof.SetRoads
import PyProof.SetNew
import PyProof.Rows.SetFrom
import OpenK.KDescr
import OpenK.KCls
import Open.Line
import OpenK.KWalk
import OpenK.KMore
import Wide.FinOn
import Wide.All
import Lean
import PySem.Challenge.RW_uf010006_02
set_option Elab.async false
set_option linter.all false
set_option genSizeOf false
set_option tactic.hygienic false
set_option genSizeOfSpec false
set_option genInjectivity false
set_option maxRecDepth 100000
set_option linter.unusedVariables false
set_option maxHeartbeats 4000000
set_option maxHeartbeats 8000000
set_option linter.unusedSectionVars false
noncomputable section
namespace Mine
open PySem
theorem gen_goal {G:Prop} (h:∀ P:Prop,(G→P)→P):G:=h G id
theorem wp_else {α:Type} {M:Model} {A:Around} {c:Prop} [Decidable c] {t e:Sem α} {Q:α→Shared→Prop} {E:Value→Shared→Prop} {s:Shared} (h:¬ c) (x:wpAny M A e Q E s):wpAny M A (if c then t else e) Q E s:=if_neg h▸x
theorem wp_then {α:Type} {M:Model} {A:Around} {c:Prop} [Decidable c] {t e:Sem α} {Q:α→Shared→Prop} {E:Value→Shared→Prop} {s:Shared} (h:c) (x:wpAny M A t Q E s):wpAny M A (if c then t else e) Q E s:=if_pos h▸x
noncomputable abbrev V:=PyData
noncomputable abbrev Sc:=Int ⊕ Str
inductive Slot where
  | unset
  | v (x:V)
  | ownL (l:List V)
  | ownI (l:List V)
  | junk
noncomputable abbrev Gs:=List Slot
inductive Op where
  | lit (x:V)
  | var (k:Nat)
  | own (k:Nat)
  | lend (k:Nat)
  | bin (o:Operator)
  | cmp (o:CmpOp)
  | chain
  | and | or | not | neg | ite
  | tuple | list | sub
  | slice (lo hi:Bool)
  | call (f:Nat)
  | meth (f:Nat)
  | attr (j:Nat)
  | isinst (t:Nat)
  | len | listOf | sorted | sortedL | sortedSet | lenSet
  | join | count
  | isExc (c:Nat) (tb:List Bool)
  | isCls | edict | rev | tupleOf | allOf
  | comp (k:Nat)
  | compM (ks:List Nat)
  | range | zip
inductive E where
  | nd (o:Op) (es:List E)
inductive SOp where
  | assign (k:Nat)
  | assignM (ks:List Nat)
  | ownL (k:Nat)
  | append (k:Nat)
  | setAttr (k j:Nat)
  | setAttrN (k j:Nat)
  | call (f:Nat)
  | ret
  | retC (f:Nat)
  | tryC (f c k:Nat)
  | ite
  | forS (k:Nat)
  | forM (ks:List Nat)
  | freeze (k:Nat)
  | raise (c:Nat)
  | rows (k r:Nat)
  | hand (k m r:Nat)
inductive S where
  | mk (o:SOp) (es:List E) (a b:List S)
section
variable {α:Type}
noncomputable def szLine:Nat:=2 ^ 20
noncomputable def fitL (l:List α) (z:β):Option β:=if l.length≤szLine then some z else none
noncomputable def text (l:List Nat):V:=.str ⟨l.toArray⟩
noncomputable def okEq (v:V):Bool:=v.canLay0&&decide (v.depth≤64)
noncomputable def boolO (x:V) (f:Bool→Option α):Option α:=match x with
  | .bool b=>f b
  | _=>none
noncomputable def intO (x:V) (f:Int→Option α):Option α:=match x with
  | .int i=>f i
  | _=>none
noncomputable def strO (x:V) (f:List Nat→Option α):Option α:=match x with
  | .str s=>f s.cps.toList
  | _=>none
noncomputable def listO (x:V) (f:List V→Option α):Option α:=match x with
  | .list l=>f l
  | _=>none
noncomputable def tupO (x:V) (f:List V→Option α):Option α:=match x with
  | .tuple l=>f l
  | _=>none
noncomputable def int2 (x y:V) (f:Int→Int→Option α):Option α:=intO x fun a=>intO y (f a)
end
noncomputable def addO (x y:V):Option V:=match x with
  | .int a=>intO y fun b=>some (.int (a+b))
  | .str a=>strO y fun b=>fitL (a.cps.toList++b) (text (a.cps.toList++b))
  | .list a=>listO y fun b=>fitL (a++b) (.list (a++b))
  | .tuple a=>tupO y fun b=>fitL (a++b) (.tuple (a++b))
  | _=>none
noncomputable def binOp (o:Operator) (x y:V):Option V:=match o with
  | .Add=>addO x y
  | .Sub=>int2 x y fun a b=>some (.int (a - b))
  | .Mult=>match x with
    | .list l=>intO y fun n=>if 0≤n∧n < 2 ^ 62∧l.length * n.toNat≤szLine then some (.list (List.replicate n.toNat l).flatten) else none
    | x=>int2 x y fun a b=>if b.natAbs≤1000000∨a.natAbs≤1000000 then some (.int (a * b)) else none
  | .FloorDiv=>int2 x y fun a b=>if b=0∨1000000 < b.natAbs then none else some (.int (a.fdiv b))
  | .Mod=>int2 x y fun a b=>if b=0 then none else some (.int (a.fmod b))
  | .Pow=>int2 x y fun a b=>if a=10∧b=20 then some (.int (10 ^ 20)) else none
  | _=>none
noncomputable def eqO (a b:V):Option Bool:=if (okEq a&&okEq b)=true then some (PyData.eqv a b) else none
noncomputable def isNone:V→Bool
  | .none=>true
  | _=>false
noncomputable def inO (a b:V):Option Bool:=match b with
  | .str t=>strO a fun s=>match s with | [c]=>some (t.cps.toList.elem c) | _=>none
  | .list l=>if (okEq a&&okEq (.list l))=true then some (l.any fun x=>PyData.eqv x a) else none
  | _=>none
noncomputable def cmpOp (o:CmpOp) (x y:V):Option Bool:=match o with
  | .Eq=>match x with
    | .dict kvs=>(match y with | .str _=>if kvs.isEmpty=true then some false else none | _=>none)
    | x=>eqO x y
  | .NotEq=>(eqO x y).map (!·)
  | .Lt=>int2 x y fun a b=>some (decide (a < b))
  | .LtE=>int2 x y fun a b=>some (decide (a≤b))
  | .Gt=>int2 x y fun a b=>some (decide (b < a))
  | .IsNot=>if isNone y=true then some (!isNone x) else none
  | .In=>inO x y
  | .NotIn=>(inO x y).map (!·)
  | _=>none
noncomputable def charsV (s:List Nat):List V:=s.map fun c=>text [c]
noncomputable def rangeL (a b:Int):List V:=(List.range (b - a).toNat).map fun (i:Nat)=>.int (a+i)
noncomputable def rOk (i:Int):Bool:=Nat.ble i.natAbs 4611686018427387903
noncomputable def rangeO (a b:Int):Option V:=if rOk a=true∧rOk b=true then fitL (rangeL a b) (.list (rangeL a b)) else none
noncomputable def itemO (l:List α) (f:α→V) (y:V):Option V:=intO y fun i=>if l.length≤szLine then (if 0≤i then l[i.toNat]? else if 0≤i+l.length then l[(i+l.length).toNat]? else none).map f else none
noncomputable def subOp (x y:V):Option V:=match x with
  | .list l=>itemO l id y
  | .tuple l=>itemO l id y
  | .str s=>itemO s.cps.toList (fun c=>text [c]) y
  | _=>none
noncomputable def endO (d n:Nat) (y:Option V):Option Nat:=match y with
  | none=>some d
  | some x=>intO x fun i=>some (if 0≤i then min i.toNat n else (i+n).toNat)
noncomputable def cutO (f:List α→V) (l:List α) (lo hi:Option V):Option V:=
  if l.length≤szLine then (endO 0 l.length lo).bind fun i=>(endO l.length l.length hi).bind fun j=>if i≤j then some (f ((l.drop i).take (j - i))) else none else none
noncomputable def sliceOp (a:V) (lo hi:Option V):Option V:=match a with
  | .list l=>cutO .list l lo hi
  | .tuple l=>cutO .tuple l lo hi
  | .str s=>cutO text s.cps.toList lo hi
  | _=>none
noncomputable def tyNames:List String:=["str", "tuple", "list", "int", "bool"]
noncomputable def isT (x:V) (t:Nat):Option Bool:=match x with
  | .none=>some false
  | .bool _=>some (t==4||t==3)
  | .int _=>some (t==3)
  | .str _=>some (t==0)
  | .list _=>some (t==2)
  | .tuple _=>some (t==1)
  | .dict kvs=>if kvs.isEmpty=true then some false else none
noncomputable def revO (x y:V):Option V:=listO x fun l=>intO y fun i=>if i = -1∧l.length≤szLine then some (.list l.reverse) else none
noncomputable def boolsL (l:List V):Option (List Bool):=l.mapM fun x=>boolO x some
noncomputable def seqV (x:V):Option (List V):=match x with
  | .list l=>fitL l l
  | .tuple l=>fitL l l
  | .str s=>fitL s.cps.toList (charsV s.cps.toList)
  | _=>none
noncomputable def strsL (l:List V):Option (List (List Nat)):=l.mapM fun x=>strO x some
noncomputable def intsL (l:List V):Option (List Int):=l.mapM fun x=>intO x some
noncomputable def joinL (sep:List Nat):List (List Nat)→List Nat
  | []=>[]
  | [x]=>x
  | x :: r=>x++sep++joinL sep r
end Mine
end
noncomputable section
namespace Mine
open PySem
noncomputable def okK {α:Type} (o:Option α) (K:α→Prop):Prop:=match o with
  | some z=>K z
  | none=>False
noncomputable abbrev D:=Gs→(V→Prop)→Prop
noncomputable abbrev B:=Gs→(Option V→Gs→Prop)→Prop
noncomputable abbrev CallF:=Nat→List V→(V→Prop)→Prop
noncomputable def getSlot (G:Gs) (k:Nat):Slot:=G.getD k .unset
noncomputable def varO (G:Gs) (k:Nat):Option V:=match getSlot G k with
  | .v x=>some x
  | _=>none
noncomputable def ownLO (G:Gs) (k:Nat):Option (List V):=match getSlot G k with
  | .ownL l=>some l
  | _=>none
noncomputable def ownIO (G:Gs) (k:Nat):Option (List V):=match getSlot G k with
  | .ownI l=>some l
  | _=>none
noncomputable def manyD (ds:List D) (G:Gs):(List V→Prop)→Prop:=
  List.rec (motive:=fun _=>(List V→Prop)→Prop) (fun f=>f []) (fun d _ ih f=>d G fun x=>ih fun xs=>f (x :: xs)) ds
noncomputable def oneD (ds:List D) (G:Gs) (f:V→Prop):Prop:=match ds with
  | [d]=>d G f
  | _=>False
noncomputable def boolsD (b:Bool) (ds:List D) (G:Gs):(Bool→Prop)→Prop:=
  List.rec (motive:=fun _=>(Bool→Prop)→Prop) (fun f=>f b) (fun d _ ih f=>d G fun x=>okK (boolO x some) fun c=>if c=b then ih f else f c) ds
noncomputable def iteD (ds:List D) (G:Gs) (K:V→Prop):Prop:=match ds with
  | [c,a,b]=>c G fun x=>okK (boolO x some) fun t=>if t=true then a G K else b G K
  | _=>False
noncomputable def chainD (ds:List D) (G:Gs) (K:V→Prop):Prop:=match ds with
  | [a,b,c]=>a G fun x=>b G fun y=>okK (int2 x y fun i j=>some (decide (i≤j))) fun t=>if t=true then c G fun z=>okK (int2 y z fun i j=>some (decide (i < j))) fun u=>K (.bool u) else K (.bool false)
  | _=>False
noncomputable def setOne (k:Nat) (G:Gs) (x:V):Option Gs:=some (G.set k (.v x))
noncomputable def setMany (ks:List Nat) (G:Gs) (x:V):Option Gs:=match x with
  | .tuple xs=>if xs.length=ks.length then some ((ks.zip xs).foldl (fun G p=>G.set p.1 (.v p.2)) G) else none
  | _=>none
noncomputable def compL (e:D) (ts:List D) (b:Gs→V→Option Gs) (G:Gs) (xs:List V):(List V→Prop)→Prop:=
  List.rec (motive:=fun _=>(List V→Prop)→Prop) (fun f=>f [])
    (fun x _ ih f=>okK (b G x) fun G'=>boolsD true ts G' fun c=>if c=true then e G' fun y=>ih fun ys=>f (y :: ys) else ih f) xs
noncomputable def compD (b:Gs→V→Option Gs) (ds:List D) (G:Gs) (K:V→Prop):Prop:=match ds with
  | s :: e :: ts=>s G fun x=>okK (seqV x) fun xs=>compL e ts b G xs fun ys=>K (.list ys)
  | _=>False
noncomputable def one {α:Type} (xs:List V) (f:V→Option α):Option α:=match xs with
  | [x]=>f x
  | _=>none
noncomputable def two {α:Type} (xs:List V) (f:V→V→Option α):Option α:=match xs with
  | [x,y]=>f x y
  | _=>none
noncomputable def sliceN (lo hi:Bool) (xs:List V):Option V:=match xs,lo,hi with
  | [x],false,false=>sliceOp x none none
  | [x,y],true,false=>sliceOp x (some y) none
  | [x,y],false,true=>sliceOp x none (some y)
  | [x,y,z],true,true=>sliceOp x (some y) (some z)
  | _,_,_=>none
noncomputable def zipL (l r:List V):List V:=List.zipWith (fun a b=>.tuple [a,b]) l r
noncomputable def pairO (x:V):Option (List V):=match x with
  | .list l=>fitL l l
  | .tuple l=>fitL l l
  | _=>none
noncomputable def scalar (x:V):Bool:=match x with
  | .int _=>true
  | .str s=>PyData.strOk s
  | _=>false
noncomputable def flatV (x:V):Bool:=match x with
  | .tuple l=>l.all scalar&&decide (l.length≤szLine)
  | _=>false
noncomputable def kOf (x:V):Sc:=match x with
  | .int i=>.inl i
  | .str t=>.inr t
  | _=>.inl 0
noncomputable def wayV (x:V):Bool:=match x with
  | .tuple (.str s :: l)=>(scalar (.str s)&&l.all scalar)
  | _=>false
noncomputable def keysOf (x:V):List Sc:=match x with
  | .tuple l=>l.map kOf
  | _=>[]
noncomputable def ltK:List Sc→List Sc→Bool
  | k :: ks,m :: ms=>if k=m then ltK ks ms else k.isLeft==m.isLeft
  | _,_=>true
noncomputable def scLt:Sc→Sc→Bool
  | .inl a,.inl b=>decide (a < b)
  | .inr x,.inr y=>decide (x.cps.toList < y.cps.toList)
  | .inl _,.inr _=>true
  | .inr _,.inl _=>false
noncomputable def lexLt:List Sc→List Sc→Bool
  | k :: ks,m :: ms=>if k=m then lexLt ks ms else scLt k m
  | [],_ :: _=>true
  | _,[]=>false
theorem lex_cc (k m:Sc) (ks ms:List Sc):lexLt (k :: ks) (m :: ms)=if k=m then lexLt ks ms else scLt k m:=rfl
theorem ltK_cc (k m:Sc) (ks ms:List Sc):ltK (k :: ks) (m :: ms)=if k=m then ltK ks ms else k.isLeft==m.isLeft:=rfl
noncomputable def Rises (r:List V):Prop:=r.Pairwise fun x y=>lexLt (keysOf y) (keysOf x)=false
noncomputable def ded {α:Type} [DecidableEq α] (l:List α):List α:=l.foldl (fun a x=>if x∈a then a else a++[x]) []
noncomputable def setLen (x:V):Option Nat:=match x with
  | .str s=>if s.cps.size < 4000 then some (ded s.cps.toList).length else none
  | .list l=>(intsL l).bind fun is=>if is.length < 4000 then some (ded is).length else none
  | _=>none
noncomputable def isIk (kvs:List (V×V)):Bool:=match kvs with
  | (.none,_) :: _=>true
  | _=>false
noncomputable def excV (c:Nat):V:=.dict [(.int c,.none)]
noncomputable def excO (x:V):Option Nat:=match x with
  | .dict [(.int c,.none)]=>some c.toNat
  | _=>none
noncomputable def noX (x:V):Bool:=(excO x).isNone
noncomputable def opN (o:Op) (xs:List V):Option V:=match o with
  | .bin o=>two xs (binOp o)
  | .neg=>one xs fun x=>intO x fun i=>some (.int (-i))
  | .tuple=>fitL xs (.tuple xs)
  | .list=>fitL xs (.list xs)
  | .sub=>two xs subOp
  | .slice lo hi=>sliceN lo hi xs
  | .attr j=>one xs fun x=>match x with | .dict kvs=>if isIk kvs=true then (kvs[j]?).map (·.2) else none | _=>none
  | .isinst t=>one xs fun x=>(isT x t).map .bool
  | .len=>one xs fun x=>(seqV x).map fun l=>.int l.length
  | .listOf=>one xs fun x=>(pairO x).map .list
  | .isExc _ tb=>one xs fun x=>((excO x).bind fun e=>tb[e]?).map .bool
  | .edict=>match xs with | []=>some (.dict []) | _=>none
  | .rev=>two xs revO
  | .tupleOf=>one xs fun x=>(pairO x).map .tuple
  | .allOf=>one xs fun x=>listO x fun l=>if l.length≤szLine then (boolsL l).map fun bs=>.bool (bs.all id) else none
  | .lenSet=>one xs fun x=>(setLen x).map fun (n:Nat)=>PyData.int n
  | .join=>two xs fun x y=>strO x fun sep=>listO y fun l=>(strsL l).bind fun ss=>if (ss.map List.length).sum+ss.length * sep.length≤szLine then some (text (joinL sep ss)) else none
  | .count=>two xs fun x y=>listO x fun l=>if (okEq y&&okEq (.list l))=true then some (.int (l.countP fun z=>PyData.eqv z y)) else none
  | .range=>match xs with
    | [x]=>intO x fun b=>rangeO 0 b
    | [x,y]=>int2 x y rangeO
    | _=>none
  | .zip=>two xs fun x y=>(pairO x).bind fun l=>(pairO y).map fun r=>.list (zipL l r)
  | _=>none
noncomputable def isStr (x:V):Bool:=match x with
  | .str _=>true
  | _=>false
noncomputable def isList (x:V):Bool:=match x with
  | .list _=>true
  | _=>false
noncomputable def metD (ok:V→Bool) (ds:List D) (G:Gs) (f:V→V→Prop):Prop:=match ds with
  | [a,b]=>a G fun x=>ok x=true∧b G fun y=>f x y
  | _=>False
noncomputable def instV (l:List V):V:=.dict (l.map fun x=>(.none,x))
noncomputable def isInst (x:V):Bool:=match x with
  | .dict kvs=>isIk kvs
  | _=>false
noncomputable def evOp (cf:CallF) (o:Op) (ds:List D) (G:Gs) (K:V→Prop):Prop:=match o with
  | .lit x=>K x
  | .var k=>okK (varO G k) K
  | .own k=>okK (ownLO G k) fun l=>K (.list l)
  | .lend k=>okK (ownLO G k) fun l=>oneD ds (G.set k (.v (.list l))) fun x=>okK (boolO x some) fun b=>K (.bool b)
  | .cmp o=>manyD ds G fun xs=>okK (two xs (cmpOp o)) fun b=>K (.bool b)
  | .not=>oneD ds G fun x=>okK (boolO x some) fun b=>K (.bool (!b))
  | .chain=>chainD ds G K
  | .and=>boolsD true ds G fun b=>K (.bool b)
  | .or=>boolsD false ds G fun b=>K (.bool b)
  | .ite=>iteD ds G K
  | .call f=>manyD ds G fun xs=>cf f xs fun y=>noX y=true∧K y
  | .meth f=>oneD ds G fun x=>isInst x=true∧cf f [x] fun y=>noX y=true∧K y
  | .sorted=>oneD ds G fun x=>okK (listO x intsL) fun is=>is.length < 64∧∀ r:List Int,r.Perm is→r.Pairwise (·≤·)→K (.list (r.map .int))
  | .sortedL=>oneD ds G fun x=>okK (listO x some) fun l=>(l.all wayV&&decide (l.length≤szLine))=true∧(∀ x∈l,∀ y∈l,ltK (keysOf x) (keysOf y)=true)∧(l.length < 64∨∀ x∈l,∀ y∈l,x=y)∧∀ r:List V,r.Perm l→Rises r→K (.list r)
  | .sortedSet=>oneD ds G fun x=>okK (listO x some) fun l=>(l.all wayV&&decide (l.length≤szLine))=true∧(∀ x∈l,∀ y∈l,ltK (keysOf x) (keysOf y)=true)∧(∃ m:List V,m.length < 64∧∀ x∈l,x∈m)∧∀ r:List V,r.Nodup→(∀ y,y∈r ↔ y∈l)→Rises r→K (.list r)
  | .isCls=>oneD ds G fun x=>isInst x=true∧K (.bool true)
  | .comp k=>compD (setOne k) ds G K
  | .compM ks=>compD (setMany ks) ds G K
  | .join=>metD isStr ds G fun x y=>okK (opN .join [x,y]) K
  | .count=>metD isList ds G fun x y=>okK (opN .count [x,y]) K
  | o=>manyD ds G fun xs=>okK (opN o xs) K
noncomputable def ev (cf:CallF) (e:E):D:=
  E.rec (motive_1:=fun _=>D) (motive_2:=fun _=>List D) (fun o _ ih=>evOp cf o ih) [] (fun _ _ i is=>i :: is) e
noncomputable def forL (b:Gs→V→Option Gs) (A:B) (xs:List V):B:=
  List.rec (motive:=fun _=>B) (fun G K=>K none G)
    (fun x _ ih G K=>okK (b G x) fun G'=>A G' fun fl G''=>match fl with | none=>ih G'' K | some y=>noX y=true∧K (some y) G'') xs
noncomputable def scal (x:V):Bool:=match x with
  | .list _=>false
  | .tuple _=>false
  | .dict _=>false
  | _=>true
noncomputable def noL (x:V):Bool:=match x with
  | .tuple l=>l.all scal
  | x=>scal x
noncomputable def fldOk (x:V):Bool:=match x with
  | .list l=>l.all noL
  | x=>noL x
noncomputable def lendOk (x:V):Bool:=match x with
  | .dict kvs=>isIk kvs&&(kvs.map (·.2)).all fldOk
  | x=>noL x
noncomputable def rowO (x:V):Option (List V):=listO x fun l=>if l.all noL=true∧l.length < szLine then some l else none
noncomputable def rowsD (ds:List D) (G:Gs) (f:List (List V)→Prop):Prop:=manyD ds G fun xs=>okK (xs.mapM rowO) fun ls=>ls.length≤szLine∧f ls
noncomputable def rowsV (ls:List (List V)):V:=.list (ls.map .list)
noncomputable def app0 (ls:List (List V)):List (List V):=ls.map (·++[.int 0])
noncomputable def isUnset (G:Gs) (r:Nat):Bool:=match getSlot G r with
  | .unset=>true
  | _=>false
noncomputable def handD (k m r:Nat) (ds:List D) (X:B) (G:Gs) (K:Option V→Gs→Prop):Prop:=match ds with
  | c :: t :: rs=>rowsD rs G fun ls=>c (G.set k (.v (rowsV ls))) fun y=>lendOk y=true∧t ((G.set k (.v (rowsV ls))).set m (.v y)) fun x=>okK (boolO x some) fun t=>
    if t=true then X ((G.set k (.v (rowsV ls))).set m (.v y)) (fun fl G'=>(match fl with | some z=>noX z=true | none=>False)∧K fl G') else isUnset G r=true∧K none (((G.set k (.v (rowsV (app0 ls)))).set m (.v y)).set r .junk)
  | _=>False
noncomputable def exOp (sup:Nat→Nat→Bool) (cf:CallF) (o:SOp) (ds:List D) (X Y:B) (G:Gs) (K:Option V→Gs→Prop):Prop:=match o with
  | .assign k=>oneD ds G fun x=>K none (G.set k (.v x))
  | .assignM ks=>oneD ds G fun x=>okK (setMany ks G x) (K none)
  | .ownL k=>manyD ds G fun xs=>xs.length≤szLine∧K none (G.set k (.ownL xs))
  | .append k=>okK (ownLO G k) fun l=>oneD ds G fun x=>l.length < szLine∧K none (G.set k (.ownL (l++[x])))
  | .setAttr k j=>oneD ds G fun x=>isList x=false∧okK (ownIO G k) fun l=>l.length=j∧K none (G.set k (.ownI (l++[x])))
  | .setAttrN k j=>oneD ds G fun x=>okK (ownIO G k) fun l=>l.length=j∧K none (G.set k (.ownI (l++[x])))
  | .call f=>manyD ds G fun xs=>cf f xs fun y=>if noX y=true then isNone y=true∧K none G else K (some y) G
  | .ret=>oneD ds G fun x=>noX x=true∧K (some x) G
  | .retC f=>manyD ds G fun xs=>cf f xs fun y=>K (some y) G
  | .tryC f c k=>manyD ds G fun xs=>cf f xs fun y=>match excO y with
    | none=>K (some y) G
    | some d=>sup d c=true∧X (G.set k (.v y)) fun fl G'=>(match fl with | some x=>noX x=true | none=>False)∧K fl (G'.set k .unset)
  | .ite=>oneD ds G fun x=>okK (boolO x some) fun t=>if t=true then X G K else Y G K
  | .forS k=>oneD ds G fun x=>okK (seqV x) fun xs=>forL (setOne k) X xs G K
  | .forM ks=>oneD ds G fun x=>okK (seqV x) fun xs=>forL (setMany ks) X xs G K
  | .freeze k=>okK (ownLO G k) fun l=>K none (G.set k (.v (.list l)))
  | .raise c=>K (some (excV c)) G
  | .rows k r=>rowsD ds G fun ls=>isUnset G r=true∧K none ((G.set k (.v (rowsV (app0 ls)))).set r .junk)
  | .hand k m r=>handD k m r ds X G K
noncomputable def ex (sup:Nat→Nat→Bool) (cf:CallF) (s:S):B:=
  S.rec (motive_1:=fun _=>B) (motive_2:=fun _=>B) (fun o es _ _ x y=>exOp sup cf o (es.map (ev cf)) x y) (fun G K=>K none G)
    (fun _ _ i is G K=>i G fun fl G'=>match fl with | none=>is G' K | some x=>K (some x) G') s
noncomputable def exs (sup:Nat→Nat→Bool) (cf:CallF) (l:List S):B:=
  List.rec (motive:=fun _=>B) (fun G K=>K none G) (fun s _ is G K=>ex sup cf s G fun fl G'=>match fl with | none=>is G' K | some x=>K (some x) G') l
structure Fn where
  npar:Nat
  nslots:Nat
  init:Bool
  body:List S
structure Prog where
  fns:List Fn
  sup:Nat→Nat→Bool
noncomputable def frame0 (fn:Fn) (args:List V):Gs:=(if fn.init=true then [.ownI []] else [])++args.map .v++List.replicate (fn.nslots - fn.npar) .unset
noncomputable def callN (P:Prog) (d:Nat):CallF:=
  Nat.rec (motive:=fun _=>CallF) (fun _ _ _=>False)
    (fun _ cf f args K=>okK (P.fns[f]?) fun fn=>args.length+(if fn.init=true then 1 else 0)=fn.npar∧exs P.sup cf fn.body (frame0 fn args) fun fl G=>
      if fn.init=true then (match fl with | none=>okK (ownIO G 0) fun l=>l.length=5∧K (instV l) | some y=>noX y=false∧K y) else K (fl.getD .none)) d
end Mine
end
noncomputable section
namespace Mine
open PySem PySem.Calls PyProof.Rows PySem.W
noncomputable def listEq (a:List Nat):List Nat→Bool:=List.rec (motive:=fun _=>List Nat→Bool) (fun b=>match b with | []=>true | _=>false) (fun x _ ih b=>match b with | []=>false | y :: r=>Nat.beq x y&&ih r) a
theorem listEq_iff:∀ a b:List Nat,listEq a b=true ↔ a=b
  | [],[]=>⟨fun _=>rfl,fun _=>rfl⟩
  | [],_ :: _=>⟨fun h=>(nomatch h),fun h=>(nomatch h)⟩
  | _ :: _,[]=>⟨fun h=>(nomatch h),fun h=>(nomatch h)⟩
  | x :: a,y :: b=>by
    refine (?_:(Nat.beq x y&&listEq a b)=true ↔ _)
    rw [Bool.and_eq_true,listEq_iff a b,Nat.beq_eq,List.cons.injEq]
set_option warn.classDefReducibility false in
noncomputable def fastStr:BEq Str:=⟨fun a b=>listEq a.cps.toList b.cps.toList⟩
theorem fast_eq:fastStr=instBEqOfDecidableEq:=congrArg BEq.mk (funext fun a=>funext fun b=>by
  rw [Bool.eq_iff_iff,listEq_iff,decide_eq_true_iff]
  exact ⟨fun h=>by cases a; cases b; exact congrArg Str.mk (Array.toList_inj.mp h),fun h=>by rw [h]⟩)
noncomputable def nodupB [BEq Str]:List Str→Bool
  | []=>true
  | x :: r=>!r.elem x&&nodupB r
theorem nodup_of:∀ {l:List Str},nodupB l=true→l.Nodup
  | [],_=>List.nodup_nil
  | x :: r,h=>by
    have h:=(Bool.and_eq_true _ _).mp h
    exact List.nodup_cons.mpr ⟨fun m=>by rw [List.elem_iff.mpr m] at h; exact (nomatch h.1),nodup_of h.2⟩
noncomputable def okName [BEq Str] (x:Str):Bool:=!(x==("__debug__" : Str))&&!(x==("__classdict__" : Str))
noncomputable def bltNames:List (Str×Value):=[("len",.builtin "len"),("isinstance",.builtin "isinstance"),("str",.type "str"),("int",.type "int"),("bool",.type "bool"),("list",.type "list"),("tuple",.type "tuple"),
  ("set",.type "set"),("range",.type "range"),("zip",.type "zip"),("all",.builtin "all"),("sorted",.builtin "sorted"),("ValueError",.type "ValueError")]
noncomputable def notSet (e:Expr):Bool:=e.ctorIdx != 7
noncomputable def plainE (e:Expr):Bool:=e.ctorIdx != 22
noncomputable def glob [BEq Str] (sc:List (Str×NameKind)) (x:Str):Bool:=(sc.lookup x==some .globalImplicit)&&okName x
noncomputable def constIs (c:Const) (x:V):Bool:=match x with
  | .none=>c==.none
  | .bool b=>c==.bool b
  | .int i=>c==.int i
  | .str t=>c==.str t
  | _=>false
noncomputable def simpleE (e:Expr):Bool:=e.ctorIdx==19||e.ctorIdx==23
noncomputable def notComp (e:Expr):Bool:=!(Nat.ble 8 e.ctorIdx&&Nat.ble e.ctorIdx 10)
noncomputable def noSwap (e:Expr):Bool:=notComp e&&e.ctorIdx != 25
noncomputable def relab [BEq Str] (sc names:List (Str×NameKind)):List (Str×NameKind):=names.map fun (n,k)=>if k==.free&&sc.lookup n==some .cell then (n,.cell) else (n,k)
structure Sx where
  sc:List (Str×NameKind)
  ρ:List (Str×Nat)
  nf:Nat
  ns:Nat
  hm:Bool
  nw:Bool
inductive Pz where
  | val
  | test
  | new
  | src (st:Bool) (T:Expr)
  | asg (y:Str) (py sp:Pos)
noncomputable abbrev Kid:=Sx×Pz×Expr
structure Zx where
  fns:List (Str×Nat)
  cons:List (Str×V)
  flds:List Str
  meths:List (Str×Nat)
  clss:List (Str×Nat)
  nc:Nat
  sup:Nat→Nat→Bool
  safe:Nat→Bool
  newf:Nat→Bool
  cf:Nat
noncomputable def plains (xs:List Expr):Bool:=xs.all plainE
noncomputable def vName (x:Expr):Option (Str×Pos):=if h:x.ctorIdx=23 then some (Expr.Name.elim (motive_1:=fun _=>Str×Pos) x h fun n p=>(n,p)) else none
noncomputable def vTup (x:Expr):Option (List Expr×Nat×Pos):=if h:x.ctorIdx=25 then some (Expr.Tuple.elim (motive_1:=fun _=>List Expr×Nat×Pos) x h fun xs k p=>(xs,k,p)) else none
noncomputable def vLst (x:Expr):Option (List Expr×Pos):=if h:x.ctorIdx=24 then some (Expr.List.elim (motive_1:=fun _=>List Expr×Pos) x h fun xs p=>(xs,p)) else none
noncomputable def vSub (x:Expr):Option (Expr×Expr×Pos):=if h:x.ctorIdx=21 then some (Expr.Subscript.elim (motive_1:=fun _=>Expr×Expr×Pos) x h fun v s p=>(v,s,p)) else none
noncomputable def vSlc (x:Expr):Option (Option Expr×Option Expr×Option Expr×Pos):=if h:x.ctorIdx=26 then some (Expr.Slice.elim (motive_1:=fun _=>Option Expr×Option Expr×Option Expr×Pos) x h fun l u st p=>(l,u,st,p)) else none
noncomputable def vCall (x:Expr):Option (Expr×List Expr×List Keyword×Pos):=if h:x.ctorIdx=16 then some (Expr.Call.elim (motive_1:=fun _=>Expr×List Expr×List Keyword×Pos) x h fun u xs ks p=>(u,xs,ks,p)) else none
noncomputable def vAttr (x:Expr):Option (Expr×Str×Pos):=if h:x.ctorIdx=20 then some (Expr.Attribute.elim (motive_1:=fun _=>Expr×Str×Pos) x h fun o n q=>(o,n,q)) else none
noncomputable def vDict (x:Expr):Option (List (Option Expr)×List Expr×Pos):=if h:x.ctorIdx=6 then some (Expr.Dict.elim (motive_1:=fun _=>List (Option Expr)×List Expr×Pos) x h fun ks vs p=>(ks,vs,p)) else none
noncomputable def sole {α:Type}:List α→Option α
  | [y]=>some y
  | _=>none
noncomputable def two? {α:Type}:List α→Option (α×α)
  | [y,z]=>some (y,z)
  | _=>none
noncomputable def litEq (x y:V):Bool:=match x with
  | .int i=>(match y with | .int j=>i==j | _=>false)
  | .str s=>(match y with | .str t=>s==t | _=>false)
  | _=>false
noncomputable def vConst (x:Expr):Option (Const×Nat×Pos):=if h:x.ctorIdx=19 then some (Expr.Constant.elim (motive_1:=fun _=>Const×Nat×Pos) x h fun c k p=>(c,k,p)) else none
noncomputable def vBin (x:Expr):Option (Expr×Operator×Expr×Pos):=if h:x.ctorIdx=2 then some (Expr.BinOp.elim (motive_1:=fun _=>Expr×Operator×Expr×Pos) x h fun l o r p=>(l,o,r,p)) else none
noncomputable def vCmp (x:Expr):Option (Expr×List CmpOp×List Expr×Pos):=if h:x.ctorIdx=15 then some (Expr.Compare.elim (motive_1:=fun _=>Expr×List CmpOp×List Expr×Pos) x h fun l o r p=>(l,o,r,p)) else none
noncomputable def vBool (x:Expr):Option (BoolOp×List Expr×Pos):=if h:x.ctorIdx=0 then some (Expr.BoolOp.elim (motive_1:=fun _=>BoolOp×List Expr×Pos) x h fun o xs p=>(o,xs,p)) else none
noncomputable def vUn (x:Expr):Option (UnaryOp×Expr×Pos):=if h:x.ctorIdx=3 then some (Expr.UnaryOp.elim (motive_1:=fun _=>UnaryOp×Expr×Pos) x h fun o y p=>(o,y,p)) else none
noncomputable def vIf (x:Expr):Option (Expr×Expr×Expr×Pos):=if h:x.ctorIdx=5 then some (Expr.IfExp.elim (motive_1:=fun _=>Expr×Expr×Expr×Pos) x h fun t y z p=>(t,y,z,p)) else none
noncomputable def vComp (x:Expr):Option (Expr×List Comprehension×Scope×Pos):=if h:x.ctorIdx=8 then some (Expr.ListComp.elim (motive_1:=fun _=>Expr×List Comprehension×Scope×Pos) x h fun y gs sc p=>(y,gs,sc,p)) else none
@[irreducible] def nCall [BEq Str] (X:Sx) (nm:Str) (x:Expr) (f:List Expr→Bool):Bool:=(vCall x).any fun c=>(vName c.1).any fun n=>n.1==nm&&(glob X.sc nm&&(c.2.2.1.isEmpty&&f c.2.1))
noncomputable def nCall1 [BEq Str] (X:Sx) (nm:Str) (x:Expr) (f:Expr→Bool):Bool:=nCall X nm x fun xs=>(sole xs).any f
@[irreducible] def mCall (x:Expr) (f:Expr→Str→List Expr→Bool):Bool:=(vCall x).any fun c=>(vAttr c.1).any fun a=>c.2.2.1.isEmpty&&(a.2.2.endLine==c.2.2.2.line&&f a.1 a.2.1 c.2.1)
noncomputable def mCall1 [BEq Str] (X:Sx) (k:List Kid→Bool) (nm:Str) (x:Expr):Bool:=mCall x fun y n xs=>n==nm&&(simpleE y&&(sole xs).any fun e=>plainE e&&k [(X,.val,y),(X,.val,e)])
noncomputable def compChk [BEq Str] (X:Sx) (scope:Scope) (x x':Str):Bool:=scope.kind==.function&&(scope.names.lookup x==some .local&&(scope.names.lookup x'==some .local&&(scope.names.all (fun p=>p.2 != .cell)&&(scope.names.all (fun p=>p.2 != .local||scope.names.lookup p.1==some .local)&&(scope.names.all (fun p=>p.2 != .free||((X.sc.lookup p.1==some .cell||X.sc.lookup p.1==some .free)&&(X.ρ.lookup p.1).isSome))&&decide (X.nf+2≤X.ns))))))
noncomputable def Sx.comp [BEq Str] (X:Sx) (scope:Scope) (x x':Str):Sx:=⟨relab X.sc scope.names,(x,X.nf) :: (x',X.nf+1) :: X.ρ.filter (fun p=>scope.names.lookup p.1==some .free),X.nf+2,X.ns,X.hm,X.nw⟩
@[irreducible] def cCall [BEq Str] (Z:Zx) (X:Sx) (f:Nat) (x:Expr) (k:List Expr→Bool):Bool:=(vCall x).any fun c=>(vName c.1).any fun n=>Z.fns.lookup n.1==some f&&(glob X.sc n.1&&((!X.hm||Z.safe f)&&(c.2.2.1.isEmpty&&k c.2.1)))
noncomputable def isVal:Pz→Bool
  | .val=>true
  | _=>false
noncomputable def isComp (o:Op):Bool:=o.ctorIdx==(Op.comp 0).ctorIdx
section
variable [BEq Str] (Z:Zx) (o:Op) (k:List Kid→Bool) (X:Sx)
noncomputable def chkV (p:Pz) (x:Expr):Bool:=match o with
  | .lit v=>(vConst x).any (fun q=>constIs q.1 v&&k [])||(vName x).any fun m=>glob X.sc m.1&&((Z.cons.lookup m.1).any (litEq v)&&k [])
  | .lend _=>k [(X,p,x)]
  | .var j=>(vName x).any fun m=>X.ρ.lookup m.1==some j&&(okName m.1&&k [])
  | .bin op=>(vBin x).any fun q=>decide (op=q.2.1)&&k [(X,.val,q.1),(X,.val,q.2.2.1)]
  | .cmp c=>(vCmp x).any fun q=>(sole q.2.1).any fun c'=>decide (c=c')&&(sole q.2.2.1).any fun r=>notSet r&&k [(X,.val,q.1),(X,.val,r)]
  | .chain=>(vCmp x).any fun q=>isVal p&&(two? q.2.1).any fun c=>decide (.LtE=c.1)&&(decide (.Lt=c.2)&&(two? q.2.2.1).any fun r=>notSet r.2&&k [(X,.val,q.1),(X,.val,r.1),(X,.val,r.2)])
  | .and=>(vBool x).any fun q=>decide (.And=q.1)&&(!q.2.1.isEmpty&&k (q.2.1.map fun x=>(X,p,x)))
  | .or=>(vBool x).any fun q=>decide (.Or=q.1)&&(!q.2.1.isEmpty&&k (q.2.1.map fun x=>(X,p,x)))
  | .not=>(vUn x).any fun q=>decide (.Not=q.1)&&k [(X,p,q.2.1)]
  | .neg=>(vUn x).any fun q=>decide (.USub=q.1)&&(isVal p&&k [(X,.val,q.2.1)])
  | .ite=>(vIf x).any fun q=>k [(X,.test,q.1),(X,p,q.2.1),(X,p,q.2.2.1)]
  | .tuple=>(vTup x).any fun q=>plains q.1&&k (q.1.map fun x=>(X,.val,x))
  | .list=>(vLst x).any fun q=>plains q.1&&k (q.1.map fun x=>(X,.val,x))
  | .sub=>(vSub x).any fun q=>k [(X,.val,q.1),(X,.val,q.2.1)]
  | .slice bl bh=>(vSub x).any fun v=>(vSlc v.2.1).any fun q=>q.2.2.1.isNone&&(q.1.isSome==bl&&(q.2.1.isSome==bh&&k ((X,.val,v.1) :: (q.1.toList++q.2.1.toList).map fun x=>(X,.val,x))))
  | .attr j=>(vAttr x).any fun q=>simpleE q.1&&(Z.flds[j]?==some q.2.1&&k [(X,.val,q.1)])
  | .comp j=>!X.hm&&(vComp x).any fun q=>(sole q.2.1).any fun c=>c.is_async==0&&(vName c.target).any fun n=>compChk X q.2.2.1 n.1 n.1&&(j==X.nf&&(notSet c.iter&&k ((X,.src false (.Name n.1 n.2),c.iter) :: (X.comp q.2.2.1 n.1 n.1,.val,q.1) :: c.ifs.map fun x=>(X.comp q.2.2.1 n.1 n.1,.test,x))))
  | .compM js=>!X.hm&&(vComp x).any fun q=>(sole q.2.1).any fun c=>c.is_async==0&&(vTup c.target).any fun T=>(two? T.1).any fun y=>(vName y.1).any fun n=>(vName y.2).any fun n'=>compChk X q.2.2.1 n.1 n'.1&&(!(n'.1==n.1)&&(js==[X.nf,X.nf+1]&&(notSet c.iter&&k ((X,.src false (.Tuple [.Name n.1 n.2,.Name n'.1 n'.2] T.2.1 T.2.2),c.iter) :: (X.comp q.2.2.1 n.1 n'.1,.val,q.1) :: c.ifs.map fun x=>(X.comp q.2.2.1 n.1 n'.1,.test,x)))))
  | .isinst t=>nCall X "isinstance" x fun xs=>(two? xs).any fun y=>plainE y.1&&(vName y.2).any fun T=>glob X.sc T.1&&((tyNames[t]?).any (fun T'=>T.1==Str.ofString T')&&k [(X,.val,y.1)])
  | .len=>nCall1 X "len" x fun y=>plainE y&&k [(X,.val,y)]
  | .lenSet=>!X.hm&&nCall1 X "len" x fun y=>nCall1 X "set" y fun z=>plainE z&&k [(X,.val,z)]
  | .listOf=>nCall1 X "list" x fun y=>plainE y&&k [(X,.val,y)]
  | .sorted=>nCall1 X "sorted" x fun y=>plainE y&&k [(X,.val,y)]
  | .sortedL=>!X.hm&&nCall1 X "sorted" x fun y=>plainE y&&k [(X,.val,y)]
  | .sortedSet=>!X.hm&&nCall1 X "sorted" x fun y=>nCall1 X "set" y fun z=>plainE z&&k [(X,.val,z)]
  | .call f=>cCall Z X f x fun xs=>plains xs&&k (xs.map fun x=>(X,.val,x))
  | .join=>mCall1 X k "join" x
  | .count=>mCall1 X k "count" x
  | .meth f=>mCall x fun y nm xs=>simpleE y&&(xs.isEmpty&&((!X.hm||Z.safe f)&&(Z.meths.lookup nm==some f&&k [(X,.val,y)])))
  | .isExc c tb=>nCall X "isinstance" x fun xs=>(two? xs).any fun y=>plainE y.1&&(vName y.2).any fun T=>glob X.sc T.1&&((Z.clss.lookup T.1==some c||(T.1==("ValueError" : Str)&&c==Z.nc))&&((List.range Z.nc).all (fun e=>tb[e]?==some (Z.sup e c))&&k [(X,.val,y.1)]))
  | .isCls=>nCall X "isinstance" x fun xs=>(two? xs).any fun y=>plainE y.1&&(vName y.2).any fun T=>glob X.sc T.1&&(Z.fns.lookup T.1==some Z.cf&&k [(X,.val,y.1)])
  | .edict=>(vDict x).any fun q=>q.1.isEmpty&&(q.2.1.isEmpty&&k [])
  | .rev=>(vSub x).any fun v=>(vSlc v.2.1).any fun q=>q.1.isNone&&(q.2.1.isNone&&q.2.2.1.any fun st=>k [(X,.val,v.1),(X,.val,st)])
  | .tupleOf=>nCall X "tuple" x fun xs=>plains xs&&k (xs.map fun x=>(X,.val,x))
  | .allOf=>!X.hm&&nCall X "all" x fun xs=>plains xs&&k (xs.map fun x=>(X,.val,x))
  | _=>false
noncomputable def chkR (f:Str) (x:Expr):Bool:=nCall X f x fun xs=>plains xs&&k (xs.map fun x=>(X,.val,x))
noncomputable def chkA1 (x:Expr):Bool:=notComp x&&chkV Z o k X .val x||isComp o&&chkV Z o k X .val x
noncomputable def newB:Bool:=match o with
  | .tuple=>true
  | .listOf=>true
  | .sorted=>true
  | .sortedL=>true
  | .sortedSet=>true
  | .call f=>Z.newf f
  | .meth f=>Z.newf f
  | _=>false
noncomputable def chkX (p:Pz) (x:Expr):Bool:=match p with
  | .val=>chkV Z o k X .val x
  | .test=>chkV Z o k X .test x
  | .new=>newB Z o&&chkV Z o k X .val x
  | .src st T=>!X.hm&&(match o with
    | .own j=>!st&&(vName x).any fun m=>X.ρ.lookup m.1==some j&&(okName m.1&&k [])
    | .range=>chkR k X "range" x
    | .zip=>(vTup T).any fun _=>chkR k X "zip" x
    | _=>chkV Z o k X .val x)
  | .asg _ _ _=>chkA1 Z o k X x
end
noncomputable abbrev Ck:=Kid→Bool
noncomputable def kidsB (cs:List Ck):List Kid→Bool:=
  List.rec (motive:=fun _=>List Kid→Bool) (fun ts=>ts.isEmpty) (fun c _ ih ts=>match ts with | []=>false | t :: r=>c t&&ih r) cs
noncomputable def chkE [BEq Str] (Z:Zx) (e:E):Ck:=
  E.rec (motive_1:=fun _=>Ck) (motive_2:=fun _=>List Ck) (fun o _ ih t=>chkX Z o (kidsB ih) t.1 t.2.1 t.2.2) [] (fun _ _ i is=>i :: is) e
noncomputable def tgtOk [BEq Str] (X:Sx) (m:Str) (j:Nat):Bool:=X.ρ.lookup m==some j&&!(X.sc.lookup m==some .free)
noncomputable def tgtsOk [BEq Str] (X:Sx):List Expr→List Nat→Bool
  | [],js=>js.isEmpty
  | t :: r,js=>(vName t).any fun m=>match js with | []=>false | j :: q=>tgtOk X m.1 j&&tgtsOk X r q
noncomputable def vAsg (x:Stmt) (f:Expr→Expr→Pos→Bool):Bool:=if h:x.ctorIdx=5 then Stmt.Assign.elim (motive_2:=fun _=>Bool) x h fun ts v p=>(sole ts).any fun t=>f t v p else false
noncomputable def vExS (x:Stmt) (f:Expr→Bool):Bool:=if h:x.ctorIdx=24 then Stmt.Expr.elim (motive_2:=fun _=>Bool) x h fun e _=>f e else false
noncomputable def vRet (x:Stmt) (f:Expr→Bool):Bool:=if h:x.ctorIdx=3 then Stmt.Return.elim (motive_2:=fun _=>Bool) x h fun e _=>e.any f else false
noncomputable def vIfS (x:Stmt) (f:Expr→List Stmt→List Stmt→Bool):Bool:=if h:x.ctorIdx=12 then Stmt.If.elim (motive_2:=fun _=>Bool) x h fun c a b _=>f c a b else false
noncomputable def vFor (x:Stmt) (f:Expr→Expr→List Stmt→Bool):Bool:=if h:x.ctorIdx=9 then Stmt.For.elim (motive_2:=fun _=>Bool) x h fun T it body el _=>el.isEmpty&&f T it body else false
noncomputable def vRs (x:Stmt) (f:Expr→Bool):Bool:=if h:x.ctorIdx=16 then Stmt.Raise.elim (motive_2:=fun _=>Bool) x h fun e c _=>c.isNone&&e.any f else false
noncomputable def vTry (x:Stmt) (f:Stmt→Option Expr→Option Str→List Stmt→Bool):Bool:=if h:x.ctorIdx=17 then Stmt.Try.elim (motive_2:=fun _=>Bool) x h fun bd hs el fi _=>el.isEmpty&&(fi.isEmpty&&(sole bd).any fun b=>(sole hs).any fun hd=>match hd with | .ExceptHandler t n hb _=>f b t n hb) else false
noncomputable abbrev CkS:=Sx→List Stmt→Bool
noncomputable abbrev CkM:=Sx→List Stmt→(List Stmt→Bool)→Bool
noncomputable def oneC (c:Stmt→Bool) (rest:List Stmt→Bool):List Stmt→Bool
  | []=>false
  | x :: r=>c x&&rest r
noncomputable def chkLoop [BEq Str] (X:Sx) (n:Str) (r:Nat) (x:Stmt):Bool:=vFor x fun T it body=>(vName T).any fun m=>tgtOk X m.1 r&&(okName m.1&&(vName it).any fun n'=>n'.1==n&&(sole body).any fun b=>vExS b fun e=>mCall e fun y nm xs=>nm==("append" : Str)&&((vName y).any (fun y'=>y'.1==m.1)&&(sole xs).any fun z=>(vConst z).any fun c=>c.1==.int 0))
section
variable [BEq Str] (Z:Zx) (o:SOp) (k:List Kid→Bool) (ca cb:CkS) (X:Sx)
noncomputable def chkX1 (x:Stmt):Bool:=match o with
  | .assign j=>vAsg x fun t v p=>(vName t).any fun m=>tgtOk X m.1 j&&k [(X,.asg m.1 m.2 p,v)]
  | .assignM js=>!X.hm&&vAsg x fun t v p=>(vTup t).any fun q=>tgtsOk X q.1 js&&(noSwap v&&k [(X,.val,v)])
  | .ownL j=>vAsg x fun t v p=>(vName t).any fun m=>tgtOk X m.1 j&&(vLst v).any fun q=>plains q.1&&k (q.1.map fun x=>(X,.val,x))
  | .setAttr i j=>vAsg x fun t v p=>(vAttr t).any fun u=>(vName u.1).any fun m=>X.ρ.lookup m.1==some i&&(okName m.1&&(Z.flds[j]?==some u.2.1&&(notComp v&&k [(X,.val,v)])))
  | .setAttrN i j=>vAsg x fun t v p=>(vAttr t).any fun u=>(vName u.1).any fun m=>X.ρ.lookup m.1==some i&&(okName m.1&&(Z.flds[j]?==some u.2.1&&(notComp v&&k [(X,.new,v)])))
  | .call f=>vExS x fun e=>cCall Z X f e fun xs=>plains xs&&k (xs.map fun x=>(X,.val,x))
  | .append j=>vExS x fun e=>mCall e fun y nm xs=>nm==("append" : Str)&&((sole xs).any (fun e=>plainE e&&k [(X,.val,e)])&&(vName y).any fun m=>X.ρ.lookup m.1==some j&&okName m.1)
  | .ret=>vRet x fun e=>if X.nw then k [(X,.new,e)] else k [(X,.val,e)]
  | .retC f=>vRet x fun e=>(!X.nw||Z.newf f)&&cCall Z X f e fun xs=>plains xs&&k (xs.map fun x=>(X,.val,x))
  | .tryC f c j=>vTry x fun b t n hb=>!X.hm&&(t.any fun t=>(vName t).any fun C=>glob X.sc C.1&&(Z.clss.lookup C.1==some c&&n.any fun n=>X.ρ.lookup n==some j&&(X.sc.lookup n==some .local&&(!hb.isEmpty&&(ca { X with hm:=true } hb&&vRet b fun e=>(!X.nw||Z.newf f)&&cCall Z X f e fun xs=>plains xs&&k (xs.map fun x=>(X,.val,x)))))))
  | .ite=>vIfS x fun c a b=>k [(X,.test,c)]&&(ca X a&&cb X b)
  | .forS j=>!X.hm&&vFor x fun T it body=>notSet it&&(ca X body&&(vName T).any fun m=>tgtOk X m.1 j&&k [(X,.src true (.Name m.1 m.2),it)])
  | .forM js=>!X.hm&&vFor x fun T it body=>notSet it&&(ca X body&&(vTup T).any fun q=>tgtsOk X q.1 js&&k [(X,.src true (.Tuple q.1 q.2.1 q.2.2),it)])
  | .raise c=>!X.hm&&vRs x fun e=>(vCall e).any fun u=>(vName u.1).any fun n=>glob X.sc n.1&&(Z.clss.lookup n.1==some c&&(u.2.2.1.isEmpty&&(sole u.2.1).any fun z=>(vConst z).any fun q=>match q.1 with | .str _=>true | _=>false))
  | _=>false
noncomputable def chkM1 (sts:List Stmt) (rest:List Stmt→Bool):Bool:=match o with
  | .freeze _=>rest sts
  | .rows j r=>(match sts with
    | s1 :: s2 :: q=>vAsg s1 fun t v _=>(vName t).any fun m=>tgtOk X m.1 j&&(okName m.1&&((j != r)&&(vLst v).any fun u=>plains u.1&&(k (u.1.map fun x=>(X,.new,x))&&(!X.hm&&(chkLoop X m.1 r s2&&rest q)))))
    | _=>false)
  | .hand j i r=>(match sts with
    | s1 :: s2 :: s3 :: s4 :: q=>vAsg s1 fun t v _=>(vName t).any fun m=>tgtOk X m.1 j&&(okName m.1&&((j != r)&&((j != i)&&((i != r)&&(!X.hm&&(vLst v).any fun u=>plains u.1&&vAsg s2 fun t2 v2 _=>(vName t2).any fun m2=>tgtOk X m2.1 i&&(notComp v2&&vIfS s3 fun c a b=>b.isEmpty&&(ca X a&&(k ((X,.new,v2) :: (X,.test,c) :: u.1.map fun x=>(X,.new,x))&&(chkLoop X m.1 r s4&&rest q)))))))))
    | _=>false)
  | _=>oneC (chkX1 Z o k ca cb X) rest sts
end
noncomputable def chkS [BEq Str] (Z:Zx) (s:S):CkM:=
  S.rec (motive_1:=fun _=>CkM) (motive_2:=fun _=>CkS) (fun o es _ _ a b X sts rest=>chkM1 Z o (kidsB (es.map (chkE Z))) a b X sts rest) (fun _ sts=>sts.isEmpty) (fun _ _ i is X sts=>i X sts (is X)) s
noncomputable def chkSs [BEq Str] (Z:Zx) (l:List S):CkS:=List.rec (motive:=fun _=>CkS) (fun _ sts=>sts.isEmpty) (fun s _ is X sts=>chkS Z s X sts (is X)) l
noncomputable def codeChk [BEq Str] (K:Frag) (cd:Value) (q:Str):Bool:=match cd with
  | .ref c=>(match K.lookup c with
    | some ⟨_,_,.fields vs,_⟩=>(match (vs[1]?:Option Value) with | some (.str q' _)=>q'==q | _=>false)
    | _=>false)
  | _=>false
noncomputable def noneV:Value→Bool
  | .none=>true
  | _=>false
noncomputable abbrev FText:=List Stmt×Scope×Arguments
noncomputable def bodyAt (K:Frag) (a:Addr):Option FText:=match K.lookup a with
  | some ⟨_,_,.func fd,_⟩=>(match fd.body with
    | .stmts body=>some (body,fd.scope,fd.params)
    | _=>none)
  | _=>none
noncomputable def fnChk0 [BEq Str] (K:Frag) (a:Addr):Bool:=match K.lookup a with
  | some ⟨_,_,.func fd,_⟩=>codeChk K fd.code fd.qualname&&(fd.globals==mainGlobals&&(fd.builtins==builtinsNs&&(fd.closure.isEmpty&&noneV fd.defaults)))
  | _=>false
noncomputable def bodyChk [BEq Str] (Z:Zx) (fn:Fn) (nms:List Str) (safe nw:Bool) (b:Option FText):Bool:=match b with
  | some (body,scope,params)=>!scope.isCoroutine&&(!scope.isGenerator&&(scope.kind==.function&&(params.posonlyargs.isEmpty&&((params.args.map (·.arg))==nms.take fn.npar&&(params.kwonlyargs.isEmpty&&(params.vararg.isNone&&(params.kwarg.isNone &&
        (nodupB nms&&(decide (fn.npar≤nms.length)&&(decide (nms.length≤fn.nslots)&&(nms.all (fun x=>scope.names.lookup x==some .local||scope.names.lookup x==some .cell) &&
        (chkSs Z fn.body ⟨scope.names,nms.zipIdx,nms.length,fn.nslots,false,nw⟩ body&&(!safe||chkSs Z fn.body ⟨scope.names,nms.zipIdx,nms.length,fn.nslots,true,nw⟩ body)))))))))))))
  | none=>false
noncomputable def constChk (u:Value) (v:V):Bool:=match v with
  | .int j=>Value.isInt j u
  | .str l=>Value.isStrOf l u
  | _=>false
noncomputable def nsF [BEq Str] (K:Frag) (ns:Addr) (name:Str):Option (Option Value):=match K.lookup ns with
  | some ⟨_,_,.dict es _,_⟩=>(match es.toList.find? (fun e=>match e.key with | .str s _=>s==name | _=>false) with
      | some e=>some (some e.val)
      | none=>if es.toList.any (·.refKey) then none else some none)
  | _=>none
set_option tactic.hygienic true in
theorem nsF_eq (K:Frag) (ns:Addr) (name:Str):nsF K ns name=nsIn K ns name:=by
  unfold nsF nsIn
  split
  · rename_i c d es n sl h
    have e:(fun e:DictEntry=>match e.key with | .str s _=>s==name | _=>false)=fun e=>e.key.isStr name:=funext fun e=>by cases e.key <;> rfl
    rw [h,e]; rfl
  · rename_i h
    split
    · rename_i c d es n sl h'
      exact (h c d es n sl h').elim
    · rfl
noncomputable def conChk [BEq Str] (K:Frag) (p:Str×V):Bool:=match nsF K mainGlobals p.1 with | some (some u)=>constChk u p.2 | _=>false
noncomputable def clsChk (K:Frag) (C:Addr) (flds:List Str):Bool:=
  findIn K (.ref C) "__getattribute__"==some (some (.builtin "object.__getattribute__"))&&(findIn K (.ref C) "__getattr__"==some none&&(findIn K (.ref C) "__setattr__"==some (some (.builtin "object.__setattr__"))&&(plainOver K C&&((clsIn K C).any (·.hasDict) &&
  (flds.all (fun x=>findIn K (.ref C) x==some none)&&(makesIn K C&&(decide flds.Nodup&&decide (flds.length≤1000))))))))
noncomputable def metChk [BEq Str] (K:Frag) (C:Addr) (flds:List Str) (fn:Nat→Addr) (p:Str×Nat):Bool:=!flds.elem p.1&&(findIn K (.ref C) p.1==some (some (.ref (fn p.2)))&&(typeIn K (.ref (fn p.2))==some (.type "function")&&keepIn K (.ref (fn p.2))))
noncomputable def xclsChk (K:Frag) (sup:Nat→Nat→Bool) (nc:Nat) (clsA:Nat→Addr) (c:Nat):Bool:=
  findIn K (.ref (clsA c)) "__getattribute__"==some (some (.builtin "BaseException.__getattribute__"))&&(findIn K (.ref (clsA c)) "__getattr__"==some none&&(hasDictIn K (clsA c)&&(findIn K (.ref (clsA c)) "__class__"==some (some (.builtin "object.__class__"))&&(mroIn K (clsA c) (.type "object")==some true&&(mroIn K (clsA c) (.type "BaseException")==some true &&
  (typeIn K (.ref (clsA c))==some (.type "type")&&(mroIn K (clsA c) (.type "ValueError")==some (sup c nc)&&(sup c c &&
  (List.range nc).all fun c'=>mroIn K (clsA c) (.ref (clsA c'))==some (sup c c')))))))))
end Mine
end
noncomputable section
namespace Mine.L02
open PySem
noncomputable def abc:Str:=⟨#[97,98,99,100,101,102,103,104,105,106,107,108,109,110,111,112,113,114,115,116,117,118,119,120,121,122]⟩
noncomputable def kOpen:Str:=⟨#[111,112,101,110]⟩
noncomputable def kClose:Str:=⟨#[99,108,111,115,101]⟩
noncomputable def kOn:Str:=⟨#[111,110]⟩
noncomputable def k0:Str:=⟨#[]⟩
noncomputable def ii (i:Int):E:=.nd (.lit (.int i)) []
noncomputable def ss (t:Str):E:=.nd (.lit (.str t)) []
noncomputable def bb (b:Bool):E:=.nd (.lit (.bool b)) []
noncomputable def nn:E:=.nd (.lit .none) []
noncomputable def vv (k:Nat):E:=.nd (.var k) []
noncomputable def sup (e c:Nat):Bool:=c==e||c==0||c==8
noncomputable def xx (c:Nat) (x:E):E:=.nd (.isExc c [sup 0 c,sup 1 c,sup 2 c,sup 3 c,sup 4 c,sup 5 c,sup 6 c,sup 7 c]) [x]
noncomputable def f0c0:List S:=[.mk .ite [(.nd (.cmp .NotIn) [(vv 1),(ss abc)])] [.mk .ret [(bb false)] [] []] []]
noncomputable def f0:Fn:=⟨1,2,false,[.mk .ite [(.nd .or [(.nd .not [(.nd (.isinst 0) [(vv 0)])]),(.nd (.cmp .Gt) [(.nd .len [(vv 0)]),(ii 4)])])] [.mk .ret [(bb false)] [] []] [],
    .mk (.forS 1) [(vv 0)] f0c0 [],
    .mk .ret [(bb true)] [] []]⟩
noncomputable def n0:List Str:=["thing", "sign"]
noncomputable def f1c0:List S:=[.mk .ite [(.nd .not [(.nd (.call 0) [(vv 1)])])] [.mk .ret [(bb false)] [] []] []]
noncomputable def f1:Fn:=⟨1,3,false,[.mk .ite [(.nd .or [(.nd .not [(.nd (.isinst 1) [(vv 0)])]),(.nd (.cmp .NotEq) [(.nd .len [(vv 0)]),(ii 3)])])] [.mk .ret [(bb false)] [] []] [],
    .mk (.forS 1) [(vv 0)] f1c0 [],
    .mk (.assign 2) [(.nd (.bin .Add) [(.nd (.bin .Add) [(.nd .sub [(vv 0),(ii 0)]),(.nd .sub [(vv 0),(ii 1)])]),(.nd .sub [(vv 0),(ii 2)])])] [] [],
    .mk .ret [(.nd (.cmp .Eq) [(.nd .lenSet [(vv 2)]),(.nd .len [(vv 2)])])] [] []]⟩
noncomputable def n1:List Str:=["thing", "text", "whole"]
noncomputable def f2:Fn:=⟨1,1,false,[.mk .ite [(.nd .not [(.nd (.call 1) [(vv 0)])])] [.mk (.raise 1) [] [] []] []]⟩
noncomputable def n2:List Str:=["signs"]
noncomputable def f3c0:List S:=[.mk .ite [(.nd (.cmp .In) [(vv 1),(vv 2)])] [.mk .ret [(vv 3)] [] []] []]
noncomputable def f3:Fn:=⟨2,4,false,[.mk .ite [(.nd .or [(.nd .not [(.nd (.isinst 0) [(vv 1)])]),(.nd (.cmp .NotEq) [(.nd .len [(vv 1)]),(ii 1)])])] [.mk .ret [(ss k0)] [] []] [],
    .mk (.forM [2,3]) [(.nd .zip [(vv 0),(.nd .list [(ss kOpen),(ss kClose),(ss kOn)])])] f3c0 [],
    .mk .ret [(ss k0)] [] []]⟩
noncomputable def n3:List Str:=["signs", "thing", "text", "kind"]
noncomputable def f4:Fn:=⟨2,2,false,[.mk .ret [(.nd .and [(.nd (.isinst 3) [(vv 0)]),(.nd .not [(.nd (.isinst 4) [(vv 0)])]),(.nd .chain [(ii 0),(vv 0),(vv 1)])])] [] []]⟩
noncomputable def n4:List Str:=["thing", "rooms"]
noncomputable def f5c0:List S:=[.mk .ite [(.nd .not [(.nd (.call 4) [(vv 2),(vv 1)])])] [.mk .ret [(bb false)] [] []] []]
noncomputable def f5:Fn:=⟨2,3,false,[.mk .ite [(.nd .not [(.nd (.isinst 2) [(vv 0)])])] [.mk .ret [(bb false)] [] []] [],
    .mk (.forS 2) [(vv 0)] f5c0 [],
    .mk .ret [(.nd (.cmp .Eq) [(.nd .lenSet [(vv 0)]),(.nd .len [(vv 0)])])] [] []]⟩
noncomputable def n5:List Str:=["thing", "rooms", "room"]
noncomputable def f6c0:List S:=[.mk .ret [(.nd .and [(.nd (.cmp .Eq) [(.nd .len [(vv 0)]),(ii 4)]),(.nd (.cmp .Eq) [(.nd (.call 3) [(vv 1),(.nd .sub [(vv 0),(ii 2)])]),(ss kOn)]),(.nd (.call 4) [(.nd .sub [(vv 0),(ii 3)]),(vv 2)])])] [] []]
noncomputable def f6:Fn:=⟨3,3,false,[.mk .ite [(.nd .or [(.nd .not [(.nd (.isinst 1) [(vv 0)])]),(.nd (.cmp .Lt) [(.nd .len [(vv 0)]),(ii 4)]),(.nd .not [(.nd (.call 4) [(.nd .sub [(vv 0),(ii 1)]),(vv 2)])])])] [.mk .ret [(bb false)] [] []] [],
    .mk .ite [(.nd .not [(.nd (.isinst 0) [(.nd .sub [(vv 0),(ii 0)])])])] [.mk .ret [(bb false)] [] []] [],
    .mk .ite [(.nd (.cmp .Eq) [(.nd .sub [(vv 0),(ii 0)]),(ss kOn)])] f6c0 [],
    .mk .ite [(.nd .or [(.nd (.cmp .NotEq) [(.nd .len [(vv 0)]),(ii 5)]),(.nd .not [(.nd (.call 4) [(.nd .sub [(vv 0),(ii 4)]),(vv 2)])])])] [.mk .ret [(bb false)] [] []] [],
    .mk .ite [(.nd (.cmp .Eq) [(.nd .sub [(vv 0),(ii 0)]),(ss kOpen)])] [.mk .ret [(.nd .and [(.nd (.cmp .Eq) [(.nd (.call 3) [(vv 1),(.nd .sub [(vv 0),(ii 2)])]),(ss kOpen)]),(.nd (.call 4) [(.nd .sub [(vv 0),(ii 3)]),(vv 2)])])] [] []] [],
    .mk .ret [(.nd .and [(.nd (.cmp .Eq) [(.nd .sub [(vv 0),(ii 0)]),(ss kClose)]),(.nd (.call 4) [(.nd .sub [(vv 0),(ii 2)]),(vv 2)]),(.nd (.cmp .Eq) [(.nd (.call 3) [(vv 1),(.nd .sub [(vv 0),(ii 3)])]),(ss kClose)])])] [] []]⟩
noncomputable def n6:List Str:=["thing", "signs", "rooms"]
noncomputable def f7c0:List S:=[.mk .ite [(.nd .not [(.nd (.call 6) [(vv 3),(vv 1),(vv 2)])])] [.mk .ret [(bb false)] [] []] []]
noncomputable def f7:Fn:=⟨3,4,false,[.mk .ite [(.nd .or [(.nd .not [(.nd (.isinst 2) [(vv 0)])]),(.nd (.cmp .Gt) [(.nd .len [(vv 0)]),(ii 4000)])])] [.mk .ret [(bb false)] [] []] [],
    .mk (.forS 3) [(vv 0)] f7c0 [],
    .mk .ret [(bb true)] [] []]⟩
noncomputable def n7:List Str:=["thing", "signs", "rooms", "way"]
noncomputable def f8:Fn:=⟨6,6,true,[.mk (.call 2) [(vv 1)] [] [],
    .mk .ite [(.nd .or [(.nd .not [(.nd (.call 4) [(vv 2),(.nd (.bin .Add) [(ii 40),(ii 1)])])]),(.nd (.cmp .Lt) [(vv 2),(ii 1)])])] [.mk (.raise 3) [] [] []] [],
    .mk .ite [(.nd .or [(.nd .not [(.nd (.call 5) [(vv 3),(vv 2)])]),(.nd .not [(.nd (.call 5) [(vv 4),(vv 2)])]),(.nd .not [(.nd (.call 7) [(vv 5),(vv 1),(vv 2)])])])] [.mk (.raise 3) [] [] []] [],
    .mk (.setAttr 0 0) [(vv 1)] [] [],
    .mk (.setAttr 0 1) [(vv 2)] [] [],
    .mk (.setAttrN 0 2) [(.nd .sorted [(vv 3)])] [] [],
    .mk (.setAttrN 0 3) [(.nd .sorted [(vv 4)])] [] [],
    .mk (.setAttrN 0 4) [(.nd .sortedSet [(vv 5)])] [] []]⟩
noncomputable def n8:List Str:=["self", "signs", "rooms", "starts", "ends", "ways"]
noncomputable def f9:Fn:=⟨1,1,false,[.mk .ret [(.nd (.attr 0) [(vv 0)])] [] []]⟩
noncomputable def n9:List Str:=["self"]
noncomputable def f10:Fn:=⟨1,1,false,[.mk .ret [(.nd (.attr 1) [(vv 0)])] [] []]⟩
noncomputable def n10:List Str:=["self"]
noncomputable def f11:Fn:=⟨1,1,false,[.mk .ret [(.nd .listOf [(.nd (.attr 2) [(vv 0)])])] [] []]⟩
noncomputable def n11:List Str:=["self"]
noncomputable def f12:Fn:=⟨1,1,false,[.mk .ret [(.nd .listOf [(.nd (.attr 3) [(vv 0)])])] [] []]⟩
noncomputable def n12:List Str:=["self"]
noncomputable def f13:Fn:=⟨1,1,false,[.mk .ret [(.nd .listOf [(.nd (.attr 4) [(vv 0)])])] [] []]⟩
noncomputable def n13:List Str:=["self"]
noncomputable def f14:Fn:=⟨2,2,false,[.mk .ite [(.nd (.cmp .Lt) [(vv 1),(.nd .len [(vv 0)])])] [.mk .ret [(.nd .sub [(vv 0),(vv 1)])] [] []] [],
    .mk .ret [(ii 0)] [] []]⟩
noncomputable def n14:List Str:=["_law_script", "_law_k"]
noncomputable def f15:Fn:=⟨2,2,false,[.mk .ret [(.nd (.bin .Mod) [(.nd (.bin .Add) [(.nd (.bin .Mult) [(vv 0),(ii 48271)]),(.nd (.bin .Mult) [(ii 7919),(vv 1)])]),(ii 1000003)])] [] []]⟩
noncomputable def n15:List Str:=["_law_cell", "_law_k"]
noncomputable def f16:Fn:=⟨1,1,false,[.mk .ret [(.nd .and [(.nd (.isinst 3) [(vv 0)]),(.nd .not [(.nd (.isinst 4) [(vv 0)])])])] [] []]⟩
noncomputable def n16:List Str:=["_law_found"]
noncomputable def f17c0:E:=(.nd .and [(.nd (.call 16) [(vv 2)]),(.nd (.cmp .Eq) [(vv 2),(vv 3)])])
noncomputable def f17:Fn:=⟨2,4,false,[.mk .ite [(.nd .or [(.nd .not [(.nd (.isinst 2) [(vv 0)])]),(.nd (.cmp .NotEq) [(.nd .len [(vv 0)]),(.nd .len [(vv 1)])])])] [.mk .ret [(bb false)] [] []] [],
    .mk .ret [(.nd .allOf [(.nd (.compM [2,3]) [(.nd .zip [(vv 0),(vv 1)]),f17c0])])] [] []]⟩
noncomputable def n17:List Str:=["_law_found", "_law_due"]
noncomputable def f18c0:List S:=[.mk .ite [(.nd .or [(.nd (.cmp .NotEq) [(.nd (.isinst 0) [(vv 4)]),(.nd (.isinst 0) [(vv 5)])]),(.nd (.isinst 4) [(vv 4)]),(.nd (.cmp .NotEq) [(vv 4),(vv 5)])])] [.mk .ret [(bb false)] [] []] []]
noncomputable def f18c1:List S:=[.mk .ite [(.nd .or [(.nd .not [(.nd (.isinst 1) [(vv 2)])]),(.nd (.cmp .NotEq) [(.nd .len [(vv 2)]),(.nd .len [(vv 3)])])])] [.mk .ret [(bb false)] [] []] [],
    .mk (.forM [4,5]) [(.nd .zip [(vv 2),(vv 3)])] f18c0 []]
noncomputable def f18:Fn:=⟨2,6,false,[.mk .ite [(.nd .or [(.nd .not [(.nd (.isinst 2) [(vv 0)])]),(.nd (.cmp .NotEq) [(.nd .len [(vv 0)]),(.nd .len [(vv 1)])])])] [.mk .ret [(bb false)] [] []] [],
    .mk (.forM [2,3]) [(.nd .zip [(vv 0),(vv 1)])] f18c1 [],
    .mk .ret [(bb true)] [] []]⟩
noncomputable def n18:List Str:=["_law_found", "_law_due", "_law_one", "_law_other", "_law_part", "_law_partner"]
noncomputable def f19:Fn:=⟨2,3,false,[.mk (.assign 2) [(.nd .list [(xx 1 (vv 0)),(xx 2 (vv 0)),(xx 3 (vv 0)),(xx 4 (vv 0))])] [] [],
    .mk (.assign 2) [(.nd (.bin .Add) [(vv 2),(.nd .list [(xx 5 (vv 0)),(xx 6 (vv 0)),(xx 7 (vv 0))])])] [] [],
    .mk .ret [(.nd .and [(.nd (.cmp .Eq) [(.nd .count [(vv 2),(bb true)]),(ii 1)]),(.nd .sub [(vv 2),(vv 1)]),(xx 0 (vv 0)),(xx 8 (vv 0))])] [] []]⟩
noncomputable def n19:List Str:=["_law_e", "_law_own", "_law_some"]
noncomputable def f20c0:E:=(.nd .sub [(vv 1),(.nd (.bin .Mod) [(.nd (.bin .Add) [(vv 0),(.nd (.bin .Mult) [(vv 2),(vv 6)])]),(ii 26)])])
noncomputable def f20:Fn:=⟨1,8,false,[.mk (.assign 1) [(ss abc)] [] [],
    .mk (.assign 2) [(.nd (.bin .Add) [(ii 1),(.nd (.bin .Mult) [(ii 2),(.nd (.bin .Mod) [(.nd (.bin .FloorDiv) [(vv 0),(ii 26)]),(ii 5)])])])] [] [],
    .mk (.assign 3) [(.nd .join [(ss k0),(.nd (.comp 6) [(.nd .range [(ii 6)]),f20c0])])] [] [],
    .mk (.assign 4) [(.nd .sub [(.nd .list [(ii 1),(ii 1),(ii 2),(ii 0)]),(.nd (.bin .Mod) [(.nd (.bin .FloorDiv) [(vv 0),(ii 130)]),(ii 4)])])] [] [],
    .mk (.assign 5) [(.nd (.bin .Add) [(vv 4),(.nd .sub [(.nd .list [(ii 1),(ii 2),(ii 1),(ii 1),(ii 0)]),(.nd (.bin .Mod) [(.nd (.bin .FloorDiv) [(vv 0),(ii 520)]),(ii 5)])])])] [] [],
    .mk .ret [(.nd .tuple [(.nd (.slice false true) [(vv 3),(vv 4)]),(.nd (.slice true true) [(vv 3),(vv 4),(vv 5)]),(.nd (.slice true true) [(vv 3),(vv 5),(.nd (.bin .Add) [(vv 5),(.nd (.bin .Mod) [(.nd (.bin .FloorDiv) [(vv 0),(ii 2600)]),(ii 3)])])])])] [] []]⟩
noncomputable def n20:List Str:=["_law_cell", "_law_letters", "_law_step", "_law_row", "_law_one", "_law_other"]
noncomputable def f21c0:E:=(.nd .sub [(vv 1),(.nd (.bin .Mod) [(.nd (.bin .Add) [(vv 0),(.nd (.bin .Mult) [(vv 2),(vv 6)])]),(ii 26)])])
noncomputable def f21:Fn:=⟨1,8,false,[.mk .ite [(.nd (.cmp .NotEq) [(.nd (.bin .Mod) [(.nd (.bin .FloorDiv) [(vv 0),(ii 7800)]),(ii 8)]),(ii 3)])] [.mk .ret [(.nd (.call 20) [(vv 0)])] [] []] [],
    .mk (.assign 1) [(ss abc)] [] [],
    .mk (.assign 2) [(.nd (.bin .Add) [(ii 1),(.nd (.bin .Mult) [(ii 2),(.nd (.bin .Mod) [(.nd (.bin .FloorDiv) [(vv 0),(ii 26)]),(ii 5)])])])] [] [],
    .mk (.assign 3) [(.nd .join [(ss k0),(.nd (.comp 6) [(.nd .range [(ii 12)]),f21c0])])] [] [],
    .mk (.assign 4) [(.nd (.bin .Add) [(ii 1),(.nd (.bin .Mod) [(.nd (.bin .FloorDiv) [(vv 0),(ii 130)]),(ii 4)])])] [] [],
    .mk (.assign 5) [(.nd (.bin .Add) [(.nd (.bin .Add) [(vv 4),(ii 1)]),(.nd (.bin .Mod) [(.nd (.bin .FloorDiv) [(vv 0),(ii 520)]),(ii 4)])])] [] [],
    .mk .ret [(.nd .tuple [(.nd (.slice false true) [(vv 3),(vv 4)]),(.nd (.slice true true) [(vv 3),(vv 4),(vv 5)]),(.nd (.slice true true) [(vv 3),(vv 5),(.nd (.bin .Add) [(.nd (.bin .Add) [(vv 5),(ii 1)]),(.nd (.bin .Mod) [(.nd (.bin .FloorDiv) [(vv 0),(ii 2600)]),(ii 4)])])])])] [] []]⟩
noncomputable def n21:List Str:=["_law_cell", "_law_letters", "_law_step", "_law_row", "_law_one", "_law_other"]
noncomputable def f22c0:List S:=[.mk .ret [(.nd .tuple [(ss kOpen),(.nd (.bin .Sub) [(.nd (.bin .Sub) [(vv 2),(ii 1)]),(.nd .sub [(.nd .sub [(vv 3),(ii 0)]),(ii 1)])]),(.nd .sub [(.nd .sub [(vv 3),(ii 0)]),(ii 2)]),(vv 6),(vv 7)])] [] []]
noncomputable def f22c1:List S:=[.mk .ite [(.nd .and [(.nd (.cmp .NotEq) [(vv 3),(.nd .list [])]),(.nd (.cmp .Eq) [(.nd (.bin .Mod) [(.nd (.bin .FloorDiv) [(vv 0),(ii 1024)]),(ii 3)]),(ii 0)])])] [.mk .ret [(.nd (.bin .Add) [(.nd (.slice false true) [(.nd .sub [(vv 3),(ii 0)]),(ii 3)]),(.nd .tuple [(vv 6),(vv 7)])])] [] []] [],
    .mk .ite [(.nd .and [(.nd (.cmp .NotEq) [(vv 3),(.nd .list [])]),(.nd (.cmp .Eq) [(.nd (.bin .Mod) [(.nd (.bin .FloorDiv) [(vv 0),(ii 1024)]),(ii 3)]),(ii 1)])])] f22c0 [],
    .mk .ret [(.nd .tuple [(ss kOpen),(vv 5),(.nd .sub [(.nd .sub [(vv 1),(ii 0)]),(.nd (.bin .Mod) [(.nd (.bin .FloorDiv) [(vv 0),(ii 256)]),(.nd .len [(.nd .sub [(vv 1),(ii 0)])])])]),(vv 6),(vv 7)])] [] []]
noncomputable def f22c2:List S:=[.mk .ite [(.nd .and [(.nd (.cmp .NotEq) [(vv 3),(.nd .list [])]),(.nd (.cmp .Gt) [(.nd (.bin .Mod) [(.nd (.bin .FloorDiv) [(vv 0),(ii 1024)]),(ii 4)]),(ii 0)])])] [.mk (.assignM [5,6]) [(.nd (.slice true false) [(.nd .sub [(vv 3),(.nd (.bin .Mod) [(.nd (.bin .FloorDiv) [(vv 0),(ii 16)]),(.nd .len [(vv 3)])])]),(ii 3)])] [] []] [],
    .mk .ret [(.nd .tuple [(ss kClose),(vv 5),(vv 6),(.nd .sub [(.nd .sub [(vv 1),(ii 1)]),(.nd (.bin .Mod) [(.nd (.bin .FloorDiv) [(vv 0),(ii 256)]),(.nd .len [(.nd .sub [(vv 1),(ii 1)])])])]),(vv 7)])] [] []]
noncomputable def f22c3:List S:=[.mk .ret [(.nd .tuple [(ss kOn),(vv 5),(.nd .sub [(.nd .sub [(vv 1),(ii 2)]),(.nd (.bin .Mod) [(.nd (.bin .FloorDiv) [(vv 0),(ii 256)]),(.nd .len [(.nd .sub [(vv 1),(ii 2)])])])]),(vv 6)])] [] []]
noncomputable def f22:Fn:=⟨5,8,false,[.mk (.assign 5) [(.nd (.bin .Mod) [(.nd (.bin .FloorDiv) [(vv 0),(ii 4)]),(vv 2)])] [] [],
    .mk (.assign 6) [(.nd (.bin .Mod) [(.nd (.bin .FloorDiv) [(vv 0),(ii 16)]),(vv 2)])] [] [],
    .mk (.assign 7) [(.nd (.bin .Mod) [(.nd (.bin .FloorDiv) [(vv 0),(ii 64)]),(vv 2)])] [] [],
    .mk .ite [(.nd .and [(.nd (.cmp .Eq) [(.nd (.bin .Mod) [(vv 0),(ii 4)]),(ii 0)]),(.nd (.cmp .Lt) [(.nd .len [(vv 3)]),(vv 4)]),(.nd (.cmp .NotEq) [(.nd .sub [(vv 1),(ii 0)]),(ss k0)])])] f22c1 [],
    .mk .ite [(.nd .and [(.nd (.cmp .Lt) [(.nd (.bin .Mod) [(vv 0),(ii 4)]),(ii 2)]),(.nd (.cmp .NotEq) [(.nd .sub [(vv 1),(ii 1)]),(ss k0)])])] f22c2 [],
    .mk .ite [(.nd (.cmp .NotEq) [(.nd .sub [(vv 1),(ii 2)]),(ss k0)])] f22c3 [],
    .mk .ret [nn] [] []]⟩
noncomputable def n22:List Str:=["_law_cell", "_law_signs", "_law_rooms", "_law_opens", "_law_most", "_law_one", "_law_other", "_law_third"]
noncomputable def f23c0:E:=(vv 12)
noncomputable def f23c1:E:=(vv 12)
noncomputable def f23c2:E:=(vv 12)
noncomputable def f23c3:List S:=[.mk (.assign 10) [(.nd (.comp 12) [(.nd (.own 8) []),f23c2,(.nd (.cmp .Eq) [(.nd .sub [(vv 12),(ii 0)]),(ss kOpen)])])] [] [],
    .mk (.assign 11) [(.nd (.call 22) [(.nd (.call 15) [(.nd (.call 14) [(vv 0),(.nd (.bin .Add) [(.nd (.bin .Add) [(vv 1),(ii 2)]),(vv 9)])]),(vv 9)]),(vv 2),(vv 4),(vv 10),(vv 5)])] [] [],
    .mk .ite [(.nd (.cmp .IsNot) [(vv 11),nn])] [.mk (.append 8) [(vv 11)] [] []] []]
noncomputable def f23:Fn:=⟨4,14,false,[.mk (.assign 4) [(.nd (.bin .Add) [(ii 1),(.nd (.bin .Mod) [(.nd (.call 14) [(vv 0),(vv 1)]),(vv 3)])])] [] [],
    .mk (.assign 5) [(.nd .sub [(.nd .list [(ii 4),(ii 2),(ii 1),(ii 1)]),(.nd (.bin .Sub) [(vv 4),(ii 1)])])] [] [],
    .mk (.assign 6) [(.nd (.comp 12) [(.nd .range [(vv 4)]),f23c0,(.nd (.cmp .Gt) [(.nd (.bin .Mod) [(.nd (.bin .FloorDiv) [(.nd (.call 14) [(vv 0),(.nd (.bin .Add) [(vv 1),(ii 1)])]),(.nd (.bin .Add) [(.nd (.bin .Mult) [(ii 4),(vv 12)]),(ii 1)])]),(ii 3)]),(ii 0)])])] [] [],
    .mk (.assign 7) [(.nd (.comp 12) [(.nd .range [(vv 4)]),f23c1,(.nd (.cmp .Eq) [(.nd (.bin .Mod) [(.nd (.bin .FloorDiv) [(.nd (.call 14) [(vv 0),(.nd (.bin .Add) [(vv 1),(ii 1)])]),(.nd (.bin .Add) [(.nd (.bin .Mult) [(ii 5),(vv 12)]),(ii 7)])]),(ii 2)]),(ii 0)])])] [] [],
    .mk (.ownL 8) [] [] [],
    .mk (.forS 9) [(.nd .range [(.nd (.bin .Add) [(ii 2),(.nd (.bin .Mod) [(.nd (.bin .FloorDiv) [(.nd (.call 14) [(vv 0),(vv 1)]),(ii 4)]),(ii 9)])])])] f23c3 [],
    .mk (.freeze 8) [] [] [],
    .mk .ret [(.nd .tuple [(vv 2),(vv 4),(vv 6),(vv 7),(vv 8)])] [] []]⟩
noncomputable def n23:List Str:=["_law_script", "_law_at", "_law_signs", "_law_most", "_law_rooms", "_law_many", "_law_starts", "_law_ends", "_law_ways", "_law_k", "_law_opens", "_law_way"]
noncomputable def f24c0:List S:=[.mk .ret [(.nd (.bin .Add) [(.nd (.bin .Add) [(.nd (.slice false true) [(vv 0),(vv 3)]),(.nd .list [(.nd .sub [(vv 0),(.nd (.bin .Mod) [(.nd (.bin .FloorDiv) [(vv 2),(ii 99)]),(.nd .len [(vv 0)])])])])]),(.nd (.slice true false) [(vv 0),(vv 3)])])] [] []]
noncomputable def f24:Fn:=⟨3,5,false,[.mk (.assign 3) [(.nd (.bin .Mod) [(.nd (.bin .FloorDiv) [(vv 2),(ii 9)]),(.nd (.bin .Add) [(.nd .len [(vv 0)]),(ii 1)])])] [] [],
    .mk (.assign 4) [(.nd .sub [(.nd .list [(vv 1),(.nd .neg [(ii 1)]),(bb true),nn,(ss (⟨#[48]⟩)),(.nd .list [(ii 0)]),(.nd (.bin .Add) [(vv 1),(.nd (.bin .Pow) [(ii 10),(ii 20)])]),(bb false)]),(.nd (.bin .Mod) [(.nd (.bin .FloorDiv) [(vv 2),(ii 99)]),(ii 8)])])] [] [],
    .mk .ite [(.nd (.cmp .Eq) [(.nd (.bin .Mod) [(vv 2),(ii 9)]),(ii 0)])] [.mk .ret [(.nd .sub [(.nd .list [nn,(.nd .tupleOf [(vv 0)]),(ss (⟨#[48]⟩)),(ii 0),(.nd .edict [])]),(.nd (.bin .Mod) [(.nd (.bin .FloorDiv) [(vv 2),(ii 9)]),(ii 5)])])] [] []] [],
    .mk .ite [(.nd .and [(.nd (.cmp .Lt) [(.nd (.bin .Mod) [(vv 2),(ii 9)]),(ii 3)]),(.nd (.cmp .NotEq) [(vv 0),(.nd .list [])])])] f24c0 [],
    .mk .ret [(.nd (.bin .Add) [(.nd (.bin .Add) [(.nd (.slice false true) [(vv 0),(vv 3)]),(.nd .list [(vv 4)])]),(.nd (.slice true false) [(vv 0),(vv 3)])])] [] []]⟩
noncomputable def n24:List Str:=["_law_rooms", "_law_many", "_law_cell", "_law_at", "_law_odd"]
noncomputable def f25c0:E:=(vv 12)
noncomputable def f25c1:List S:=[.mk (.assign 9) [(.nd .ite [(.nd (.cmp .Eq) [(.nd .sub [(vv 8),(ii 0)]),(ss kClose)]),(ii 3),(ii 2)])] [] [],
    .mk (.assign 11) [(.nd (.bin .Add) [(.nd .join [(ss k0),(.nd (.comp 12) [(vv 2),f25c0,(.nd (.cmp .NotIn) [(.nd .sub [(vv 8),(vv 9)]),(vv 12)])])]),(ss (⟨#[65]⟩))])] [] [],
    .mk .ret [(.nd (.bin .Add) [(.nd (.bin .Add) [(.nd (.slice false true) [(vv 8),(vv 9)]),(.nd .tuple [(.nd .sub [(vv 11),(.nd (.bin .Mod) [(.nd (.bin .FloorDiv) [(vv 1),(ii 231)]),(.nd .len [(vv 11)])])])])]),(.nd (.slice true false) [(vv 8),(.nd (.bin .Add) [(vv 9),(ii 1)])])])] [] []]
noncomputable def f25c2:List S:=[.mk .ret [(.nd .sub [(.nd .list [(.nd (.slice false true) [(vv 8),(.nd .neg [(ii 1)])]),(.nd (.bin .Add) [(vv 8),(.nd .tuple [(ii 0)])]),(.nd (.bin .Add) [(.nd .tuple [(.nd (.bin .Add) [(.nd .sub [(vv 8),(ii 0)]),(ss (⟨#[115]⟩))])]),(.nd (.slice true false) [(vv 8),(ii 1)])]),(.nd .listOf [(vv 8)])]),(.nd (.bin .Mod) [(.nd (.bin .FloorDiv) [(vv 1),(ii 231)]),(ii 4)])])] [] []]
noncomputable def f25:Fn:=⟨2,14,false,[.mk (.assignM [2,3,4,5,6]) [(vv 0)] [] [],
    .mk (.assign 7) [(.nd .list [nn,(ii 5),(ss kOn),(.nd .tuple []),(.nd .tuple [(ss kOn)]),(.nd .list [(ss kOn),(ii 0),(ss (⟨#[97]⟩)),(ii 0)]),(.nd .tuple [(ss kOn),(ii 0),(ss k0),(ii 0)]),(.nd .tuple [(ss kOn),(ii 0),(ss (⟨#[97,98]⟩)),(ii 0)]),(.nd .tuple [(ss (⟨#[79,110]⟩)),(ii 0),(ss (⟨#[97]⟩)),(ii 0)])])] [] [],
    .mk (.assign 7) [(.nd (.bin .Add) [(vv 7),(.nd .list [(.nd .tuple [(ii 0),(ii 0),(ss (⟨#[97]⟩)),(ii 0)]),(.nd .tuple [nn,(ii 0),(ss (⟨#[97]⟩)),(ii 0)]),(.nd .tuple [(ss kOn),(ii 0),(ii 0),(ii 0)]),(.nd .tuple [(ss kOn),(ii 0),nn,(ii 0)]),(.nd .tuple [(.nd .list [(ss kOn)]),(ii 0),(ss (⟨#[97]⟩)),(ii 0)])])])] [] [],
    .mk .ite [(.nd .or [(.nd (.cmp .Eq) [(.nd (.bin .Mod) [(vv 1),(ii 4)]),(ii 0)]),(.nd (.cmp .Eq) [(vv 6),(.nd .list [])])])] [.mk .ret [(.nd .sub [(vv 7),(.nd (.bin .Mod) [(.nd (.bin .FloorDiv) [(vv 1),(ii 4)]),(ii 14)])])] [] []] [],
    .mk (.assign 8) [(.nd .sub [(vv 6),(.nd (.bin .Mod) [(.nd (.bin .FloorDiv) [(vv 1),(ii 4)]),(.nd .len [(vv 6)])])])] [] [],
    .mk (.assign 9) [(.nd (.bin .Mod) [(.nd (.bin .FloorDiv) [(vv 1),(ii 33)]),(.nd .len [(vv 8)])])] [] [],
    .mk (.assign 10) [(.nd .sub [(.nd .list [(vv 3),(.nd .neg [(ii 1)]),(bb true),nn,(ss (⟨#[48]⟩)),(.nd .list [(ii 0)]),(.nd (.bin .Add) [(vv 3),(.nd (.bin .Pow) [(ii 10),(ii 20)])]),(.nd .edict []),(ss (⟨#[65]⟩))]),(.nd (.bin .Mod) [(.nd (.bin .FloorDiv) [(vv 1),(ii 231)]),(ii 9)])])] [] [],
    .mk .ite [(.nd (.cmp .Eq) [(.nd (.bin .Mod) [(vv 1),(ii 4)]),(ii 1)])] f25c1 [],
    .mk .ite [(.nd (.cmp .Eq) [(.nd (.bin .Mod) [(vv 1),(ii 4)]),(ii 2)])] f25c2 [],
    .mk .ite [(.nd (.cmp .Eq) [(vv 9),(ii 0)])] [.mk (.assign 9) [(ii 1)] [] []] [],
    .mk .ite [(.nd .or [(.nd (.cmp .Eq) [(vv 10),(ss (⟨#[48]⟩))]),(.nd (.cmp .Eq) [(vv 10),(ss (⟨#[65]⟩))]),(.nd .not [(.nd (.isinst 0) [(.nd .sub [(vv 8),(vv 9)])])])])] [.mk .ret [(.nd (.bin .Add) [(.nd (.bin .Add) [(.nd (.slice false true) [(vv 8),(vv 9)]),(.nd .tuple [(vv 10)])]),(.nd (.slice true false) [(vv 8),(.nd (.bin .Add) [(vv 9),(ii 1)])])])] [] []] [],
    .mk .ret [(.nd (.bin .Add) [(.nd (.bin .Add) [(.nd (.slice false true) [(vv 8),(vv 9)]),(.nd .tuple [(ii 0)])]),(.nd (.slice true false) [(vv 8),(.nd (.bin .Add) [(vv 9),(ii 1)])])])] [] []]⟩
noncomputable def n25:List Str:=["_law_parts", "_law_cell", "_law_signs", "_law_rooms", "_law_starts", "_law_ends", "_law_ways", "_law_some", "_law_way", "_law_at", "_law_far", "_law_every"]
noncomputable def f26:Fn:=⟨1,2,false,[.mk (.assign 1) [(.nd .list [(.nd .tuple [(ss (⟨#[97]⟩)),(ss (⟨#[97]⟩)),(ss (⟨#[98]⟩))]),(.nd .tuple [(ss (⟨#[97,97]⟩)),(ss k0),(ss k0)]),(.nd .tuple [(ss k0),(ss (⟨#[98,99,98]⟩)),(ss k0)]),(.nd .tuple [(ss (⟨#[97,98,99,100,101]⟩)),(ss k0),(ss k0)]),(.nd .tuple [(ss (⟨#[65]⟩)),(ss k0),(ss k0)]),(.nd .tuple [(ss k0),(ss (⟨#[97,49]⟩)),(ss k0)])])] [] [],
    .mk (.assign 1) [(.nd (.bin .Add) [(vv 1),(.nd .list [(.nd .tuple [nn,(ss k0),(ss k0)]),(.nd .tuple [(ss (⟨#[97,98]⟩)),(ss k0)]),(.nd .tuple [(ss (⟨#[97]⟩)),(ss (⟨#[98]⟩)),(ss (⟨#[99]⟩)),(ss k0)]),(.nd .list [(ss (⟨#[97]⟩)),(ss (⟨#[98]⟩)),(ss (⟨#[99]⟩))]),(ss (⟨#[97,98,99]⟩)),nn,(ii 5),(.nd .tuple [(ss (⟨#[97]⟩)),(ii 5),(ss (⟨#[98]⟩))])])])] [] [],
    .mk (.assign 1) [(.nd (.bin .Add) [(vv 1),(.nd .list [(.nd .tuple [(.nd .edict []),(ss k0),(ss k0)]),(.nd .tuple [(ss k0),(ss k0),(.nd .list [(ss (⟨#[99]⟩))])])])])] [] [],
    .mk .ret [(.nd .sub [(vv 1),(.nd (.bin .Mod) [(vv 0),(ii 16)])])] [] []]⟩
noncomputable def n26:List Str:=["_law_cell", "_law_some"]
noncomputable def f27c0:List S:=[.mk .ret [(.nd .tuple [(vv 2),(.nd .sub [(.nd .list [(ii 0),(ii 41),(.nd .neg [(ii 1)]),(bb true),nn,(ss (⟨#[50]⟩)),(.nd .list [(ii 1)]),(.nd (.bin .Add) [(ii 41),(vv 7)])]),(.nd (.bin .Mod) [(vv 7),(ii 8)])]),(vv 4),(vv 5),(vv 6)])] [] []]
noncomputable def f27c1:List S:=[.mk .ret [(.nd .tuple [(vv 2),(vv 3),(vv 4),(vv 5),(.nd .sub [(.nd .list [(.nd .tupleOf [(vv 6)]),nn,(ss k0),(ii 5),(.nd .edict []),(.nd (.bin .Mult) [(.nd (.slice false true) [(.nd (.bin .Add) [(vv 6),(.nd .list [(ii 5)])]),(ii 1)]),(ii 4001)])]),(.nd (.bin .Mod) [(.nd (.bin .FloorDiv) [(vv 7),(ii 5)]),(ii 6)])])])] [] []]
noncomputable def f27:Fn:=⟨2,9,false,[.mk (.assignM [2,3,4,5,6]) [(vv 0)] [] [],
    .mk (.assign 7) [(.nd (.bin .FloorDiv) [(vv 1),(ii 6)])] [] [],
    .mk .ite [(.nd (.cmp .Eq) [(.nd (.bin .Mod) [(vv 1),(ii 6)]),(ii 0)])] f27c0 [],
    .mk .ite [(.nd (.cmp .Eq) [(.nd (.bin .Mod) [(vv 1),(ii 6)]),(ii 1)])] [.mk .ret [(.nd .tuple [(vv 2),(vv 3),(.nd (.call 24) [(vv 4),(vv 3),(vv 7)]),(vv 5),(vv 6)])] [] []] [],
    .mk .ite [(.nd (.cmp .Eq) [(.nd (.bin .Mod) [(vv 1),(ii 6)]),(ii 2)])] [.mk .ret [(.nd .tuple [(vv 2),(vv 3),(vv 4),(.nd (.call 24) [(vv 5),(vv 3),(vv 7)]),(vv 6)])] [] []] [],
    .mk .ite [(.nd .and [(.nd (.cmp .Eq) [(.nd (.bin .Mod) [(vv 1),(ii 6)]),(ii 3)]),(.nd (.cmp .Eq) [(.nd (.bin .Mod) [(vv 7),(ii 5)]),(ii 0)])])] f27c1 [],
    .mk (.assign 8) [(.nd (.bin .Mod) [(.nd (.bin .FloorDiv) [(vv 7),(ii 5)]),(.nd (.bin .Add) [(.nd .len [(vv 6)]),(ii 1)])])] [] [],
    .mk .ret [(.nd .tuple [(vv 2),(vv 3),(vv 4),(vv 5),(.nd (.bin .Add) [(.nd (.bin .Add) [(.nd (.slice false true) [(vv 6),(vv 8)]),(.nd .list [(.nd (.call 25) [(vv 0),(.nd (.call 15) [(vv 7),(ii 2)])])])]),(.nd (.slice true false) [(vv 6),(vv 8)])])])] [] []]⟩
noncomputable def n27:List Str:=["_law_parts", "_law_cell", "_law_signs", "_law_rooms", "_law_starts", "_law_ends", "_law_ways", "_law_more", "_law_at"]
noncomputable def f28:Fn:=⟨1,2,false,[.mk (.tryC 8 0 1) [(.nd .sub [(vv 0),(ii 0)]),(.nd .sub [(vv 0),(ii 1)]),(.nd .sub [(vv 0),(ii 2)]),(.nd .sub [(vv 0),(ii 3)]),(.nd .sub [(vv 0),(ii 4)])] [.mk .ret [(.nd .tuple [(ss (⟨#[114,101,102,117,115,101,100]⟩)),(.nd (.call 19) [(vv 1),(ii 0)]),(.nd (.call 19) [(vv 1),(ii 2)])])] [] []] []]⟩
noncomputable def n28:List Str:=["_law_parts", "_law_e"]
noncomputable def f29c0:List S:=[.mk .ite [(.nd (.lend 2) [(.nd (.cmp .NotIn) [(vv 3),(vv 2)])])] [.mk (.append 2) [(vv 3)] [] []] []]
noncomputable def f29:Fn:=⟨2,4,false,[.mk .ite [(.nd .or [(.nd .not [(.nd .isCls [(vv 0)])]),(.nd (.cmp .NotEq) [(.nd (.meth 9) [(vv 0)]),(.nd .sub [(vv 1),(ii 0)])]),(.nd .not [(.nd (.call 16) [(.nd (.meth 10) [(vv 0)])])])])] [.mk .ret [(bb false)] [] []] [],
    .mk .ite [(.nd .or [(.nd (.cmp .NotEq) [(.nd (.meth 10) [(vv 0)]),(.nd .sub [(vv 1),(ii 1)])]),(.nd .not [(.nd (.call 17) [(.nd (.meth 11) [(vv 0)]),(.nd .sorted [(.nd .sub [(vv 1),(ii 2)])])])])])] [.mk .ret [(bb false)] [] []] [],
    .mk (.ownL 2) [] [] [],
    .mk (.forS 3) [(.nd .sortedL [(.nd .sub [(vv 1),(ii 4)])])] f29c0 [],
    .mk (.freeze 2) [] [] [],
    .mk .ret [(.nd .and [(.nd (.call 17) [(.nd (.meth 12) [(vv 0)]),(.nd .sorted [(.nd .sub [(vv 1),(ii 3)])])]),(.nd (.call 18) [(.nd (.meth 13) [(vv 0)]),(vv 2)])])] [] []]⟩
noncomputable def n29:List Str:=["_law_machine", "_law_parts", "_law_due", "_law_way"]
noncomputable def f30c0:List S:=[.mk (.assign 2) [(.nd .tuple [(vv 1),(.nd (.bin .Add) [(ii 38),(.nd (.bin .Mod) [(.nd (.bin .FloorDiv) [(.nd (.call 14) [(vv 0),(ii 1)]),(ii 32)]),(ii 3)])]),(.nd .sub [(vv 2),(ii 2)]),(.nd .sub [(vv 2),(ii 3)]),(.nd .sub [(vv 2),(ii 4)])])] [] []]
noncomputable def f30c1:List S:=[.mk .ite [(.nd (.cmp .NotEq) [(.nd (.call 28) [(vv 6)]),(.nd .tuple [(ss (⟨#[114,101,102,117,115,101,100]⟩)),(bb true),(bb false)])])] [.mk .ret [(bb false)] [] []] []]
noncomputable def f30c2:List S:=[.mk (.assign 4) [(.nd (.call 27) [(vv 2),(.nd (.call 15) [(.nd (.call 14) [(vv 0),(ii 2)]),(ii 1)])])] [] [],
    .mk (.assign 5) [(.nd (.call 26) [(.nd (.bin .FloorDiv) [(.nd (.call 14) [(vv 0),(ii 1)]),(ii 8)])])] [] [],
    .mk (.forS 6) [(.nd .list [(.nd .tuple [(vv 5),(.nd .sub [(vv 2),(ii 1)]),(.nd .sub [(vv 2),(ii 2)]),(.nd .sub [(vv 2),(ii 3)]),(.nd .list [])]),(.nd .tuple [(vv 5),(.nd .sub [(vv 4),(ii 1)]),(.nd .sub [(vv 4),(ii 2)]),(.nd .sub [(vv 4),(ii 3)]),(.nd .sub [(vv 4),(ii 4)])])])] f30c1 [],
    .mk .ret [(.nd (.cmp .Eq) [(.nd (.call 28) [(vv 4)]),(.nd .tuple [(ss (⟨#[114,101,102,117,115,101,100]⟩)),(bb false),(bb true)])])] [] []]
noncomputable def f30c3:List S:=[.mk (.assign 2) [(.nd .tuple [(vv 1),(.nd .sub [(vv 2),(ii 1)]),(.nd .sub [(vv 2),(ii 2)]),(.nd .sub [(vv 2),(ii 3)]),(.nd (.bin .Mult) [(.nd (.slice false true) [(.nd .sub [(vv 2),(ii 4)]),(ii 1)]),(ii 4000)])])] [] []]
noncomputable def f30c4:E:=(.nd .listOf [(vv 13)])
noncomputable def f30:Fn:=⟨1,15,false,[.mk (.assign 1) [(.nd (.call 21) [(.nd (.call 14) [(vv 0),(ii 0)])])] [] [],
    .mk (.assign 2) [(.nd (.call 23) [(vv 0),(ii 3),(vv 1),(ii 4)])] [] [],
    .mk .ite [(.nd (.cmp .Eq) [(.nd (.bin .Mod) [(.nd (.bin .FloorDiv) [(.nd (.call 14) [(vv 0),(ii 1)]),(ii 4)]),(ii 8)]),(ii 1)])] f30c0 [],
    .mk (.assign 3) [(.nd .ite [(.nd (.cmp .Eq) [(.nd (.bin .Mod) [(.nd (.bin .FloorDiv) [(.nd (.call 14) [(vv 0),(ii 1)]),(ii 2)]),(ii 2)]),(ii 1)]),(.nd .rev [(.nd .sub [(vv 2),(ii 2)]),(.nd .neg [(ii 1)])]),(.nd .sub [(vv 2),(ii 2)])])] [] [],
    .mk (.assign 2) [(.nd .tuple [(vv 1),(.nd .sub [(vv 2),(ii 1)]),(vv 3),(.nd .sub [(vv 2),(ii 3)]),(.nd (.bin .Add) [(.nd .sub [(vv 2),(ii 4)]),(.nd (.slice false true) [(.nd .sub [(vv 2),(ii 4)]),(.nd (.bin .Mod) [(.nd (.call 14) [(vv 0),(ii 1)]),(ii 4)])])])])] [] [],
    .mk .ite [(.nd (.cmp .Eq) [(.nd (.bin .Mod) [(.nd (.call 14) [(vv 0),(ii 2)]),(ii 2)]),(ii 1)])] f30c2 [],
    .mk .ite [(.nd (.cmp .Eq) [(.nd (.bin .Mod) [(.nd (.bin .FloorDiv) [(.nd (.call 14) [(vv 0),(ii 1)]),(ii 4)]),(ii 16)]),(ii 10)])] f30c3 [],
    .mk (.hand 7 8 9) [(.nd (.call 28) [(.nd .tuple [(.nd .sub [(vv 2),(ii 0)]),(.nd .sub [(vv 2),(ii 1)]),(.nd .sub [(vv 7),(ii 0)]),(.nd .sub [(vv 7),(ii 1)]),(.nd .sub [(vv 7),(ii 2)])])]),(.nd .or [(.nd (.cmp .NotEq) [(vv 7),(.nd .list [(.nd .sub [(vv 2),(ii 2)]),(.nd .sub [(vv 2),(ii 3)]),(.nd .sub [(vv 2),(ii 4)])])]),(.nd .not [(.nd (.call 29) [(vv 8),(vv 2)])])]),(.nd .listOf [(.nd .sub [(vv 2),(ii 2)])]),(.nd .listOf [(.nd .sub [(vv 2),(ii 3)])]),(.nd .listOf [(.nd .sub [(vv 2),(ii 4)])])] [.mk .ret [(bb false)] [] []] [],
    .mk (.rows 10 11) [(.nd (.meth 11) [(vv 8)]),(.nd (.meth 12) [(vv 8)]),(.nd (.meth 13) [(vv 8)])] [] [],
    .mk (.assign 12) [(.nd (.comp 13) [(vv 10),f30c4])] [] [],
    .mk .ite [(.nd .or [(.nd .not [(.nd (.call 29) [(vv 8),(vv 2)])]),(.nd .not [(.nd (.call 29) [(vv 8),(vv 2)])]),(.nd (.cmp .NotEq) [(vv 10),(vv 12)])])] [.mk .ret [(bb false)] [] []] [],
    .mk .ret [(.nd .and [(.nd (.cmp .Eq) [(ii 40),(ii 40)]),(.nd (.cmp .Eq) [(ii 4000),(ii 4000)])])] [] []]⟩
noncomputable def n30:List Str:=["_law_script", "_law_signs", "_law_parts", "_law_starts", "_law_wrong", "_law_odd", "_law_other", "_law_handed", "_law_machine", "_law_row", "_law_held", "_law_told", "_law_copies"]
noncomputable def fns:List Fn:=[f0,f1,f2,f3,f4,f5,f6,f7,f8,f9,f10,f11,f12,f13,f14,f15,f16,f17,f18,f19,f20,f21,f22,f23,f24,f25,f26,f27,f28,f29,f30]
noncomputable def prog:Prog:=⟨fns,sup⟩
noncomputable def clsN:List (Str×Nat):=[("NestError",0),("BadSigns",1),("BadWord",2),("BadMachine",3),("TooMany",4),("NotPlain",5),("Unlike",6),("NoNote",7)]
noncomputable def safe (f:Nat):Bool:=f==19
noncomputable def newf (f:Nat):Bool:=f==8||f==11||f==12||f==13||f==28
noncomputable def cfn:Nat:=8
noncomputable def fnN:List (Str×Nat):=[("are_letters",0),("are_signs",1),("need_signs",2),("kind_of",3),("is_room",4),("are_rooms",5),("is_way",6),("are_ways",7),("Machine",8),("_law_cell_at",14),("_law_mixed",15),("_law_whole",16),("_law_numbers",17),("_law_rows",18),("_law_alone",19),("_law_signs_by",20),("_law_any_signs_by",21),("_law_way_by",22),("_law_parts_by",23),("_law_odd_rooms",24),("_law_odd_way",25),("_law_no_signs",26),("_law_spoilt",27),("_law_built",28),("_law_tells",29),("law",30)]
noncomputable def metN:List (Str×Nat):=[("signs",9),("rooms",10),("starts",11),("ends",12),("ways",13)]
noncomputable def fldN:List Str:=["marks", "many", "first", "last", "told"]
noncomputable def conN:List (Str×V):=[("LETTERS",.str abc),("MOST_SIGNS",.int 4),("MOST_ROOMS",.int 40),("MOST_WAYS",.int 4000)]
end Mine.L02
end
noncomputable section
namespace Mine.L02
open PySem PySem.Calls PyProof.Rows PySem.W
noncomputable def Z:Zx:=⟨fnN,conN,fldN,metN,clsN,8,sup,safe,newf,cfn⟩
noncomputable def mchA:Addr:=219
noncomputable def clsA:List Addr:=[24,37,49,61,73,85,97,109]
noncomputable def fnA:List Addr:=[118,125,132,139,146,153,160,167,219,188,195,202,209,216,230,237,244,249,256,263,268,273,280,285,299,304,311,318,325,332,337]
noncomputable def fnB:List Addr:=[118,125,132,139,146,153,160,167,181,188,195,202,209,216,230,237,244,249,256,263,268,273,280,285,299,304,311,318,325,332,337]
noncomputable def adrs:List Addr:=[3,1,219,218,24,37,49,61,73,85,97,109,23,36,48,60,72,84,96,108]++fnB++[117,124,131,138,145,152,159,166,180,187,194,201,208,215,229,236,243,248,255,262,267,272,279,284,298,303,310,317,324,331,336]
noncomputable def nms:List (List Str):=[n0,n1,n2,n3,n4,n5,n6,n7,n8,n9,n10,n11,n12,n13,n14,n15,n16,n17,n18,n19,n20,n21,n22,n23,n24,n25,n26,n27,n28,n29,n30]
noncomputable def txt:Stmt→Option FText
  | .FunctionDef _ args body _ _ _ scope _ _ _=>some (body,scope,args)
  | _=>none
noncomputable def clsBody:Stmt→List Stmt
  | .ClassDef _ _ _ body _ _ _ _ _ _ _=>body
  | _=>[]
noncomputable def tops (i:Nat):Option FText:=(PySem.Challenge.rw_uf010006_02.row.prog.main.body[i]?).bind txt
noncomputable def mets (i:Nat):Option FText:=((PySem.Challenge.rw_uf010006_02.row.prog.main.body[23]?).bind fun c=>(clsBody c)[i]?).bind txt
noncomputable def want:List (Option FText):=[tops 12,tops 13,tops 14,tops 15,tops 19,tops 20,tops 21,tops 22,mets 0,mets 1,mets 2,mets 3,mets 4,mets 5,tops 25,tops 26,tops 27,tops 28,tops 29,tops 30,tops 31,tops 32,tops 33,tops 34,tops 36,tops 37,tops 38,tops 39,tops 40,tops 41,tops 42]
noncomputable def bodsChk [BEq Str]:Nat→List Fn→List (List Str)→List (Option FText)→Bool
  | _,[],_,_=>true
  | i,fn :: r,n :: m,a :: b=>bodyChk Z fn n (safe i) (newf i&&!fn.init) a&&bodsChk (i+1) r m b
  | _,_,_,_=>false
noncomputable def clssChk (K:Frag):Nat→Bool
  | 0=>true
  | c+1=>xclsChk K sup 8 (fun c=>clsA.getD c 0) c&&clssChk K c
noncomputable def chk [BEq Str] (K:Frag):Bool:=
  (K.lookup sysModules).isSome&&(clsChk K mchA fldN&&(fnN.all (fun p=>nsF K mainGlobals p.1==some (some (.ref (fnA.getD p.2 0))))&&(conN.all (conChk K)&&(bltNames.all (fun p=>nsF K mainGlobals p.1==some none)&&(fnN.all (fun p=>keepIn K (.ref (fnA.getD p.2 0))) &&
  (metN.all (metChk K mchA fldN fun f=>fnA.getD f 0)&&(findIn K (.ref mchA) "__init__"==some (some (.ref 181))&&(typeIn K (.ref 181)==some (.type "function")&&(fnB.all (fnChk0 K) &&
  (clsN.all (fun p=>decide (p.2 < 8)&&nsF K mainGlobals p.1==some (some (.ref (clsA.getD p.2 0))))&&(specialIn K (.builtin "object.__class__") "__get__"==some (some (.builtin "getset_descriptor.__get__"))&&(takesIn K (.builtin "object.__class__")==some true&&clssChk K 8))))))))))))
noncomputable def fragOf (h:Heap):List Addr→Frag
  | []=>[]
  | a :: r=>match h.get? a with
    | some o=>(a,o) :: fragOf h r
    | none=>fragOf h r
theorem fragOf_in (h:Heap):∀ as:List Addr,Frag.In (fragOf h as) h
  | [],a,o,e=>nomatch e
  | b :: r,a,o,e=>by
    unfold fragOf at e
    cases hb:h.get? b with
    | none=>rw [hb] at e; exact fragOf_in h r a o e
    | some p=>
      rw [hb] at e
      by_cases q:a=b
      · subst q
        have:List.lookup a ((a,p) :: fragOf h r)=some p:=List.lookup_cons_self
        rw [hb]; exact this.symm.trans e
      · have:List.lookup a ((b,p) :: fragOf h r)=List.lookup a (fragOf h r):=by rw [List.lookup_cons,beq_false_of_ne q]
        exact fragOf_in h r a o (this.symm.trans e)
noncomputable def hook:Hook:=⟨Bool×List (Option FText),fun s=>(@chk fastStr (fragOf s.heap adrs),fnB.map (bodyAt (fragOf s.heap adrs))),fun _=>(true,want),fun _ h=>∃ K:Frag,K.In h∧chk K=true∧fnB.map (bodyAt K)=want,fun _ s e=>⟨fragOf s.heap adrs,fragOf_in _ _,fast_eq▸congrArg Prod.fst e,congrArg Prod.snd e⟩,fun _ _ _ y k=>y.elim fun K x=>⟨K,fun a o e=>k a o (x.1 a o e),x.2⟩⟩
end Mine.L02
end
noncomputable section
open PySem PySem.W PyProof.Rows
namespace Mine.L02
noncomputable def vw:Program:=view PySem.Challenge.rw_uf010006_02.row.toRowW.prog [1,2,3,4,5,6,7,8,10,11,12,13,14,15,17,18,19,20,21,22,23,25,26,27,28,29,30,31,32,33,34,35,36,37,38,39,40,41,42]
noncomputable def vwX (s:Shared):Bool:=xlAt vw [] s&&recOk (RowW.records PySem.Challenge.rw_uf010006_02.row.toRowW) s
theorem left02:LeftO PySem.Challenge.rw_uf010006_02.row.toRowW.prog vw [] vwX (Hook.obs hook) (Hook.val hook) 5960:=fun w=>by kernel_rfl
end Mine.L02
end
noncomputable section
namespace Mine
open PySem PySem.Calls PyProof.Rows PySem.SeqAt
theorem dict_eq_declines (a:Addr) (n:Nat) (b:Str) (u:Tok):Meets (Builtin.«dict.__eq__» ⟨[.ref a,.str b u],[]⟩) (fun _ R s=>s.heap.get? a=some { cls:=.type "dict",dict:=none,data:=.dict #[] n,slots:=#[] }∧R (.ok (.ret .notImplemented)) s):=
  .of_wp fun prog w A R s h=>by
    obtain ⟨hp,g,d,tk,os⟩:=s; obtain ⟨hl,h⟩:=h; wp_walk
    refine wpAny_of_eq (show isSubtype (.type "str") (.type "dict")=pure false by rw [isSubtype_type]; kernel_rfl) ?_
    exact wpAny_bind (wpAny_rule (wpAny_pure ⟨_,rfl,h⟩))
theorem str_eq_declines_dict (a:Addr) (n:Nat) (b:Str) (u:Tok):Meets (Builtin.«str.__eq__» ⟨[.str b u,.ref a],[]⟩) (fun _ R s=>s.heap.get? a=some { cls:=.type "dict",dict:=none,data:=.dict #[] n,slots:=#[] }∧R (.ok (.ret .notImplemented)) s):=
  .of_wp fun prog w A R s h=>by obtain ⟨hp,g,d,tk,os⟩:=s; obtain ⟨hl,h⟩:=h; wp_walk; exact ⟨_,rfl,h⟩
theorem rc_dict_str {prog:Program} {w:World} {A:Around} {E:Value→Shared→Prop} {s:Shared} {a:Addr} {n:Nat} {b:Str} {u:Tok} {Q:Value→Shared→Prop} (ho:s.heap.get? a=some { cls:=.type "dict",dict:=none,data:=.dict #[] n,slots:=#[] }) (hu:A.units < cLine) (h:Q (.bool false) s):wpAny (model prog w) A (compareOp .Eq (.ref a) (.str b u)) Q E s:=
  show wpAny (model prog w) A (richCompare .Eq (.ref a) (.str b u)) Q E s from rc_eq_decline_or (k:=false) (Ta:="dict") (Tb:="str") ⟨_,ho,rfl⟩ (typeIs_str s b u) (by decide) (by rw [isSubtype_type]; kernel_rfl) F.slot_dict_eq F.slot_str_eq_refl
    (fun _ hq=>call_meets F.slot_dict_eq ⟨_,ho,rfl⟩ F.entry_dict_eq (F.args_dict_eq_2 _ _) (dict_eq_declines a n b u) ⟨ho,hq⟩)
    (fun _ hq=>call_meets F.slot_str_eq_refl (typeIs_str s b u) F.entry_str_eq (F.args_str_eq_2 _ _) (str_eq_declines_dict a n b u) ⟨ho,hq⟩)
    (fun _ hq=>wpAny_of_eq (rfl:isSame (.ref a) (.str b u)=pure false) hq) (.inr hu) h
end Mine
end
noncomputable section
namespace Mine
open PySem PySem.Calls PyProof.Rows PySem.W
noncomputable def Stays (h h':Heap):Prop:=∀ b o,h.get? b=some o→h'.get? b=some o
noncomputable def NoFr (o:Obj):Prop:=o.cls≠.type "frame"
noncomputable def KeepAt (h':Heap) (b:Addr) (o:Obj):Prop:=∃ sl,h'.get? b=some { o with slots:=sl }∧(NoFr o→sl=o.slots)
noncomputable def Keeps (h h':Heap):Prop:=∀ b o,h.get? b=some o→KeepAt h' b o
noncomputable def Live (h:Heap) (a:Addr):Prop:=∃ o,h.get? a=some o
theorem KeepAt.of {h':Heap} {b:Addr} {o:Obj} (e:h'.get? b=some o):KeepAt h' b o:=⟨o.slots,e,fun _=>rfl⟩
theorem KeepAt.get {h':Heap} {b:Addr} {o:Obj} (x:KeepAt h' b o) (n:NoFr o):h'.get? b=some o:=by
  obtain ⟨sl,e',q⟩:=x
  rw [e',q n]
theorem KeepAt.live {h':Heap} {b:Addr} {o:Obj} (x:KeepAt h' b o):Live h' b:=x.elim fun _ q=>⟨_,q.1⟩
theorem KeepAt.step {h₂ h₃:Heap} {b:Addr} {o:Obj} (x:KeepAt h₂ b o) (y:∀ o',h₂.get? b=some o'→KeepAt h₃ b o'):KeepAt h₃ b o:=by
  obtain ⟨sl,e₁,q₁⟩:=x
  obtain ⟨sl',e₂,q₂⟩:=y _ e₁
  exact ⟨sl',e₂,fun n=>(q₂ n).trans (q₁ n)⟩
theorem Stays.keeps {h h':Heap} (x:Stays h h'):Keeps h h':=fun b o e=>⟨o.slots,x b o e,fun _=>rfl⟩
theorem Keeps.get {h h':Heap} (x:Keeps h h') {b:Addr} {o:Obj} (e:h.get? b=some o) (n:NoFr o):h'.get? b=some o:=(x b o e).get n
theorem Keeps.refl (h:Heap):Keeps h h:=Stays.keeps fun _ _ e=>e
theorem Keeps.trans {h₁ h₂ h₃:Heap} (x:Keeps h₁ h₂) (y:Keeps h₂ h₃):Keeps h₁ h₃:=fun b o e=>(x b o e).step (y b)
theorem Keeps.live {h h':Heap} (x:Keeps h h') {a:Addr}:Live h a→Live h' a:=fun ⟨o,e⟩=>(x a o e).live
theorem Stays.trans {h₁ h₂ h₃:Heap} (x:Stays h₁ h₂) (y:Stays h₂ h₃):Stays h₁ h₃:=fun b o e=>y b o (x b o e)
theorem Stays.live {h h':Heap} (x:Stays h h') {a:Addr}:Live h a→Live h' a:=x.keeps.live
theorem nf_list {o:Obj} {n:String} (h:o.cls=.type n) (q:n≠"frame"):NoFr o:=fun e=>q (Value.type.inj (h.symm.trans e))
noncomputable def LiveN (h:Heap) (a:Addr):Prop:=∃ o,h.get? a=some o∧NoFr o
theorem LiveN.live {h:Heap} {a:Addr} (x:LiveN h a):Live h a:=x.elim fun o q=>⟨o,q.1⟩
theorem LiveN.nf {h:Heap} {a:Addr} {o:Obj} (x:LiveN h a) (e:h.get? a=some o):NoFr o:=by obtain ⟨o',e',n⟩:=x; rw [e] at e'; (injection e' with e'; subst e'); exact n
noncomputable def NewV (h:Heap) (v:Value):Prop:=∀ a b,v=.ref a→Live h b→b < a
theorem NewV.le {h h':Heap} {v:Value} (x:NewV h' v) (k:∀ b,Live h b→Live h' b):NewV h v:=fun a b e l=>x a b e (k b l)
theorem newV_size {h:Heap} {n:Nat} (q:h.objs.size≤n):NewV h (.ref n):=fun a b e ⟨o,l⟩=>by (injection e with e; subst e); exact Nat.lt_of_lt_of_le (Heap.lt_size l) q
theorem size_none (h:Heap):h.get? h.objs.size=none:=by
  cases e:h.get? h.objs.size with
  | none=>rfl
  | some o=>exact absurd (Heap.lt_size e) (Nat.lt_irrefl _)
theorem none_of {h h':Heap} {a:Addr} (l:Live h a→Live h' a) (e:h'.get? a=none):h.get? a=none:=by
  cases q:h.get? a with
  | none=>rfl
  | some o=>obtain ⟨o',e'⟩:=l ⟨o,q⟩; rw [e] at e'; (injection e'; done)
theorem stays_push (h:Heap) (o:Obj):Stays h (h.push o):=fun _ _ e=>Heap.get?_push_of_some _ e
theorem keeps_push (h:Heap) (o:Obj):Keeps h (h.push o):=(stays_push h o).keeps
structure Gl where
  prog:Program
  w:World
  h0:Heap
  mg:Str→Option Value
  mb:Str→Option Value
  fn:Nat→Addr
  C:Addr
  K:Frag
  flds:List Str
  os:OsState
  P:Prog
  cls:Nat→Addr
  nc:Nat
  safe:Nat→Bool
  newf:Nat→Bool
  fns:List (Str×Nat)
  clss:List (Str×Nat)
  cons:List (Str×V)
structure Base (g:Gl) (s:Shared):Prop where
  stays:Stays g.h0 s.heap
  os:s.os=g.os
  gens:s.gens=#[]
noncomputable def FldObj (g:Gl) (o:Obj) (ws:List Value):Prop:=o.ExactDict∧∃ es n,o.data=.dict es n∧es.toList.map (·.val)=ws∧∀ (j:Nat) e,es[j]?=some e→∃ x t,g.flds[j]?=some x∧e.key=.str x t
noncomputable def NewL (a:Addr) (ws:List Value) (l:List V):Prop:=∀ (j:Nat) b m,ws[j]?=some (.ref b)→l[j]?=some (.list m)→a < b
mutual
inductive Rp (g:Gl) (bad:Addr→Prop) (h:Heap):Value→V→Prop
  | none:Rp g bad h .none .none
  | bool (b:Bool):Rp g bad h (.bool b) (.bool b)
  | int (i:Int) (t:Tok):Rp g bad h (.int i t) (.int i)
  | str (x:Str) (t:Tok):Rp g bad h (.str x t) (.str x)
  | list {a:Addr} {o:Obj} {vs:Array Value} {n:Nat} {l:List V}:¬ bad a→h.get? a=some o→o.cls=.type "list"∧o.dict=none→o.data=.seq vs n→RpAll g bad h vs.toList l→Rp g bad h (.ref a) (.list l)
  | tuple {a:Addr} {o:Obj} {vs:Array Value} {n:Nat} {l:List V}:¬ bad a→h.get? a=some o→o.cls=.type "tuple"→o.data=.seq vs n→RpAll g bad h vs.toList l→Rp g bad h (.ref a) (.tuple l)
  | inst {a d:Addr} {o:Obj} {ws:List Value} {kvs:List (V×V)} {l:List V}:¬ bad a→¬ bad d→h.get? a=some (instObj g.C d)→h.get? d=some o→FldObj g o ws→NewL a ws l→isIk kvs=true→kvs.map (·.2)=l→RpAll g bad h ws l→Rp g bad h (.ref a) (.dict kvs)
  | exc {a:Addr} {o:Obj} {c:Nat} {vs:Array Value}:c < g.nc→¬ bad a→h.get? a=some o→o.cls=.ref (g.cls c)∧o.dict=none→o.data=.fields vs→Rp g bad h (.ref a) (.dict [(.int c,.none)])
  | dict {a:Addr} {o:Obj} {n:Nat}:¬ bad a→h.get? a=some o→o.ExactDict→o.data=.dict #[] n→Rp g bad h (.ref a) (.dict [])
inductive RpAll (g:Gl) (bad:Addr→Prop) (h:Heap):List Value→List V→Prop
  | nil:RpAll g bad h [] []
  | cons {v:Value} {vs:List Value} {x:V} {l:List V}:Rp g bad h v x→RpAll g bad h vs l→RpAll g bad h (v :: vs) (x :: l)
end
section
variable {g:Gl} {bad bad':Addr→Prop} {h h':Heap} {v:Value} {x:V} {vs ws:List Value} {l m:List V}
noncomputable def MapK (bad bad':Addr→Prop) (h h':Heap):Prop:=∀ a o,h.get? a=some o→NoFr o→¬ bad a→¬ bad' a∧h'.get? a=some o
theorem Rp.ind {C:Value→V→Prop} {D:List Value→List V→Prop} (none:C .none .none) (bool:∀ b,C (.bool b) (.bool b)) (int:∀ i t,C (.int i t) (.int i)) (str:∀ x t,C (.str x t) (.str x))
    (list:∀ a (o:Obj) vs n l,¬ bad a→h.get? a=some o→o.cls=.type "list"∧o.dict=.none→o.data=.seq vs n→RpAll g bad h vs.toList l→D vs.toList l→C (.ref a) (.list l))
    (tuple:∀ a (o:Obj) vs n l,¬ bad a→h.get? a=some o→o.cls=.type "tuple"→o.data=.seq vs n→RpAll g bad h vs.toList l→D vs.toList l→C (.ref a) (.tuple l))
    (inst:∀ a d o ws kvs,¬ bad a→¬ bad d→h.get? a=some (instObj g.C d)→h.get? d=some o→FldObj g o ws→NewL a ws (kvs.map (·.2))→isIk kvs=true→RpAll g bad h ws (kvs.map (·.2))→D ws (kvs.map (·.2))→C (.ref a) (.dict kvs))
    (exc:∀ a (o:Obj) c vs,c < g.nc→¬ bad a→h.get? a=some o→o.cls=.ref (g.cls c)∧o.dict=.none→o.data=.fields vs→C (.ref a) (.dict [(.int c,.none)]))
    (dict:∀ a (o:Obj) n,¬ bad a→h.get? a=some o→o.ExactDict→o.data=.dict #[] n→C (.ref a) (.dict []))
    (nil:D [] []) (cons:∀ v vs x l,Rp g bad h v x→RpAll g bad h vs l→C v x→D vs l→D (v :: vs) (x :: l)):(Rp g bad h v x→C v x)∧(RpAll g bad h vs l→D vs l):=by
  constructor
  · exact fun r=>Rp.rec (motive_1:=fun v x _=>C v x) (motive_2:=fun vs l _=>D vs l) none bool int str (fun a b c d e i=>list _ _ _ _ _ a b c d e i) (fun a b c d e i=>tuple _ _ _ _ _ a b c d e i) (fun a b c d e f k q r i=>by subst q; exact inst _ _ _ _ _ a b c d e f k r i) (exc _ _ _ _) (dict _ _ _) nil (fun a b c d=>cons _ _ _ _ a b c d) r
  · exact fun r=>RpAll.rec (motive_1:=fun v x _=>C v x) (motive_2:=fun vs l _=>D vs l) none bool int str (fun a b c d e i=>list _ _ _ _ _ a b c d e i) (fun a b c d e i=>tuple _ _ _ _ _ a b c d e i) (fun a b c d e f k q r i=>by subst q; exact inst _ _ _ _ _ a b c d e f k r i) (exc _ _ _ _) (dict _ _ _) nil (fun a b c d=>cons _ _ _ _ a b c d) r
theorem nf_inst {C d:Addr}:NoFr (instObj C d):=nofun
theorem nf_ref {o:Obj} {c:Addr} (h:o.cls=.ref c):NoFr o:=fun e=>nomatch h.symm.trans e
theorem nf_seq {o:Obj} {n:String} (h:o.cls=.type n) (q:n≠"frame":=by decide):NoFr o:=nf_list h q
theorem rp_map (k:MapK bad bad' h h'):(Rp g bad h v x→Rp g bad' h' v x)∧(RpAll g bad h vs l→RpAll g bad' h' vs l):=
  Rp.ind .none .bool .int .str (fun a o vs n l hb ha hc hd _ ih=>let q:=k a o ha (nf_seq hc.1) hb; .list q.1 q.2 hc hd ih) (fun a o vs n l hb ha hc hd _ ih=>let q:=k a o ha (nf_seq hc) hb; .tuple q.1 q.2 hc hd ih)
    (fun a d o ws kvs hb hb' ha hd hf hn hi r ih=>let q:=k a _ ha nf_inst hb; let q':=k d o hd (nf_seq hf.1.1) hb'; .inst q.1 q'.1 q.2 q'.2 hf hn hi rfl ih)
    (fun a o c vs hn hb ha hc hd=>let q:=k a o ha (nf_ref hc.1) hb; .exc hn q.1 q.2 hc hd) (fun a o n hb ha hc hd=>let q:=k a o ha (nf_seq hc.1) hb; .dict q.1 q.2 hc hd) .nil fun _ _ _ _ _ _ i j=>.cons i j
theorem Rp.map (r:Rp g bad h v x) (k:MapK bad bad' h h'):Rp g bad' h' v x:=(rp_map (vs:=[]) (l:=[]) k).1 r
theorem RpAll.map (r:RpAll g bad h vs l) (k:MapK bad bad' h h'):RpAll g bad' h' vs l:=(rp_map (v:=.none) (x:=.none) k).2 r
theorem Keeps.mapK (k:Keeps h h'):MapK bad bad h h':=fun a o e q n=>⟨n,k.get e q⟩
theorem Rp.keep (r:Rp g bad h v x) (k:Keeps h h'):Rp g bad h' v x:=r.map k.mapK
theorem RpAll.keep (r:RpAll g bad h vs l) (k:Keeps h h'):RpAll g bad h' vs l:=r.map k.mapK
theorem RpAll.ind {D:List Value→List V→Prop} (r:RpAll g bad h vs l) (n:D [] []) (c:∀ v vs x l,Rp g bad h v x→RpAll g bad h vs l→D vs l→D (v :: vs) (x :: l)):D vs l:=
  (Rp.ind (v:=.none) (x:=.none) (C:=fun _ _=>True) trivial (fun _=>trivial) (fun _ _=>trivial) (fun _ _=>trivial) (fun _ _ _ _ _ _ _ _ _ _ _=>trivial) (fun _ _ _ _ _ _ _ _ _ _ _=>trivial) (fun _ _ _ _ _ _ _ _ _ _ _ _ _ _=>trivial) (fun _ _ _ _ _ _ _ _ _=>trivial) (fun _ _ _ _ _ _ _=>trivial) n fun v vs x l r rs _ i=>c v vs x l r rs i).2 r
theorem RpAll.length (r:RpAll g bad h vs l):vs.length=l.length:=r.ind (D:=fun vs l=>vs.length=l.length) rfl fun _ _ _ _ _ _ i=>congrArg (· + 1) i
theorem RpAll.get {i:Nat} {x:V} (r:RpAll g bad h vs l):l[i]?=some x→∃ v,vs[i]?=some v∧Rp g bad h v x:=by
  refine r.ind (D:=fun vs l=>∀ i,l[i]?=some x→∃ v,vs[i]?=some v∧Rp g bad h v x) (fun i e=>absurd (List.getElem?_nil (i:=i)▸e) nofun) (fun v vs y l r _ ih i e=>?_) i
  cases i with
  | zero=>(injection e with e; subst e); exact ⟨_,rfl,r⟩
  | succ i=>exact ih i e
theorem RpAll.append (r:RpAll g bad h vs l) (q:RpAll g bad h ws m):RpAll g bad h (vs++ws) (l++m):=r.ind (D:=fun vs l=>RpAll g bad h (vs++ws) (l++m)) q fun _ _ _ _ r _ i=>.cons r i
theorem RpAll.take (n:Nat) (r:RpAll g bad h vs l):RpAll g bad h (vs.take n) (l.take n):=by
  refine r.ind (D:=fun vs l=>∀ n,RpAll g bad h (vs.take n) (l.take n)) (fun n=>?_) (fun v vs x l r _ ih n=>?_) n
  · rw [List.take_nil,List.take_nil]; exact .nil
  · cases n with
    | zero=>exact .nil
    | succ n=>exact .cons r (ih n)
theorem RpAll.drop (n:Nat) (r:RpAll g bad h vs l):RpAll g bad h (vs.drop n) (l.drop n):=by
  refine r.ind (D:=fun vs l=>∀ n,RpAll g bad h (vs.drop n) (l.drop n)) (fun n=>?_) (fun v vs x l r rs ih n=>?_) n
  · rw [List.drop_nil,List.drop_nil]; exact .nil
  · cases n with
    | zero=>exact .cons r rs
    | succ n=>exact ih n
theorem rp_reads:(Rp g bad h v x→x.canLay0=true→∃ as,Reads h v x as)∧(RpAll g bad h vs l→PyData.canLayAll0 l=true→∃ as,ReadsAll h vs l as):=
  Rp.ind (C:=fun v x=>x.canLay0=true→∃ as,Reads h v x as) (D:=fun vs l=>PyData.canLayAll0 l=true→∃ as,ReadsAll h vs l as) (fun _=>⟨_,.none⟩) (fun b _=>⟨_,.bool b⟩) (fun i t _=>⟨_,.int i t⟩) (fun x t _=>⟨_,.str x t⟩)
    (fun a o vs n l hb ha hc hd _ ih q=>(ih q).elim fun _ r=>⟨_,.list ha hc.1 hd r⟩) (fun a o vs n l hb ha hc hd _ ih q=>(ih q).elim fun _ r=>⟨_,.tuple ha hc hd r⟩) (fun _ _ _ _ _ _ _ _ _ _ _ _ _ _ q=>nomatch q) (fun _ _ _ _ _ _ _ _ _ q=>nomatch q) (fun _ _ _ _ _ _ _ q=>nomatch q) (fun _=>⟨_,.nil⟩)
    fun v vs x l _ _ i j q=>by
      have q:=(Bool.and_eq_true _ _).mp q
      obtain ⟨as,r⟩:=i q.1
      obtain ⟨bs,rs⟩:=j q.2
      exact ⟨_,.cons r rs⟩
theorem Rp.reads (r:Rp g bad h v x) (q:x.canLay0=true):∃ as,Reads h v x as:=(rp_reads (vs:=[]) (l:=[])).1 r q
@[elab_as_elim] theorem Rp.none_elim {C:Value→Prop} (r:Rp g bad h v .none) (k:C .none):C v:=by cases r; exact k
@[elab_as_elim] theorem Rp.bool_elim {C:Value→Prop} {b:Bool} (r:Rp g bad h v (.bool b)) (k:C (.bool b)):C v:=by cases r; exact k
@[elab_as_elim] theorem Rp.int_elim {C:Value→Prop} {i:Int} (r:Rp g bad h v (.int i)) (k:∀ t,C (.int i t)):C v:=by cases r; exact k _
@[elab_as_elim] theorem Rp.str_elim {C:Value→Prop} {x:Str} (r:Rp g bad h v (.str x)) (k:∀ t,C (.str x t)):C v:=by cases r with | str _ t=>exact k t
@[elab_as_elim] theorem Rp.list_elim {C:Value→Prop} (r:Rp g bad h v (.list l)) (k:∀ a (o:Obj) vs n,¬ bad a→h.get? a=some o→o.cls=.type "list"∧o.dict=Option.none→o.data=.seq vs n→RpAll g bad h vs.toList l→C (.ref a)):C v:=by
  cases r with | list hb ha hc hd hl=>exact k _ _ _ _ hb ha hc hd hl
@[elab_as_elim] theorem Rp.tuple_elim {C:Value→Prop} (r:Rp g bad h v (.tuple l)) (k:∀ a (o:Obj) vs n,¬ bad a→h.get? a=some o→o.cls=.type "tuple"→o.data=.seq vs n→RpAll g bad h vs.toList l→C (.ref a)):C v:=by
  cases r with | tuple hb ha hc hd hl=>exact k _ _ _ _ hb ha hc hd hl
@[elab_as_elim] theorem Rp.inst_elim {C:Value→Prop} {kvs:List (V×V)} (r:Rp g bad h v (.dict kvs)) (q:isIk kvs=true) (k:∀ a d o ws,¬ bad a→¬ bad d→h.get? a=some (instObj g.C d)→h.get? d=some o→FldObj g o ws→NewL a ws (kvs.map (·.2))→RpAll g bad h ws (kvs.map (·.2))→C (.ref a)):C v:=by
  cases r with
  | inst hb hb' ha hd hf hn _ e hl=>subst e; exact k _ _ _ _ hb hb' ha hd hf hn hl
  | exc=>(injection q; done)
  | dict=>(injection q; done)
@[elab_as_elim] theorem Rp.edict_elim {C:Value→Prop} (r:Rp g bad h v (.dict [])) (k:∀ a (o:Obj) n,¬ bad a→h.get? a=some o→o.ExactDict→o.data=.dict #[] n→C (.ref a)):C v:=by
  cases r with
  | inst _ _ _ _ _ _ q=>(injection q; done)
  | dict hb ha hc hd=>exact k _ _ _ hb ha hc hd
end
end Mine
end
noncomputable section
namespace Mine
open PySem
noncomputable def scIs:Sc→Value→Bool
  | .inl i,v=>Value.isInt i v
  | .inr x,v=>Value.isStrOf x v
theorem scIs_elim {k:Sc} {v:Value} {C:Sc→Value→Prop} (h:scIs k v=true) (hi:∀ i t,C (.inl i) (.int i t)) (hs:∀ x t,C (.inr x) (.str x t)):C k v:=by
  cases k with
  | inl i=>obtain ⟨t,rfl⟩:=Value.isInt_shape h; exact hi i t
  | inr x=>obtain ⟨t,rfl⟩:=Value.isStrOf_shape h; exact hs x t
noncomputable def scKind (prog:Program) (w:World):KeyKind prog w Sc where
  is:=scIs
  hash:=fun k=>match k with | .inl i=>hashInt i | .inr x=>hashStr w x
  inj:=fun v a b ha hb=>scIs_elim (C:=fun a v=>scIs b v=true→a=b) ha (fun i t hb=>by cases b with | inl j=>exact congrArg _ (Value.isInt_inj (.int i t) i j (by simp [Value.isInt]) hb) | inr y=>(injection hb; done))
    (fun x t hb=>by cases b with | inl j=>(injection hb; done) | inr y=>exact congrArg _ (Value.isStrOf_inj (.str x t) x y (by simp [Value.isStrOf]) hb)) hb
  byValue:=fun k v h=>scIs_elim (C:=fun _ v=>carriedByValue v=true) h (fun _ _=>rfl) fun _ _=>rfl
  pyHash:=fun {A E s k v Q} h hq=>scIs_elim (C:=fun k v=>Q (match k with | .inl i=>hashInt i | .inr x=>hashStr w x) { s with toks:=s.toks+1 }→wpAny (model prog w) A (PySem.pyHash v) Q E s) h (fun _ _ hq=>wpAny_pyHash_int hq) (fun _ _ hq=>wpAny_pyHash_str hq) hq
  eqBool:=fun {A E s a b u v Q} hu hv hq=>scIs_elim (C:=fun a u=>Q (decide (a=b)) s→wpAny (model prog w) A (PySem.eqBool u v) Q E s) hu
    (fun i t hq=>scIs_elim (C:=fun b v=>Q (decide (Sum.inl i=b)) s→wpAny (model prog w) A (PySem.eqBool (.int i t) v) Q E s) hv (fun j u hq=>wpAny_eqBool_int (by rw [show (i==j)=decide ((Sum.inl i:Sc)=.inl j) by by_cases e:i=j <;> simp [e]]; exact hq)) (fun y u hq=>SeqAt.EqAt.int_str i t y u _ _ _ _ (by simpa using hq)) hq)
    (fun x t hq=>scIs_elim (C:=fun b v=>Q (decide (Sum.inr x=b)) s→wpAny (model prog w) A (PySem.eqBool (.str x t) v) Q E s) hv (fun j u hq=>SeqAt.EqAt.str_int x t j u _ _ _ _ (by simpa using hq)) (fun y u hq=>wpAny_eqBool_str (by rw [show decide (x=y)=decide ((Sum.inr x:Sc)=.inr y) by by_cases e:x=y <;> simp [e]]; exact hq)) hq) hq
  «strs»:=fun k x t v h=>by
    cases k with
    | inl i=>(injection h; done)
    | inr y=>exact (strKind prog w).«strs» y x t v h
end Mine
end
noncomputable section
namespace Mine
open PySem PySem.Calls PyProof.Rows PySem.W
inductive Pl where
  | ns (a:Addr) (x:Str)
  | cell (c:Addr)
  | off
noncomputable def Pl.addr:Pl→Option Addr
  | .ns a _=>some a
  | .cell c=>some c
  | .off=>none
noncomputable def PlRead (h:Heap):Pl→Option Value→Prop
  | .ns a x,v=>∃ m,h.Ns a m∧m x=v
  | .cell c,v=>h.IsCell c v
  | .off,v=>v=none
structure Fx where
  g:Gl
  A:Around
  env:Env
  ρ:List (Str×Nat)
  pl:Nat→Pl
  Mo:Addr→Prop
  nf:Nat
  ns:Nat
  d:Nat
  hm:Bool
  nw:Bool
structure Ct where
  fx:Fx
  oa:Nat→Option Addr
  G:Gs
noncomputable def Ct.own (Φ:Ct) (a:Addr):Prop:=(∃ k,(Φ.fx.pl k).addr=some a)∨∃ k,Φ.oa k=some a
noncomputable def Ct.bad (Φ:Ct) (a:Addr):Prop:=Φ.fx.Mo a∨Φ.own a
noncomputable def OwnAt (g:Gl) (bad:Addr→Prop) (h:Heap) (a:Addr) (u:Value):Slot→Prop
  | .ownL l=>u=.ref a∧∃ o vs n,h.get? a=some o∧(o.cls=.type "list"∧o.dict=none)∧o.data=.seq vs n∧RpAll g bad h vs.toList l
  | .ownI l=>∃ b o ws,u=.ref b∧b=a+1∧¬ bad b∧h.get? b=some (instObj g.C a)∧h.get? a=some o∧FldObj g o ws∧NewL b ws l∧RpAll g bad h ws l
  | _=>False
noncomputable def SlotOk (g:Gl) (bad:Addr→Prop) (h:Heap) (oak:Option Addr) (v:Option Value):Slot→Prop
  | .unset=>oak=none∧v=none
  | .v x=>oak=none∧∃ u,v=some u∧Rp g bad h u x
  | .junk=>oak=none
  | sl=>∃ a u,oak=some a∧v=some u∧OwnAt g bad h a u sl
noncomputable def FrOk (h0 h:Heap) (l:List Env):Prop:=∀ env∈l,env.scope.kind≠.module∧∃ L o,env.frame=some L∧h0.get? L=none∧h.get? L=some o∧o.cls=.type "frame"∧∀ vs,o.data≠.fields vs
noncomputable def FrAt (g:Gl) (A:Around) (h:Heap):Prop:=∃ l,A.frames=some l∧FrOk g.h0 h l
inductive ExcAt (h:Heap) (lo:Heap) (e:Addr) (cls fl:Value):Prop
  | mk (oe:Obj) (vs:Array Value):h.get? e=some oe→oe.cls=cls→oe.dict=none→oe.data=.fields vs→lo.get? e=none→1 < vs.size →
    (vs[1]?=some .none∨∃ T oT ts,vs[1]?=some (.ref T)∧T≠e∧lo.get? T=none∧h.get? T=some oT∧oT.data=.fields ts∧ts[3]?=some fl)→ExcAt h lo e cls fl
theorem FrAt.of {g:Gl} {A:Around} {h:Heap} {l:List Env} (x:FrAt g A h) (e:A.frames=some l):FrOk g.h0 h l:=x.elim fun _ q=>Option.some.inj (q.1.symm.trans e)▸q.2
theorem ExcAt.el {h lo:Heap} {e:Addr} {cls fl:Value} {Z:Prop} (x:ExcAt h lo e cls fl) (k:∀ oe vs,h.get? e=some oe→oe.cls=cls→oe.dict=none→oe.data=.fields vs→lo.get? e=none→Z):Z:=by
  cases x with | mk oe vs a b c d e=>exact k oe vs a b c d e
inductive CallX (g:Gl) (s:Shared) (K:V→Prop) (x:Value) (s':Shared):Prop
  | mk:Base g s'→Keeps s.heap s'.heap→∀ c e,x=.ref e→c < g.nc→K (excV c)→ExcAt s'.heap s.heap e (.ref (g.cls c)) .none→CallX g s K x s'
inductive CallP (g:Gl) (bad:Addr→Prop) (f:Nat) (s:Shared) (K:V→Prop) (v:Value) (s':Shared):Prop
  | mk:Base g s'→Keeps s.heap s'.heap→∀ y,K y→noX y=true→Rp g bad s'.heap v y→(g.newf f=true→NewV s.heap v)→CallP g bad f s K v s'
noncomputable def HandOk (hm:Bool) (A:Around):Prop:=hm=false→A.handled=none
noncomputable def CallOk (g:Gl) (cf:CallF) (d:Nat):Prop:=∀ hm f args K A s bad vals,cf f args K→HandOk hm A→(hm=true→g.safe f=true)→A.depth+2 * d < 990→A.units+4 * d+100 < cLine→Base g s→FrAt g A s.heap→(∀ a,bad a→Live s.heap a)→RpAll g bad s.heap vals args →
  wpAny (model g.prog g.w) A (call (.ref (g.fn f)) vals) (CallP g bad f s K) (CallX g s K) s
structure ClsOk (g:Gl):Prop where
  hga:findIn g.K (.ref g.C) "__getattribute__"=some (some (.builtin "object.__getattribute__"))
  hgk:findIn g.K (.ref g.C) "__getattr__"=some none
  hsa:findIn g.K (.ref g.C) "__setattr__"=some (some (.builtin "object.__setattr__"))
  over:plainOver g.K g.C=true
  hdict:(clsIn g.K g.C).any (·.hasDict)=true
  flds:∀ x∈g.flds,findIn g.K (.ref g.C) x=some none
  makes:makesIn g.K g.C=true
  nodup:g.flds.Nodup
  few:g.flds.length≤1000
noncomputable def RaiseOk (g:Gl) (c:Nat):Prop:=∃ (nm q:Str) (N:Addr) (bs bm bmB:List Value) (hdct:Bool) (sn:List Str) (sub:List Value) (ab:Bool) (col:Option Bool) (dd:Option Addr) (k0 k1 k2 k3 k5:Option Value) (B newId initId:String) (mN:Str→Option Value),
  ExcBaseFacts B newId initId bmB∧bm.contains (.type "BaseException")=true∧mN "__init__"=none∧g.h0.get? (g.cls c)=some (excClassObj nm q (g.cls c) N bs bm hdct sn sub ab col dd k0 k1 k2 k3 k5 newId)∧g.h0.Ns N mN∧OwnTail g.h0 bmB bm
noncomputable def CatchOk (g:Gl) (c c':Nat):Prop:=∀ (A:Around) (E:Value→Shared→Prop) (Q:Bool→Shared→Prop) (s:Shared) (e:Addr) (o:Obj),Stays g.h0 s.heap→s.heap.get? e=some o→o.cls=.ref (g.cls c)→Q true s →
  wpAny (model g.prog g.w) A (excMatches (.ref e) (.ref (g.cls c'))) Q E s
noncomputable def IsiOk (g:Gl) (c:Nat) (cv:Value) (b:Bool):Prop:=∀ (A:Around) (E:Value→Shared→Prop) (Q:Value→Shared→Prop) (s:Shared) (e:Addr) (o:Obj),Stays g.h0 s.heap→s.heap.get? e=some o→o.cls=.ref (g.cls c)→o.dict=none→(∃ vs,o.data=.fields vs) →
  (∀ n,Q (.bool b) { s with toks:=n })→wpAny (model g.prog g.w) A (call (.builtin "isinstance") [.ref e,cv]) Q E s
noncomputable def clsVal (g:Gl) (c:Nat):Value:=if c=g.nc then .type "ValueError" else .ref (g.cls c)
structure Ground (g:Gl):Prop where
  main:g.h0.Ns mainGlobals g.mg
  blt:g.h0.Ns builtinsNs g.mb
  nolim:g.h0.NoLimit
  sysm:Live g.h0 sysModules
  frag:g.K.In g.h0
  cls:ClsOk g
  fns:∀ x f,g.fns.lookup x=some f→g.mg x=some (.ref (g.fn f))
  cons:∀ x v,g.cons.lookup x=some v→∃ u,g.mg x=some u∧∀ bad h,Rp g bad h u v
  blts:∀ x v,bltNames.lookup x=some v→g.mg x=none∧g.mb x=some v
  clss:∀ x c,g.clss.lookup x=some c→c < g.nc∧g.mg x=some (.ref (g.cls c))
  raises:∀ c,c < g.nc→RaiseOk g c
  catches:∀ c c',c < g.nc→c' < g.nc→g.P.sup c c'=true→CatchOk g c c'
  isi:∀ c c',c < g.nc→c'≤g.nc→IsiOk g c (clsVal g c') (g.P.sup c c')
class Hm (fx:Fx):Prop where
  no:fx.hm=false
structure FxOk (fx:Fx):Prop where
  gr:Ground fx.g
  hand:HandOk fx.hm fx.A
  kind:fx.env.scope.kind=.function
  globals:fx.env.globals=mainGlobals
  builtins:fx.env.builtins=builtinsNs
  vis:∀ x k,fx.ρ.lookup x=some k→(fx.env.kindOf x=some .local∧fx.pl k=.ns fx.env.locals x)∨((fx.env.kindOf x=some .cell∨fx.env.kindOf x=some .free)∧∃ c,fx.env.cells.lookup x=some c∧fx.pl k=.cell c)
  inj:∀ k j,fx.pl k=fx.pl j→fx.pl k≠.off→k=j
  apart:∀ k j a x c,fx.pl k=.ns a x→fx.pl j=.cell c→a≠c
  offs:∀ k,fx.nf≤k→fx.pl k=.off
  nfs:fx.nf≤fx.ns
  room:fx.A.depth+2 * fx.d < 990
  units:fx.A.units+4 * fx.d+100 < cLine
  call:CallOk fx.g (callN fx.g.P fx.d) fx.d
structure Inv (Φ:Ct) (s:Shared):Prop where
  ok:FxOk Φ.fx
  base:Base Φ.fx.g s
  slot:∀ k,∃ v,PlRead s.heap (Φ.fx.pl k) v∧SlotOk Φ.fx.g Φ.bad s.heap (Φ.oa k) v (getSlot Φ.G k)
  new:∀ a,Φ.own a→Live s.heap a∧Φ.fx.g.h0.get? a=none∧¬ Φ.fx.Mo a
  inj:∀ k j a,Φ.oa k=some a→Φ.oa j=some a→k=j
  off:∀ k a,Φ.oa k=some a→∀ j,(Φ.fx.pl j).addr≠some a
  gl:Φ.G.length=Φ.fx.ns
  mo:∀ a,Φ.fx.Mo a→Live s.heap a
  fr:FrAt Φ.fx.g Φ.fx.A s.heap
section
variable {g:Gl} {Φ:Ct} {s s' s₁:Shared} {h h':Heap} {bad bad':Addr→Prop} {α β γ δ:Type}
theorem ns_slots {a:Addr} {m:Str→Option Value} (k:Keeps h h') (r:h.Ns a m):h'.Ns a m:=by
  obtain ⟨o,es,n,ho,q⟩:=r
  obtain ⟨sl,e,_⟩:=k a o ho
  exact ⟨_,es,n,e,q⟩
theorem PlRead.keep {p:Pl} {v:Option Value} (k:Keeps h h') (r:PlRead h p v):PlRead h' p v:=by
  cases p with
  | ns a x=>obtain ⟨m,hn,hv⟩:=r; exact ⟨m,ns_slots k hn,hv⟩
  | cell c=>obtain ⟨o,ho,hd⟩:=r; obtain ⟨sl,e,_⟩:=k c o ho; exact ⟨_,e,hd⟩
  | off=>exact r
theorem FrOk.keep {h0:Heap} {l:List Env} (f:FrOk h0 h l) (k:Keeps h h'):FrOk h0 h' l:=fun env m=>by
  obtain ⟨hk,L,o,hf,hn,ho,hc,hd⟩:=f env m
  obtain ⟨sl,e,_⟩:=k L o ho
  exact ⟨hk,L,_,hf,hn,e,hc,hd⟩
theorem FrAt.keep {A:Around} (f:FrAt g A h) (k:Keeps h h'):FrAt g A h':=f.elim fun l q=>⟨l,q.1,q.2.keep k⟩
theorem OwnAt.map {a:Addr} {u:Value} {sl:Slot} (r:OwnAt g bad h a u sl) (k:MapK bad bad' h h') (t:∀ o,h.get? a=some o→NoFr o→h'.get? a=some o):OwnAt g bad' h' a u sl:=by
  cases sl with
  | ownL l=>obtain ⟨e,o,vs,n,ho,hc,hd,hl⟩:=r; exact ⟨e,o,vs,n,t o ho (nf_seq hc.1),hc,hd,hl.map k⟩
  | ownI l=>obtain ⟨b,o,ws,e,eb,nb,hb,ho,hf,hn,hl⟩:=r; exact ⟨b,o,ws,e,eb,(k _ _ hb nf_inst nb).1,(k _ _ hb nf_inst nb).2,t o ho (nf_seq hf.1.1),hf,hn,hl.map k⟩
  | _=>exact r
theorem SlotOk.map {oak:Option Addr} {v:Option Value} {sl:Slot} (r:SlotOk g bad h oak v sl) (k:MapK bad bad' h h') (t:∀ a,oak=some a→∀ o,h.get? a=some o→NoFr o→h'.get? a=some o):SlotOk g bad' h' oak v sl:=by
  cases sl with
  | unset=>exact r
  | v x=>obtain ⟨e,u,q,rp⟩:=r; exact ⟨e,u,q,rp.map k⟩
  | junk=>exact r
  | _=>obtain ⟨a,u,e,q,rp⟩:=r; exact ⟨a,u,e,q,rp.map k (t a e)⟩
theorem Inv.keep (I:Inv Φ s) (B:Base Φ.fx.g s') (k:Keeps s.heap s'.heap):Inv Φ s' where
  ok:=I.ok
  base:=B
  slot:=fun j=>let ⟨v,r,x⟩:=I.slot j; ⟨v,r.keep k,x.map k.mapK fun a _ o e n=>k.get e n⟩
  new:=fun a q=>let ⟨x,y⟩:=I.new a q; ⟨k.live x,y⟩
  inj:=I.inj
  off:=I.off
  gl:=I.gl
  mo:=fun a q=>k.live (I.mo a q)
  fr:=I.fr.keep k
theorem Inv.badLive (I:Inv Φ s) {a:Addr} (b:Φ.bad a):Live s.heap a:=b.elim (I.mo a) fun b=>(I.new a b).1
noncomputable abbrev Ct.wp (Φ:Ct) (t:Sem α) (Q:α→Shared→Prop) (s:Shared):Prop:=∀ E,wpAny (model Φ.fx.g.prog Φ.fx.g.w) Φ.fx.A t Q E s
inductive Post (Φ:Ct) (R:Heap→α→β→Prop) (s:Shared) (K:β→Prop) (a:α) (s':Shared):Prop
  | mk:Base Φ.fx.g s'→Keeps s.heap s'.heap→∀ y,K y→R s'.heap a y→Post Φ R s K a s'
noncomputable def EvR (Φ:Ct) (R:Heap→α→β→Prop) (t:Sem α) (d:(β→Prop)→Prop):Prop:=∀ K s,d K→Inv Φ s→Φ.wp t (Post Φ R s K) s
noncomputable abbrev Ct.rp (Φ:Ct):Heap→Value→V→Prop:=Rp Φ.fx.g Φ.bad
noncomputable abbrev Ct.rps (Φ:Ct):Heap→List Value→List V→Prop:=RpAll Φ.fx.g Φ.bad
noncomputable abbrev Ev (Φ:Ct) (t:Sem Value) (d:(V→Prop)→Prop):Prop:=EvR Φ Φ.rp t d
noncomputable abbrev EvT (Φ:Ct) (t:Sem Bool) (d:(Bool→Prop)→Prop):Prop:=EvR Φ (fun _=>Eq) t d
noncomputable abbrev EvL (Φ:Ct) (t:Sem (List Value)) (d:(List V→Prop)→Prop):Prop:=EvR Φ Φ.rps t d
noncomputable def PostN (Φ:Ct) (s:Shared) (K:V→Prop) (v:Value) (s':Shared):Prop:=Post Φ (Rp Φ.fx.g Φ.bad) s K v s'∧NewV s.heap v
noncomputable def EvN (Φ:Ct) (t:Sem Value) (d:(V→Prop)→Prop):Prop:=∀ K s,d K→Inv Φ s→Φ.wp t (PostN Φ s K) s
theorem Post.lift {R:Heap→α→β→Prop} {K:β→Prop} {a:α} (p:Post Φ R s₁ K a s') (k:Keeps s.heap s₁.heap):Post Φ R s K a s':=by
  cases p with | mk B k' y ky r=>exact ⟨B,k.trans k',y,ky,r⟩
theorem PostN.lift {K:V→Prop} {v:Value} (p:PostN Φ s₁ K v s') (k:Keeps s.heap s₁.heap):PostN Φ s K v s':=⟨p.1.lift k,p.2.le fun _=>k.live⟩
noncomputable def PostC (Φ:Ct) (n:Bool) (s:Shared) (K:V→Prop) (v:Value) (s':Shared):Prop:=Post Φ (Rp Φ.fx.g Φ.bad) s K v s'∧(n=true→NewV s.heap v)
noncomputable def EvC (Φ:Ct) (n:Bool) (t:Sem Value) (d:(V→Prop)→Prop):Prop:=∀ K s,d K→Inv Φ s→Φ.wp t (PostC Φ n s K) s
theorem PostC.lift {K:V→Prop} {n:Bool} {v:Value} (p:PostC Φ n s₁ K v s') (k:Keeps s.heap s₁.heap):PostC Φ n s K v s':=⟨p.1.lift k,fun q=>(p.2 q).le fun _=>k.live⟩
theorem EvC.ev {n:Bool} {t:Sem Value} {d:(V→Prop)→Prop} (x:EvC Φ n t d):Ev Φ t d:=fun K s hd I E=>wpAny_mono (x K s hd I E) (fun _ _ p=>p.1) fun _ _ z=>z
theorem EvC.evN {n:Bool} {t:Sem Value} {d:(V→Prop)→Prop} (x:EvC Φ n t d) (h:n=true):EvN Φ t d:=fun K s hd I E=>wpAny_mono (x K s hd I E) (fun _ _ p=>⟨p.1,p.2 h⟩) fun _ _ z=>z
theorem EvN.ev {t:Sem Value} {d:(V→Prop)→Prop} (x:EvN Φ t d):Ev Φ t d:=fun K s hd I E=>wpAny_mono (x K s hd I E) (fun _ _ p=>p.1) fun _ _ z=>z
theorem EvR.bind {R:Heap→α→β→Prop} {R':Heap→γ→δ→Prop} {t:Sem α} {f:α→Sem γ} {d:(β→Prop)→Prop} {K₁:β→Prop} {K:δ→Prop} (x:EvR Φ R t d) (hd:d K₁) (I:Inv Φ s)
    (y:∀ a b s₁,Inv Φ s₁→Keeps s.heap s₁.heap→K₁ b→R s₁.heap a b→Φ.wp (f a) (Post Φ R' s₁ K) s₁):Φ.wp (t >>= f) (Post Φ R' s K) s:=fun E=>
  wpAny_bind (wpAny_mono (x K₁ s hd I E) (fun a s₁ ⟨B,k,b,kb,r⟩=>wpAny_mono (y a b s₁ (I.keep B k) k kb r E) (fun _ _ p=>p.lift k) fun _ _ z=>z) fun _ _ z=>z)
theorem EvR.bindC {R:Heap→α→β→Prop} {t:Sem α} {f:α→Sem Value} {d:(β→Prop)→Prop} {K₁:β→Prop} {K:V→Prop} {n:Bool} (x:EvR Φ R t d) (hd:d K₁) (I:Inv Φ s)
    (y:∀ a b s₁,Inv Φ s₁→Keeps s.heap s₁.heap→K₁ b→R s₁.heap a b→Φ.wp (f a) (PostC Φ n s₁ K) s₁):Φ.wp (t >>= f) (PostC Φ n s K) s:=fun E=>
  wpAny_bind (wpAny_mono (x K₁ s hd I E) (fun a s₁ ⟨B,k,b,kb,r⟩=>wpAny_mono (y a b s₁ (I.keep B k) k kb r E) (fun _ _ p=>p.lift k) fun _ _ z=>z) fun _ _ z=>z)
theorem EvR.holding {R:Heap→α→β→Prop} {t:Sem α} {d:(β→Prop)→Prop} {vs:List Value} (x:EvR Φ R t d):EvR Φ R (holding vs t) d:=fun K s hd I E=>wpAny_holding (x K s hd I E)
theorem EvR.pure {R:Heap→α→β→Prop} {K:β→Prop} {a:α} {b:β} (I:Inv Φ s) (k:K b) (r:R s.heap a b):Φ.wp (pure a) (Post Φ R s K) s:=fun E=>wpAny_pure ⟨I.base,.refl _,b,k,r⟩
theorem wp_stand {p:Pos} {t:Unit→Sem α} {Q:α→Shared→Prop} (x:Φ.wp (t ()) Q s):Φ.wp (standAt p >>= t) Q s:=fun E=>wpAny_bind (wpAny_standAt (x E))
structure Grown (s s':Shared):Prop where
  stays:Stays s.heap s'.heap
  os:s'.os=s.os
  gens:s'.gens=s.gens
theorem Grown.keeps {s s':Shared} (x:Grown s s'):Keeps s.heap s'.heap:=x.stays.keeps
theorem Grown.refl (s:Shared):Grown s s:=⟨fun _ _ e=>e,rfl,rfl⟩
theorem Grown.trans {s₁ s₂ s₃:Shared} (x:Grown s₁ s₂) (y:Grown s₂ s₃):Grown s₁ s₃:=⟨x.stays.trans y.stays,y.os.trans x.os,y.gens.trans x.gens⟩
theorem Grown.toks (s:Shared) (n:Nat):Grown s { s with toks:=n }:=⟨fun _ _ e=>e,rfl,rfl⟩
theorem Grown.push (s:Shared) (o:Obj) (n:Nat):Grown s { s with heap:=s.heap.push o,toks:=n }:=⟨stays_push _ _,rfl,rfl⟩
theorem Base.grown (B:Base g s) (x:Grown s s'):Base g s':=⟨B.stays.trans x.stays,x.os.trans B.os,x.gens.trans B.gens⟩
noncomputable abbrev Ct.Gives (Φ:Ct) (s:Shared) (z:V) (v:Value) (s':Shared):Prop:=Grown s s'∧Φ.rp s'.heap v z
theorem step {R:Heap→α→β→Prop} {K:β→Prop} {t:Sem α} {z:β} (I:Inv Φ s) (kz:K z) (h:Φ.wp t (fun a s'=>Grown s s'∧R s'.heap a z) s):Φ.wp t (Post Φ R s K) s:=fun E=>
  wpAny_mono (h E) (fun a s' p=>⟨I.base.grown p.1,p.1.keeps,z,kz,p.2⟩) fun _ _ z=>z
theorem okK_elim {o:Option α} {K:α→Prop} {C:Prop} (h:okK o K) (k:∀ z,o=some z→K z→C):C:=by
  cases o with
  | none=>exact h.elim
  | some z=>exact k z rfl h
theorem wpAny_release {M:Model} {A:Around} {E:Value→Shared→Prop} {s:Shared} {vs keep:List Value} {Q:Unit→Shared→Prop} (h:Q () s):wpAny M A (release vs keep) Q E s:=by
  unfold release
  generalize (vs.filter fun | .ref _=>true | _=>false)=l
  induction l with
  | nil=>exact wpAny_pure h
  | cons x r ih=>
    cases r with
    | nil=>exact wpAny_pure h
    | cons y r=>
      unfold release.go
      exact wpAny_bind (wpAny_holding (wpAny_point ih))
theorem wp_operate {vs:List Value} {t:Sem Value} {Q:Value→Shared→Prop} (x:Φ.wp t Q s):Φ.wp (operate vs t) Q s:=fun E=>by
  unfold PySem.operate
  exact wpAny_bind (wpAny_holding (wpAny_mono (x E) (fun a s' p=>wpAny_bind (wpAny_release (wpAny_pure p))) fun _ _ z=>z))
end
section
variable {Φ:Ct} {s:Shared}
theorem name_read {x:Str} {k:Nat} {pos:Pos} {v:Value} {Q:Value→Shared→Prop} (ok:FxOk Φ.fx) (hx:Φ.fx.ρ.lookup x=some k) (hn:okName x=true) (r:PlRead s.heap (Φ.fx.pl k) (some v)) (h:Q v s):Φ.wp (eval (.Name x pos) Φ.fx.env) Q s:=fun E=>by
  have hn:=(Bool.and_eq_true _ _).mp hn
  have h1:=Bool.not_eq_true' _▸hn.1
  rcases ok.vis x k hx with ⟨hl,hp⟩ | ⟨hl,c,hc,hp⟩
  · rw [hp] at r
    obtain ⟨m,hns,hv⟩:=r
    exact wpAny_Name (wpAny_loadName_local ok.kind hl hns hv h) h1
  · rw [hp] at r
    rcases hl with hl | hl
    · exact wpAny_Name (wpAny_loadName_cell ok.kind hl hc r h) h1
    · exact wpAny_Name (wpAny_loadName_free ok.kind hl hc r h (Bool.not_eq_true' _▸hn.2)) h1
theorem var_some {G:Gs} {k:Nat} {x:V} (e:varO G k=some x):getSlot G k=.v x:=by
  unfold varO at e
  revert e
  cases getSlot G k with
  | v m=>exact fun e=>congrArg Slot.v (Option.some.inj e)
  | _=>exact fun e=>nomatch e
theorem ev_var {x:Str} {k:Nat} {pos:Pos} (hx:Φ.fx.ρ.lookup x=some k) (hn:okName x=true):Ev Φ (eval (.Name x pos) Φ.fx.env) (okK (varO Φ.G k)):=fun K s hd I=>okK_elim hd fun y e ky=>by
  obtain ⟨v,pr,so⟩:=I.slot k
  rw [var_some e] at so
  obtain ⟨_,u,rfl,rp⟩:=so
  exact name_read I.ok hx hn pr ⟨I.base,.refl _,y,ky,rp⟩
theorem own_read {x:Str} {k:Nat} {pos:Pos} {Q:Value→Shared→Prop} {C:Value→Prop} (hx:Φ.fx.ρ.lookup x=some k) (hn:okName x=true) (I:Inv Φ s) {sl:Slot} (e:getSlot Φ.G k=sl) (ho:∀ {oak v},SlotOk Φ.fx.g Φ.bad s.heap oak v sl→∃ a u,oak=some a∧v=some u∧OwnAt Φ.fx.g Φ.bad s.heap a u sl)
    (h:∀ a u,Φ.oa k=some a→OwnAt Φ.fx.g Φ.bad s.heap a u sl→Q u s):Φ.wp (eval (.Name x pos) Φ.fx.env) Q s:=by
  obtain ⟨v,pr,so⟩:=I.slot k
  rw [e] at so
  obtain ⟨a,u,ha,rfl,oa⟩:=ho so
  exact name_read I.ok hx hn pr (h a u ha oa)
end
end Mine
end
noncomputable section
namespace Mine
open PySem PySem.Calls PyProof.Rows PySem.W
section
variable {α:Type} {C:V→Prop} {x:V} {z:α}
theorem intO_elim {f:Int→Option α} (e:intO x f=some z) (k:∀ i,f i=some z→C (.int i)):C x:=by
  cases x <;> first | exact k _ e | (injection e; done)
theorem strO_elim {f:List Nat→Option α} (e:strO x f=some z) (k:∀ t:Str,f t.cps.toList=some z→C (.str t)):C x:=by
  cases x <;> first | exact k _ e | (injection e; done)
theorem listO_elim {f:List V→Option α} (e:listO x f=some z) (k:∀ l,f l=some z→C (.list l)):C x:=by
  cases x <;> first | exact k _ e | (injection e; done)
theorem tupO_elim {f:List V→Option α} (e:tupO x f=some z) (k:∀ l,f l=some z→C (.tuple l)):C x:=by
  cases x <;> first | exact k _ e | (injection e; done)
theorem boolO_elim {f:Bool→Option α} (e:boolO x f=some z) (k:∀ b,f b=some z→C (.bool b)):C x:=by
  cases x <;> first | exact k _ e | (injection e; done)
end
section
variable {α β:Type}
@[elab_as_elim] theorem some_elim {C:α→Prop} {a b:α} (e:some a=some b) (k:C a):C b:=Option.some.inj e▸k
@[elab_as_elim] theorem if_elim {C:α→Prop} {p:Prop} [Decidable p] {a z:α} (e:(if p then some a else none)=some z) (k:p→C a):C z:=by
  by_cases h:p
  · rw [if_pos h] at e; exact some_elim e (k h)
  · rw [if_neg h] at e; (injection e; done)
@[elab_as_elim] theorem ifn_elim {C:α→Prop} {p:Prop} [Decidable p] {a z:α} (e:(if p then none else some a)=some z) (k:¬ p→C a):C z:=by
  by_cases h:p
  · rw [if_pos h] at e; (injection e; done)
  · rw [if_neg h] at e; exact some_elim e (k h)
theorem ifo_elim {C:Prop} {p:Prop} [Decidable p] {a:Option α} {z:α} (e:(if p then a else none)=some z) (k:p→a=some z→C):C:=by
  by_cases h:p
  · rw [if_pos h] at e; exact k h e
  · rw [if_neg h] at e; (injection e; done)
@[elab_as_elim] theorem map_elim {C:β→Prop} {f:α→β} {o:Option α} {z:β} (e:o.map f=some z) (k:∀ a,o=some a→C (f a)):C z:=by
  cases o with
  | none=>(injection e; done)
  | some a=>exact some_elim e (k a rfl)
@[elab_as_elim] theorem fit_elim {C:β→Prop} {l:List α} {a z:β} (e:fitL l a=some z) (k:l.length≤szLine→C a):C z:=if_elim e k
end
theorem sz_le {n:Nat} (h:n≤szLine):n≤sizeLine:=Nat.le_trans h (by decide)
theorem arr_le {vs:Array Value} {n:Nat} (e:vs.toList.length=n) (h:n≤szLine):vs.size≤sizeLine:=sz_le (Array.length_toList▸e▸h)
section
variable {Φ:Ct} {s:Shared} {v u:Value} {x y z:V}
theorem Inv.fresh (I:Inv Φ s):¬ Φ.bad s.heap.objs.size:=fun q=>by obtain ⟨o,e⟩:=I.badLive q; rw [size_none] at e; (injection e; done)
theorem Inv.room (I:Inv Φ s):Φ.fx.A.units+100 < cLine:=by have:=I.ok.units; omega
theorem made_list {vs:List Value} {l:List V} {n tk:Nat} (I:Inv Φ s) (r:Φ.rps s.heap vs l):Φ.Gives s (.list l) (.ref s.heap.objs.size) { s with heap:=s.heap.push { cls:=.type "list",data:=.seq vs.toArray n },toks:=tk }:=
  ⟨Grown.push _ _ _,.list I.fresh (Heap.get?_push_size _ rfl) ⟨rfl,rfl⟩ rfl (r.keep (keeps_push _ _))⟩
theorem made_tuple {vs:List Value} {l:List V} {n tk:Nat} (I:Inv Φ s) (r:Φ.rps s.heap vs l):Φ.Gives s (.tuple l) (.ref s.heap.objs.size) { s with heap:=s.heap.push { cls:=.type "tuple",data:=.seq vs.toArray n },toks:=tk }:=
  ⟨Grown.push _ _ _,.tuple I.fresh (Heap.get?_push_size _ rfl) rfl rfl (r.keep (keeps_push _ _))⟩
theorem intMul_ok {a b:Int} (h:b.natAbs≤1000000∨a.natAbs≤1000000):IntMulOk a b:=by
  rcases h with h | h
  · exact .of_right (intBits_le_64 (by omega) (by omega))
  · exact .of_left (intBits_le_64 (by omega) (by omega))
theorem str_eta (x:Str):(⟨x.cps.toList.toArray⟩:Str)=x:=by cases x; simp
theorem Rp.text {g:Gl} {bad:Addr→Prop} {h:Heap} {x:Str} {l:List Nat} {t:Tok} (e:x.cps.toList=l):Rp g bad h (.str x t) (text l):=by
  subst e; unfold Mine.text; rw [str_eta]; exact .str x t
theorem add_str_ok {a b:Str} {t t':Tok} (hz:(a.cps.toList++b.cps.toList).length≤szLine):Φ.wp (binaryOp .Add (.str a t) (.str b t')) (Φ.Gives s (text (a.cps.toList++b.cps.toList))) s:=fun E=>by
  refine P.add_str ?_
  split
  · rename_i h0
    have:a.cps.toList=[]:=List.length_eq_zero_iff.mp (Array.length_toList.trans (eq_of_beq h0))
    exact ⟨.refl _,.text (by rw [this]; rfl)⟩
  · split
    · rename_i h0
      have:b.cps.toList=[]:=List.length_eq_zero_iff.mp (Array.length_toList.trans (eq_of_beq h0))
      exact ⟨.refl _,.text (by rw [this,List.append_nil])⟩
    · refine ⟨?_,.toks _ _,.text Array.toList_append⟩
      refine (?_:(_++_:Array Nat).size≤sizeLine)
      rw [List.length_append,Array.length_toList,Array.length_toList] at hz
      rw [Array.size_append]; exact sz_le hz
theorem add_list_ok {l m:List V} (I:Inv Φ s) (hz:(l++m).length≤szLine) (r1:Φ.rp s.heap v (.list l)) (r2:Φ.rp s.heap u (.list m)):Φ.wp (binaryOp .Add v u) (Φ.Gives s (.list (l++m))) s:=fun E=>by
  refine r1.list_elim fun a1 o1 vs1 n1 _ ha1 hc1 hd1 hl1=>r2.list_elim fun a2 o2 vs2 n2 _ ha2 hc2 hd2 hl2=>?_
  obtain ⟨cls,dd,data,sl⟩:=o1
  obtain ⟨cls2,dd2,data2,sl2⟩:=o2
  obtain ⟨rfl,rfl⟩:=hc1
  obtain ⟨rfl,rfl⟩:=hc2
  subst hd1
  subst hd2
  refine concat_meets ⟨_,ha1,rfl⟩ ⟨_,ha2,rfl⟩ noFill_list_add seq_list_add PySem.F.slot_list_add PySem.F.entry_list_add (PySem.F.args_list_add_2 _ _) (list_addW a1 a2 vs1 vs2 n1 n2 _ _ sl sl2 ?_) ⟨ha1,ha2,?_⟩
  · have:=(hl1.append hl2).length
    rw [List.length_append,Array.length_toList,Array.length_toList] at this
    rw [this]; exact sz_le hz
  · have q:=made_list (n:=0) (tk:=s.toks) I (hl1.append hl2)
    rw [show (vs1.toList++vs2.toList).toArray=vs1++vs2 by simp] at q
    exact q
theorem add_tuple_ok {l m:List V} (I:Inv Φ s) (hz:(l++m).length≤szLine) (r1:Φ.rp s.heap v (.tuple l)) (r2:Φ.rp s.heap u (.tuple m)):Φ.wp (binaryOp .Add v u) (Φ.Gives s (.tuple (l++m))) s:=fun E=>by
  refine Rp.tuple_elim (C:=fun v=>Φ.rp s.heap v (.tuple l)→wpAny (model Φ.fx.g.prog Φ.fx.g.w) Φ.fx.A (binaryOp .Add v u) (Φ.Gives s (.tuple (l++m))) E s) r1 (fun a1 o1 vs1 n1 _ ha1 hc1 hd1 hl1 r1=>?_) r1
  refine Rp.tuple_elim (C:=fun u=>Φ.rp s.heap u (.tuple m)→wpAny (model Φ.fx.g.prog Φ.fx.g.w) Φ.fx.A (binaryOp .Add (.ref a1) u) (Φ.Gives s (.tuple (l++m))) E s) r2 (fun a2 o2 vs2 n2 _ ha2 hc2 hd2 hl2 r2=>?_) r2
  obtain ⟨cls,dd,data,sl⟩:=o1
  obtain ⟨cls2,dd2,data2,sl2⟩:=o2
  subst hc1
  subst hc2
  subst hd1
  subst hd2
  have len:=(hl1.append hl2).length
  replace len:=Array.length_toList▸Array.length_toList▸List.length_append▸len
  by_cases c0:vs1.isEmpty=true
  · have:vs1.toList=[]:=by simpa using c0
    have hl:l=[]:=List.length_eq_zero_iff.mp (by rw [← hl1.length,this]; rfl)
    subst hl
    exact concat_meets ⟨_,ha1,rfl⟩ ⟨_,ha2,rfl⟩ noFill_tuple_add seq_tuple_add PySem.F.slot_tuple_add PySem.F.entry_tuple_add (PySem.F.args_tuple_add_2 _ _) (tuple_addW0 a1 a2 vs1 vs2 n1 n2 dd dd2 sl sl2 c0) ⟨ha1,ha2,.refl _,r2⟩
  · by_cases c1:vs2.isEmpty=true
    · have:vs2.toList=[]:=by simpa using c1
      have hl:m=[]:=List.length_eq_zero_iff.mp (by rw [← hl2.length,this]; rfl)
      subst hl
      rw [List.append_nil]
      exact concat_meets ⟨_,ha1,rfl⟩ ⟨_,ha2,rfl⟩ noFill_tuple_add seq_tuple_add PySem.F.slot_tuple_add PySem.F.entry_tuple_add (PySem.F.args_tuple_add_2 _ _) (tuple_addW1 a1 a2 vs1 vs2 n1 n2 dd dd2 sl sl2 c0 c1) ⟨ha1,ha2,.refl _,r1⟩
    · refine concat_meets ⟨_,ha1,rfl⟩ ⟨_,ha2,rfl⟩ noFill_tuple_add seq_tuple_add PySem.F.slot_tuple_add PySem.F.entry_tuple_add (PySem.F.args_tuple_add_2 _ _) (tuple_addW2 a1 a2 vs1 vs2 n1 n2 dd dd2 sl sl2 c0 c1 (by rw [len]; exact sz_le hz)) ⟨ha1,ha2,?_⟩
      have q:=made_tuple (n:=0) (tk:=s.toks) I (hl1.append hl2)
      rw [show (vs1.toList++vs2.toList).toArray=vs1++vs2 by simp] at q
      exact q
theorem add_ok (e:addO x y=some z) (I:Inv Φ s) (r1:Φ.rp s.heap v x) (r2:Φ.rp s.heap u y):Φ.wp (binaryOp .Add v u) (Φ.Gives s z) s:=by
  cases x with
  | int a=>exact intO_elim (C:=fun y=>Φ.rp s.heap u y→Φ.wp (binaryOp .Add v u) (Φ.Gives s z) s) e (fun b e r2=>some_elim e (r1.int_elim fun t=>r2.int_elim fun t' E=>PyProof.Rows.add_int ⟨.toks _ _,.int _ _⟩)) r2
  | str a=>exact strO_elim (f:=fun b=>fitL (a.cps.toList++b) (text (a.cps.toList++b))) (C:=fun y=>Φ.rp s.heap u y→Φ.wp (binaryOp .Add v u) (Φ.Gives s z) s) e (fun b e r2=>fit_elim e fun q=>r1.str_elim fun t=>r2.str_elim fun t'=>add_str_ok q) r2
  | list l=>exact listO_elim (C:=fun y=>Φ.rp s.heap u y→Φ.wp (binaryOp .Add v u) (Φ.Gives s z) s) e (fun m e r2=>fit_elim e fun q=>add_list_ok I q r1 r2) r2
  | tuple l=>exact tupO_elim (C:=fun y=>Φ.rp s.heap u y→Φ.wp (binaryOp .Add v u) (Φ.Gives s z) s) e (fun m e r2=>fit_elim e fun q=>add_tuple_ok I q r1 r2) r2
  | _=>(injection e; done)
theorem int2_ok {α:Type} {f:Int→Int→Option α} {w:α} {C:Value→Value→Prop} (e:int2 x y f=some w) (r1:Φ.rp s.heap v x) (r2:Φ.rp s.heap u y) (k:∀ i j t t',f i j=some w→C (.int i t) (.int j t')):C v u:=
  intO_elim (C:=fun x=>Φ.rp s.heap v x→C v u) e (fun i e r1=>intO_elim (C:=fun y=>Φ.rp s.heap u y→C v u) e (fun j e r2=>r1.int_elim fun t=>r2.int_elim fun t'=>k i j t t' e) r2) r1
theorem fold_rep (items:Array Value):∀ (n:Nat) (acc:Array Value),(List.foldl (fun a b=>a++b) acc (List.replicate n items)).toList=acc.toList++(List.replicate n items.toList).flatten
  | 0,acc=>by simp
  | n+1,acc=>by
    rw [List.replicate_succ,List.foldl_cons,fold_rep items n,List.replicate_succ,List.flatten_cons,Array.toList_append,List.append_assoc]
theorem RpAll.rep {h:Heap} {vs:List Value} {l:List V} (r:Φ.rps h vs l):∀ n,Φ.rps h (List.replicate n vs).flatten (List.replicate n l).flatten
  | 0=>.nil
  | n+1=>by rw [List.replicate_succ,List.replicate_succ,List.flatten_cons,List.flatten_cons]; exact RpAll.append r (RpAll.rep r n)
theorem mul_list_ok {l:List V} {n:Int} {t:Tok} (I:Inv Φ s) (h0:0≤n) (h1:n < 2 ^ 62) (hz:l.length * n.toNat≤szLine) (r:Φ.rp s.heap v (.list l)):Φ.wp (binaryOp .Mult v (.int n t)) (Φ.Gives s (.list (List.replicate n.toNat l).flatten)) s:=by
  refine r.list_elim fun a o vs k _ ha hc hd hl E=>?_
  obtain ⟨c,dd,dt,sl⟩:=o
  obtain ⟨rfl,rfl⟩:=hc
  subst hd
  have len:vs.size=l.length:=Array.length_toList▸hl.length
  have hz:vs.size * n.toNat≤szLine:=len▸hz
  have hz':vs.size * n.toNat≤2 ^ 20:=hz
  refine wpAny_binaryOp_repeat_ref (T:="list") (U:="int") (by decide) ⟨_,ha,rfl⟩ (fun s'=>typeIs_int s' n t) noFill_list_mul F.fills_int_mul F.slot_int_rmul repeat_list F.slot_int_index.lookup
    (call_meets F.slot_int_rmul (typeIs_int s n t) F.entry_int_rmul (F.args_int_rmul_2 _ _) (lm_int_rmul_list_any n t a vs k none sl)
      ⟨ha,rfl,⟨_,ha,rfl⟩,call_meets F.slot_list_mul ⟨_,ha,rfl⟩ F.entry_list_mul (F.args_list_mul_2 _ _)
        (lm_list_mul_any a vs k none sl n t (by simp [Builtin.List.listFitsIndex]; omega) (by omega) (by simp [Builtin.List.listTooLong,sizeLine]; omega)) ⟨ha,?_⟩⟩)
  have e:(List.foldl (fun x1 x2=>x1++x2) #[] (List.replicate (if vs.isEmpty=true then 0 else n.toNat) vs)).toList=(List.replicate n.toNat vs.toList).flatten:=by
    rw [fold_rep]
    by_cases q:vs.isEmpty=true
    · rw [if_pos q]
      have:vs.toList=[]:=by simpa using q
      rw [this]; simp
    · rw [if_neg q]; rfl
  refine ⟨Grown.push s _ s.toks,.list I.fresh (Heap.get?_push_size _ rfl) ⟨rfl,rfl⟩ rfl ?_⟩
  exact e.symm▸RpAll.keep (RpAll.rep hl _) (keeps_push _ _)
theorem bin_ok {o:Operator} (e:binOp o x y=some z) (I:Inv Φ s) (r1:Φ.rp s.heap v x) (r2:Φ.rp s.heap u y):Φ.wp (binaryOp o v u) (Φ.Gives s z) s:=by
  cases o with
  | Add=>exact add_ok e I r1 r2
  | Sub=>exact int2_ok (C:=fun v u=>Φ.wp (binaryOp .Sub v u) (Φ.Gives s z) s) e r1 r2 fun i j t t' q=>some_elim q fun E=>PyProof.Rows.sub_int ⟨.toks _ _,.int _ _⟩
  | Mult=>
    cases x with
    | list l=>exact intO_elim (C:=fun y=>Φ.rp s.heap u y→Φ.wp (binaryOp .Mult v u) (Φ.Gives s z) s) e (fun n e r2=>if_elim e fun q=>r2.int_elim fun t=>mul_list_ok I q.1 q.2.1 q.2.2 r1) r2
    | int i=>exact int2_ok (x:=.int i) (C:=fun v u=>Φ.wp (binaryOp .Mult v u) (Φ.Gives s z) s) e r1 r2 fun i j t t' q=>if_elim q fun q E=>PyProof.Rows.mul_int ⟨.toks _ _,.int _ _⟩ (intMul_ok q)
    | _=>(injection e; done)
  | FloorDiv=>exact int2_ok (C:=fun v u=>Φ.wp (binaryOp .FloorDiv v u) (Φ.Gives s z) s) e r1 r2 fun i j t t' q=>ifn_elim q fun q E=>floordiv_int (fun z=>q (.inl z)) ⟨.toks _ _,.int _ _⟩ (.inl (PyProof.noPylong_small (by omega)))
  | Mod=>exact int2_ok (C:=fun v u=>Φ.wp (binaryOp .Mod v u) (Φ.Gives s z) s) e r1 r2 fun i j t t' q=>ifn_elim q fun q E=>PyProof.Rows.mod_int q ⟨.toks _ _,.int _ _⟩
  | Pow=>exact int2_ok (C:=fun v u=>Φ.wp (binaryOp .Pow v u) (Φ.Gives s z) s) e r1 r2 fun i j t t' q=>if_elim q fun q E=>(by
        obtain ⟨rfl,rfl⟩:=q
        exact AutoIntOps.pow_4 (by decide) (by decide) (by decide) (by decide) (by decide +kernel) ⟨.toks _ _,.int _ _⟩)
  | _=>(injection e; done)
theorem okd {x:V} (h:okEq x=true):x.canLay0=true∧x.depth≤64:=((Bool.and_eq_true _ _).mp h).imp id of_decide_eq_true
theorem min_ok (I:Inv Φ s) {m n:Nat} (h:n≤64):Φ.fx.A.units+1+min m n < cLine:=by have:=I.room; have:=Nat.min_le_right m n; omega
noncomputable abbrev Is (s:Shared) (c:Bool) (v:Value) (s':Shared):Prop:=s'=s∧v=.bool c
theorem eq_ok (I:Inv Φ s) (q:(okEq x&&okEq y)=true) (r1:Φ.rp s.heap v x) (r2:Φ.rp s.heap u y):Φ.wp (compareOp .Eq v u) (Is s (PyData.eqv x y)) s∧Φ.wp (compareOp .NotEq v u) (Is s (!PyData.eqv x y)) s:=
  have q:=(Bool.and_eq_true _ _).mp q
  have h1:=okd q.1
  have h2:=okd q.2
  (r1.reads h1.1).elim fun _ p1=>(r2.reads h2.1).elim fun _ p2=>have m:=Nat.lt_of_le_of_lt (by omega) (min_ok I (m:=x.depth) h2.2); ⟨fun E=>SeqAt.compareEq_reads p1 p2 h1.1 h2.1 m ⟨rfl,rfl⟩,fun E=>SeqAt.compareNe_reads p1 p2 h1.1 h2.1 m ⟨rfl,rfl⟩⟩
theorem isnot_ok (r:Φ.rp s.heap v x):Φ.wp (compareOp .IsNot v .none) (Is s (!isNone x)) s:=by
  cases r with
  | none=>exact fun E=>isnot_none_gen ⟨rfl,rfl⟩
  | _=>exact fun E=>isnot_none_ne (by intro q; (injection q; done)) ⟨rfl,rfl⟩
theorem in_str_ok {a b:Str} {t t':Tok} {c:Nat} (e:a.cps.toList=[c]):Φ.wp (compareOp .In (.str a t) (.str b t')) (Is s (b.cps.toList.elem c)) s∧Φ.wp (compareOp .NotIn (.str a t) (.str b t')) (Is s (!b.cps.toList.elem c)) s:=by
  have f:(!(Builtin.Str.occurrences b a 0 b.length 1).isEmpty)=b.cps.toList.elem c:=by
    rw [← str_eta a,e,show (⟨[c].toArray⟩:Str)=⟨#[c]⟩ from rfl,StrLaws.found_one]
    rw [Bool.eq_iff_iff]; simp
  exact ⟨fun E=>P.in_str ⟨rfl,by rw [f]⟩,fun E=>P.notIn_str ⟨rfl,by rw [f]⟩⟩
theorem in_ok {c:Bool} (I:Inv Φ s) (e:inO x y=some c) (r1:Φ.rp s.heap v x) (r2:Φ.rp s.heap u y):Φ.wp (compareOp .In v u) (Is s c) s∧Φ.wp (compareOp .NotIn v u) (Is s (!c)) s:=by
  cases y with
  | str b=>
    have e:strO x (fun s=>match s with | [c]=>some (b.cps.toList.elem c) | _=>none)=some c:=e
    refine strO_elim (C:=fun x=>Φ.rp s.heap v x→Φ.wp (compareOp .In v u) (Is s c) s∧Φ.wp (compareOp .NotIn v u) (Is s (!c)) s) e (fun a e r1=>?_) r1
    split at e
    · rename_i d q; exact some_elim e (r1.str_elim fun t=>r2.str_elim fun t'=>in_str_ok q)
    · (injection e; done)
  | list l=>
    refine if_elim e fun q=>?_
    have q:=(Bool.and_eq_true _ _).mp q
    have h1:=okd q.1
    have h2:=okd q.2
    obtain ⟨_,p1⟩:=r1.reads h1.1
    obtain ⟨_,p2⟩:=r2.reads h2.1
    exact ⟨fun E=>SeqAt.in_list_reads p2 p1 h2.1 h1.1 (min_ok I h1.2) ⟨rfl,rfl⟩,fun E=>SeqAt.notIn_list_reads p2 p1 h2.1 h1.1 (min_ok I h1.2) ⟨rfl,rfl⟩⟩
  | _=>(injection e; done)
theorem cmp_ok {o:CmpOp} {c:Bool} (e:cmpOp o x y=some c) (I:Inv Φ s) (r1:Φ.rp s.heap v x) (r2:Φ.rp s.heap u y):Φ.wp (compareOp o v u) (Is s c) s:=by
  cases o with
  | Eq=>
    cases x with
    | dict kvs=>
      cases y with
      | str t=>
        cases kvs with
        | nil=>
          refine r1.edict_elim fun a o n _ ha hx hd=>r2.str_elim fun tk E=>?_
          obtain ⟨c,dd,dt,sl⟩:=o
          obtain ⟨rfl,rfl,rfl⟩:=hx
          subst hd
          (injection e with e; subst e)
          exact rc_dict_str ha (Nat.lt_of_le_of_lt (Nat.le_trans (Nat.le_add_right _ _) (Nat.le_add_right _ 100)) I.ok.units) ⟨rfl,rfl⟩
        | cons=>(injection e; done)
      | _=>(injection e; done)
    | _=>exact if_elim e fun q=>(eq_ok I q r1 r2).1
  | NotEq=>exact map_elim e fun d e=>if_elim (C:=fun d=>Φ.wp (compareOp .NotEq v u) (Is s (!d)) s) e fun q=>(eq_ok I q r1 r2).2
  | Lt=>exact int2_ok (C:=fun v u=>Φ.wp (compareOp .Lt v u) (Is s c) s) e r1 r2 fun i j t t' q=>some_elim q fun E=>P.lt_int ⟨rfl,rfl⟩
  | LtE=>exact int2_ok (C:=fun v u=>Φ.wp (compareOp .LtE v u) (Is s c) s) e r1 r2 fun i j t t' q=>some_elim q fun E=>P.le_int ⟨rfl,rfl⟩
  | Gt=>exact int2_ok (C:=fun v u=>Φ.wp (compareOp .Gt v u) (Is s c) s) e r1 r2 fun i j t t' q=>some_elim q fun E=>P.gt_int ⟨rfl,rfl⟩
  | IsNot=>
    refine if_elim e fun q=>?_
    cases y with
    | none=>exact r2.none_elim (isnot_ok r1)
    | _=>(injection q; done)
  | In=>exact (in_ok I e r1 r2).1
  | NotIn=>exact map_elim e fun d e=>(in_ok I e r1 r2).2
  | _=>(injection e; done)
end
end Mine
end
noncomputable section
namespace Mine
open PySem PySem.Calls PyProof.Rows PySem.W
noncomputable def HasItem (s:Shared) (a:Value):Prop:=∃ T id,s.TypeIs a T∧typeLookup (.type T) "__getitem__"=pure (some (.builtin id))
section
variable {Φ:Ct} {s:Shared} {v u:Value} {x y z:V} {α:Type}
theorem item_elim {l:List α} {f:α→V} {C:Value→Prop} (e:itemO l f y=some z) (r:Φ.rp s.heap u y) (k:∀ i t j w,-(2 ^ 63)≤i→i < 2 ^ 63→(0≤i∧j=i.toNat∨i < 0∧-(l.length:Int)≤i∧j=(i+l.length).toNat)→j < l.length→l[j]?=some w→f w=z→C (.int i t)):C u:=by
  refine intO_elim (C:=fun y=>Φ.rp s.heap u y→C u) e (fun i e r=>?_) r
  refine ifo_elim e fun hz e=>?_
  have hz:l.length≤1048576:=hz
  obtain ⟨w,ew,rfl⟩:=Option.map_eq_some_iff.mp e
  clear e
  refine r.int_elim fun t=>?_
  by_cases h0:0≤i
  · rw [if_pos h0] at ew
    have hj:=(List.getElem?_eq_some_iff.mp ew).1
    exact k i t i.toNat w (by omega) (by omega) (.inl ⟨h0,rfl⟩) hj ew rfl
  · rw [if_neg h0] at ew
    refine ifo_elim ew fun h1 e=>?_
    have hj:=(List.getElem?_eq_some_iff.mp e).1
    exact k i t _ w (by omega) (by omega) (.inr ⟨by omega,by omega,rfl⟩) hj e rfl
theorem index_of {i:Int} {n j:Nat} (h:0≤i∧j=i.toNat∨i < 0∧-(n:Int)≤i∧j=(i+n).toNat) (hj:j < n):seqIndex? i n=some j:=by
  rcases h with ⟨h0,rfl⟩ | ⟨h0,h1,rfl⟩
  · unfold seqIndex?
    rw [if_neg (Int.not_lt.mpr h0)]
    exact if_pos (by rw [decide_eq_true h0,decide_eq_true (show i < (n:Int) by omega)]; rfl)
  · exact seqIndex_neg h0 h1
theorem get_arr {vs:Array Value} {n:Nat} {v:Value} (h:vs.toList[n]?=some v):vs[n]?=some v:=by rw [Array.getElem?_toList] at h; exact h
theorem sub_ok (e:subOp x y=some z) (r1:Φ.rp s.heap v x) (r2:Φ.rp s.heap u y):HasItem s v∧Φ.wp (getItem v u) (Φ.Gives s z) s:=by
  cases x with
  | list l=>
    refine r1.list_elim fun a o vs n _ ha hc hd hl=>?_
    have hL:s.heap.IsList a vs:=⟨_,ha,hc.1,_,hd⟩
    have len:vs.size=l.length:=Array.length_toList▸hl.length
    refine ⟨⟨_,_,hL.typeIs,slot_list_getitem.lookup⟩,item_elim (C:=fun u=>Φ.wp (getItem (.ref a) u) (Φ.Gives s z) s) e r2 fun i t j w h1 h2 h3 hj ew ez=>?_⟩
    obtain ⟨q,eq,rq⟩:=hl.get ew
    subst ez
    rcases h3 with ⟨h0,rfl⟩ | ⟨h0,h4,rfl⟩
    · exact fun E=>wpAny_getItem_list hL h0 h2 (get_arr eq) ⟨.refl _,rq⟩
    · exact fun E=>wpAny_getItem_list_neg hL h0 (by rw [len]; exact h4) h1 (by rw [len]; exact get_arr eq) ⟨.refl _,rq⟩
  | tuple l=>
    refine r1.tuple_elim fun a o vs n _ ha hc hd hl=>?_
    have hL:IsTup s.heap a vs:=⟨_,ha,hc,_,hd⟩
    have len:vs.size=l.length:=Array.length_toList▸hl.length
    refine ⟨⟨_,_,hL.typeIs,slot_tuple_getitem.lookup⟩,item_elim (C:=fun u=>Φ.wp (getItem (.ref a) u) (Φ.Gives s z) s) e r2 fun i t j w h1 h2 h3 hj ew ez=>?_⟩
    obtain ⟨q,eq,rq⟩:=hl.get ew
    subst ez
    exact fun E=>getItem_tuple hL h1 h2 (by rw [len]; exact index_of h3 hj) (get_arr eq) ⟨.refl _,rq⟩
  | str a=>
    refine r1.str_elim fun t0=>⟨⟨_,_,typeIs_str _ _ _,PySem.F.slot_str_getitem.lookup⟩,item_elim (C:=fun u=>Φ.wp (getItem (.str a t0) u) (Φ.Gives s z) s) e r2 fun i t j w h1 h2 h3 hj ew ez=>?_⟩
    subst ez
    refine fun E=>P.getItem_str (c:=w) ?_ ?_ ⟨.toks _ _,.text rfl⟩
    · rw [decide_eq_false (Int.not_lt.mpr h1),decide_eq_false (Int.not_le.mpr h2)]; rfl
    · have hn:a.cps.toList.length=a.length:=Array.length_toList
      rw [show seqIndex? i a.length=some j from hn▸index_of h3 hj]
      rw [Array.getElem?_toList] at ew; exact ew
  | _=>(injection e; done)
noncomputable def endI (d n:Nat):Option Int→Nat
  | none=>d
  | some i=>if 0≤i then min i.toNat n else (i+n).toNat
noncomputable def RpO (Φ:Ct) (h:Heap) (v:Value) (y:Option V):Prop:=match y with
  | none=>v=.none
  | some x=>Φ.rp h v x
theorem end_elim {d n i:Nat} {y:Option V} {C:Value→Prop} (e:endO d n y=some i) (r:RpO Φ s.heap v y) (k:∀ p:Option (Int×Tok),endI d n (p.map (·.1))=i→C (partValue p)):C v:=by
  cases y with
  | none=>subst r; (injection e with e; subst e); exact k none rfl
  | some x=>exact intO_elim (C:=fun x=>Φ.rp s.heap v x→C v) e (fun i e r=>r.int_elim fun t=>k (some (i,t)) (Option.some.inj e)) r
theorem part_of (p:Option (Int×Tok)):IsPart (partValue p) (p.map (·.1)):=by
  cases p with
  | none=>exact .none
  | some q=>exact .int _ _
theorem add_le_n {n:Nat} {i:Int} (h:i < 0):i+(n:Int)≤n:=Int.le_trans (Int.add_le_add_right (Int.le_of_lt h) n) (Int.le_of_eq (Int.zero_add _))
theorem endI_le {d n:Nat} (h:d≤n) (p:Option Int):endI d n p≤n:=by
  cases p with
  | none=>exact h
  | some i=>
    refine (?_:(if 0≤i then min i.toNat n else (i+n).toNat)≤n)
    by_cases c:0≤i
    · rw [if_pos c]; exact Nat.min_le_right _ _
    · rw [if_neg c]; exact Int.toNat_le.mpr (add_le_n (Int.not_le.mp c))
theorem end_nat {n:Nat} (i:Int):(if i < 0 then max (i+(n:Int)) 0 else min i n)=((endI 0 n (some i):Nat):Int):=by
  refine (?_:_=(((if 0≤i then min i.toNat n else (i+n).toNat):Nat):Int))
  by_cases h:0≤i
  · rw [if_pos h,if_neg (Int.not_lt.mpr h),Lean.Omega.Int.ofNat_min,Int.toNat_of_nonneg h]
  · rw [if_neg h,if_pos (Int.not_le.mp h),Int.ofNat_toNat]
theorem clamp {n:Nat} (i:Int):max 0 (min (if i < 0 then i+(n:Int) else i) (n:Int))=((endI 0 n (some i):Nat):Int):=by
  rw [← end_nat]
  by_cases h:i < 0
  · rw [if_pos h,if_pos h,Int.min_eq_left (add_le_n h),Int.max_comm]
  · rw [if_neg h,if_neg h,Int.max_eq_right (Int.le_min.mpr ⟨Int.not_lt.mp h,Int.natCast_nonneg n⟩)]
theorem clamp' {d n:Nat} (h:d≤n):((d:Nat):Int)=max 0 (min (if (d:Int) < 0 then (d:Int)+(n:Int) else (d:Int)) (n:Int)):=by
  rw [if_neg (Int.not_lt.mpr (Int.natCast_nonneg d)),Int.min_eq_left (Int.ofNat_le.mpr h),Int.max_eq_right (Int.natCast_nonneg d)]
theorem range2 {a b c d:Int} (h:a=c) (k:b=d):sliceRange a b 1=sliceRange c d 1:=by rw [h,k]
theorem range_one {lo hi:Option Int} {n i j:Nat} (h1:endI 0 n lo=i) (h2:endI n n hi=j) (hle:i≤j):Builtin.Str.strSliceIndices lo hi 1 n=(List.range (j - i)).map (i + ·):=by
  have hj:j≤n:=h2▸endI_le (Nat.le_refl n) hi
  refine Eq.trans ?_ (StrLaws.strSliceIndices_plain (len:=n) hle hj)
  cases lo with
  | none=>cases hi with
    | none=>have h1:0=i:=h1; subst h1; have h2:n=j:=h2; subst h2; exact range2 (clamp' (d:=0) (n:=n) (Nat.zero_le n)) (clamp' (Nat.le_refl n))
    | some b=>have h1:0=i:=h1; subst h1; exact range2 (clamp' (d:=0) (n:=n) (Nat.zero_le n)) ((clamp b).trans ((congrArg _ h2).trans (clamp' hj)))
  | some a=>
    have ea:=(clamp (n:=n) a).trans ((congrArg _ h1).trans (clamp' (Nat.le_trans hle hj)))
    cases hi with
    | none=>have h2:n=j:=h2; subst h2; exact range2 ea (clamp' (Nat.le_refl n))
    | some b=>exact range2 ea ((clamp b).trans ((congrArg _ h2).trans (clamp' hj)))
theorem picks_eq {xs:Array α} {i j:Nat} (hle:i≤j) (hj:j≤xs.size):((List.range (j - i)).map (i + ·)).filterMap (xs[·]?)=(xs.toList.drop i).take (j - i):=by
  rw [← StrLaws.picks xs.toList (j - i) i (by rw [Array.length_toList]; omega)]
  exact congrArg (List.filterMap · _) (funext fun k=>(Array.getElem?_toList).symm)
theorem cut_elim {l:List α} {f:List α→V} {lo hi:Option V} {C:V→Prop} (e:cutO f l lo hi=some z) (k:∀ i j,l.length≤szLine→endO 0 l.length lo=some i→endO l.length l.length hi=some j→i≤j→C (f ((l.drop i).take (j - i)))):C z:=
  ifo_elim e fun hz e=>(Option.bind_eq_some_iff.mp e).elim fun i ⟨h1,e⟩=>(Option.bind_eq_some_iff.mp e).elim fun j ⟨h2,e⟩=>if_elim e fun hle=>k i j hz h1 h2 hle
theorem slice_list_ok {l:List V} {lo hi:Option V} {vl vu:Value} {sl:Addr} (I:Inv Φ s) (e:cutO PyData.list l lo hi=some z) (r:Φ.rp s.heap v (.list l)) (rl:RpO Φ s.heap vl lo) (ru:RpO Φ s.heap vu hi) (hs:s.heap.IsSliceOf sl vl vu .none) :
    HasItem s v∧Φ.wp (getItem v (.ref sl)) (Φ.Gives s z) s:=by
  refine r.list_elim fun a o vs n _ ha hc hd hl=>?_
  have hL:s.heap.IsList a vs:=⟨_,ha,hc.1,_,hd⟩
  have len:vs.size=l.length:=Array.length_toList▸hl.length
  refine ⟨⟨_,_,hL.typeIs,slot_list_getitem.lookup⟩,cut_elim (C:=fun z=>Φ.wp (getItem (.ref a) (.ref sl)) (Φ.Gives s z) s) e fun i j hz h1 h2 hle=>?_⟩
  refine end_elim (C:=fun vl=>s.heap.IsSliceOf sl vl vu .none→_) h1 rl (fun p hp hs=>?_) hs
  refine end_elim (C:=fun vu=>s.heap.IsSliceOf sl (partValue p) vu .none→_) h2 ru (fun q hq hs=>?_) hs
  refine fun E=>wpAny_getItem_list_slice hL hs (part_of p) (part_of q) .none (fun q=>nomatch q) ?_ (by rw [len]; exact sz_le hz)
  have:slicePick vs (p.map (·.1)) (q.map (·.1)) none=((vs.toList.drop i).take (j - i)).toArray:=by
    refine congrArg List.toArray ?_
    refine (?_:(Builtin.Str.strSliceIndices _ _ 1 vs.size).filterMap (vs[·]?)=_)
    rw [len,range_one hp hq hle,picks_eq hle (by rw [len,← hq]; exact endI_le (Nat.le_refl _) _)]
  rw [this]
  exact made_list (tk:=s.toks) I ((hl.drop _).take _)
theorem adjust_eq {n i j:Nat} {lo hi:Option Int} (h1:endI 0 n lo=i) (h2:endI n n hi=j):Builtin.Slice.sliceAdjust lo hi 1 (n:Int)=((i:Int),(j:Int)):=by
  have c:=fun a:Int=>end_nat (n:=n) a
  unfold Builtin.Slice.sliceAdjust
  cases lo <;> cases hi
  · subst h1; subst h2; rfl
  · subst h1; exact Prod.ext rfl ((c _).trans (congrArg _ h2))
  · subst h2; exact Prod.ext ((c _).trans (congrArg _ h1)) rfl
  · exact Prod.ext ((c _).trans (congrArg _ h1)) ((c _).trans (congrArg _ h2))
theorem places_eq {i j:Nat} (h:i≤j):Builtin.Slice.slicePlaces (i:Int) (j:Int) 1=j - i:=by
  unfold Builtin.Slice.slicePlaces
  rw [if_pos (by decide),Int.ediv_one,Int.sub_add_cancel,← Int.ofNat_sub h]
  by_cases c:(i:Int) < j
  · rw [if_pos c]; rfl
  · rw [if_neg c,Nat.sub_eq_zero_of_le (Int.ofNat_le.mp (Int.not_lt.mp c))]; rfl
theorem applied_ok {A:Around} {prog:Program} {w:World} {E:Value→Shared→Prop} {sl:Addr} {n i j:Nat} {p q:Option (Int×Tok)} {Q:Int×Int×Nat→Shared→Prop} (hs:s.heap.IsSliceOf sl (partValue p) (partValue q) .none) (h1:endI 0 n (p.map (·.1))=i) (h2:endI n n (q.map (·.1))=j) (hle:i≤j)
    (h:Q ((i:Int),1,j - i) s):wpAny (model prog w) A (Builtin.Slice.sliceApplied (.ref sl) (pure (n:Int))) Q E s:=by
  obtain ⟨os,hos,hcs,hds⟩:=id hs
  have part:∀ (p:Option (Int×Tok)) {Q:Option Int→Shared→Prop},Q (p.map (·.1)) s→wpAny (model prog w) A (Builtin.Slice.slicePartIndex (partValue p)) Q E s:=fun p Q h=>by
    cases p with
    | none=>exact slicePart_none h
    | some q=>exact slicePart_int h
  unfold Builtin.Slice.sliceApplied Builtin.Slice.sliceFields
  refine wpAny_bind (wpAny_bind (wpAny_field hos hds (x:=partValue p) rfl (wpAny_bind (wpAny_field hos hds (x:=partValue q) rfl (wpAny_bind (wpAny_field hos hds (x:=.none) rfl (wpAny_pure ?_)))))))
  refine wpAny_bind (slicePart_none ?_)
  refine (?_:wpAny _ _ (if ((1:Int)==0)=true then _ else _) _ _ s)
  rw [if_neg (by decide)]
  refine wpAny_bind (part p (wpAny_bind (part q (wpAny_bind (wpAny_pure ?_)))))
  refine (?_:wpAny _ _ (match Builtin.Slice.sliceAdjust (p.map (·.1)) (q.map (·.1)) 1 (n:Int) with | (lo,hi)=>pure (lo,(1:Int),Builtin.Slice.slicePlaces lo hi 1)) _ _ s)
  rw [adjust_eq h1 h2]
  refine (?_:wpAny _ _ (pure ((i:Int),(1:Int),Builtin.Slice.slicePlaces (i:Int) (j:Int) 1)) _ _ s)
  rw [places_eq hle]
  exact wpAny_pure h
theorem slice_tuple_ok {l:List V} {lo hi:Option V} {vl vu:Value} {sl:Addr} (I:Inv Φ s) (e:cutO PyData.tuple l lo hi=some z) (r:Φ.rp s.heap v (.tuple l)) (rl:RpO Φ s.heap vl lo) (ru:RpO Φ s.heap vu hi) (hs:s.heap.IsSliceOf sl vl vu .none) :
    HasItem s v∧Φ.wp (getItem v (.ref sl)) (Φ.Gives s z) s:=by
  refine r.tuple_elim fun a o vs n hb ha hc hd hl=>?_
  have r:Φ.rp s.heap (.ref a) (.tuple l):=.tuple hb ha hc hd hl
  have ht:IsTup s.heap a vs:=⟨_,ha,hc,_,hd⟩
  have len:vs.size=l.length:=Array.length_toList▸hl.length
  refine ⟨⟨_,_,ht.typeIs,slot_tuple_getitem.lookup⟩,cut_elim (C:=fun z=>Φ.wp (getItem (.ref a) (.ref sl)) (Φ.Gives s z) s) e fun i j hz h1 h2 hle=>?_⟩
  refine end_elim (C:=fun vl=>s.heap.IsSliceOf sl vl vu .none→_) h1 rl (fun p hp hs=>?_) hs
  refine end_elim (C:=fun vu=>s.heap.IsSliceOf sl (partValue p) vu .none→_) h2 ru (fun q hq hs=>?_) hs
  intro E
  have hj:j≤vs.size:=by rw [len,← hq]; exact endI_le (Nat.le_refl _) _
  obtain ⟨os,hos,hcs,hds⟩:=id hs
  have hTs:s.TypeIs (.ref sl) "slice":=⟨os,hos,hcs⟩
  unfold getItem
  refine wpAny_holding ?_
  refine wpAny_bind (wpAny_sequenceKey ht.typeIs (by decide) ?_)
  refine wpAny_bind (wpAny_callSpecial?_slot (name:=Str.ofString "__getitem__") ht.typeIs slot_tuple_getitem (wpAny_call_entry slot_tuple_getitem ht.typeIs entry_tuple_getitem ?_ (args_tuple_getitem _ _)))
  refine (?_:wpAny _ _ (Builtin.Tuple.tupleItemsOf (.ref a) >>= _) _ _ s)
  refine wpAny_bind (tupleItemsOf_ ht ?_)
  refine wpAny_bind (wpAny_typeOf hTs ?_)
  rw [if_pos (by decide)]
  rw [← len] at hp hq
  refine wpAny_bind (applied_ok hs hp hq hle ?_)
  refine (?_:wpAny _ _ (if ((i:Int)==0&&(1:Int)==1&&(j - i)==vs.size)=true then _ else _) _ _ s)
  by_cases c:((i:Int)==0&&(1:Int)==1&&(j - i)==vs.size)=true
  · rw [if_pos c]
    have c:=(Bool.and_eq_true _ _).mp c
    have c1:(i:Int)=0:=eq_of_beq ((Bool.and_eq_true _ _).mp c.1).1
    have c2:j - i=vs.size:=eq_of_beq c.2
    have i0:i=0:=by omega
    subst i0
    rw [c2,len,List.drop_zero,List.take_length]
    refine wpAny_bind (wpAny_bind (wpAny_typeOf ht.typeIs (wpAny_pure ?_)))
    exact wpAny_bind (wpAny_rule (wpAny_pure ⟨_,rfl,wpAny_pure ⟨.refl _,r⟩⟩))
  · rw [if_neg c]
    have ep:(List.range (j - i)).filterMap (fun (k:Nat)=>vs[((i:Int)+(k:Int) * 1).toNat]?)=(vs.toList.drop i).take (j - i):=by
      rw [← picks_eq hle hj,List.filterMap_map]
      exact congrArg (List.filterMap · _) (funext fun k=>by refine (?_:vs[((i:Int)+(k:Int) * 1).toNat]?=vs[i+k]?); congr 1; omega)
    refine (?_:wpAny _ _ (Builtin.Tuple.tupleExact ((List.range (j - i)).filterMap (fun (k:Nat)=>vs[((i:Int)+(k:Int) * 1).toNat]?)).toArray >>= _) _ _ _)
    rw [ep]
    refine wpAny_bind (m:=Builtin.Tuple.tupleExact _) (wpAny_newObj_type (wpAny_pure ⟨_,rfl,wpAny_pure (made_tuple (tk:=s.toks) I ((hl.drop _).take _))⟩) ?_)
    refine (?_:(List.toArray _).size≤sizeLine)
    rw [List.size_toArray]
    exact Nat.le_trans (List.length_take_le' ..) (Nat.le_trans (by rw [List.length_drop]; exact Nat.sub_le ..) (sz_le (hl.length▸hz)))
theorem slice_str_ok {t:Str} {lo hi:Option V} {vl vu:Value} {sl:Addr} (e:cutO text t.cps.toList lo hi=some z) (r:Φ.rp s.heap v (.str t)) (rl:RpO Φ s.heap vl lo) (ru:RpO Φ s.heap vu hi) (hs:s.heap.IsSliceOf sl vl vu .none) :
    HasItem s v∧Φ.wp (getItem v (.ref sl)) (Φ.Gives s z) s:=by
  refine r.str_elim fun tk=>?_
  refine ⟨⟨_,_,typeIs_str _ _ _,PySem.F.slot_str_getitem.lookup⟩,cut_elim (C:=fun z=>Φ.wp (getItem (.str t tk) (.ref sl)) (Φ.Gives s z) s) e fun i j hz h1 h2 hle=>?_⟩
  refine end_elim (C:=fun vl=>s.heap.IsSliceOf sl vl vu .none→_) h1 rl (fun p hp hs=>?_) hs
  refine end_elim (C:=fun vu=>s.heap.IsSliceOf sl (partValue p) vu .none→_) h2 ru (fun q hq hs=>?_) hs
  rw [Array.length_toList] at hp hq
  have hj:j≤t.cps.size:=hq▸endI_le (Nat.le_refl _) _
  refine fun E=>wpAny_getItem_str_slice (l:=p) (u:=q) (st:=none) hs rfl ?_
  unfold sliceMade
  have e3:slicePicked t p q none=(List.range (j - i)).map (i + ·):=range_one hp hq hle
  rw [e3]
  split
  · rename_i hf
    have hf:=eq_of_beq ((Bool.and_eq_true _ _).mp hf).2
    rw [List.length_map,List.length_range] at hf
    have hf:j - i=t.cps.size:=hf
    refine ⟨.refl _,.text ?_⟩
    rw [hf,show i=0 by omega,List.drop_zero,← Array.length_toList,List.take_length]
  · rw [picks_eq hle hj]
    refine ⟨?_,.toks _ _,.text rfl⟩
    show (List.toArray _).size≤sizeLine
    rw [List.size_toArray]
    exact Nat.le_trans (List.length_take_le' ..) (Nat.le_trans (by rw [List.length_drop]; exact Nat.sub_le ..) (sz_le hz))
theorem slice_ok {lo hi:Option V} {vl vu:Value} {sl:Addr} (I:Inv Φ s) (e:sliceOp x lo hi=some z) (r:Φ.rp s.heap v x) (rl:RpO Φ s.heap vl lo) (ru:RpO Φ s.heap vu hi) (hs:s.heap.IsSliceOf sl vl vu .none) :
    HasItem s v∧Φ.wp (getItem v (.ref sl)) (Φ.Gives s z) s:=by
  cases x with
  | list l=>exact slice_list_ok I e r rl ru hs
  | tuple l=>exact slice_tuple_ok I e r rl ru hs
  | str t=>exact slice_str_ok e r rl ru hs
  | _=>(injection e; done)
end
end Mine
end
noncomputable section
namespace Mine
open PySem PySem.Calls PyProof.Rows PySem.W
noncomputable abbrev DV:=(V→Prop)→Prop
section
variable {Φ:Ct} {s:Shared} {d d1 d2 d3:DV}
theorem ev_two {l:Sem Value} {r:Value→Sem Value} {t:Value→Value→Sem Value} {op:V→V→Option V} (h1:Ev Φ l d1) (h2:∀ v,Ev Φ (r v) d2)
    (st:∀ s v u x y z,Inv Φ s→Φ.rp s.heap v x→Φ.rp s.heap u y→op x y=some z→Φ.wp (t v u) (Φ.Gives s z) s):Ev Φ (do let v ← l; let u ← r v; t v u) (fun K=>d1 fun x=>d2 fun y=>okK (op x y) K):=fun K s hd I=>
  h1.bind hd I fun v x s₁ I₁ k₁ hx r1=>(h2 v).bind hx I₁ fun u y s₂ I₂ k₂ hy r2=>okK_elim hy fun z e kz=>step I₂ kz (st s₂ v u x y z I₂ (r1.keep k₂) r2 e)
theorem ev_bin {o:Operator} {l r:Expr} {pos:Pos} (h1:Ev Φ (eval l Φ.fx.env) d1) (h2:Ev Φ (eval r Φ.fx.env) d2):Ev Φ (eval (.BinOp l o r pos) Φ.fx.env) (fun K=>d1 fun x=>d2 fun y=>okK (binOp o x y) K):=by
  rw [eval_BinOp]
  exact ev_two (op:=binOp o) h1 (fun v=>h2.holding) fun s v u x y z I r1 r2 e=>wp_stand (wp_operate (bin_ok e I r1 r2))
theorem not_marked {o:CmpOp} {e:Expr} {t:Sem Value} (h:notSet e=true):markedBehindIn o e t=t:=markedBehindIn_of_false (by cases e <;> first | rfl | exact nomatch h)
theorem ev_cmp {o:CmpOp} {l r:Expr} {pos:Pos} (hs:notSet r=true) (h1:Ev Φ (eval l Φ.fx.env) d1) (h2:Ev Φ (eval r Φ.fx.env) d2):Ev Φ (eval (.Compare l [o] [r] pos) Φ.fx.env) (fun K=>d1 fun x=>d2 fun y=>okK (cmpOp o x y) fun b=>K (.bool b)):=fun K s hd I=>by
  rw [eval_Compare1,not_marked hs]
  exact h1.bind hd I fun v x s₁ I₁ k₁ hx r1=>h2.holding.bind hx I₁ fun u y s₂ I₂ k₂ hy r2=>okK_elim hy fun c e kc=>wp_stand (wp_operate fun E=>wpAny_mono (cmp_ok e I₂ (r1.keep k₂) r2 E) (fun w s' q=>by obtain ⟨rfl,rfl⟩:=q; exact ⟨I₂.base,.refl _,_,kc,.bool c⟩) fun _ _ z=>z)
theorem truth_ok {v:Value} {y:V} {b:Bool} {Q:Bool→Shared→Prop} (e:boolO y some=some b) (r:Φ.rp s.heap v y) (h:Q b s):Φ.wp (truthy v) Q s:=
  boolO_elim (C:=fun y=>Φ.rp s.heap v y→Φ.wp (truthy v) Q s) e (fun c e r=>r.bool_elim fun E=>wpAny_truthy_bool (Option.some.inj e▸h)) r
noncomputable abbrev tst (d:DV):(Bool→Prop)→Prop:=fun K=>d fun y=>okK (boolO y some) K
theorem ev_test {x:Expr} (h:Ev Φ (eval x Φ.fx.env) d) (hx:isTrue x Φ.fx.env (eval x Φ.fx.env)=(do let v ← eval x Φ.fx.env; standAt x.pos; holding [v] (truthy v))):EvT Φ (isTrue x Φ.fx.env (eval x Φ.fx.env)) (tst d):=fun K s hd I=>by
  rw [hx]
  exact h.bind hd I fun v y s₁ I₁ k₁ hy r=>okK_elim hy fun b e kb=>wp_stand fun E=>wpAny_holding (truth_ok (Q:=Post Φ (fun _=>Eq) s₁ K) e r ⟨I₁.base,.refl _,b,kb,rfl⟩ E)
theorem test_cmp {o:CmpOp} {l r:Expr} {pos:Pos} {w:Sem Value} (hs:notSet r=true) (h1:Ev Φ (eval l Φ.fx.env) d1) (h2:Ev Φ (eval r Φ.fx.env) d2):EvT Φ (isTrue (.Compare l [o] [r] pos) Φ.fx.env w) (fun K=>d1 fun x=>d2 fun y=>okK (cmpOp o x y) K):=fun K s hd I=>by
  have e:isTrue (.Compare l [o] [r] pos) Φ.fx.env w=(eval (.Compare l [o] [r] pos) Φ.fx.env >>= fun c=>holding [c] (truthy c)):=by
    rw [isTrue_Compare1,eval_Compare1]; simp only [bind_assoc]
  rw [e]
  exact (ev_cmp hs h1 h2).bind (K₁:=fun y=>okK (boolO y some) K) hd I fun v y s₁ I₁ k₁ hy r=>okK_elim hy fun b e kb=>fun E=>wpAny_holding (truth_ok (Q:=Post Φ (fun _=>Eq) s₁ K) e r ⟨I₁.base,.refl _,b,kb,rfl⟩ E)
theorem ev_not {x:Expr} {pos:Pos} (h:Ev Φ (eval x Φ.fx.env) d):Ev Φ (eval (.UnaryOp .Not x pos) Φ.fx.env) (fun K=>d fun y=>okK (boolO y some) fun b=>K (.bool (!b))):=fun K s hd I=>by
  rw [arm_eval_UnaryOp]
  refine h.bind hd I fun v y s₁ I₁ k₁ hy r=>wp_stand fun E=>wpAny_holding ?_
  refine (?_:wpAny _ _ (holding [v] (truthy v >>= fun t=>pure (Value.bool (!t)))) _ _ _)
  exact okK_elim hy fun b e kb=>wpAny_holding (wpAny_bind (truth_ok e r (wpAny_pure ⟨I₁.base,.refl _,_,kb,.bool _⟩) E))
theorem test_not {x:Expr} {pos:Pos} {w:Sem Value} (h:EvT Φ (isTrue x Φ.fx.env (eval x Φ.fx.env)) (tst d)):EvT Φ (isTrue (.UnaryOp .Not x pos) Φ.fx.env w) (fun K=>d fun y=>okK (boolO y some) fun b=>K (!b)):=fun K s hd I=>by
  rw [arm_isTrue_UnaryOp]
  exact h.bind (K₁:=fun b=>K (!b)) hd I fun t b s₁ I₁ k₁ hb e=>EvR.pure I₁ hb (e▸rfl)
theorem ev_neg {x:Expr} {pos:Pos} (h:Ev Φ (eval x Φ.fx.env) d):Ev Φ (eval (.UnaryOp .USub x pos) Φ.fx.env) (fun K=>d fun y=>okK (intO y fun i=>some (.int (-i))) K):=fun K s hd I=>by
  rw [arm_eval_UnaryOp]
  refine h.bind hd I fun v y s₁ I₁ k₁ hy r=>wp_stand ?_
  refine okK_elim hy fun z e kz=>step I₁ kz fun E=>wpAny_holding ?_
  exact intO_elim (C:=fun y=>Φ.rp s₁.heap v y→wpAny _ _ _ _ _ s₁) e (fun i e r=>r.int_elim fun t=>neg_int ⟨.toks _ _,Option.some.inj e▸.int _ _⟩) r
theorem ev_ite {c a b:Expr} {pos:Pos} (hc:EvT Φ (isTrue c Φ.fx.env (eval c Φ.fx.env)) (tst d1)) (ha:Ev Φ (eval a Φ.fx.env) d2) (hb:Ev Φ (eval b Φ.fx.env) d3) :
    Ev Φ (eval (.IfExp c a b pos) Φ.fx.env) (fun K=>d1 fun x=>okK (boolO x some) fun t=>if t=true then d2 K else d3 K):=fun K s hd I=>by
  rw [arm_eval_IfExp]
  refine hc.bind (K₁:=fun t=>if t=true then d2 K else d3 K) hd I fun t t' s₁ I₁ k₁ hk e=>?_
  subst e
  cases t with
  | true=>exact ha K s₁ hk I₁
  | false=>exact hb K s₁ hk I₁
theorem test_ite {c a b:Expr} {pos:Pos} {w:Sem Value} (hc:EvT Φ (isTrue c Φ.fx.env (eval c Φ.fx.env)) (tst d1)) (ha:EvT Φ (isTrue a Φ.fx.env (eval a Φ.fx.env)) (tst d2)) (hb:EvT Φ (isTrue b Φ.fx.env (eval b Φ.fx.env)) (tst d3)) :
    EvT Φ (isTrue (.IfExp c a b pos) Φ.fx.env w) (tst fun K=>d1 fun x=>okK (boolO x some) fun t=>if t=true then d2 K else d3 K):=fun K s hd I=>by
  rw [arm_isTrue_IfExp]
  refine hc.bind (K₁:=fun t=>if t=true then tst d2 K else tst d3 K) hd I fun t t' s₁ I₁ k₁ hk e=>?_
  subst e
  cases t with
  | true=>exact ha K s₁ hk I₁
  | false=>exact hb K s₁ hk I₁
noncomputable abbrev bop:Bool→BoolOp
  | true=>.And
  | false=>.Or
noncomputable abbrev alls (b:Bool) (ds:List DV):(Bool→Prop)→Prop:=boolsD b (ds.map fun d _=>d) []
theorem test_nil {b:Bool}:EvT Φ (allTrue (bop b) [] Φ.fx.env) (alls b []):=fun K s hd I=>by
  rw [arm_allTrue_nil]
  cases b <;> exact EvR.pure I hd rfl
theorem test_cons {b:Bool} {x:Expr} {r:List Expr} {ds:List DV} (h:EvT Φ (isTrue x Φ.fx.env (eval x Φ.fx.env)) (tst d)) (hr:EvT Φ (allTrue (bop b) r Φ.fx.env) (alls b ds)):EvT Φ (allTrue (bop b) (x :: r) Φ.fx.env) (alls b (d :: ds)):=fun K s hd I=>by
  rw [arm_allTrue_cons]
  refine h.bind (K₁:=fun c=>if c=b then alls b ds K else K c) hd I fun t c s₁ I₁ k₁ hk e=>?_
  subst e
  cases b <;> cases t
  · exact hr K s₁ hk I₁
  · exact EvR.pure I₁ hk rfl
  · exact EvR.pure I₁ hk rfl
  · exact hr K s₁ hk I₁
noncomputable abbrev Good1 (Φ:Ct) (q:Expr×DV):Prop:=Ev Φ (eval q.1 Φ.fx.env) q.2
theorem bool_last {b:Bool} {v:Value} {y:V} {K:V→Prop} {h:Heap} (hy:okK (boolO y some) fun c=>if c=b then K (.bool b) else K (.bool c)) (r:Φ.rp h v y):K y:=
  okK_elim hy fun c e kc=>boolO_elim (C:=fun y=>K y) e fun c' e=>by
    cases e
    by_cases q:c=b
    · rw [if_pos q] at kc; rw [q]; exact kc
    · rw [if_neg q] at kc; exact kc
theorem ev_bools {b:Bool} {pos:Pos}:∀ {qs:List (Expr×DV)},(∀ q∈qs,Good1 Φ q)→qs≠[]→Ev Φ (boolOp pos (bop b) (qs.map fun q=>eval q.1 Φ.fx.env)) (fun K=>alls b (qs.map Prod.snd) fun c=>K (.bool c))
  | [],_,h=>absurd rfl h
  | [q],h,_=>fun K s hd I E=>by
    have e:boolOp pos (bop b) ([q].map fun q=>eval q.1 Φ.fx.env)=eval q.1 Φ.fx.env:=by cases b <;> rfl
    exact e.symm▸wpAny_mono (h q (.head _) (fun y=>okK (boolO y some) fun c=>if c=b then K (.bool b) else K (.bool c)) s hd I E) (fun v s' ⟨B,k,y,hy,r⟩=>⟨B,k,y,bool_last hy r,r⟩) fun _ _ z=>z
  | q :: q' :: r,h,_=>fun K s hd I=>by
    have hr:=ev_bools (b:=b) (pos:=pos) (qs:=q' :: r) (fun x m=>h x (.tail _ m)) (by simp)
    have go:∀ t u (l:List (Sem Value)),boolOp pos (bop b) (t :: u :: l)=(do let v ← t; standAt pos; let c ← holding [v] (truthy v); if c=b then boolOp pos (bop b) (u :: l) else pure v):=fun t u l=>by
      cases b <;> exact bind_congr fun v=>bind_congr fun _=>bind_congr fun c=>by cases c <;> rfl
    rw [List.map_cons,List.map_cons,go]
    refine (h q (.head _)).bind (K₁:=fun y=>okK (boolO y some) fun c=>if c=b then alls b ((q' :: r).map Prod.snd) (fun c=>K (.bool c)) else K (.bool c)) hd I fun v y s₁ I₁ k₁ hy rp=>wp_stand ?_
    refine okK_elim hy fun c e kc E=>wpAny_bind (wpAny_holding (truth_ok e rp ?_ E))
    by_cases qc:c=b
    · rw [if_pos qc] at kc ⊢
      exact hr K s₁ kc I₁ E
    · rw [if_neg qc] at kc ⊢
      exact wpAny_pure ⟨I₁.base,.refl _,_,kc,boolO_elim (C:=fun y=>Φ.rp s₁.heap v y→Φ.rp s₁.heap v (.bool c)) e (fun c' e r=>by (injection e with e; subst e); exact r) rp⟩
theorem tests_of {b:Bool}:∀ {qs:List (Expr×DV)},(∀ q∈qs,EvT Φ (isTrue q.1 Φ.fx.env (eval q.1 Φ.fx.env)) (tst q.2))→EvT Φ (allTrue (bop b) (qs.map Prod.fst) Φ.fx.env) (alls b (qs.map Prod.snd))
  | [],_=>test_nil
  | q :: r,h=>test_cons (h q (.head _)) (tests_of fun x m=>h x (.tail _ m))
noncomputable abbrev manyV (ds:List DV):(List V→Prop)→Prop:=manyD (ds.map fun d _=>d) []
theorem star_plain {e:Expr} {r:List Expr} {env:Env} (h:plainE e=true):starEach (e :: r) env=(false,eval e env) :: starEach r env:=by
  cases e <;> first | rfl | exact nomatch h
theorem ev_items {pos:Pos}:∀ {qs:List (Expr×DV)},(∀ q∈qs,plainE q.1=true∧Good1 Φ q)→EvL Φ (spliced (backTo pos (starEach (qs.map Prod.fst) Φ.fx.env))) (manyV (qs.map Prod.snd))
  | [],_=>fun K s hd I=>EvR.pure (a:=[]) I hd .nil
  | q :: r,h=>fun K s hd I=>by
    refine List.map_cons.symm▸(star_plain (h q (.head _)).1).symm▸?_
    have e:spliced (backTo pos ((false,eval q.1 Φ.fx.env) :: starEach (r.map Prod.fst) Φ.fx.env))=(eval q.1 Φ.fx.env >>= fun v=>holding [v] (spliced (backTo pos (starEach (r.map Prod.fst) Φ.fx.env))) >>= fun vs=>pure (v :: vs)):=rfl
    rw [e]
    exact (h q (.head _)).2.bind (K₁:=fun x=>manyV (r.map Prod.snd) fun xs=>K (x :: xs)) hd I fun v x s₁ I₁ k₁ hx r1=>(ev_items fun q m=>h q (.tail _ m)).holding.bind hx I₁ fun vs xs s₂ I₂ k₂ hxs rs=>EvR.pure I₂ hxs (.cons (r1.keep k₂) rs)
theorem ev_tuple {qs:List (Expr×DV)} {k:Nat} {pos:Pos} (h:∀ q∈qs,plainE q.1=true∧Good1 Φ q):EvC Φ true (eval (.Tuple (qs.map Prod.fst) k pos) Φ.fx.env) (fun K=>manyV (qs.map Prod.snd) fun xs=>okK (fitL xs (.tuple xs)) K):=fun K s hd I=>by
  rw [arm_eval_Tuple]
  refine wp_stand ((ev_items h).bindC hd I fun vs xs s₁ I₁ k₁ hx rs=>okK_elim hx fun z e kz=>fit_elim (C:=fun z=>K z→Φ.wp _ (PostC Φ true s₁ K) s₁) e (fun q kz E=>?_) kz)
  have m:=made_tuple (n:=0) (tk:=s₁.toks) I₁ rs
  exact wpAny_newObj_type ⟨⟨I₁.base.grown m.1,m.1.keeps,_,kz,m.2⟩,fun _=>newV_size (Nat.le_refl _)⟩ (by refine (?_:vs.toArray.size≤sizeLine); rw [List.size_toArray,rs.length]; exact sz_le q)
theorem ev_list {qs:List (Expr×DV)} {pos:Pos} (h:∀ q∈qs,plainE q.1=true∧Good1 Φ q):Ev Φ (eval (.List (qs.map Prod.fst) pos) Φ.fx.env) (fun K=>manyV (qs.map Prod.snd) fun xs=>okK (fitL xs (.list xs)) K):=fun K s hd I=>by
  rw [arm_eval_List]
  refine wp_stand ((ev_items h).bind hd I fun vs xs s₁ I₁ k₁ hx rs=>okK_elim hx fun z e kz=>step I₁ kz ?_)
  exact fit_elim e fun q E=>wpAny_newObj_type (made_list (tk:=s₁.toks) I₁ rs) (by refine (?_:vs.toArray.size≤sizeLine); rw [List.size_toArray,rs.length]; exact sz_le q)
theorem sub_tail {value slice:Expr} {pos:Pos} {o i:Value} {z:V} (h:HasItem s o∧Φ.wp (getItem o i) (Φ.Gives s z) s):Φ.wp (do standAt pos; let r ← subscripted slice (← getitemInPython o) o i; letTemporaryGo value o r; pure r) (Φ.Gives s z) s:=by
  obtain ⟨⟨T,id,hT,hl⟩,hg⟩:=h
  refine wp_stand fun E=>?_
  rw [getitemInPython_of_ne hT.not_modules]
  refine wpAny_bind (wpAny_bind (wpAny_specialOf hT hl ?_))
  refine wpAny_pure ?_
  have fin:∀ vs,wpAny (model Φ.fx.g.prog Φ.fx.g.w) Φ.fx.A (operate vs (getItem o i) >>= fun r=>letTemporaryGo value o r >>= fun _=>pure r) (Φ.Gives s z) E s:=fun vs=>
    wpAny_bind (wpAny_mono (wp_operate hg E) (fun a s' p=>wpAny_bind (wpAny_letTemporaryGo (wpAny_pure p))) fun _ _ z=>z)
  cases slice with
  | Slice a b c p=>cases c with
    | none=>exact fin _
    | some=>exact fin _
  | _=>exact fin _
theorem ev_sub {value slice:Expr} {pos:Pos} (h1:Ev Φ (eval value Φ.fx.env) d1) (h2:Ev Φ (eval slice Φ.fx.env) d2):Ev Φ (eval (.Subscript value slice pos) Φ.fx.env) (fun K=>d1 fun x=>d2 fun y=>okK (subOp x y) K):=by
  rw [arm_eval_Subscript]
  exact ev_two (op:=subOp) h1 (fun v=>h2.holding) fun s v u x y z I r1 r2 e=>sub_tail (sub_ok e r1 r2)
noncomputable abbrev EvO (Φ:Ct) (t:Sem Value) (d:(Option V→Prop)→Prop):Prop:=EvR Φ (RpO Φ) t d
theorem ev_none:EvO Φ (valueOrNone (evalOpt none Φ.fx.env)) (fun K=>K none):=fun K s hd I=>EvR.pure (a:=Value.none) I hd rfl
theorem ev_some {e:Expr} (h:Ev Φ (eval e Φ.fx.env) d):EvO Φ (valueOrNone (evalOpt (some e) Φ.fx.env)) (fun K=>d fun y=>K (some y)):=fun K s hd I E=>by
  refine (?_:wpAny _ _ (eval e Φ.fx.env) _ _ _)
  exact wpAny_mono (h _ s hd I E) (fun v s' ⟨B,k,y,hy,r⟩=>⟨B,k,some y,hy,r⟩) fun _ _ z=>z
theorem RpO.keep {h h':Heap} {v:Value} {y:Option V} (r:RpO Φ h v y) (k:Keeps h h'):RpO Φ h' v y:=by
  cases y with
  | none=>exact r
  | some x=>exact Rp.keep r k
theorem ev_slice {value:Expr} {lo hi:Option Expr} {p pos:Pos} {dl dh:(Option V→Prop)→Prop} (h1:Ev Φ (eval value Φ.fx.env) d1) (h2:EvO Φ (valueOrNone (evalOpt lo Φ.fx.env)) dl) (h3:EvO Φ (valueOrNone (evalOpt hi Φ.fx.env)) dh) :
    Ev Φ (eval (.Subscript value (.Slice lo hi none p) pos) Φ.fx.env) (fun K=>d1 fun x=>dl fun l=>dh fun h=>okK (sliceOp x l h) K):=fun K s hd I=>by
  rw [arm_eval_Subscript]
  refine h1.bind hd I fun v x s₁ I₁ k₁ hx r1=>?_
  have hS:EvR Φ (fun h v (q:Option V×Option V)=>∃ sl vl vu,v=.ref sl∧h.IsSliceOf sl vl vu .none∧RpO Φ h vl q.1∧RpO Φ h vu q.2) (eval (.Slice lo hi none p) Φ.fx.env) (fun K=>dl fun l=>dh fun h=>K (l,h)):=fun K s hd I=>by
    rw [arm_eval_Slice]
    refine h2.bind hd I fun vl l s₁ I₁ k₁ hl rl=>h3.holding.bind hl I₁ fun vu h s₂ I₂ k₂ hh rh=>?_
    refine step (z:=(l,h)) I₂ hh fun E=>wpAny_bind (wpAny_holding (wpAny_pure ?_))
    exact wpAny_newObj_type ⟨Grown.push _ _ s₂.toks,_,vl,vu,rfl,Heap.IsSliceOf.new ..,(rl.keep k₂).keep (keeps_push _ _),rh.keep (keeps_push _ _)⟩
  refine hS.holding.bind (K₁:=fun q=>okK (sliceOp x q.1 q.2) K) hx I₁ fun u q s₂ I₂ k₂ hq rq=>?_
  obtain ⟨sl,vl,vu,rfl,hs,rl,ru⟩:=rq
  exact okK_elim hq fun z e kz=>step I₂ kz (sub_tail (slice_ok I₂ e (r1.keep k₂) rl ru hs))
end
end Mine
end
noncomputable section
namespace Mine
open PySem PySem.Calls PyProof.Rows PySem.W
section
variable {Φ:Ct} {s:Shared} {v u:Value} {x y z:V} {d:DV}
theorem glob_of {x:Str} (h:glob Φ.fx.env.scope.names x=true):Φ.fx.env.scope.names.lookup x=some .globalImplicit∧(x==("__debug__" : Str))=false:=by
  have h:=(Bool.and_eq_true _ _).mp h
  exact ⟨eq_of_beq h.1,Bool.not_eq_true' _▸((Bool.and_eq_true _ _).mp h.2).1⟩
theorem name_main {x:Str} {pos:Pos} {Q:Value→Shared→Prop} (I:Inv Φ s) (hx:glob Φ.fx.env.scope.names x=true) (hv:Φ.fx.g.mg x=some v) (h:Q v s):Φ.wp (eval (.Name x pos) Φ.fx.env) Q s:=fun E=>
  Name_function_global I.ok.kind (glob_of hx).1 (loadGlobal_global (by rw [I.ok.globals]; exact I.ok.gr.main.at' (I.base.stays _)) hv h) (glob_of hx).2
theorem name_blt {x:Str} {pos:Pos} {Q:Value→Shared→Prop} (I:Inv Φ s) (hx:glob Φ.fx.env.scope.names x=true) (hv:bltNames.lookup x=some v) (h:Q v s):Φ.wp (eval (.Name x pos) Φ.fx.env) Q s:=fun E=>
  have q:=I.ok.gr.blts x v hv
  Name_function_global I.ok.kind (glob_of hx).1 (loadGlobal_builtin (by rw [I.ok.globals]; exact I.ok.gr.main.at' (I.base.stays _)) q.1 (by rw [I.ok.builtins]; exact I.ok.gr.blt.at' (I.base.stays _)) q.2 h) (glob_of hx).2
theorem ev_const {n:Str} {pos:Pos} (hx:glob Φ.fx.env.scope.names n=true) (hv:Φ.fx.g.cons.lookup n=some x):Ev Φ (eval (.Name n pos) Φ.fx.env) (fun K=>K x):=fun K s hd I=>
  (I.ok.gr.cons n x hv).elim fun u q=>name_main I hx q.1 ⟨I.base,.refl _,x,hd,q.2 _ _⟩
theorem ev_lit {c:Const} {k:Nat} {pos:Pos} (hc:constIs c x=true):Ev Φ (eval (.Constant c k pos) Φ.fx.env) (fun K=>K x):=fun K s hd I E=>by
  refine (?_:wpAny _ _ (constValue Φ.fx.env c) _ _ _)
  cases x with
  | none=>obtain rfl:=eq_of_beq hc; exact wpAny_pure ⟨I.base,.refl _,_,hd,.none⟩
  | bool b=>obtain rfl:=eq_of_beq hc; exact wpAny_pure ⟨I.base,.refl _,_,hd,.bool _⟩
  | int i=>obtain rfl:=eq_of_beq hc; exact wpAny_mkInt ⟨I.base.grown (.toks _ _),.refl _,_,hd,.int _ _⟩
  | str t=>obtain rfl:=eq_of_beq hc; exact wpAny_mkText ⟨I.base.grown (.toks _ _),.refl _,_,hd,.str _ _⟩
  | _=>(injection hc; done)
theorem back_any {pos:Pos}:∀ {l:List (Bool×Sem Value)},(∀ q∈l,q.1=false)→(backTo pos l).any (·.1)=false
  | [],_=>rfl
  | [q],h=>by simp [backTo,h q (.head _)]
  | q :: q' :: l,h=>by
    have:=back_any (pos:=pos) (l:=q' :: l) fun x m=>h x (.tail _ m)
    simpa [backTo,h q (.head _)] using this
theorem star_false {env:Env}:∀ {qs:List (Expr×DV)},(∀ q∈qs,plainE q.1=true)→∀ q∈starEach (qs.map Prod.fst) env,q.1=false
  | [],_,_,h=>nomatch h
  | q :: r,h,p,hp=>by
    rw [List.map_cons,star_plain (h q (.head _))] at hp
    cases hp with
    | head=>rfl
    | tail _ m=>exact star_false (fun x m=>h x (.tail _ m)) p m
theorem args_ok {F:Value} {pos:Pos} {qs:List (Expr×DV)} {K:List V→Prop} {Q:Args→Shared→Prop} {E:Value→Shared→Prop} (hq:∀ q∈qs,plainE q.1=true∧Good1 Φ q) (hd:manyV (qs.map Prod.snd) K) (I:Inv Φ s)
    (h:∀ vs xs s₁,Inv Φ s₁→Keeps s.heap s₁.heap→K xs→Φ.rps s₁.heap vs xs→Q ⟨vs,[]⟩ s₁):wpAny (model Φ.fx.g.prog Φ.fx.g.w) Φ.fx.A (evalArgs F true (backTo pos (starEach (qs.map Prod.fst) Φ.fx.env)) []) Q E s:=by
  have it:=ev_items (pos:=pos) hq K s hd I E
  cases qs with
  | nil=>exact PySem.evalArgs_none (h [] [] s I (.refl _) hd .nil)
  | cons q r=>
    rw [List.map_cons,star_plain (hq q (.head _)).1] at it ⊢
    obtain ⟨l,hl⟩:∃ l,backTo pos ((false,eval q.1 Φ.fx.env) :: starEach (r.map Prod.fst) Φ.fx.env)=(false,eval q.1 Φ.fx.env) :: l:=by
      cases starEach (r.map Prod.fst) Φ.fx.env <;> exact ⟨_,rfl⟩
    rw [hl] at it ⊢
    exact Calls.evalArgs_plain (wpAny_mono it (fun vs s₁ ⟨B,k,xs,hx,rs⟩=>h vs xs s₁ (I.keep B k) k hx rs) fun _ _ z=>z)
theorem ev_callB {F:Value} {f:Str} {fp pos:Pos} {qs:List (Expr×DV)} {op:List V→Option V} (hx:glob Φ.fx.env.scope.names f=true) (hF:bltNames.lookup f=some F) (hk:(∃ id,F=.builtin id)∨∃ T,F=.type T) (hq:∀ q∈qs,plainE q.1=true∧Good1 Φ q)
    (st:∀ s vs xs z,Inv Φ s→Φ.rps s.heap vs xs→op xs=some z→Φ.wp (call F vs) (Φ.Gives s z) s):Ev Φ (eval (.Call (.Name f fp) (qs.map Prod.fst) [] pos) Φ.fx.env) (fun K=>manyV (qs.map Prod.snd) fun xs=>okK (op xs) K):=fun K s hd I E=>by
  refine (?_:wpAny _ _ (eval (.Name f fp) Φ.fx.env >>= fun F=>callWith pos F [] (backTo pos (starEach (qs.map Prod.fst) Φ.fx.env)) []) _ _ s)
  refine wpAny_bind (name_blt I hx hF ?_ E)
  have hp:=back_any (pos:=pos) (star_false (env:=Φ.fx.env) fun q m=>(hq q m).1)
  have main:wpAny (model Φ.fx.g.prog Φ.fx.g.w) Φ.fx.A (evalArgs F true (backTo pos (starEach (qs.map Prod.fst) Φ.fx.env)) []) (fun a s₁=>wpAny (model Φ.fx.g.prog Φ.fx.g.w) Φ.fx.A (call F ([]++a.pos) a.kw) (Post Φ Φ.rp s K) E s₁) E s:=
    args_ok hq hd I fun vs xs s₁ I₁ k₁ hx rs=>okK_elim hx fun z e kz=>wpAny_mono (step I₁ kz (st s₁ vs xs z I₁ rs e) E) (fun _ _ p=>p.lift k₁) fun _ _ z=>z
  rcases hk with ⟨id,rfl⟩ | ⟨T,rfl⟩
  · exact callWith_builtin hp main
  · exact PySem.callWith_type hp main
theorem one_elim {α:Type} {vs:List Value} {xs:List V} {f:V→Option α} {z:α} {C:List Value→Prop} (e:one xs f=some z) (rs:Φ.rps s.heap vs xs) (k:∀ v x,Φ.rp s.heap v x→f x=some z→C [v]):C vs:=by
  cases rs with
  | nil=>(injection e; done)
  | cons r rs=>cases rs with
    | nil=>exact k _ _ r e
    | cons _ _=>(injection e; done)
theorem two_elim {α:Type} {vs:List Value} {xs:List V} {f:V→V→Option α} {z:α} {C:List Value→Prop} (e:two xs f=some z) (rs:Φ.rps s.heap vs xs) (k:∀ v u x y,Φ.rp s.heap v x→Φ.rp s.heap u y→f x y=some z→C [v,u]):C vs:=by
  cases rs with
  | nil=>(injection e; done)
  | cons r rs=>cases rs with
    | nil=>(injection e; done)
    | cons r' rs=>cases rs with
      | nil=>exact k _ _ _ _ r r' e
      | cons _ _=>(injection e; done)
theorem sz63 {n:Nat} (h:n≤szLine):(n:Int) < 2 ^ 63:=Int.ofNat_lt.mpr (Nat.lt_of_le_of_lt h (by decide))
theorem all_size {vs:Array Value} {l:List V} {h:Heap} (r:Φ.rps h vs.toList l):vs.size=l.length:=Array.length_toList▸r.length
theorem seqV_elim {C:V→List V→Prop} {l:List V} (e:seqV x=some l) (kl:∀ l:List V,l.length≤szLine→C (.list l) l) (kt:∀ l:List V,l.length≤szLine→C (.tuple l) l) (ks:∀ t:Str,t.cps.toList.length≤szLine→C (.str t) (charsV t.cps.toList)):C x l:=by
  cases x with
  | list m=>exact fit_elim e fun h=>kl m h
  | tuple m=>exact fit_elim e fun h=>kt m h
  | str m=>exact fit_elim e fun h=>ks m h
  | _=>(injection e; done)
theorem len_ok {l:List V} (e:seqV x=some l) (r:Φ.rp s.heap v x):Φ.wp (call (.builtin "len") [v]) (Φ.Gives s (.int l.length)) s:=
  seqV_elim (C:=fun x l=>Φ.rp s.heap v x→Φ.wp (call (.builtin "len") [v]) (Φ.Gives s (.int l.length)) s) e
    (fun l hz r=>r.list_elim fun a o vs n _ ha hc hd hl E=>all_size hl▸PyProof.Rows.len_list ⟨_,ha,hc.1,_,hd⟩ (by rw [all_size hl]; exact sz63 hz) ⟨.toks _ _,.int _ _⟩)
    (fun l hz r=>r.tuple_elim fun a o vs n _ ha hc hd hl E=>all_size hl▸PyProof.Rows.len_tuple ⟨_,ha,hc,_,hd⟩ (by rw [all_size hl]; exact sz63 hz) ⟨.toks _ _,.int _ _⟩)
    (fun t hz r=>r.str_elim fun tk E=>by
      unfold charsV
      rw [List.length_map,Array.length_toList]
      exact P.len_str (by rw [Array.length_toList] at hz; have:=sz63 hz; unfold Str.length; omega) ⟨.toks _ _,.int _ _⟩) r
theorem ev_len {fp pos:Pos} {q:Expr×DV} (hx:glob Φ.fx.env.scope.names "len"=true) (hq:plainE q.1=true∧Good1 Φ q):Ev Φ (eval (.Call (.Name "len" fp) [q.1] [] pos) Φ.fx.env) (fun K=>manyV [q.2] fun xs=>okK (opN .len xs) K):=
  ev_callB (qs:=[q]) (op:=opN .len) hx rfl (.inl ⟨_,rfl⟩) (fun p m=>by obtain rfl:=List.mem_singleton.mp m; exact hq) fun s vs xs z I rs e=>one_elim (C:=fun vs=>Φ.wp (call (.builtin "len") vs) (Φ.Gives s z) s) e rs fun v x r e=>map_elim e fun l e=>len_ok e r
end
end Mine
end
noncomputable section
namespace Mine
open PySem PySem.Calls PyProof.Rows PySem.W
section
variable {Φ:Ct} {s:Shared} {v u:Value} {x y z:V} {d:DV}
theorem isT_no {kvs:List (V×V)} {t:Nat} {b:Bool} (q:isIk kvs=true) (e:isT (.dict kvs) t=some b):False:=by
  cases kvs with
  | nil=>(injection q; done)
  | cons=>(injection e; done)
theorem isi_ok {t:Nat} {T:String} {b:Bool} (hT:tyNames[t]?=some T) (e:isT x t=some b) (r:Φ.rp s.heap v x):Φ.wp (call (.builtin "isinstance") [v,.type T]) (Φ.Gives s (.bool b)) s:=fun E=>by
  have G0:∀ {b},Φ.Gives s (.bool b) (.bool b) s:=⟨.refl _,.bool _⟩
  have G1:∀ {b},Φ.Gives s (.bool b) (.bool b) { s with toks:=s.toks+1 }:=⟨.toks _ _,.bool _⟩
  match t,hT with
  | 0,hT=>
    (injection hT with hT; subst hT)
    cases r with
    | none=>exact some_elim e (IsiPair.NoneType_str G1)
    | bool c=>exact some_elim e (IsiPair.bool_str G1)
    | int i t=>exact some_elim e (IsiPair.int_str G1)
    | str _ t=>exact some_elim e (IsiPair.str_str G0)
    | list _ ha hc=>exact some_elim e (IsiPair.list_str ha hc.1 G1)
    | tuple _ ha hc=>exact some_elim e (IsiPair.tuple_str ha hc G1)
    | inst _ _ _ _ _ _ q=>exact (isT_no q e).elim
    | exc=>(injection e; done)
    | dict _ ha hc=>exact some_elim e (IsiPair.dict_str ha hc.1 G1)
  | 1,hT=>
    (injection hT with hT; subst hT)
    cases r with
    | none=>exact some_elim e (IsiPair.NoneType_tuple G1)
    | bool c=>exact some_elim e (IsiPair.bool_tuple G1)
    | int i t=>exact some_elim e (IsiPair.int_tuple G1)
    | str _ t=>exact some_elim e (IsiPair.str_tuple G1)
    | list _ ha hc=>exact some_elim e (IsiPair.list_tuple ha hc.1 G1)
    | tuple _ ha hc=>exact some_elim e (IsiPair.tuple_tuple ha hc G0)
    | inst _ _ _ _ _ _ q=>exact (isT_no q e).elim
    | exc=>(injection e; done)
    | dict _ ha hc=>exact some_elim e (IsiPair.dict_tuple ha hc.1 G1)
  | 2,hT=>
    (injection hT with hT; subst hT)
    cases r with
    | none=>exact some_elim e (IsiPair.NoneType_list G1)
    | bool c=>exact some_elim e (IsiPair.bool_list G1)
    | int i t=>exact some_elim e (IsiPair.int_list G1)
    | str _ t=>exact some_elim e (IsiPair.str_list G1)
    | list _ ha hc=>exact some_elim e (IsiPair.list_list ha hc.1 G0)
    | tuple _ ha hc=>exact some_elim e (IsiPair.tuple_list ha hc G1)
    | inst _ _ _ _ _ _ q=>exact (isT_no q e).elim
    | exc=>(injection e; done)
    | dict _ ha hc=>exact some_elim e (IsiPair.dict_list ha hc.1 G1)
  | 3,hT=>
    (injection hT with hT; subst hT)
    cases r with
    | none=>exact some_elim e (IsiPair.NoneType_int G1)
    | bool c=>exact some_elim e (IsiPair.bool_int G0)
    | int i t=>exact some_elim e (IsiPair.int_int G0)
    | str _ t=>exact some_elim e (IsiPair.str_int G1)
    | list _ ha hc=>exact some_elim e (IsiPair.list_int ha hc.1 G1)
    | tuple _ ha hc=>exact some_elim e (IsiPair.tuple_int ha hc G1)
    | inst _ _ _ _ _ _ q=>exact (isT_no q e).elim
    | exc=>(injection e; done)
    | dict _ ha hc=>exact some_elim e (IsiPair.dict_int ha hc.1 G1)
  | 4,hT=>
    (injection hT with hT; subst hT)
    cases r with
    | none=>exact some_elim e (IsiPair.NoneType_bool G1)
    | bool c=>exact some_elim e (IsiPair.bool_bool G0)
    | int i t=>exact some_elim e (IsiPair.int_bool G1)
    | str _ t=>exact some_elim e (IsiPair.str_bool G1)
    | list _ ha hc=>exact some_elim e (IsiPair.list_bool ha hc.1 G1)
    | tuple _ ha hc=>exact some_elim e (IsiPair.tuple_bool ha hc G1)
    | inst _ _ _ _ _ _ q=>exact (isT_no q e).elim
    | exc=>(injection e; done)
    | dict _ ha hc=>exact some_elim e (IsiPair.dict_bool ha hc.1 G1)
theorem ty_blt {t:Nat} {T:String} (hT:tyNames[t]?=some T):bltNames.lookup (Str.ofString T)=some (.type T):=by
  match t,hT with
  | 0,hT=>(injection hT with hT; subst hT); decide
  | 1,hT=>(injection hT with hT; subst hT); decide
  | 2,hT=>(injection hT with hT; subst hT); decide
  | 3,hT=>(injection hT with hT; subst hT); decide
  | 4,hT=>(injection hT with hT; subst hT); decide
theorem ev_isi {t:Nat} {T:String} {fp pos pT:Pos} {q:Expr×DV} (hT:tyNames[t]?=some T) (hx:glob Φ.fx.env.scope.names "isinstance"=true) (hy:glob Φ.fx.env.scope.names (Str.ofString T)=true) (hp:plainE q.1=true) (h:Good1 Φ q) :
    Ev Φ (eval (.Call (.Name "isinstance" fp) [q.1,.Name (Str.ofString T) pT] [] pos) Φ.fx.env) (fun K=>q.2 fun x=>okK (isT x t) fun b=>K (.bool b)):=fun K s hd I E=>by
  refine (?_:wpAny _ _ (eval (.Name "isinstance" fp) Φ.fx.env >>= fun F=>callWith pos F [] (backTo pos (starEach [q.1,.Name (Str.ofString T) pT] Φ.fx.env)) []) _ _ s)
  refine wpAny_bind (name_blt (v:=.builtin "isinstance") I hx rfl ?_ E)
  rw [star_plain hp]
  refine callWith_builtin rfl (Calls.evalArgs_plain ?_)
  have q':spliced (backTo pos ((false,eval q.1 Φ.fx.env) :: starEach [.Name (Str.ofString T) pT] Φ.fx.env))=(eval q.1 Φ.fx.env >>= fun v=>holding [v] (eval (.Name (Str.ofString T) pT) Φ.fx.env >>= fun u=>holding [u] (pure []) >>= fun vs=>pure (u :: vs)) >>= fun vs=>pure (v :: vs)):=rfl
  refine (?_:wpAny _ _ (spliced (backTo pos ((false,eval q.1 Φ.fx.env) :: starEach [.Name (Str.ofString T) pT] Φ.fx.env))) _ _ _)
  rw [q']
  refine wpAny_bind (wpAny_mono (h _ s hd I E) (fun v s₁ ⟨B,k,x,hx,r⟩=>?_) fun _ _ z=>z)
  have I₁:=I.keep B k
  refine wpAny_bind (wpAny_holding (wpAny_bind (name_blt I₁ hy (ty_blt hT) ?_ E)))
  refine wpAny_bind (wpAny_holding (wpAny_pure (wpAny_pure (wpAny_pure ?_))))
  exact okK_elim hx fun b e kb=>wpAny_mono (step I₁ kb (isi_ok hT e r) E) (fun _ _ p=>p.lift k) fun _ _ z=>z
theorem grown_of {h':Heap} {tk:Nat} (k:Stays s.heap h'):Grown s { s with heap:=h',toks:=tk }:=⟨k,rfl,rfl⟩
theorem pair_elim {C:V→List V→Prop} {l:List V} (e:pairO x=some l) (kl:∀ l:List V,l.length≤szLine→C (.list l) l) (kt:∀ l:List V,l.length≤szLine→C (.tuple l) l):C x l:=by
  cases x with
  | list m=>exact fit_elim e fun h=>kl m h
  | tuple m=>exact fit_elim e fun h=>kt m h
  | _=>(injection e; done)
theorem made_at {h':Heap} {vs:Array Value} {c tk:Nat} {l:List V} (I:Inv Φ s) (k:Stays s.heap h') (hD:h'.get? s.heap.objs.size=some { cls:=.type "list",dict:=none,data:=.seq vs c,slots:=#[] }) (rr:Φ.rps h' vs.toList l) :
    Φ.Gives s (.list l) (.ref s.heap.objs.size) { s with heap:=h',toks:=tk }:=⟨grown_of k,.list I.fresh hD ⟨rfl,rfl⟩ rfl rr⟩
theorem list_ok {l:List V} (I:Inv Φ s) (e:pairO x=some l) (r:Φ.rp s.heap v x):Φ.wp (call (.type "list") [v]) (fun w s'=>w=.ref s.heap.objs.size∧Φ.Gives s (.list l) w s') s:=
  pair_elim (C:=fun x l=>Φ.rp s.heap v x→Φ.wp (call (.type "list") [v]) (fun w s'=>w=.ref s.heap.objs.size∧Φ.Gives s (.list l) w s') s) e
    (fun l hz r=>r.list_elim fun a o vs n _ ha hc hd hl E=>call_list_seq (hsz:=by rw [all_size hl]; exact sz_le hz) _ (.inl rfl) ha hc.1 hd fun h' c' hk hD=>⟨rfl,made_at (tk:=s.toks) I hk hD (hl.keep (Stays.keeps hk))⟩)
    (fun l hz r=>r.tuple_elim fun a o vs n _ ha hc hd hl E=>call_list_seq (hsz:=by rw [all_size hl]; exact sz_le hz) _ (.inr rfl) ha hc hd fun h' c' hk hD=>⟨rfl,made_at (tk:=s.toks) I hk hD (hl.keep (Stays.keeps hk))⟩) r
theorem strsAre_of {h:Heap} {vs:List Value} {l:List V} {ss:List (List Nat)} (e:strsL l=some ss) (r:Φ.rps h vs l):StrsAre vs (ss.map fun x=>(⟨x.toArray⟩:Str)):=by
  refine r.ind (D:=fun vs l=>∀ ss,strsL l=some ss→StrsAre vs (ss.map fun x=>(⟨x.toArray⟩:Str))) (fun ss e=>some_elim e .nil) (fun v vs x l r _ ih ss e=>?_) ss e
  unfold strsL at e
  rw [List.mapM_cons] at e
  obtain ⟨a,ha,e⟩:=Option.bind_eq_some_iff.mp e
  obtain ⟨b,hb,e⟩:=Option.bind_eq_some_iff.mp e
  (injection e with e; subst e)
  exact strO_elim (C:=fun x=>Φ.rp h v x→StrsAre (v :: vs) ((a :: b).map fun x=>(⟨x.toArray⟩:Str))) ha (fun t et r=>r.str_elim fun tk=>by (injection et with et; subst et); rw [List.map_cons,str_eta]; exact .cons _ _ (ih b hb)) r
theorem intsAre_of {h:Heap} {vs:List Value} {l:List V} {ns:List Int} (e:intsL l=some ns) (r:Φ.rps h vs l):IntsAre vs ns:=by
  refine r.ind (D:=fun vs l=>∀ ns,intsL l=some ns→IntsAre vs ns) (fun ss e=>some_elim e .nil) (fun v vs x l r _ ih ss e=>?_) ns e
  unfold intsL at e
  rw [List.mapM_cons] at e
  obtain ⟨a,ha,e⟩:=Option.bind_eq_some_iff.mp e
  obtain ⟨b,hb,e⟩:=Option.bind_eq_some_iff.mp e
  (injection e with e; subst e)
  exact intO_elim (C:=fun x=>Φ.rp h v x→IntsAre (v :: vs) (a :: b)) ha (fun i ei r=>r.int_elim fun tk=>by (injection ei with ei; subst ei); exact .cons _ _ (ih b hb)) r
theorem joinL_fold (sep:List Nat):∀ (ss:List (List Nat)) (a:List Nat),((ss.map fun x=>(⟨x.toArray⟩:Str)).foldl (fun acc p=>acc++sep.toArray++p.cps) a.toArray).toList=joinL sep (a :: ss)
  | [],a=>rfl
  | x :: r,a=>by
    have:=joinL_fold sep r (a++sep++x)
    rw [List.map_cons,List.foldl_cons,show a.toArray++sep.toArray++x.toArray=(a++sep++x).toArray by simp,this]
    cases r <;> simp [joinL]
theorem glued_toList (sep:List Nat):∀ ss:List (List Nat),(Builtin.Str.glued ⟨sep.toArray⟩ (ss.map fun x=>(⟨x.toArray⟩:Str))).cps.toList=joinL sep ss
  | []=>rfl
  | x :: r=>joinL_fold sep r x
theorem join_ok {sep:Str} {l:List V} {ss:List (List Nat)} (e:strsL l=some ss) (hz:(ss.map List.length).sum+ss.length * sep.cps.toList.length≤szLine) (rs:Φ.rp s.heap u (.str sep)) (r:Φ.rp s.heap v (.list l)) :
    Φ.wp (call (.builtin "str.join") [u,v]) (Φ.Gives s (text (joinL sep.cps.toList ss))) s:=by
  refine rs.str_elim fun t=>r.list_elim fun a o vs n _ ha hc hd hl E=>?_
  have q:=glued_toList sep.cps.toList ss
  rw [str_eta] at q
  refine PyProof.Rows.join_list ⟨_,ha,hc.1,_,hd⟩ (strsAre_of e hl) ?_ fun t' k=>⟨.toks _ _,.text q⟩
  have e1:((ss.map fun x=>(⟨x.toArray⟩:Str)).map (·.length))=ss.map List.length:=by simp [Str.length]
  rw [e1,List.length_map]
  rw [Array.length_toList] at hz
  exact Nat.le_trans hz (show szLine≤16777216 by decide)
theorem count_ok {l:List V} (I:Inv Φ s) (q:(okEq y&&okEq (.list l))=true) (r:Φ.rp s.heap v (.list l)) (r2:Φ.rp s.heap u y):Φ.wp (call (.builtin "list.count") [v,u]) (Φ.Gives s (.int (l.countP fun z=>PyData.eqv z y))) s:=fun E=>by
  have q:=(Bool.and_eq_true _ _).mp q
  have h1:=okd q.1
  have h2:=okd q.2
  obtain ⟨bs,p2⟩:=r2.reads h1.1
  obtain ⟨as,p1⟩:=r.reads h2.1
  refine r.list_elim fun a o vs n _ ha hc hd hl=>?_
  obtain ⟨cls,dd,data,sl⟩:=o
  obtain ⟨rfl,rfl⟩:=hc
  subst hd
  obtain ⟨as,ra⟩:=(rp_reads (v:=.none) (x:=.none)).2 hl h2.1
  have:=SeqAt.items_eqAt (A:=Φ.fx.A) (vs:=vs) ra p2 h2.1 h1.1 (min_ok I h1.2)
  refine call_meets PySem.F.slot_list_count ⟨_,ha,rfl⟩ PySem.F.entry_list_count (PySem.F.args_list_count_2 _ _) (SeqAt.list_countAt a vs n none sl u (fun y'=>PyData.eqv (SeqAt.readOf s.heap y') y)) ⟨ha,this,?_⟩
  have e:vs.toList.countP (fun y'=>PyData.eqv (SeqAt.readOf s.heap y') y)=l.countP fun z=>PyData.eqv z y:=by
    rw [← SeqAt.readsAll_map l _ _ h2.1 ra,List.countP_map]; rfl
  rw [e]
  exact ⟨.toks _ _,.int _ _⟩
end
end Mine
end
noncomputable section
namespace Mine
open PySem PySem.Calls PyProof.Rows PySem.W
section
variable {Φ:Ct} {s:Shared} {v u:Value} {x y z:V} {d d1 d2:DV}
noncomputable abbrev Ct.safe (Φ:Ct) (f:Nat):Prop:=Φ.fx.hm=true→Φ.fx.g.safe f=true
theorem post_of_call {K:V→Prop} {f:Nat} {vs:List Value} {xs:List V} {E:Value→Shared→Prop} (hs:Φ.safe f) (I:Inv Φ s) (h:callN Φ.fx.g.P Φ.fx.d f xs fun y=>noX y=true∧K y) (rs:Φ.rps s.heap vs xs) :
    wpAny (model Φ.fx.g.prog Φ.fx.g.w) Φ.fx.A (call (.ref (Φ.fx.g.fn f)) vs) (PostC Φ (Φ.fx.g.newf f) s K) E s:=
  wpAny_mono (I.ok.call Φ.fx.hm f xs _ Φ.fx.A s Φ.bad vs h I.ok.hand hs I.ok.room I.ok.units I.base I.fr (fun a b=>I.badLive b) rs) (fun _ _ ⟨B,k,y,hy,_,r,nv⟩=>⟨⟨B,k,y,hy.2,r⟩,nv⟩) fun _ _ ⟨_,_,c,e,_,_,q,_⟩=>nomatch q.1
theorem Inv.frag (I:Inv Φ s):Φ.fx.g.K.In s.heap:=I.ok.gr.frag.keeps I.base.stays
theorem ev_call {n:Str} {f:Nat} {fp pos:Pos} {qs:List (Expr×DV)} (hx:glob Φ.fx.env.scope.names n=true) (hf:Φ.fx.g.fns.lookup n=some f) (hfn:keepIn Φ.fx.g.K (.ref (Φ.fx.g.fn f))=true) (hsf:Φ.safe f) (hq:∀ q∈qs,plainE q.1=true∧Good1 Φ q) :
    EvC Φ (Φ.fx.g.newf f) (eval (.Call (.Name n fp) (qs.map Prod.fst) [] pos) Φ.fx.env) (fun K=>manyV (qs.map Prod.snd) fun xs=>callN Φ.fx.g.P Φ.fx.d f xs fun y=>noX y=true∧K y):=fun K s hd I E=>by
  refine (?_:wpAny _ _ (eval (.Name n fp) Φ.fx.env >>= fun F=>callWith pos F [] (backTo pos (starEach (qs.map Prod.fst) Φ.fx.env)) []) _ _ s)
  refine wpAny_bind (name_main I hx (I.ok.gr.fns n f hf) ?_ E)
  refine callWith_of (by rw [back_any (star_false fun q m=>(hq q m).1)]; rfl) (keeps_K hfn) (args_ok hq hd I fun vs xs s₁ I₁ k₁ hx rs=>⟨I₁.frag,?_⟩)
  exact wpAny_mono (post_of_call hsf I₁ hx rs) (fun _ _ p=>p.lift k₁) fun _ _ z=>z
theorem base_simple {o:Expr} {name:Str} {env:Env} {t:Sem Value} (h:simpleE o=true):attributeBase o name env t=t:=by
  cases o <;> first | rfl | exact nomatch h
theorem ev_met1 {o e:Expr} {name:Str} {T id:String} {apos pos:Pos} {op:V→V→Option V} (ho:simpleE o=true) (hp:plainE e=true) (hline:(apos.endLine==pos.line)=true)
    (pa:PlainAttrs T) (slot:PySem.Slot T name id) (hty:typeOf (.builtin id)=pure (.type "method_descriptor")) (h1:Ev Φ (eval o Φ.fx.env) d1) (h2:Ev Φ (eval e Φ.fx.env) d2) {ok:V→Bool}
    (hrecv:∀ (s:Shared) v x,ok x=true→Φ.rp s.heap v x→s.TypeIs v T∧∀ a,v=.ref a→∃ ob,s.heap.get? a=some ob∧ob.dict=none)
    (hop:∀ (s:Shared) u v x y z,Inv Φ s→Φ.rp s.heap u x→Φ.rp s.heap v y→op x y=some z→Φ.wp (call (.builtin id) [u,v]) (Φ.Gives s z) s) :
    Ev Φ (eval (.Call (.Attribute o name apos) [e] [] pos) Φ.fx.env) (fun K=>d1 fun x=>ok x=true∧d2 fun y=>okK (op x y) K):=fun K s hd I E=>by
  refine wpAny_Call_method (base_simple ho) ?_ hline pa slot hty ?_
  · rw [star_plain hp]; rfl
  refine wpAny_mono (h1 _ s hd I E) (fun ov s₁ ⟨B,k,x,⟨hx,hd2⟩,r1⟩=>?_) fun _ _ z=>z
  have I₁:=I.keep B k
  obtain ⟨hT,hdd⟩:=hrecv s₁ ov x hx r1
  refine ⟨hT,hdd,callWith_builtin ?_ ?_⟩
  · rw [star_plain hp]; rfl
  refine args_ok (qs:=[(e,d2)]) (K:=fun ys=>okK (one ys (op x)) K) (fun q m=>by obtain rfl:=List.mem_singleton.mp m; exact ⟨hp,h2⟩) hd2 I₁ fun vs ys s₂ I₂ k₂ hy rs=>okK_elim hy fun z e kz=>?_
  refine one_elim (C:=fun vs=>wpAny _ _ (call (.builtin id) ([ov]++vs) []) _ _ s₂) e rs fun v y r2 e=>?_
  exact wpAny_mono (step I₂ kz (hop s₂ ov v x y z I₂ (r1.keep k₂) r2 e) E) (fun _ _ p=>(p.lift k₂).lift k) fun _ _ z=>z
theorem ev_join {o e:Expr} {apos pos:Pos} (ho:simpleE o=true) (hp:plainE e=true) (hline:(apos.endLine==pos.line)=true) (h1:Ev Φ (eval o Φ.fx.env) d1) (h2:Ev Φ (eval e Φ.fx.env) d2) :
    Ev Φ (eval (.Call (.Attribute o "join" apos) [e] [] pos) Φ.fx.env) (fun K=>d1 fun x=>isStr x=true∧d2 fun y=>okK (opN .join [x,y]) K):=
  ev_met1 (op:=fun x y=>opN .join [x,y]) ho hp hline PySem.F.plainAttrs_str PySem.F.slot_str_join PySem.F.type_str_join h1 h2
    (fun s v x hx r=>by
      cases x with
      | str t=>exact r.str_elim (C:=fun v=>s.TypeIs v "str"∧∀ a,v=.ref a→∃ o,s.heap.get? a=some o∧o.dict=none) fun tk=>⟨typeIs_str _ _ _,fun _ q=>nomatch q⟩
      | _=>(injection hx; done))
    fun s u v x y z I ru rv e=>strO_elim (f:=fun sep=>listO y fun l=>(strsL l).bind fun ss=>if (ss.map List.length).sum+ss.length * sep.length≤szLine then some (text (joinL sep ss)) else none) (C:=fun x=>Φ.rp s.heap u x→Φ.wp (call (.builtin "str.join") [u,v]) (Φ.Gives s z) s) e
      (fun t e ru=>listO_elim (C:=fun y=>Φ.rp s.heap v y→Φ.wp (call (.builtin "str.join") [u,v]) (Φ.Gives s z) s) e (fun l e rv=>(Option.bind_eq_some_iff.mp e).elim fun ss ⟨h,e⟩=>if_elim e fun hz=>join_ok h hz ru rv) rv) ru
theorem ev_count {o e:Expr} {apos pos:Pos} (ho:simpleE o=true) (hp:plainE e=true) (hline:(apos.endLine==pos.line)=true) (h1:Ev Φ (eval o Φ.fx.env) d1) (h2:Ev Φ (eval e Φ.fx.env) d2) :
    Ev Φ (eval (.Call (.Attribute o "count" apos) [e] [] pos) Φ.fx.env) (fun K=>d1 fun x=>isList x=true∧d2 fun y=>okK (opN .count [x,y]) K):=
  ev_met1 (op:=fun x y=>opN .count [x,y]) ho hp hline PySem.F.plainAttrs_list PySem.F.slot_list_count PySem.F.type_list_count h1 h2
    (fun s v x hx r=>by
      cases x with
      | list l=>exact r.list_elim (C:=fun v=>s.TypeIs v "list"∧∀ a,v=.ref a→∃ o,s.heap.get? a=some o∧o.dict=none) fun a o vs n hb ha hc hd hl=>⟨⟨_,ha,hc.1⟩,fun a q=>by (injection q with q; subst q); exact ⟨_,ha,hc.2⟩⟩
      | _=>(injection hx; done))
    fun s u v x y z I ru rv e=>listO_elim (f:=fun l=>if (okEq y&&okEq (.list l))=true then some (PyData.int (l.countP fun z=>PyData.eqv z y)) else none) (C:=fun x=>Φ.rp s.heap u x→Φ.wp (call (.builtin "list.count") [u,v]) (Φ.Gives s z) s) e (fun l e ru=>if_elim e fun q=>count_ok I q ru rv) ru
end
end Mine
end
noncomputable section
namespace Mine
open PySem PySem.Calls PyProof.Rows PySem.W
structure Feed (g:Gl) (A:Around) (T:Expr) (I:Addr) (fp wr:List Addr) (vals:List Value) (l0 l:List V) (St:Nat→Heap→Prop):Prop where
  sub:∀ b∈wr,b∈fp
  frame:∀ i h h',St i h→(∀ b∈fp,∀ o,h.get? b=some o→h'.get? b=some o)→St i h'
  live:∀ i h b,St i h→b∈fp→LiveN h b
  item:∀ i x (s:Shared) bad (Q:Value→Shared→Prop) (E:Value→Shared→Prop),l[i]?=some x→St i s.heap→RpAll g bad s.heap vals l0→(∀ a,bad a→Live s.heap a)→(∀ b∈wr,bad b) →
    (∀ v h' tk,St (i+1) h'→(∀ b o,b∉wr→s.heap.get? b=some o→h'.get? b=some o)→Rp g bad h' v x→Q v { s with heap:=h',toks:=tk }) →
    wpAny (model g.prog g.w) A (pyNext (.ref I)) (fun r s₁=>∃ v,r=some v∧wpAny (model g.prog g.w) A (letOwnedTupleGo T (.ref I) v) (fun _ s₂=>Q v s₂) E s₁) E s
  done:∀ (s:Shared) (Q:Shared→Prop) (E:Value→Shared→Prop),St l.length s.heap→(∀ h' tk,(∀ b o,b∉wr→s.heap.get? b=some o→h'.get? b=some o)→Q { s with heap:=h',toks:=tk }) →
    wpAny (model g.prog g.w) A (pyNext (.ref I)) (fun r s₁=>r=none∧Q s₁) E s
  self:∀ i (s:Shared) (Q:Value→Shared→Prop) (E:Value→Shared→Prop),St i s.heap→Q (.ref I) s→wpAny (model g.prog g.w) A (pyIter (.ref I)) Q E s
noncomputable def GoesOn (I:Addr) (h:Heap):Prop:=∃ o n vs,h.get? I=some o∧o.cls=.type n∧o.data=.fields vs ∧
  ["enumerate", "zip", "dict_itemiterator", "dict_reverseitemiterator", "odict_iterator", "itertools.zip_longest", "itertools.pairwise"].contains n=false
theorem letOwned_ok {M:Model} {A:Around} {E:Value→Shared→Prop} {s:Shared} {T:Expr} {I:Addr} {v:Value} {Q:Unit→Shared→Prop} (go:GoesOn I s.heap) (h:Q () s):wpAny M A (letOwnedTupleGo T (.ref I) v) Q E s:=by
  have main:∀ es k p,wpAny M A (letOwnedTupleGo (.Tuple es k p) (.ref I) v) Q E s:=fun es k p=>by
    obtain ⟨o,n,vs,ho,hc,hd,hn⟩:=go
    cases v with
    | ref a=>
      refine wpAny_bind (wpAny_load ho ?_)
      rw [hc,hd]
      exact wp_else (by rw [hn]; exact Bool.false_ne_true) (wpAny_pure h)
    | _=>exact wpAny_pure h
  cases T with
  | Tuple es k p=>exact main es k p
  | List es p=>exact main [] 0 p
  | _=>exact wpAny_pure h
section
variable {g:Gl} {A:Around} {T:Expr} {I:Addr} {fp wr:List Addr} {n:Nat} {P:Nat→Value→Prop} {St:Nat→Heap→Prop} {vals:List Value} {l0 l:List V}
theorem Feed.ofWalks (W:Walks g.prog g.w A I fp wr n P St) (hn:l.length=n) (hlive:∀ i h b,St i h→b∈fp→LiveN h b) (hgo:∀ i h,St i h→GoesOn I h)
    (hP:∀ i x v h bad,l[i]?=some x→P i v→RpAll g bad h vals l0→Rp g bad h v x):Feed g A T I fp wr vals l0 l St where
  sub:=W.sub
  frame:=W.frame
  live:=hlive
  item:=fun i x s bad Q E hx hst hv hb hw hQ=>W.item i s _ _ (hn▸(List.getElem?_eq_some_iff.mp hx).1) hst fun v h' tk hp hst' hk=>⟨v,rfl,letOwned_ok (hgo _ _ hst') (hQ v h' tk hst' hk (hP i x v h' bad hx hp (hv.map fun b o e _ nb=>⟨nb,hk b o (fun m=>nb (hw b m)) e⟩)))⟩
  done:=fun s Q E hst hQ=>W.done s _ _ (hn▸hst) fun h' tk hk=>⟨rfl,hQ h' tk hk⟩
  self:=W.self
theorem live2 {h:Heap} {a c b:Addr} (ha:LiveN h a) (hc:LiveN h c) (m:b∈[a,c]):LiveN h b:=by
  rcases List.mem_cons.mp m with rfl | m
  · exact ha
  · obtain rfl:=List.mem_singleton.mp m; exact hc
theorem feed_list (hh:A.handled=none) (I ax:Addr) (hne:ax≠I) (items:Array Value) (l:List V) (hl:items.size=l.length) :
    Feed g A T I [I,ax] [I] items.toList l l (fun i h=>h.IsListIter I ax i∧h.IsList ax items):=
  Feed.ofWalks (Walks.list hh I ax hne items) hl.symm (fun i h b st=>live2 (st.1.elim fun _ q=>⟨_,q.1,nf_seq q.2.1⟩) (st.2.elim fun _ q=>⟨_,q.1,nf_seq q.2.1⟩))
    (fun i h st=>by obtain ⟨o',e',c,d⟩:=st.1; exact ⟨_,_,_,e',c,d,by decide⟩)
    fun i x v h bad hx hv r=>by
      obtain ⟨v',e,rr⟩:=r.get hx
      rw [Array.getElem?_toList,hv] at e
      (injection e with e; subst e); exact rr
theorem feed_tuple (hh:A.handled=none) (I ax:Addr) (hne:ax≠I) (items:Array Value) (l:List V) (hl:items.size=l.length) :
    Feed g A T I [I,ax] [I] items.toList l l (fun i h=>h.IsTupleIter I ax i∧h.IsTuple ax items):=
  Feed.ofWalks (Walks.tuple hh I ax hne items) hl.symm (fun i h b st=>live2 (st.1.elim fun _ q=>⟨_,q.1,nf_seq q.2.1⟩) (st.2.elim fun _ q=>⟨_,q.1,nf_seq q.2.1⟩))
    (fun i h st=>by obtain ⟨o',e',c,d⟩:=st.1; exact ⟨_,_,_,e',c,d,by decide⟩)
    fun i x v h bad hx hv r=>by
      obtain ⟨v',e,rr⟩:=r.get hx
      rw [Array.getElem?_toList,hv] at e
      (injection e with e; subst e); exact rr
theorem feed_str (nm:String) (hnm:nm="str_ascii_iterator"∨nm="str_iterator") (I:Addr) (x:Str) (t:Tok) (W:Walks g.prog g.w A I [I] [I] x.cps.size (SignAt x) (fun i h=>h.IsStrIter I nm x t i)) :
    Feed g A T I [I] [I] [] [] (charsV x.cps.toList) (fun i h=>h.IsStrIter I nm x t i):=
  Feed.ofWalks W (by unfold charsV; rw [List.length_map,Array.length_toList])
    (fun i h b st hb=>by obtain rfl:=List.mem_singleton.mp hb; exact st.elim fun _ q=>⟨_,q.1,nf_seq q.2.1 (by rcases hnm with rfl | rfl <;> decide)⟩)
    (fun i h st=>by obtain ⟨o',e',c,d⟩:=st; exact ⟨_,_,_,e',c,d,by rcases hnm with rfl | rfl <;> decide⟩)
    fun i y v h bad hx hv r=>by
      obtain ⟨c,u,hc,rfl⟩:=hv
      unfold charsV at hx
      rw [List.getElem?_map,Array.getElem?_toList,hc] at hx
      (injection hx with hx; subst hx)
      exact .text rfl
theorem feed_range (hh:A.handled=none) (I:Addr) (a b:Int):Feed g A T I [I] [I] [] [] (rangeL a b) (fun i h=>IsRangeIter h I (a+(i:Nat) * 1) (((b - a).toNat:Int) - (i:Nat)) 1):=
  Feed.ofWalks (Walks.range hh I a 1 (b - a).toNat) (by unfold rangeL; rw [List.length_map,List.length_range])
    (fun i h b st hb=>by obtain rfl:=List.mem_singleton.mp hb; exact ⟨_,st,nf_seq rfl⟩)
    (fun i h st=>⟨_,_,_,st,rfl,rfl,by decide⟩)
    fun i x v h bad hx hv r=>by
      obtain ⟨t,rfl⟩:=hv
      unfold rangeL at hx
      rw [List.getElem?_map] at hx
      obtain ⟨j,hj,rfl⟩:=Option.map_eq_some_iff.mp hx
      rw [List.getElem?_range (by have:=(List.getElem?_eq_some_iff.mp hj).1; rwa [List.length_range] at this)] at hj
      (injection hj with hj; subst hj)
      rw [Int.mul_one]
      exact .int _ _
end
inductive FeedAt (Φ:Ct) (T:Expr) (st:Bool) (s₀ s₂:Shared) (it:Value) (l:List V):Prop
  | mk:∀ I fp wr vals l0 St,it=.ref I→Feed Φ.fx.g Φ.fx.A T I fp wr vals l0 l St→St 0 s₂.heap→Φ.rps s₀.heap vals l0→(∀ b∈wr,s₀.heap.get? b=none)→(∀ b∈fp,s₀.heap.get? b=none∨(st=true→¬ Φ.bad b))→l.length≤szLine→FeedAt Φ T st s₀ s₂ it l
noncomputable def EvSrc (Φ:Ct) (T:Expr) (st:Bool) (iter:Expr) (d:(List V→Prop)→Prop):Prop:=∀ K s,d K→Inv Φ s→∀ (Q:Value→Shared→Prop) (E:Value→Shared→Prop),
  (∀ l s₀ it s₂,K l→Inv Φ s₀→Keeps s.heap s₀.heap→Grown s₀ s₂→FeedAt Φ T st s₀ s₂ it l→Q it s₂) →
  wpAny (model Φ.fx.g.prog Φ.fx.g.w) Φ.fx.A (eval iter Φ.fx.env) (fun x s₁=>wpAny (model Φ.fx.g.prog Φ.fx.g.w) Φ.fx.A (pyIter x) Q E s₁) E s
section
variable {Φ:Ct} [Hm Φ.fx] {s:Shared} {v:Value} {x:V} {l:List V} {T:Expr} {st:Bool} {d:DV} {E:Value→Shared→Prop}
theorem ne_size {b:Addr} {o:Obj} (e:s.heap.get? b=some o):b≠s.heap.objs.size:=Nat.ne_of_lt (Heap.lt_size e)
theorem iter_list {a:Addr} {o:Obj} {vs:Array Value} {n:Nat} (I:Inv Φ s) (hz:l.length≤szLine) (hb:st=true→¬ Φ.bad a) (ha:s.heap.get? a=some o) (hc:o.cls=.type "list") (hd:o.data=.seq vs n) (hl:Φ.rps s.heap vs.toList l) :
    wpAny (model Φ.fx.g.prog Φ.fx.g.w) Φ.fx.A (pyIter (.ref a)) (fun it s'=>Grown s s'∧FeedAt Φ T st s s' it l) E s:=by
  have hL:s.heap.IsList a vs:=⟨_,ha,hc,_,hd⟩
  refine wpAny_pyIter_list hL ⟨Grown.push s _ s.toks,_,_,_,_,_,_,rfl,feed_list (I.ok.hand Hm.no) _ a (ne_size ha) vs l (all_size hl),⟨⟨_,Heap.get?_push_size _ rfl,rfl,rfl⟩,hL.push _⟩,hl,fun b q=>?_,fun b q=>?_,hz⟩
  · obtain rfl:=List.mem_singleton.mp q; exact size_none _
  · rcases List.mem_cons.mp q with rfl | q
    · exact .inl (size_none _)
    · obtain rfl:=List.mem_singleton.mp q; exact .inr hb
theorem iter_e (I:Inv Φ s) (e:seqV x=some l) (r:Φ.rp s.heap v x):wpAny (model Φ.fx.g.prog Φ.fx.g.w) Φ.fx.A (pyIter v) (fun it s'=>Grown s s'∧FeedAt Φ T st s s' it l) E s:=by
  refine seqV_elim (C:=fun x l=>Φ.rp s.heap v x→wpAny (model Φ.fx.g.prog Φ.fx.g.w) Φ.fx.A (pyIter v) (fun it s'=>Grown s s'∧FeedAt Φ T st s s' it l) E s) e (fun l hz r=>?_) (fun l hz r=>?_) (fun t hz r=>?_) r
  · exact r.list_elim fun a o vs n hb ha hc hd hl=>iter_list I hz (fun _=>hb) ha hc.1 hd hl
  · refine r.tuple_elim fun a o vs n hb ha hc hd hl=>?_
    have hL:s.heap.IsTuple a vs:=⟨_,ha,hc,_,hd⟩
    refine wpAny_pyIter_tuple hL ⟨Grown.push s _ s.toks,_,_,_,_,_,_,rfl,feed_tuple (I.ok.hand Hm.no) _ a (ne_size ha) vs l (all_size hl),⟨⟨_,Heap.get?_push_size _ rfl,rfl,rfl⟩,hL.at fun o e=>Heap.get?_push_of_some _ e⟩,hl,fun b q=>?_,fun b q=>?_,hz⟩
    · obtain rfl:=List.mem_singleton.mp q; exact size_none _
    · rcases List.mem_cons.mp q with rfl | q
      · exact .inl (size_none _)
      · obtain rfl:=List.mem_singleton.mp q; exact .inr fun _=>hb
  · refine r.str_elim fun tk=>?_
    have mk:∀ nm (hnm:nm="str_ascii_iterator"∨nm="str_iterator") (o:Obj),Walks Φ.fx.g.prog Φ.fx.g.w Φ.fx.A s.heap.objs.size [s.heap.objs.size] [s.heap.objs.size] t.cps.size (SignAt t) (fun i h=>h.IsStrIter s.heap.objs.size nm t tk i)→(s.heap.push o).IsStrIter s.heap.objs.size nm t tk 0 →
        Grown s { s with heap:=s.heap.push o }∧FeedAt Φ T st s { s with heap:=s.heap.push o } (.ref s.heap.objs.size) (charsV t.cps.toList):=fun nm hnm o W st=>
      ⟨Grown.push s _ s.toks,_,_,_,_,_,_,rfl,feed_str nm hnm _ t tk W,st,.nil,fun b q=>by obtain rfl:=List.mem_singleton.mp q; exact size_none _,fun b q=>by obtain rfl:=List.mem_singleton.mp q; exact .inl (size_none _),by unfold charsV; rw [List.length_map]; exact hz⟩
    cases ha:t.cps.all (· < 128)
    · exact wpAny_pyIter_wide ha (mk _ (.inr rfl) _ (Walks.strWide (I.ok.hand Hm.no) _ t tk) ⟨_,Heap.get?_push_size _ rfl,rfl,rfl⟩)
    · exact wpAny_pyIter_ascii ha (mk _ (.inl rfl) _ (Walks.strAscii (I.ok.hand Hm.no) _ t tk) ⟨_,Heap.get?_push_size _ rfl,rfl,rfl⟩)
theorem src_e {e:Expr} (h:Ev Φ (eval e Φ.fx.env) d):EvSrc Φ T st e (fun K=>d fun x=>okK (seqV x) K):=fun K s hd I Q E hQ=>
  wpAny_mono (h _ s hd I E) (fun v s₁ ⟨B,k,x,hx,r⟩=>okK_elim hx fun l e kl=>wpAny_mono (iter_e (I.keep B k) e r) (fun it s₂ p=>hQ l s₁ it s₂ kl (I.keep B k) k p.1 p.2) fun _ _ z=>z) fun _ _ z=>z
theorem own_some {G:Gs} {k:Nat} {l:List V} (e:ownLO G k=some l):getSlot G k=.ownL l:=by
  unfold ownLO at e
  revert e
  cases getSlot G k with
  | ownL m=>exact fun e=>congrArg Slot.ownL (Option.some.inj e)
  | _=>exact fun e=>nomatch e
theorem src_own {n:Str} {k:Nat} {pos:Pos} (hx:Φ.fx.ρ.lookup n=some k) (hn:okName n=true):EvSrc Φ T false (.Name n pos) (fun K=>okK (ownLO Φ.G k) fun l=>okK (fitL l l) K):=fun K s hd I Q E hQ=>okK_elim hd fun l e hk=>okK_elim hk fun l' e' kl=>by
  refine fit_elim (C:=fun l'=>K l'→_) e' (fun hz kl=>?_) kl
  refine own_read (C:=fun _=>True) (sl:=.ownL l) hx hn I (own_some e) id (fun a u ha ow=>?_) E
  obtain ⟨rfl,o,vs,n,ho,hc,hd,hl⟩:=ow
  exact wpAny_mono (iter_list (st:=false) (T:=T) I hz (fun q=>nomatch q) ho hc.1 hd hl) (fun it s₂ p=>hQ l s it s₂ kl I (.refl _) p.1 p.2) fun _ _ z=>z
theorem rOk_of {i:Int} (h:rOk i=true):-(2 ^ 62)≤i∧i < 2 ^ 62:=by
  have:=Nat.le_of_ble_eq_true h
  omega
theorem iter_range {a b:Int} {r:Addr} {t u w:Tok} {s₀:Shared} (I:Inv Φ s₀) (h1:rOk a=true∧rOk b=true) (hz:(rangeL a b).length≤szLine) (hr:IsRange s.heap r a b 1 t u w) (gr:Grown s₀ s) :
    wpAny (model Φ.fx.g.prog Φ.fx.g.w) Φ.fx.A (pyIter (.ref r)) (fun it s'=>Grown s₀ s'∧FeedAt Φ T st s₀ s' it (rangeL a b)) E s:=by
  have qa:=rOk_of h1.1
  have qb:=rOk_of h1.2
  refine wpAny_pyIter_range hr (small_one qa.1 qa.2 qb.1 qb.2) ?_
  have n0:s₀.heap.get? s.heap.objs.size=none:=none_of gr.keeps.live (size_none _)
  refine ⟨gr.trans (Grown.push s _ s.toks),_,_,_,_,_,_,rfl,feed_range (I.ok.hand Hm.no) _ a b,?_,.nil,fun c hc=>by obtain rfl:=List.mem_singleton.mp hc; exact n0,fun c hc=>by obtain rfl:=List.mem_singleton.mp hc; exact .inl n0,hz⟩
  have e1:a+((0:Nat):Int) * 1=a:=by simp
  have e2:((b - a).toNat:Int) - ((0:Nat):Int)=Builtin.Range.rangeSize a b 1:=by rw [rangeSize_one]; split <;> omega
  refine (?_:IsRangeIter _ _ (a+((0:Nat):Int) * 1) (((b - a).toNat:Int) - ((0:Nat):Int)) 1)
  rw [e1,e2]
  exact Heap.get?_push_size _ rfl
noncomputable abbrev IterOf (Φ:Ct) (T:Expr) (st:Bool) (s:Shared) (E:Value→Shared→Prop) (F:String) (l:List V) (vs:List Value):Prop:=
  wpAny (model Φ.fx.g.prog Φ.fx.g.w) Φ.fx.A (call (.type F) vs) (fun z s₁=>wpAny (model Φ.fx.g.prog Φ.fx.g.w) Φ.fx.A (pyIter z) (fun it s'=>Grown s s'∧FeedAt Φ T st s s' it l) E s₁) E s
theorem src_call {f:Str} {F:String} {fp pos:Pos} {qs:List (Expr×DV)} {op:List V→Option V} (hx:glob Φ.fx.env.scope.names f=true) (hF:bltNames.lookup f=some (.type F)) (hq:∀ q∈qs,plainE q.1=true∧Good1 Φ q)
    (hop:∀ s vs xs z l E,Inv Φ s→Φ.rps s.heap vs xs→op xs=some z→seqV z=some l→IterOf Φ T st s E F l vs) :
    EvSrc Φ T st (.Call (.Name f fp) (qs.map Prod.fst) [] pos) (fun K=>manyV (qs.map Prod.snd) fun xs=>okK (op xs) fun z=>okK (seqV z) K):=fun K s hd I Q E hQ=>by
  refine (?_:wpAny _ _ (eval (.Name f fp) Φ.fx.env >>= fun F=>callWith pos F [] (backTo pos (starEach (qs.map Prod.fst) Φ.fx.env)) []) _ _ s)
  refine wpAny_bind (name_blt I hx hF ?_ E)
  refine PySem.callWith_type (back_any (star_false fun q m=>(hq q m).1)) (args_ok hq hd I fun vs xs s₁ I₁ k₁ hx rs=>okK_elim hx fun z e hz=>okK_elim hz fun l el kl=>?_)
  exact wpAny_mono (hop s₁ vs xs z l E I₁ rs e el) (fun z s₂ p=>wpAny_mono p (fun it s₃ p=>hQ l s₁ it s₃ kl I₁ k₁ p.1 p.2) fun _ _ z=>z) fun _ _ z=>z
theorem rangeO_elim {a b:Int} {z:V} (e:rangeO a b=some z) (el:seqV z=some l) {C:List V→Prop} (k:rOk a=true∧rOk b=true→(rangeL a b).length≤szLine→C (rangeL a b)):C l:=
  ifo_elim e fun h1 e=>fit_elim (C:=fun z=>seqV z=some l→C l) e (fun hz el=>fit_elim (C:=C) el fun _=>k h1 hz) el
theorem src_range {fp pos:Pos} {qs:List (Expr×DV)} (hx:glob Φ.fx.env.scope.names "range"=true) (hq:∀ q∈qs,plainE q.1=true∧Good1 Φ q) :
    EvSrc Φ T st (.Call (.Name "range" fp) (qs.map Prod.fst) [] pos) (fun K=>manyV (qs.map Prod.snd) fun xs=>okK (opN .range xs) fun z=>okK (seqV z) K):=by
  refine src_call (F:="range") hx rfl hq fun s vs xs z l E I rs e el=>?_
  cases rs with
  | nil=>(injection e; done)
  | cons r rs=>
    cases rs with
    | nil=>exact intO_elim (f:=fun b=>rangeO 0 b) (C:=fun x=>Φ.rp s.heap _ x→IterOf Φ T st s E "range" l [_]) e (fun b e r=>r.int_elim (C:=fun v=>IterOf Φ T st s E "range" l [v]) fun t=>rangeO_elim (C:=fun l=>IterOf Φ T st s E "range" l [.int b t]) e el fun h1 hz=>call_range_1 (iter_range I h1 hz (IsRange.new ..) (Grown.push s _ _))) r
    | cons r' rs=>
      cases rs with
      | nil=>exact int2_ok (C:=fun v u=>IterOf Φ T st s E "range" l [v,u]) e r r' fun a b t t' e=>rangeO_elim (C:=fun l=>IterOf Φ T st s E "range" l [.int a t,.int b t']) e el fun h1 hz=>call_range_2 (iter_range I h1 hz (IsRange.new ..) (Grown.push s _ _))
      | cons _ _=>(injection e; done)
end
end Mine
end
noncomputable section
namespace Mine
open PySem PySem.Calls PyProof.Rows PySem.W
noncomputable def SqAt (h:Heap) (k:Bool) (l:Addr) (xs:Array Value):Prop:=match k with
  | true=>h.IsList l xs
  | false=>h.IsTuple l xs
noncomputable def SqIt (h:Heap) (k:Bool) (it l:Addr) (i:Nat):Prop:=match k with
  | true=>h.IsListIter it l i
  | false=>h.IsTupleIter it l i
theorem SqAt.at {h h':Heap} {k:Bool} {l:Addr} {xs:Array Value} (x:SqAt h k l xs) (e:∀ o,h.get? l=some o→h'.get? l=some o):SqAt h' k l xs:=by
  cases k
  · exact Heap.IsTuple.at x e
  · exact Heap.IsList.at x e
theorem SqIt.at {h h':Heap} {k:Bool} {it l:Addr} {i:Nat} (x:SqIt h k it l i) (e:∀ o,h.get? it=some o→h'.get? it=some o):SqIt h' k it l i:=by
  cases k
  · exact Heap.IsTupleIter.at x e
  · exact Heap.IsListIter.at x e
theorem SqIt.lt {h:Heap} {k:Bool} {it l:Addr} {i:Nat} (x:SqIt h k it l i):LiveN h it∧it < h.objs.size:=by
  cases k
  · obtain ⟨o,e,c,_⟩:=x; exact ⟨⟨o,e,nf_seq c⟩,Heap.lt_size e⟩
  · obtain ⟨o,e,c,_⟩:=x; exact ⟨⟨o,e,nf_seq c⟩,Heap.lt_size e⟩
theorem SqAt.liveN {h:Heap} {k:Bool} {l:Addr} {xs:Array Value} (x:SqAt h k l xs):LiveN h l:=by
  cases k
  · obtain ⟨o,e,c,_⟩:=x; exact ⟨o,e,nf_seq c⟩
  · obtain ⟨o,e,c,_⟩:=x; exact ⟨o,e,nf_seq c⟩
theorem SqAt.live {h:Heap} {k:Bool} {l:Addr} {xs:Array Value} (x:SqAt h k l xs):Live h l:=x.liveN.live
section
variable {prog:Program} {w:World} {A:Around} {E:Value→Shared→Prop} {s:Shared}
theorem nextOf_item {k:Bool} {it l:Addr} {i:Nat} {items} {x:Value} {Q:Value→Shared→Prop} (hit:SqIt s.heap k it l i) (hl:SqAt s.heap k l items) (hx:items[i]?=some x)
    (hQ:∀ h',SqIt h' k it l (i+1)→Heap.SameBut it s.heap h'→Q x { s with heap:=h' }):wpAny (model prog w) A (Builtin.SmallTypes.nextOf (.ref it)) Q E s:=by
  cases k with
  | true=>exact wpAny_nextOf_list_item hit hl hx hQ
  | false=>
    obtain ⟨o,ho,hc,hd⟩:=id hit
    obtain ⟨ol,hol,_,nl,hdl⟩:=hl
    have hT:s.TypeIs (.ref it) "tuple_iterator":=⟨o,ho,hc⟩
    refine wpAny_bind (wpAny_callSpecial?_slot (name:=Str.ofString "__next__") hT PySem.F.slot_tuple_iterator_next
      (wpAny_call_entry PySem.F.slot_tuple_iterator_next hT PySem.F.entry_tuple_iterator_next ?_ (PySem.F.args_tuple_iterator_next_1 _)))
    refine (?_:wpAny _ _ (field (.ref it) 0 >>= _) _ _ s)
    refine wpAny_bind (wpAny_field ho hd (x:=.ref l) rfl ?_)
    refine wpAny_ite_false (c:=(Value.ref l==Value.none)=true) rfl (wpAny_bind (wpAny_field ho hd (x:=.int i 0) rfl ?_))
    refine (?_:wpAny _ _ (seqItems? (.ref l) >>= _) _ _ s)
    refine wpAny_bind (wpAny_seqItems hol hdl ?_)
    dsimp only
    refine (hx:items[(i:Int).toNat]?=_).symm▸wpAny_bind (wpAny_setField ho hd (by simp) (wpAny_pure ⟨x,rfl,wpAny_pure (hQ _ ?_ (Heap.SameBut.update ..))⟩))
    exact ⟨_,Heap.get?_update_self _ ho (Obj.isFreed_of_fields (Obj.data_mapFields hd _)),(Obj.cls_mapFields ..).trans hc,by rw [Obj.data_mapFields hd]; simp [rawInt]⟩
theorem nextOf_end {k:Bool} {it l:Addr} {i:Nat} {items} {Q:Value→Shared→Prop} (hh:A.handled=none) (hit:SqIt s.heap k it l i) (hl:SqAt s.heap k l items) (hx:items[i]?=none)
    (hE:∀ h' e,Heap.ExtBut it s.heap h'→(∃ o,h'.get? e=some o∧o.cls=.type "StopIteration")→E (.ref e) { s with heap:=h' }):wpAny (model prog w) A (Builtin.SmallTypes.nextOf (.ref it)) Q E s:=by
  cases k with
  | true=>exact wpAny_nextOf_list_end hh hit hl hx hE
  | false=>
    obtain ⟨o,ho,hc,hd⟩:=id hit
    obtain ⟨ol,hol,_,nl,hdl⟩:=hl
    have hT:s.TypeIs (.ref it) "tuple_iterator":=⟨o,ho,hc⟩
    refine wpAny_bind (wpAny_callSpecial?_slot (name:=Str.ofString "__next__") hT PySem.F.slot_tuple_iterator_next
      (wpAny_call_entry PySem.F.slot_tuple_iterator_next hT PySem.F.entry_tuple_iterator_next ?_ (PySem.F.args_tuple_iterator_next_1 _)))
    refine (?_:wpAny _ _ (field (.ref it) 0 >>= _) _ _ s)
    refine wpAny_bind (wpAny_field ho hd (x:=.ref l) rfl ?_)
    refine wpAny_ite_false (c:=(Value.ref l==Value.none)=true) rfl (wpAny_bind (wpAny_field ho hd (x:=.int i 0) rfl ?_))
    refine (?_:wpAny _ _ (seqItems? (.ref l) >>= _) _ _ s)
    refine wpAny_bind (wpAny_seqItems hol hdl ?_)
    dsimp only
    refine (hx:items[(i:Int).toNat]?=_).symm▸wpAny_bind (wpAny_rule (wpAny_bind (wpAny_setField ho hd (by simp) ?_)))
    refine (?_:wpAny _ _ (newExc (.type "StopIteration") [] >>= _) _ _ _)
    refine wpAny_bind (wpAny_bind (wpAny_newObj_type (wpAny_bind (wpAny_of_eq (a:=Value.none) rfl (wpAny_newObj_type ?_ (by size_fits)))) (by size_fits)))
    refine wpAny_raiseNew_none (hh:A.in1.handled=none) ?_
    exact hE _ _ (((Heap.SameBut.update ..).extBut.push _).push _) ⟨_,Heap.get?_push_size _ rfl,rfl⟩
theorem lt05:0 < 5:=by decide
theorem lt15:1 < 5:=by decide
theorem zipnext {c1 c2:Bool} {z TI TO i1 i2 l1 l2:Addr} {k:Nat} {xs ys:Array Value} {a b:Value} {Q:Fin→Shared→Prop} (hh:A.handled=none) (D:ZipApart z TI TO i1 i2 l1 l2)
    (hz:IsZip s.heap z TI TO .none) (hTI:IsPair s.heap TI (.ref i1) (.ref i2)) (hTO:IsPair s.heap TO a b)
    (h1:SqIt s.heap c1 i1 l1 k) (h2:SqIt s.heap c2 i2 l2 k) (hl1:SqAt s.heap c1 l1 xs) (hl2:SqAt s.heap c2 l2 ys)
    (hQ:∀ x y h',xs[k]?=some x→ys[k]?=some y→IsZip h' z TI TO (rawInt s.heap.objs.size)→IsPair h' TO x y→SqIt h' c1 i1 l1 (k+1)→SqIt h' c2 i2 l2 (k+1)→IsPair h' s.heap.objs.size x y →
      (∀ c o,c≠z→c≠TO→c≠i1→c≠i2→s.heap.get? c=some o→h'.get? c=some o)→Q (.done (.ret (.ref s.heap.objs.size))) { s with heap:=h' })
    (hE:(xs[k]?=none∨ys[k]?=none)→∀ h' e,(∀ c o,c≠z→c≠TO→c≠i1→c≠i2→s.heap.get? c=some o→h'.get? c=some o)→(∃ o,h'.get? e=some o∧o.cls=.type "StopIteration")→E (.ref e) { s with heap:=h' }) :
    wpAny (model prog w) A (Builtin.«zip.__next__» ⟨[.ref z],[]⟩) Q E s:=by
  have hne:∀ {h:Heap} {e:Addr} {oe:Obj},IsZip h z TI TO .ellipsis→h.get? e=some oe→oe.cls=.type "StopIteration"→e≠z:=fun hz₂ hoe hce x=>by
    subst x; (injection hz₂.symm.trans hoe with Xq; subst Xq); exact absurd (show Value.type "zip"=Value.type "StopIteration" from hce) (by decide)
  refine (?_:wpAny _ _ (field (.ref z) 2 >>= _) _ _ _)
  refine wpAny_bind (wpAny_field hz rfl (x:=.bool false) rfl ?_)
  refine (?_:wpAny _ _ (field (.ref z) 3 >>= _) _ _ _)
  refine wpAny_bind (wpAny_field hz rfl (x:=.ref TI) rfl ?_)
  refine wpAny_bind (wpAny_seqItems hTI rfl ?_)
  refine wpAny_bind (m:=Builtin.SmallTypes.ownedTupleIsFree (.ref z)) (wpAny_bind (wpAny_field hz rfl (x:=.none) rfl (wpAny_pure ?_)))
  refine wpAny_ite_true rfl (wpAny_bind (wpAny_rule ?_))
  refine wpAny_bind (wpAny_field hz rfl (x:=.ref TO) rfl ?_)
  refine wpAny_bind (wpAny_setField_rec hz lt05 fun h₁ hz₁ hs₁=>?_)
  replace hz₁:IsZip h₁ z TI TO .ellipsis:=hz₁
  refine wpAny_bind ?_
  simp only [List.zipIdx_cons,List.zipIdx_nil,List.forIn_cons,List.forIn_nil]
  refine wpAny_bind (wpAny_bind (wpAny_onRaise ?_))
  refine (?_:wpAny _ _ (Builtin.SmallTypes.nextOf (.ref i1) >>= _) _ _ _)
  cases hx:xs[k]? with
  | none=>
    refine wpAny_bind (nextOf_end hh (h1.at fun o e=>hs₁.extBut _ o D.i1z e) (hl1.at fun o e=>hs₁.extBut _ o D.l1z e) hx fun h₂ e hs₂ ⟨oe,hoe,hce⟩=>?_)
    have hz₂:IsZip h₂ z TI TO .ellipsis:=hs₂ _ _ D.i1z.symm hz₁
    exact wpAny_setField_rec hz₂ lt05 fun h₃ _ hs₃=>hE (.inl hx) h₃ e (fun c o c1 _ c3 _ x=>hs₃.extBut _ _ c1 (hs₂ _ _ c3 (hs₁.extBut _ _ c1 x))) ⟨oe,hs₃.extBut _ _ (hne hz₂ hoe hce) hoe,hce⟩
  | some x=>
  refine wpAny_bind (nextOf_item (h1.at fun o e=>hs₁.extBut _ o D.i1z e) (hl1.at fun o e=>hs₁.extBut _ o D.l1z e) hx fun h₂ h1₂ hs₂=>wpAny_pure ?_)
  have hTO₂:IsPair h₂ TO a b:=hs₂.extBut _ _ D.TOi1 (hs₁.extBut _ _ D.TOz hTO)
  refine wpAny_bind (wpAny_seqItems hTO₂ rfl ?_)
  refine wpAny_bind (wpAny_updateSeq_pair hTO₂ fun h₃ hTO₃ hs₃=>?_)
  replace hTO₃:IsPair h₃ TO x b:=hTO₃
  refine wpAny_bind (wpAny_letGo (wpAny_pure ?_))
  refine wpAny_bind (wpAny_bind (wpAny_onRaise ?_))
  refine (?_:wpAny _ _ (Builtin.SmallTypes.nextOf (.ref i2) >>= _) _ _ _)
  have h2₃:SqIt h₃ c2 i2 l2 k:=h2.at fun o e=>hs₃.extBut _ o D.TOi2.symm (hs₂.extBut _ o D.i12.symm (hs₁.extBut _ o D.i2z e))
  have hl2₃:SqAt h₃ c2 l2 ys:=hl2.at fun o e=>hs₃.extBut _ o D.l2TO (hs₂.extBut _ o D.l2i1 (hs₁.extBut _ o D.l2z e))
  have hz₃:IsZip h₃ z TI TO .ellipsis:=hs₃.extBut _ _ D.TOz.symm (hs₂.extBut _ _ D.i1z.symm hz₁)
  have hk₃:∀ c o,c≠z→c≠TO→c≠i1→s.heap.get? c=some o→h₃.get? c=some o:=fun c o c1 c2 c3 e=>hs₃.extBut _ _ c2 (hs₂.extBut _ _ c3 (hs₁.extBut _ _ c1 e))
  cases hy:ys[k]? with
  | none=>
    refine wpAny_bind (nextOf_end hh h2₃ hl2₃ hy fun h₄ e hs₄ ⟨oe,hoe,hce⟩=>?_)
    have hz₄:IsZip h₄ z TI TO .ellipsis:=hs₄ _ _ D.i2z.symm hz₃
    exact wpAny_setField_rec hz₄ lt05 fun h₅ _ hs₅=>hE (.inr hy) h₅ e (fun c o c1 c2 c3 c4 x=>hs₅.extBut _ _ c1 (hs₄ _ _ c4 (hk₃ c o c1 c2 c3 x))) ⟨oe,hs₅.extBut _ _ (hne hz₄ hoe hce) hoe,hce⟩
  | some y=>
  refine wpAny_bind (nextOf_item h2₃ hl2₃ hy fun h₄ h2₄ hs₄=>wpAny_pure ?_)
  have hTO₄:IsPair h₄ TO x b:=hs₄.extBut _ _ D.TOi2 hTO₃
  refine wpAny_bind (wpAny_seqItems hTO₄ rfl ?_)
  refine wpAny_bind (wpAny_updateSeq_pair hTO₄ fun h₅ hTO₅ hs₅=>?_)
  replace hTO₅:IsPair h₅ TO x y:=hTO₅
  refine wpAny_bind (wpAny_letGo (wpAny_pure (wpAny_pure ?_)))
  refine wpAny_bind (wpAny_seqItems hTO₅ rfl ?_)
  refine wpAny_bind (wpAny_newTuple ?_)
  have hsz:h₅.objs.size=s.heap.objs.size:=hs₅.1.trans (hs₄.1.trans (hs₃.1.trans (hs₂.1.trans hs₁.1)))
  have hz₅:IsZip h₅ z TI TO .ellipsis:=hs₅.extBut _ _ D.TOz.symm (hs₄.extBut _ _ D.i2z.symm hz₃)
  have hn:h₅.objs.size≠z:=Nat.ne_of_gt (Heap.lt_size hz₅)
  refine wpAny_bind (m:=Builtin.SmallTypes.ownedTupleHandOut (.ref z) (.ref h₅.objs.size)) (wpAny_bind (wpAny_setField_rec (Heap.get?_push_of_some _ hz₅) lt05 fun h₇ hz₇ hs₇=>?_))
  refine wpAny_setField_rec hz₇ lt15 fun h₈ hz₈ hs₈=>?_
  have up:∀ c o,c≠z→h₅.get? c=some o→h₈.get? c=some o:=fun c o c1 e=>hs₈.extBut _ _ c1 (hs₇.extBut _ _ c1 (Heap.get?_push_of_some _ e))
  refine wpAny_pure ?_
  have fin:=hQ x y h₈ hx hy
  rw [← hsz] at fin
  exact fin hz₈ (up _ _ D.TOz hTO₅) (h1₂.at fun o e=>up _ o D.i1z (hs₅.extBut _ o D.TOi1.symm (hs₄.extBut _ o D.i12 (hs₃.extBut _ o D.TOi1.symm e)))) (h2₄.at fun o e=>up _ o D.i2z (hs₅.extBut _ o D.TOi2.symm e))
    (hs₈.extBut _ _ hn (hs₇.extBut _ _ hn (Heap.get?_push_size _ rfl))) fun c o c1 c2 c3 c4 e=>up c o c1 (hs₅.extBut _ _ c2 (hs₄.extBut _ _ c4 (hk₃ c o c1 c2 c3 e)))
end
theorem mc {P:Addr→Prop} {a:Addr} {l:List Addr} (h:P a) (t:∀ x∈l,P x):∀ x∈a :: l,P x:=List.forall_mem_cons.mpr ⟨h,t⟩
theorem mem4 {P:Addr→Prop} {a b c d:Addr} (h1:P a) (h2:P b) (h3:P c) (h4:P d):∀ x∈[a,b,c,d],P x:=mc h1 (mc h2 (mc h3 (mc h4 fun _ m=>nomatch m)))
theorem mem7 {P:Addr→Prop} {a b c d e f g:Addr} (h1:P a) (h2:P b) (h3:P c) (h4:P d) (h5:P e) (h6:P f) (h7:P g):∀ x∈[a,b,c,d,e,f,g],P x:=mc h1 (mc h2 (mc h3 (mem4 h4 h5 h6 h7)))
theorem nm4 {x a b c d:Addr} (h:x∉[a,b,c,d]):x≠a∧x≠b∧x≠c∧x≠d:=
  ⟨fun e=>h (e▸.head _),fun e=>h (e▸.tail _ (.head _)),fun e=>h (e▸.tail _ (.tail _ (.head _))),fun e=>h (e▸.tail _ (.tail _ (.tail _ (.head _))))⟩
theorem RpAll.unapp {g:Gl} {bad:Addr→Prop} {h:Heap} {v:List Value} {m:List V} {u:List Value}:∀ {l:List V},u.length=l.length→RpAll g bad h (u++v) (l++m)→RpAll g bad h u l∧RpAll g bad h v m:=by
  induction u with
  | nil=>intro l e x; obtain rfl:=List.length_eq_zero_iff.mp e.symm; exact ⟨.nil,x⟩
  | cons a u ih=>
    intro l e x
    cases l with
    | nil=>exact nomatch e
    | cons b l=>cases x with | cons y x=>exact (ih (Nat.succ.inj e) x).imp_left (.cons y)
structure ZipSt (c1 c2:Bool) (z TI TO i1 i2 l1 l2:Addr) (xs ys:Array Value) (i:Nat) (h:Heap):Prop where
  z:IsZip h z TI TO .none
  ti:IsPair h TI (.ref i1) (.ref i2)
  to:∃ a b,IsPair h TO a b
  h1:SqIt h c1 i1 l1 i
  h2:SqIt h c2 i2 l2 i
  hl1:SqAt h c1 l1 xs
  hl2:SqAt h c2 l2 ys
theorem zipL_get {l r:List V} {i:Nat} {x:V} (e:(zipL l r)[i]?=some x):∃ a b,l[i]?=some a∧r[i]?=some b∧x=.tuple [a,b]:=by
  unfold zipL at e
  rw [List.getElem?_zipWith] at e
  revert e
  cases l[i]? with
  | none=>exact fun e=>nomatch e
  | some a=>cases r[i]? with
    | none=>exact fun e=>nomatch e
    | some b=>exact fun e=>⟨_,_,rfl,rfl,(Option.some.inj e).symm⟩
theorem zipL_length (l r:List V):(zipL l r).length=min l.length r.length:=List.length_zipWith
theorem feed_zip {g:Gl} {A:Around} (hh:A.handled=none) {elts:List Expr} {kk:Nat} {pos:Pos} {c1 c2:Bool} {z TI TO i1 i2 l1 l2:Addr} (D:ZipApart z TI TO i1 i2 l1 l2) (xs ys:Array Value) (la lb:List V) (hla:xs.size=la.length) (hlb:ys.size=lb.length) :
    Feed g A (.Tuple elts kk pos) z [z,TI,TO,i1,i2,l1,l2] [z,TO,i1,i2] (xs.toList++ys.toList) (la++lb) (zipL la lb) (ZipSt c1 c2 z TI TO i1 i2 l1 l2 xs ys) where
  sub:=mem4 (.head _) (.tail _ (.tail _ (.head _))) (.tail _ (.tail _ (.tail _ (.head _)))) (.tail _ (.tail _ (.tail _ (.tail _ (.head _)))))
  frame:=fun i h h' st hk=>st.to.elim fun a ⟨b,e⟩=>
    have m4:TO∈[z,TI,TO,i1,i2,l1,l2]:=.tail _ (.tail _ (.head _))
    have t:∀ x∈[i1,i2,l1,l2],∀ o,h.get? x=some o→h'.get? x=some o:=fun x m=>hk x (.tail _ (.tail _ (.tail _ m)))
    ⟨hk z (.head _) _ st.z,hk TI (.tail _ (.head _)) _ st.ti,⟨a,b,hk TO m4 _ e⟩,st.h1.at (t _ (.head _)),st.h2.at (t _ (.tail _ (.head _))),st.hl1.at (t _ (.tail _ (.tail _ (.head _)))),st.hl2.at (t _ (.tail _ (.tail _ (.tail _ (.head _)))))⟩
  live:=fun i h b st hb=>st.to.elim fun a ⟨b',hto⟩=>mem7 (P:=LiveN h) ⟨_,st.z,nf_seq rfl⟩ ⟨_,st.ti,nf_seq rfl⟩ ⟨_,hto,nf_seq rfl⟩ st.h1.lt.1 st.h2.lt.1 st.hl1.liveN st.hl2.liveN b hb
  item:=fun i x s bad Q E hx st hv hb hw hQ=>by
    obtain ⟨xa,xb,ha,hbb,rfl⟩:=zipL_get hx
    have hv:=RpAll.unapp hla hv
    obtain ⟨va,eva,ra⟩:=hv.1.get ha
    obtain ⟨vb,evb,rb⟩:=hv.2.get hbb
    replace eva:=Array.getElem?_toList.symm.trans eva
    replace evb:=Array.getElem?_toList.symm.trans evb
    obtain ⟨a,b,hto⟩:=st.to
    have hT:s.TypeIs (.ref z) "zip":=⟨_,st.z,rfl⟩
    unfold pyNext
    refine wpAny_bind (wpAny_attempt (wpAny_callSpecial?_slot (name:=Str.ofString "__next__") hT PySem.F.slot_zip_next
      (wpAny_call_entry PySem.F.slot_zip_next hT PySem.F.entry_zip_next
        (zipnext hh D st.z st.ti hto st.h1 st.h2 st.hl1 st.hl2 (fun x y h' ex ey a1 a2 a3 a4 a5 hk=>⟨_,rfl,wpAny_pure ?_⟩) fun q=>q.elim (fun q=>nomatch eva.symm.trans q) fun q=>nomatch evb.symm.trans q) (PySem.F.args_zip_next_1 _))))
    (injection eva.symm.trans ex with Xq; subst Xq)
    (injection evb.symm.trans ey with Xq; subst Xq)
    refine ⟨_,rfl,wpAny_letOwnedTupleGo_zip a1 fun h'' hz' hs'=>?_⟩
    have up:∀ c o,c∉[z,TO,i1,i2]→s.heap.get? c=some o→h''.get? c=some o:=fun c o hc e=>
      have hc:=nm4 hc
      hs'.extBut _ _ hc.1 (hk c o hc.1 hc.2.1 hc.2.2.1 hc.2.2.2 e)
    have hnew:s.heap.objs.size≠z:=Nat.ne_of_gt (Heap.lt_size st.z)
    have kb:MapK bad bad s.heap h'':=fun c o e _ nb=>⟨nb,up c o (fun m=>nb (hw c m)) e⟩
    refine hQ _ h'' s.toks ⟨hz',?_,⟨_,_,hs'.extBut _ _ D.TOz a2⟩,a3.at fun o e=>hs'.extBut _ o D.i1z e,a4.at fun o e=>hs'.extBut _ o D.i2z e,?_,?_⟩ up (.tuple (fun q=>by obtain ⟨o,e⟩:=hb _ q; rw [size_none] at e; (injection e; done)) (hs'.extBut _ _ hnew a5) rfl rfl ?_)
    · exact hs'.extBut _ _ D.TIz (hk _ _ D.TIz D.TITO D.TIi1 D.TIi2 st.ti)
    · exact st.hl1.at fun o e=>hs'.extBut _ o D.l1z (hk _ o D.l1z D.l1TO D.l1i1 D.l1i2 e)
    · exact st.hl2.at fun o e=>hs'.extBut _ o D.l2z (hk _ o D.l2z D.l2TO D.l2i1 D.l2i2 e)
    · exact .cons (ra.map kb) (.cons (rb.map kb) .nil)
  done:=fun s Q E st hQ=>by
    obtain ⟨a,b,hto⟩:=st.to
    have hT:s.TypeIs (.ref z) "zip":=⟨_,st.z,rfl⟩
    unfold pyNext
    refine wpAny_bind (wpAny_attempt (wpAny_callSpecial?_slot (name:=Str.ofString "__next__") hT PySem.F.slot_zip_next
      (wpAny_call_entry PySem.F.slot_zip_next hT PySem.F.entry_zip_next (zipnext hh D st.z st.ti hto st.h1 st.h2 st.hl1 st.hl2 (fun x y h' ex ey _ _ _ _ _ _=>?_) fun _ h' e hk he=>?_) (PySem.F.args_zip_next_1 _))))
    · exact absurd (Nat.lt_min.mpr ⟨hla▸(Array.getElem?_eq_some_iff.mp ex).1,hlb▸(Array.getElem?_eq_some_iff.mp ey).1⟩) (Nat.not_lt.mpr (Nat.le_of_eq (zipL_length la lb).symm))
    · obtain ⟨o,ho,hc⟩:=he
      refine wpAny_bind (wpAny_isInstance (T:="StopIteration") (b:=true) ⟨o,ho,hc⟩ isSubtype_stop ?_)
      refine wpAny_pure ⟨rfl,hQ _ s.toks fun c o hc e=>?_⟩
      have hc:=nm4 hc
      exact hk c o hc.1 hc.2.1 hc.2.2.1 hc.2.2.2 e
  self:=fun i s Q E st hQ=>wpAny_pyIter_zip st.z hQ
section
variable {A:Around} {E:Value→Shared→Prop} {s:Shared}
noncomputable def itObj (c:Bool) (l:Addr):Obj:={ cls:=.type (if c then "list_iterator" else "tuple_iterator"),data:=.fields #[.ref l,.int 0 0] }
theorem itObj_at {h:Heap} {c:Bool} {l i:Addr} (e:h.get? i=some (itObj c l)):SqIt h c i l 0:=by
  cases c
  · exact ⟨_,e,rfl,rfl⟩
  · exact ⟨_,e,rfl,rfl⟩
theorem pyIter_sq {prog:Program} {w:World} {c:Bool} {l:Addr} {xs:Array Value} {Q:Value→Shared→Prop} (h:SqAt s.heap c l xs) (hQ:Q (.ref s.heap.objs.size) { s with heap:=s.heap.push (itObj c l) }):wpAny (model prog w) A (pyIter (.ref l)) Q E s:=by
  cases c
  · exact wpAny_pyIter_tuple h hQ
  · exact wpAny_pyIter_list h hQ
noncomputable def zH1 (h:Heap) (c1:Bool) (l1:Addr):Heap:=h.push (itObj c1 l1)
noncomputable def zH2 (h:Heap) (c1 c2:Bool) (l1 l2:Addr):Heap:=(zH1 h c1 l1).push (itObj c2 l2)
noncomputable def zH3 (h:Heap) (c1 c2:Bool) (l1 l2:Addr):Heap:=(zH2 h c1 c2 l1 l2).push { cls:=.type "tuple",data:=.seq #[.ref h.objs.size,.ref (zH1 h c1 l1).objs.size] }
noncomputable def zH4 (h:Heap) (c1 c2:Bool) (l1 l2:Addr):Heap:=(zH3 h c1 c2 l1 l2).push { cls:=.type "tuple",data:=.seq #[.none,.none] }
noncomputable def zH5 (h:Heap) (c1 c2:Bool) (l1 l2:Addr):Heap:=(zH4 h c1 c2 l1 l2).push { cls:=.type "zip",data:=.fields #[.none,.bool false,.bool false,.ref (zH2 h c1 c2 l1 l2).objs.size,.ref (zH3 h c1 c2 l1 l2).objs.size] }
theorem zip_meets (c1 c2:Bool) (l1 l2:Addr) (xs ys:Array Value) :
    Meets (Builtin.«zip.__new__» ⟨[.type "zip",.ref l1,.ref l2],[]⟩) (fun _ R s=>SqAt s.heap c1 l1 xs∧SqAt s.heap c2 l2 ys ∧
      R (.ok (.ret (.ref (zH4 s.heap c1 c2 l1 l2).objs.size))) { s with heap:=zH5 s.heap c1 c2 l1 l2 }):=
  .of_wp fun prog w A R s h=>by
    obtain ⟨hp,g,d,tk,os⟩:=s; obtain ⟨hl1,hl2,h⟩:=h
    have hsub:=sub_zip
    have hL1:SqAt (Shared.heap ⟨hp,g,d,tk,os⟩) c1 l1 xs:=hl1
    have hL2:SqAt (Shared.heap ⟨hp.push (itObj c1 l1),g,d,tk,os⟩) c2 l2 ys:=hl2.at fun o e=>Heap.get?_push_of_some _ e
    wp_walk using pyIter_sq hL1,pyIter_sq hL2
    exact ⟨_,rfl,h⟩
theorem make_zip {prog:Program} {w:World} {c1 c2:Bool} {l1 l2:Addr} {xs ys:Array Value} {Q:Value→Shared→Prop} (hl1:SqAt s.heap c1 l1 xs) (hl2:SqAt s.heap c2 l2 ys)
    (h:∀ h',IsZip h' (s.heap.objs.size+4) (s.heap.objs.size+2) (s.heap.objs.size+3) .none→IsPair h' (s.heap.objs.size+2) (.ref s.heap.objs.size) (.ref (s.heap.objs.size+1)) →
      IsPair h' (s.heap.objs.size+3) .none .none→SqIt h' c1 s.heap.objs.size l1 0→SqIt h' c2 (s.heap.objs.size+1) l2 0 →
      (∀ c o,s.heap.get? c=some o→h'.get? c=some o)→Q (.ref (s.heap.objs.size+4)) { s with heap:=h' }) :
    wpAny (model prog w) A (call (.type "zip") [.ref l1,.ref l2]) Q E s:=by
  refine callType_new PySem.F.called_zip (by decide) (PySem.F.typeCall_zip_2 _ _) (PySem.F.newCall_zip_2 _ _) (fun obj=>PySem.F.args_object_init_3 obj _ _) PySem.F.entry_zip_new
    (zip_meets c1 c2 l1 l2 xs ys) ⟨hl1,hl2,?_⟩
  have z1:(zH1 s.heap c1 l1).objs.size=s.heap.objs.size+1:=Heap.size_push ..
  have z2:(zH2 s.heap c1 c2 l1 l2).objs.size=s.heap.objs.size+2:=by unfold zH2; rw [Heap.size_push,z1]
  have z3:(zH3 s.heap c1 c2 l1 l2).objs.size=s.heap.objs.size+3:=by unfold zH3; rw [Heap.size_push,z2]
  have z4:(zH4 s.heap c1 c2 l1 l2).objs.size=s.heap.objs.size+4:=by unfold zH4; rw [Heap.size_push,z3]
  have g5:(zH5 s.heap c1 c2 l1 l2).get? (zH4 s.heap c1 c2 l1 l2).objs.size=some _:=Heap.get?_push_size _ rfl
  have g4:(zH5 s.heap c1 c2 l1 l2).get? (zH3 s.heap c1 c2 l1 l2).objs.size=some _:=Heap.get?_push_of_some _ (Heap.get?_push_size _ rfl)
  have g3:(zH5 s.heap c1 c2 l1 l2).get? (zH2 s.heap c1 c2 l1 l2).objs.size=some _:=Heap.get?_push_of_some _ (Heap.get?_push_of_some _ (Heap.get?_push_size _ rfl))
  have g2:(zH5 s.heap c1 c2 l1 l2).get? (zH1 s.heap c1 l1).objs.size=some _:=Heap.get?_push_of_some _ (Heap.get?_push_of_some _ (Heap.get?_push_of_some _ (Heap.get?_push_size _ rfl)))
  have g1:(zH5 s.heap c1 c2 l1 l2).get? s.heap.objs.size=some _:=Heap.get?_push_of_some _ (Heap.get?_push_of_some _ (Heap.get?_push_of_some _ (Heap.get?_push_of_some _ (Heap.get?_push_size _ rfl))))
  refine (?_:_∧_)
  rw [z2,z3,z4] at g5
  rw [z1,z2] at g3
  rw [z3] at g4
  rw [z1] at g2
  rw [z4]
  exact ⟨⟨_,g5,rfl⟩,h _ g5 g3 g4 (itObj_at g1) (itObj_at g2) fun c o x=>
    Heap.get?_push_of_some _ (Heap.get?_push_of_some _ (Heap.get?_push_of_some _ (Heap.get?_push_of_some _ (Heap.get?_push_of_some _ x))))⟩
end
theorem apartN (n a b:Nat) (h1:a < n) (h2:b < n):ZipApart (n+4) (n+2) (n+3) n (n+1) a b:=by
  have q:∀ {i j:Nat},i≠j→n+i≠n+j:=fun h e=>h (Nat.add_left_cancel e)
  have p:∀ {i x:Nat},x < n→x≠n+i:=fun h=>Nat.ne_of_lt (Nat.lt_of_lt_of_le h (Nat.le_add_right _ _))
  constructor <;> first | exact p (i:=0) h1 | exact p h1 | exact p (i:=0) h2 | exact p h2 | exact q (by decide) | exact q (i:=0) (by decide) | exact q (j:=0) (by decide)
section
variable {Φ:Ct} [Hm Φ.fx] {E:Value→Shared→Prop} {s:Shared} {st:Bool}
theorem sq_of {v:Value} {x:V} {l:List V} (e:pairO x=some l) (r:Φ.rp s.heap v x):∃ c a xs,v=.ref a∧SqAt s.heap c a xs∧Φ.rps s.heap xs.toList l∧xs.size=l.length∧¬ Φ.bad a∧l.length≤szLine:=
  pair_elim (C:=fun x l=>Φ.rp s.heap v x→∃ c a xs,v=.ref a∧SqAt s.heap c a xs∧Φ.rps s.heap xs.toList l∧xs.size=l.length∧¬ Φ.bad a∧l.length≤szLine) e
    (fun l hz r=>r.list_elim fun a o vs n hb ha hc hd hl=>⟨true,a,vs,rfl,⟨_,ha,hc.1,_,hd⟩,hl,all_size hl,hb,hz⟩) (fun l hz r=>r.tuple_elim fun a o vs n hb ha hc hd hl=>⟨false,a,vs,rfl,⟨_,ha,hc,_,hd⟩,hl,all_size hl,hb,hz⟩) r
theorem iter_zip {elts:List Expr} {kk:Nat} {pos:Pos} {v1 v2:Value} {x y:V} {la lb:List V} (I:Inv Φ s) (e1:pairO x=some la) (e2:pairO y=some lb) (r1:Φ.rp s.heap v1 x) (r2:Φ.rp s.heap v2 y):IterOf Φ (.Tuple elts kk pos) st s E "zip" (zipL la lb) [v1,v2]:=by
  obtain ⟨c1,a1,xs,rfl,h1,rr1,len1,nb1,sz1⟩:=sq_of e1 r1
  obtain ⟨c2,a2,ys,rfl,h2,rr2,len2,nb2,_⟩:=sq_of e2 r2
  refine make_zip h1 h2 fun h' hz hti hto hi1 hi2 hk=>wpAny_pyIter_zip hz ⟨⟨hk,rfl,rfl⟩,?_⟩
  have fresh:∀ k,s.heap.get? (s.heap.objs.size+k)=none:=fun k=>by
    cases e:s.heap.get? (s.heap.objs.size+k) with
    | none=>rfl
    | some o=>exact absurd (Heap.lt_size e) (Nat.not_lt.mpr (Nat.le_add_right _ _))
  have lt1:a1 < s.heap.objs.size:=by obtain ⟨o,e⟩:=h1.live; exact Heap.lt_size e
  have lt2:a2 < s.heap.objs.size:=by obtain ⟨o,e⟩:=h2.live; exact Heap.lt_size e
  have D:ZipApart (s.heap.objs.size+4) (s.heap.objs.size+2) (s.heap.objs.size+3) s.heap.objs.size (s.heap.objs.size+1) a1 a2:=apartN _ _ _ lt1 lt2
  refine ⟨_,_,_,_,_,_,rfl,feed_zip (I.ok.hand Hm.no) (c1:=c1) (c2:=c2) D xs ys la lb len1 len2,⟨hz,hti,⟨_,_,hto⟩,hi1,hi2,h1.at fun o e=>hk _ o e,h2.at fun o e=>hk _ o e⟩,rr1.append rr2,mem4 (fresh 4) (fresh 3) (fresh 0) (fresh 1),mem7 (.inl (fresh 4)) (.inl (fresh 2)) (.inl (fresh 3)) (.inl (fresh 0)) (.inl (fresh 1)) (.inr fun _=>nb1) (.inr fun _=>nb2),zipL_length la lb▸Nat.le_trans (Nat.min_le_left _ _) sz1⟩
theorem src_zip {fp pos:Pos} {qs:List (Expr×DV)} {elts:List Expr} {kk:Nat} {tp:Pos} (hx:glob Φ.fx.env.scope.names "zip"=true) (hq:∀ q∈qs,plainE q.1=true∧Good1 Φ q) :
    EvSrc Φ (.Tuple elts kk tp) st (.Call (.Name "zip" fp) (qs.map Prod.fst) [] pos) (fun K=>manyV (qs.map Prod.snd) fun xs=>okK (opN .zip xs) fun z=>okK (seqV z) K):=
  src_call (F:="zip") hx rfl hq fun s vs xs z l E I rs e el=>two_elim (C:=IterOf Φ (.Tuple elts kk tp) st s E "zip" l) e rs fun v u x y r1 r2 e=>(Option.bind_eq_some_iff.mp e).elim fun la ⟨h1,e⟩=>map_elim (C:=fun z=>seqV z=some l→IterOf Φ (.Tuple elts kk tp) st s E "zip" l [v,u]) e (fun lb h2 el=>fit_elim (C:=fun l=>IterOf Φ (.Tuple elts kk tp) st s E "zip" l [v,u]) el fun _=>iter_zip I h1 h2 r1 r2) el
end
end Mine
end
noncomputable section
namespace Mine
open PySem PySem.Calls PyProof.Rows PySem.W
theorem no_some {α:Type} {x:Option α} {a:α} (h:x=none) (e:x=some a):False:=nomatch h.symm.trans e
theorem putName_cls (name:Str) (h:Int) (k v:Value) (o:Obj):(Obj.putName name h k v o).cls=o.cls:=by
  refine Obj.putName_eq.symm▸?_
  obtain ⟨c,d,dt,sl⟩:=o
  cases dt with
  | dict es n=>
    show (match es.findIdx? (fun e:DictEntry=>e.key.isStr name) with
      | some i=>(⟨c,d,.dict (es.modify i fun e=>{ e with val:=v }) n,sl⟩:Obj)
      | none=>⟨c,d,.dict (es.push ⟨h,k,v⟩) (n+1),sl⟩).cls=c
    split <;> rfl
  | _=>rfl
theorem update_get {h:Heap} {a:Addr} {o o':Obj} {f:Obj→Obj} (e:h.get? a=some o) (e':(h.update a f).get? a=some o'):o'=f o:=by
  obtain ⟨e1,_⟩:=Heap.get?_some_iff.mp e
  obtain ⟨e2,_⟩:=Heap.get?_some_iff.mp e'
  cases h
  simp only [Heap.update,Array.getElem?_modify,if_true] at e2
  simp only at e1
  rw [e1] at e2
  simpa using e2.symm
theorem wp_nsSetC {M:Model} {Γ:Ctx} {E:Value→Pos→Shared→Prop} {p:Pos} {s:Shared} {a:Addr} {m} (hn:s.heap.Ns a m) (name:Str) (v:Value) (Q:Unit→Pos→Shared→Prop)
    (hQ:∀ h',h'.Ns a (fun x=>if x=name then some v else m x)→Heap.SameBut a s.heap h'→(∀ o,s.heap.get? a=some o→∃ o',h'.get? a=some o'∧o'.cls=o.cls) →
      Q () p { s with heap:=h',toks:=s.toks+1 }):Sem.wp M Γ (nsSet a name v) Q E p s:=by
  have h1:=Sem.wp_nsSet M Γ E p s hn name v (fun _ _ s'=>s'.heap.Ns a (fun x=>if x=name then some v else m x)) fun h' hn' _=>hn'
  refine gen_goal fun Z4 kZ4=>?_
  obtain ⟨o,es,ep,ho,hd,hk,hm⟩:=hn
  refine kZ4 ?_
  simp only [nsSet,strHash,Sem.wp_bind',Sem.wp_cmd_ask,Sem.wp_pure',Sem.wp_cmd_mkText] at h1 ⊢
  rw [Sem.wp_loadPart_of M Γ E p { s with toks:=s.toks+1 } (o:=o) _ ho] at h1 ⊢
  have hany:es.any (·.refKey)=false:=by
    rw [Array.any_eq_false']; intro e he; obtain ⟨n,t,h⟩:=hk e he; simp [DictEntry.refKey,h]
  simp only [hd,aRefKeyMayBeTheName_eq,aRefKeyMayBeTheNameByArray,hany,Bool.and_false,Bool.false_eq_true,if_false,Sem.wp_cmd_updatePart] at h1 ⊢
  obtain ⟨h2,h3⟩:=h1
  refine ⟨h2,hQ _ h3 (Heap.SameBut.update ..) fun o' ho'=>?_⟩
  rw [ho] at ho'
  (injection ho' with ho'; subst ho')
  refine gen_goal fun Z6 kZ6=>?_
  obtain ⟨o',_,_,he,hd',_⟩:=h3
  refine kZ6 ?_
  exact ⟨o',he,by rw [update_get ho he]; exact putName_cls ..⟩
theorem wpAny_nsSetC {M:Model} {A:Around} {E:Value→Shared→Prop} {s:Shared} {a:Addr} {m} {name:Str} {v:Value} {Q:Unit→Shared→Prop} (hn:s.heap.Ns a m)
    (h:∀ h',h'.Ns a (fun x=>if x=name then some v else m x)→Heap.SameBut a s.heap h'→(∀ o,s.heap.get? a=some o→∃ o',h'.get? a=some o'∧o'.cls=o.cls)→Q () { s with heap:=h',toks:=s.toks+1 }) :
    wpAny M A (nsSet a name v) Q E s:=fun Γ p _=>wp_nsSetC hn name v _ h
theorem wpAny_cellSetC {M:Model} {A:Around} {E:Value→Shared→Prop} {s:Shared} {c:Addr} {v₀ v:Option Value} {Q:Unit→Shared→Prop} (hc:s.heap.IsCell c v₀)
    (h:∀ h',h'.IsCell c v→Heap.SameBut c s.heap h'→(∀ o,s.heap.get? c=some o→∃ o',h'.get? c=some o'∧o'.cls=o.cls)→Q () { s with heap:=h' }):wpAny M A (cellSet c v) Q E s:=by
  obtain ⟨o,ho,hd⟩:=hc
  skip
  refine wpAny_bind (wpAny_load ho ?_)
  refine hd.symm▸?_
  have e:=Heap.get?_update_self (fun o:Obj=>{ o with data:=.cell v }) ho rfl
  exact wpAny_update ho (h _ ⟨{ o with data:=.cell v },e,rfl⟩ (Heap.SameBut.update ..) fun o' ho'=>⟨_,e,by replace ho':=ho▸ho'; (injection ho' with ho'; subst ho'); rfl⟩)
noncomputable def ClsS (a:Addr) (h h':Heap):Prop:=∀ o,h.get? a=some o→∃ o',h'.get? a=some o'∧o'.cls=o.cls
theorem FrOk.but {h0 h h':Heap} {l:List Env} {a:Addr} (f:FrOk h0 h l) (hs:Heap.SameBut a h h') (c:(∃ o,h.get? a=some o∧NoFr o)∨(ClsS a h h'∧∀ o,h'.get? a=some o→∀ vs,o.data≠.fields vs)):FrOk h0 h' l:=fun env m=>by
  refine gen_goal fun Z8 kZ8=>?_
  obtain ⟨hk,L,o,hf,hn,ho,hc,hd⟩:=f env m
  refine kZ8 ?_
  by_cases q:L=a
  · subst q
    rcases c with ⟨o',e',n⟩ | ⟨c,d⟩
    · rw [ho] at e'; (injection e' with e'; subst e'); exact absurd hc n
    · obtain ⟨o',e',q⟩:=c o ho
      exact ⟨hk,L,o',hf,hn,e',q.trans hc,d o' e'⟩
  · exact ⟨hk,L,o,hf,hn,hs.extBut L o q ho,hc,hd⟩
theorem FrAt.but {g:Gl} {A:Around} {h h':Heap} {a:Addr} (f:FrAt g A h) (hs:Heap.SameBut a h h') (c:(∃ o,h.get? a=some o∧NoFr o)∨(ClsS a h h'∧∀ o,h'.get? a=some o→∀ vs,o.data≠.fields vs)):FrAt g A h':=f.elim fun l q=>⟨l,q.1,q.2.but hs c⟩
noncomputable def PlSet (h:Heap) (p:Pl) (v:Option Value) (h':Heap):Prop:=match p with
  | .ns a x=>(∃ m,h.Ns a m∧h'.Ns a (fun y=>if y=x then v else m y))∧Heap.SameBut a h h'∧ClsS a h h'
  | .cell c=>h'.IsCell c v∧Heap.SameBut c h h'∧ClsS c h h'
  | .off=>False
section
variable {Φ Φ':Ct} {s s' s₀:Shared} {h h':Heap}
theorem store_ok {x:Str} {k:Nat} {v:Value} {Q:Unit→Shared→Prop} (I:Inv Φ s) (hx:Φ.fx.ρ.lookup x=some k) (hnf:Φ.fx.env.kindOf x≠some .free) (h:∀ h' tk,PlSet s.heap (Φ.fx.pl k) (some v) h'→Q () { s with heap:=h',toks:=tk }):Φ.wp (storeName Φ.fx.env x v) Q s:=fun E=>by
  obtain ⟨u,pr,_⟩:=I.slot k
  rcases I.ok.vis x k hx with ⟨hl,hp⟩ | ⟨hl,c,hc,hp⟩
  · rw [hp] at pr h
    obtain ⟨m,hns,hv⟩:=pr
    rw [storeName_local hl (by rw [I.ok.kind]; rfl)]
    exact wpAny_nsSetC hns fun h' hn' hs' hc'=>h h' _ ⟨⟨m,hns,hn'⟩,hs',hc'⟩
  · rw [hp] at pr h
    rcases hl with hl | hl
    · unfold storeName
      rw [hl]
      refine wp_else (c:=(Φ.fx.env.scope.kind==.class&&some NameKind.cell==some .cell)=true) (by rw [I.ok.kind]; decide) ?_
      exact wpAny_bind (wpAny_cellOf hc (wpAny_cellSetC pr fun h' hc' hs' hk'=>h h' s.toks ⟨hc',hs',hk'⟩))
    · exact absurd hl hnf
theorem PlSet.addr {p:Pl} {v:Option Value} (ps:PlSet h p v h'):∃ a,p.addr=some a∧Heap.SameBut a h h'∧Live h' a∧ClsS a h h'∧∀ o,h'.get? a=some o→∀ vs,o.data≠.fields vs:=by
  cases p with
  | ns a x=>
    refine gen_goal fun Z13 kZ13=>?_
    obtain ⟨⟨m,_,hn⟩,hs,hc⟩:=ps
    obtain ⟨o,es,ep,ho,hd,_⟩:=hn
    refine kZ13 ?_
    exact ⟨a,rfl,hs,⟨o,ho⟩,hc,fun o' e' vs q=>by replace e':=ho▸e'; (injection e' with e'; subst e'); exact nomatch hd.symm.trans q⟩
  | cell c=>
    refine gen_goal fun Z14 kZ14=>?_
    obtain ⟨⟨o,ho,hd⟩,hs,hc⟩:=ps
    refine kZ14 ?_
    exact ⟨c,rfl,hs,⟨o,ho⟩,hc,fun o' e' vs q=>by replace e':=ho▸e'; (injection e' with e'; subst e'); exact nomatch hd.symm.trans q⟩
  | off=>exact ps.elim
theorem PlSet.self {p:Pl} {v:Option Value} (ps:PlSet h p v h'):PlRead h' p v:=by
  cases p with
  | ns a x=>obtain ⟨⟨m,_,hn⟩,hs,_⟩:=ps; exact ⟨_,hn,if_pos rfl⟩
  | cell c=>exact ps.1
  | off=>exact ps.elim
theorem PlSet.other {p q:Pl} {v u:Option Value} (ps:PlSet h p v h') (hne:q≠p) (ap:∀ a x c,(p=.ns a x∧q=.cell c)∨(q=.ns a x∧p=.cell c)→a≠c) (r:PlRead h q u):PlRead h' q u:=by
  cases p with
  | ns a x=>
    obtain ⟨⟨m,hm,hn⟩,hs,_⟩:=ps
    cases q with
    | ns b y=>
      obtain ⟨m',hm',hu⟩:=r
      by_cases e:b=a
      · subst e
        refine ⟨_,hn,?_⟩
        rw [if_neg fun q=>hne (by rw [q])]
        refine gen_goal fun Z17 kZ17=>?_
        obtain ⟨o,es,ep,ho,hd,_,hf⟩:=hm
        obtain ⟨o',es',ep',ho',hd',_,hf'⟩:=hm'
        refine kZ17 ?_
        replace ho':=ho▸ho'; (injection ho' with ho'; subst ho')
        replace hd':=hd▸hd'; (injection hd' with hd'; subst hd')
        rw [← hf,hf']; exact hu
      · exact ⟨m',hm'.sameBut hs e,hu⟩
    | cell c=>obtain ⟨o,ho,hd⟩:=r; exact ⟨o,hs.extBut c o (Ne.symm (ap a x c (.inl ⟨rfl,rfl⟩))) ho,hd⟩
    | off=>exact r
  | cell c=>
    obtain ⟨hc,hs,_⟩:=ps
    cases q with
    | ns b y=>obtain ⟨m',hm',hu⟩:=r; exact ⟨m',hm'.sameBut hs (ap b y c (.inr ⟨rfl,rfl⟩)),hu⟩
    | cell d=>obtain ⟨o,ho,hd⟩:=r; exact ⟨o,hs.extBut d o (fun q=>hne (by rw [q])) ho,hd⟩
    | off=>exact r
  | off=>exact ps.elim
noncomputable def isI:Slot→Prop
  | .ownI _=>True
  | _=>False
structure Tr (Φ:Ct) (s:Shared) (Φ':Ct) (s':Shared):Prop where
  fx:Φ'.fx=Φ.fx
  keep:∀ b o,s.heap.get? b=some o→¬ Φ.own b→KeepAt s'.heap b o
  live:∀ b,Live s.heap b→Live s'.heap b
  grow:∀ a,Live s.heap a→Φ'.own a→Φ.own a
  inst:∀ k a,Φ'.oa k=some a→isI (getSlot Φ'.G k)→Φ.oa k=some a∧isI (getSlot Φ.G k)
theorem Tr.refl (Φ:Ct) (s:Shared):Tr Φ s Φ s:=⟨rfl,fun _ _ e _=>.of e,fun _ l=>l,fun _ _ q=>q,fun _ _ e q=>⟨e,q⟩⟩
theorem Tr.trans {Φ₂ Φ₃:Ct} {s₂ s₃:Shared} (x:Tr Φ s Φ₂ s₂) (y:Tr Φ₂ s₂ Φ₃ s₃):Tr Φ s Φ₃ s₃ where
  fx:=y.fx.trans x.fx
  keep:=fun b o e n=>(x.keep b o e n).step fun o' e'=>y.keep b o' e' fun q=>n (x.grow b ⟨o,e⟩ q)
  live:=fun b l=>y.live b (x.live b l)
  grow:=fun a l q=>x.grow a l (y.grow a (x.live a l) q)
  inst:=fun k a e q=>(y.inst k a e q).elim fun e q=>x.inst k a e q
theorem Tr.of_keeps (k:Keeps s.heap s'.heap):Tr Φ s Φ s':=⟨rfl,fun b o e _=>k b o e,fun _=>k.live,fun _ _ q=>q,fun _ _ e q=>⟨e,q⟩⟩
theorem Tr.mapK (t:Tr Φ s Φ' s'):MapK Φ.bad Φ'.bad s.heap s'.heap:=fun a o e f n=>
  ⟨fun b=>b.elim (fun b=>n (.inl (t.fx▸b))) fun b=>n (.inr (t.grow a ⟨o,e⟩ b)),(t.keep a o e fun q=>n (.inr q)).get f⟩
theorem getSlot_self {G:Gs} {k:Nat} {x:Slot} (hk:k < G.length):getSlot (G.set k x) k=x:=by
  unfold getSlot; rw [List.getD_eq_getElem?_getD,List.getElem?_set_self hk]; rfl
theorem getSlot_ne {G:Gs} {k j:Nat} {x:Slot} (h:j≠k):getSlot (G.set k x) j=getSlot G j:=by
  unfold getSlot; rw [List.getD_eq_getElem?_getD,List.getD_eq_getElem?_getD,List.getElem?_set_ne (Ne.symm h)]
noncomputable def Ct.put (Φ:Ct) (k:Nat) (oak:Option Addr) (sl:Slot):Ct:=⟨Φ.fx,fun j=>if j=k then oak else Φ.oa j,Φ.G.set k sl⟩
theorem put_own {k:Nat} {oak:Option Addr} {sl:Slot} {a:Addr} (q:(Φ.put k oak sl).own a):oak=some a∨Φ.own a:=by
  rcases q with q | ⟨j,q⟩
  · exact .inr (.inl q)
  · by_cases e:j=k
    · exact .inl ((if_pos e).symm.trans q)
    · exact .inr (.inr ⟨j,(if_neg e).symm.trans q⟩)
theorem put_inst {k:Nat} {oak:Option Addr} {sl:Slot} (hon:k < Φ.G.length) (h:isI sl→Φ.oa k=oak∧isI (getSlot Φ.G k)):∀ j a,(Φ.put k oak sl).oa j=some a→isI (getSlot (Φ.put k oak sl).G j)→Φ.oa j=some a∧isI (getSlot Φ.G j):=fun j a e q=>by
  have e:(if j=k then oak else Φ.oa j)=some a:=e
  have q:isI (getSlot (Φ.G.set k sl) j):=q
  by_cases c:j=k
  · subst c
    rw [getSlot_self hon] at q
    rw [if_pos rfl] at e
    exact ⟨(h q).1.trans e,(h q).2⟩
  · rw [if_neg c] at e
    rw [getSlot_ne c] at q
    exact ⟨e,q⟩
theorem Inv.put {k tk:Nat} {v:Option Value} {sl:Slot} {oak:Option Addr} (I:Inv Φ s₀) (B:Base Φ.fx.g s) (k₀:Keeps s₀.heap s.heap) (ps:PlSet s.heap (Φ.fx.pl k) v h')
    (so:SlotOk Φ.fx.g (Φ.put k oak sl).bad h' oak v sl) (hnew:∀ a,oak=some a→s₀.heap.get? a=none∧Live h' a) (hni:¬ isI sl):Inv (Φ.put k oak sl) { s with heap:=h',toks:=tk }∧Tr Φ s₀ (Φ.put k oak sl) { s with heap:=h',toks:=tk }:=by
  refine gen_goal fun Z20 kZ20=>?_
  obtain ⟨a,ha,hs,hl,hcl,hnd⟩:=ps.addr
  refine kZ20 ?_
  have hon:k < Φ.G.length:=by
    rw [I.gl]
    refine Nat.lt_of_lt_of_le (Nat.lt_of_not_le fun q=>?_) I.ok.nfs
    replace ha:=(I.ok.offs k q)▸ha; (injection ha; done)
  have hown:Φ.own a:=.inl ⟨k,ha⟩
  have kp:∀ b o,b≠a→s₀.heap.get? b=some o→KeepAt h' b o:=fun b o n e=>(k₀ b o e).step fun o' e'=>.of (hs.extBut b o' n e')
  have live:∀ b,Live s₀.heap b→Live h' b:=fun b ⟨o,e⟩=>(Classical.em (b=a)).elim (fun q=>q▸hl) fun n=>(kp b o n e).live
  have nl:∀ b,oak=some b→¬ Live s₀.heap b:=fun b e ⟨o,q⟩=>by replace q:=((hnew b e).1)▸q; (injection q; done)
  have mk:MapK Φ.bad (Φ.put k oak sl).bad s₀.heap h':=fun b o e f n=>by
    refine ⟨fun q=>?_,(kp b o (fun q=>n (.inr (q▸hown))) e).get f⟩
    rcases q with q | q
    · exact n (.inl q)
    · exact (put_own q).elim (fun q=>nl b q ⟨o,e⟩) fun q=>n (.inr q)
  have nonew:∀ b,Φ.own b→¬ oak=some b:=fun b q e=>nl b e (I.new b q).1
  refine ⟨⟨I.ok,⟨fun b o e=>hs.extBut b o (fun q=>no_some (I.new a hown).2.1 (q▸e)) (B.stays b o e),B.os,B.gens⟩,fun j=>?_,fun b q=>?_,fun i j b e1 e2=>?_,fun j b e i q=>?_,?_,fun b q=>live b (I.mo b q),(I.fr.keep k₀).but hs (.inr ⟨hcl,hnd⟩)⟩,
    ⟨rfl,fun b o e n=>kp b o (fun q=>n (q▸hown)) e,live,fun b l q=>(put_own q).elim (fun q=>absurd l (nl b q)) id,put_inst hon fun q=>absurd q hni⟩⟩
  · by_cases e:j=k
    · subst e
      refine ⟨v,ps.self,?_⟩
      have e1:(Φ.put j oak sl).oa j=oak:=if_pos rfl
      have e2:getSlot (Φ.put j oak sl).G j=sl:=getSlot_self hon
      rw [e1,e2]; exact so
    · obtain ⟨u,pr,sj⟩:=I.slot j
      have e1:(Φ.put k oak sl).oa j=Φ.oa j:=if_neg e
      have e2:getSlot (Φ.put k oak sl).G j=getSlot Φ.G j:=getSlot_ne e
      refine e1.symm▸e2.symm▸?_
      refine ⟨u,?_,sj.map mk fun b eb o e f=>(kp b o (fun q=>I.off j b eb k (q▸ha)) e).get f⟩
      by_cases ho:Φ.fx.pl j=.off
      · refine (?_:PlRead h' (Φ.fx.pl j) u)
        rw [ho] at pr ⊢; exact pr
      · exact ps.other (fun q=>e (I.ok.inj j k q ho)) (fun a' x c q=>q.elim (fun q=>I.ok.apart k j a' x c q.1 q.2) fun q=>I.ok.apart j k a' x c q.1 q.2) (pr.keep k₀)
  · rcases put_own q with q | q
    · exact ⟨(hnew b q).2,none_of (fun l=>I.base.stays.live l) (hnew b q).1,fun z=>nl b q (I.mo b z)⟩
    · obtain ⟨l,n⟩:=I.new b q
      exact ⟨live b l,n⟩
  · have c1:(if i=k then oak else Φ.oa i)=some b:=e1
    have c2:(if j=k then oak else Φ.oa j)=some b:=e2
    by_cases h1:i=k <;> by_cases h2:j=k
    · exact h1.trans h2.symm
    · rw [if_pos h1] at c1; rw [if_neg h2] at c2; exact absurd c1 (nonew b (.inr ⟨j,c2⟩))
    · rw [if_neg h1] at c1; rw [if_pos h2] at c2; exact absurd c2 (nonew b (.inr ⟨i,c1⟩))
    · rw [if_neg h1] at c1; rw [if_neg h2] at c2; exact I.inj i j b c1 c2
  · have c:(if j=k then oak else Φ.oa j)=some b:=e
    by_cases h1:j=k
    · rw [if_pos h1] at c; exact nonew b (.inl ⟨i,q⟩) c
    · rw [if_neg h1] at c; exact I.off j b c i q
  · refine (?_:(Φ.G.set k sl).length=_)
    rw [List.length_set]; exact I.gl
theorem Inv.mutate {k tk:Nat} {a:Addr} {u:Value} {sl:Slot} (I:Inv Φ s) (hk:Φ.oa k=some a) (pr:PlRead s.heap (Φ.fx.pl k) (some u)) (hnf:∃ o,s.heap.get? a=some o∧NoFr o) (hs:Heap.SameBut a s.heap h') (hl:Live h' a) (ow:OwnAt Φ.fx.g Φ.bad h' a u sl) (hsl:∀ x,sl≠.v x) (hsl':sl≠.unset) (hni:isI sl→isI (getSlot Φ.G k)) :
    Inv (Φ.put k (some a) sl) { s with heap:=h',toks:=tk }∧Tr Φ s (Φ.put k (some a) sl) { s with heap:=h',toks:=tk }:=by
  have kp:∀ b o,b≠a→s.heap.get? b=some o→h'.get? b=some o:=fun b o n e=>hs.extBut b o n e
  have hown:Φ.own a:=.inr ⟨k,hk⟩
  have hon:k < Φ.G.length:=by
    rw [I.gl]
    refine Nat.lt_of_lt_of_le (Nat.lt_of_not_le fun q=>?_) I.ok.nfs
    replace pr:=(I.ok.offs k q)▸pr; (injection pr; done)
  have eo:(Φ.put k (some a) sl).oa=Φ.oa:=funext fun j=>(Classical.em (j=k)).elim (fun e=>(if_pos e).trans (e▸hk.symm)) fun e=>if_neg e
  have eb:(Φ.put k (some a) sl).bad=Φ.bad:=by unfold Ct.bad Ct.own; rw [eo]; rfl
  have ew:(Φ.put k (some a) sl).own=Φ.own:=by unfold Ct.own; rw [eo]; rfl
  have live:∀ b,Live s.heap b→Live h' b:=fun b ⟨o,e⟩=>(Classical.em (b=a)).elim (fun q=>q▸hl) fun n=>⟨o,kp b o n e⟩
  have mk:MapK Φ.bad Φ.bad s.heap h':=fun b o e _ n=>⟨n,kp b o (fun q=>n (.inr (q▸hown))) e⟩
  have plr:∀ j u,PlRead s.heap (Φ.fx.pl j) u→PlRead h' (Φ.fx.pl j) u:=fun j u r=>by
    have na:∀ c,(Φ.fx.pl j).addr=some c→c≠a:=fun c e q=>I.off k a hk j (q▸e)
    generalize Φ.fx.pl j=p at r na
    cases p with
    | ns c x=>obtain ⟨m,hn,hu⟩:=r; exact ⟨m,hn.at' fun o e=>kp c o (na c rfl) e,hu⟩
    | cell c=>obtain ⟨o,ho,hd⟩:=r; exact ⟨o,kp c o (na c rfl) ho,hd⟩
    | off=>exact r
  refine ⟨⟨I.ok,⟨fun b o e=>kp b o (fun q=>no_some (I.new a hown).2.1 (q▸e)) (I.base.stays b o e),I.base.os,I.base.gens⟩,fun j=>?_,fun b q=>?_,by exact eo.symm▸I.inj,by exact eo.symm▸I.off,?_,fun b q=>live b (I.mo b q),I.fr.but hs (.inl hnf)⟩,
    ⟨rfl,fun b o e n=>.of (kp b o (fun q=>n (q▸hown)) e),live,fun b l q=>ew▸q,put_inst hon fun q=>⟨hk,hni q⟩⟩⟩
  · refine eb.symm▸eo.symm▸?_
    by_cases e:j=k
    · subst e
      refine ⟨some u,plr j _ pr,?_⟩
      have e2:getSlot (Φ.put j (some a) sl).G j=sl:=getSlot_self hon
      refine e2.symm▸?_
      cases sl with
      | unset=>exact absurd rfl hsl'
      | v x=>exact absurd rfl (hsl x)
      | junk=>exact ow.elim
      | _=>exact ⟨a,u,hk,rfl,ow⟩
    · refine gen_goal fun Z23 kZ23=>?_
      obtain ⟨w,r,sj⟩:=I.slot j
      refine kZ23 ?_
      have e2:getSlot (Φ.put k (some a) sl).G j=getSlot Φ.G j:=getSlot_ne e
      exact e2.symm▸⟨w,plr j w r,sj.map mk fun b eb o e' _=>kp b o (fun q=>e (I.inj j k a (q▸eb) hk)) e'⟩
  · rw [ew] at q
    obtain ⟨l,n⟩:=I.new b q
    exact ⟨live b l,n⟩
  · refine (?_:(Φ.G.set k sl).length=_)
    rw [List.length_set]; exact I.gl
end
end Mine
end
noncomputable section
namespace Mine
open PySem PySem.Calls PyProof.Rows PySem.W
noncomputable abbrev Ct.wi (Φ:Ct) (oa:Nat→Option Addr) (G:Gs):Ct:=⟨Φ.fx,oa,G⟩
section
variable {Φ:Ct} {s s' s₁:Shared} {v:Value} {x:V}
theorem put_val {k tk:Nat} {h':Heap} (I:Inv Φ s) (ps:PlSet s.heap (Φ.fx.pl k) (some v) h') (r:Φ.rp s.heap v x):Inv (Φ.put k none (.v x)) { s with heap:=h',toks:=tk }∧Tr Φ s (Φ.put k none (.v x)) { s with heap:=h',toks:=tk }:=by
  refine gen_goal fun Z1 kZ1=>?_
  obtain ⟨a,ha,hs,_⟩:=ps.addr
  refine kZ1 ?_
  refine Inv.put (oak:=none) (sl:=.v x) I I.base (.refl _) ps ⟨rfl,v,rfl,r.map fun b o e _ n=>⟨fun q=>?_,hs.extBut b o (fun q=>n (.inr (.inl ⟨k,q▸ha⟩))) e⟩⟩ (fun a q=>nomatch q) id
  exact n (q.imp id fun (q:(Φ.put k none (.v x)).own b)=>(put_own q).elim (fun (z:none=some b)=>nomatch z) id)
structure TgtOk (ρ:List (Str×Nat)) (env:Env) (n:Str) (k:Nat):Prop where
  lk:ρ.lookup n=some k
  nf:env.kindOf n≠some .free
theorem tgt1 {n:Str} {k:Nat} {py:Pos} (hT:TgtOk Φ.fx.ρ Φ.fx.env n k) (I:Inv Φ s) (r:Φ.rp s.heap v x) :
    Φ.wp (assign (.Name n py) Φ.fx.env v) (fun _ s'=>Inv (Φ.put k none (.v x)) s'∧Tr Φ s (Φ.put k none (.v x)) s'∧∀ b o,s.heap.get? b=some o→(Φ.fx.pl k).addr≠some b→s'.heap.get? b=some o) s:=fun E=>by
  rw [arm_assign_Name]
  refine wpAny_bind (wpAny_standAt (wpAny_bindName (store_ok I hT.lk hT.nf (fun h' tk ps=>?_) E)))
  refine gen_goal fun Z2 kZ2=>?_
  obtain ⟨a,ha,hs,_⟩:=ps.addr
  refine kZ2 ?_
  have q:=put_val (tk:=tk) I ps r
  exact ⟨q.1,q.2,fun b o e n=>hs.extBut b o (fun q=>n (q▸ha)) e⟩
noncomputable def setAll (ks:List Nat) (xs:List V) (G:Gs):Gs:=(ks.zip xs).foldl (fun G p=>G.set p.1 (.v p.2)) G
inductive TgtsOk (ρ:List (Str×Nat)) (env:Env):List Expr→List Nat→Prop
  | nil:TgtsOk ρ env [] []
  | cons {n:Str} {p:Pos} {k:Nat} {es:List Expr} {ks:List Nat}:TgtOk ρ env n k→TgtsOk ρ env es ks→TgtsOk ρ env (.Name n p :: es) (k :: ks)
noncomputable def offs (ks:List Nat) (oa:Nat→Option Addr):Nat→Option Addr:=ks.foldl (fun oa k j=>if j=k then none else oa j) oa
noncomputable def TgtPost (fx:Fx) (oa:Nat→Option Addr) (G:Gs) (s:Shared) (ks:List Nat) (G':Gs) (s':Shared):Prop:=
  Inv ⟨fx,offs ks oa,G'⟩ s'∧Tr ⟨fx,oa,G⟩ s ⟨fx,offs ks oa,G'⟩ s'∧∀ b o,s.heap.get? b=some o→(∀ k∈ks,(fx.pl k).addr≠some b)→s'.heap.get? b=some o
theorem tgts {fx:Fx} {es:List Expr} {ks:List Nat} (hT:TgtsOk fx.ρ fx.env es ks):∀ {oa:Nat→Option Addr} {G:Gs} {vs:List Value} {xs:List V} {s:Shared},xs.length=ks.length→Inv ⟨fx,oa,G⟩ s→(Ct.mk fx oa G).rps s.heap vs xs →
    (Ct.mk fx oa G).wp (assignInOrder ((assignEach es fx.env).map (·.2)) vs) (fun _ s'=>TgtPost fx oa G s ks (setAll ks xs G) s') s:=by
  induction hT with
  | nil=>
    intro oa G vs xs s hl I r E
    obtain rfl:=List.length_eq_zero_iff.mp hl
    cases r
    exact wpAny_pure ⟨I,.refl _ _,fun _ _ e _=>e⟩
  | @cons n p k es ks h1 _ ih=>
    intro oa G vs xs s hl I r E
    cases r with
    | nil=>(injection hl; done)
    | @cons v vs x xs r rs=>
      refine (?_:wpAny _ _ (holding vs (assign (.Name n p) fx.env v) >>= fun _=>assignInOrder ((assignEach es fx.env).map (·.2)) vs) _ _ _)
      refine wpAny_bind (wpAny_holding (wpAny_mono (tgt1 (Φ:=⟨fx,oa,G⟩) h1 I r E) (fun _ s₁ q=>?_) fun _ _ z=>z))
      refine wpAny_mono (ih (Nat.succ.inj hl) q.1 (rs.map q.2.1.mapK) E) (fun _ s₂ z=>?_) fun _ _ z=>z
      exact ⟨z.1,q.2.1.trans z.2.1,fun b o e n=>z.2.2 b o (q.2.2 b o e (n k (.head _))) fun j m=>n j (.tail _ m)⟩
theorem tgts_plain {ρ:List (Str×Nat)} {e0 env:Env} {es:List Expr} {ks:List Nat} (hT:TgtsOk ρ e0 es ks):(assignEach es env).length=ks.length∧(assignEach es env).findIdx? (·.1)=none:=by
  induction hT with
  | nil=>exact ⟨rfl,rfl⟩
  | @cons n p k es ks h1 _ ih=>
    have e:assignEach (.Name n p :: es) env=(false,assign (.Name n p) env) :: assignEach es env:=rfl
    rw [e]
    exact ⟨congrArg (· + 1) ih.1,by rw [List.findIdx?_cons,ih.2]; rfl⟩
theorem setMany_some {ks:List Nat} {G G':Gs} (e:setMany ks G x=some G') {C:V→Gs→Prop} (k:∀ xs,xs.length=ks.length→C (.tuple xs) (setAll ks xs G)):C x G':=by
  cases x with
  | tuple xs=>exact if_elim e fun h=>k xs h
  | _=>(injection e; done)
theorem tgtM [Hm Φ.fx] {es:List Expr} {ks:List Nat} {kk:Nat} {p:Pos} {G':Gs} (hT:TgtsOk Φ.fx.ρ Φ.fx.env es ks) (I:Inv Φ s) (e:setMany ks Φ.G x=some G') (r:Φ.rp s.heap v x) :
    Φ.wp (assign (.Tuple es kk p) Φ.fx.env v) (fun _ s'=>TgtPost Φ.fx Φ.oa Φ.G s ks G' s') s:=fun E=>
  setMany_some (C:=fun x G'=>Φ.rp s.heap v x→wpAny _ _ (assign (.Tuple es kk p) Φ.fx.env v) (fun _ s'=>TgtPost Φ.fx Φ.oa Φ.G s ks G' s') E s) e (fun xs hl r=>r.tuple_elim fun a o vs n hb ha hc hd hr=>by
    obtain ⟨h1,h2⟩:=tgts_plain (env:=Φ.fx.env) hT
    refine wpAny_assign_Tuple (I.ok.hand Hm.no) ⟨_,ha,hc,_,hd⟩ (by exact h1.symm▸hl▸(all_size hr).symm) h2 fun h' he=>?_
    have gr:Grown s { s with heap:=h' }:=⟨fun b o e=>he b o (Nat.ne_of_lt (Heap.lt_size e)) e,rfl,rfl⟩
    refine wpAny_mono (tgts (oa:=Φ.oa) (G:=Φ.G) hT hl (I.keep (I.base.grown gr) gr.keeps) (hr.keep gr.keeps) E) (fun _ s₂ z=>⟨z.1,(Tr.of_keeps gr.keeps).trans z.2.1,fun b o e n=>z.2.2 b o (gr.stays b o e) n⟩) fun _ _ z=>z) r
noncomputable def FlOk (Φ:Ct) (s:Shared) (h:Heap) (f:Flow) (fl:Option V):Prop:=match fl with
  | none=>f=.next
  | some x=>noX x=true∧∃ v,f=.ret v∧Φ.rp h v x∧(Φ.fx.nw=true→NewV s.heap v)
theorem FlOk.lift {f:Flow} {fl:Option V} {h:Heap} (x:FlOk Φ s₁ h f fl) (k:∀ b,Live s.heap b→Live s₁.heap b):FlOk Φ s h f fl:=by
  cases fl with
  | none=>exact x
  | some y=>obtain ⟨nx,v,e,r,n⟩:=x; exact ⟨nx,v,e,r,fun q=>(n q).le k⟩
inductive PostS (Φ:Ct) (s:Shared) (K:Option V→Gs→Prop) (f:Flow) (s':Shared):Prop
  | mk:∀ oa' G' fl,(fl=none∨Φ.fx.hm=true→Inv (Φ.wi oa' G') s')→Base Φ.fx.g s'→Tr Φ s (Φ.wi oa' G') s'→FlOk (Φ.wi oa' G') s s'.heap f fl→K fl G'→PostS Φ s K f s'
inductive PostX (Φ:Ct) (s:Shared) (K:Option V→Gs→Prop) (v:Value) (s':Shared):Prop
  | mk:∀ oa' G' c e,v=.ref e→c < Φ.fx.g.nc→Inv (Φ.wi oa' G') s'→Tr Φ s (Φ.wi oa' G') s'→ExcAt s'.heap s.heap e (.ref (Φ.fx.g.cls c)) .none→K (some (excV c)) G'→PostX Φ s K v s'
noncomputable def ExB (fx:Fx) (t:Sem Flow) (X:B):Prop:=∀ oa G K s,X G K→Inv ⟨fx,oa,G⟩ s→wpAny (model fx.g.prog fx.g.w) fx.A t (PostS ⟨fx,oa,G⟩ s K) (PostX ⟨fx,oa,G⟩ s K) s
theorem ExcAt.le {h lo lo':Heap} {e:Addr} {cls fl:Value} (x:ExcAt h lo e cls fl) (q:∀ b,Live lo' b→Live lo b):ExcAt h lo' e cls fl:=by
  obtain ⟨oe,vs,a,b,c,d,f,g,k⟩:=x
  refine ⟨oe,vs,a,b,c,d,none_of (q _) f,g,k.imp id ?_⟩
  rintro ⟨T,oT,ts,a,b,c,d⟩
  exact ⟨T,oT,ts,a,b,none_of (q _) c,d⟩
theorem PostS.lift {K:Option V→Gs→Prop} {f:Flow} {oa₁:Nat→Option Addr} {G₁:Gs} (p:PostS (Φ.wi oa₁ G₁) s₁ K f s') (t:Tr Φ s (Φ.wi oa₁ G₁) s₁):PostS Φ s K f s':=by
  obtain ⟨oa',G',fl,I,B,t',h,h'⟩:=p
  exact ⟨oa',G',fl,I,B,t.trans t',h.lift t.live,h'⟩
theorem PostX.lift {K:Option V→Gs→Prop} {oa₁:Nat→Option Addr} {G₁:Gs} (p:PostX (Φ.wi oa₁ G₁) s₁ K v s') (t:Tr Φ s (Φ.wi oa₁ G₁) s₁):PostX Φ s K v s':=by
  obtain ⟨oa',G',c,e,h1,h2,I,t',x,h⟩:=p
  exact ⟨oa',G',c,e,h1,h2,I,t.trans t',x.le t.live,h⟩
theorem PostX.imp {K K':Option V→Gs→Prop} (p:PostX Φ s K v s') (q:∀ x G,K (some x) G→K' (some x) G):PostX Φ s K' v s':=by
  obtain ⟨oa',G',c,e,h1,h2,I,t',x,h⟩:=p
  exact ⟨oa',G',c,e,h1,h2,I,t',x,q _ _ h⟩
theorem PostS.next {K:Option V→Gs→Prop} {oa':Nat→Option Addr} {G':Gs} (I:Inv (Φ.wi oa' G') s') (t:Tr Φ s (Φ.wi oa' G') s') (k:K none G'):PostS Φ s K .next s':=⟨oa',G',none,fun _=>I,I.base,t,rfl,k⟩
end
section
variable {fx:Fx} {s:Shared}
theorem ex_nil:ExB fx (execs [] fx.env) (fun G K=>K none G):=fun oa G K s hd I=>wpAny_execs_nil (.next I (.refl _ _) hd)
theorem ex_cons {st:Stmt} {r:List Stmt} {X Y:B} (h1:ExB fx (exec st fx.env) X) (h2:ExB fx (execs r fx.env) Y):ExB fx (execs (st :: r) fx.env) (fun G K=>X G fun fl G'=>match fl with | none=>Y G' K | some x=>K (some x) G'):=fun oa G K s hd I=>by
  refine wpAny_execs_cons (wpAny_mono (h1 oa G _ s hd I) (fun f s₁ ⟨oa₁,G₁,fl,I₁,B₁,t₁,hf,hk⟩=>?_) fun _ _ z=>z.imp fun _ _ k=>k)
  cases fl with
  | none=>subst hf; exact wpAny_mono (h2 oa₁ G₁ K s₁ hk (I₁ (.inl rfl))) (fun _ _ p=>p.lift t₁) fun _ _ p=>p.lift t₁
  | some x=>obtain ⟨nx,v,rfl,r⟩:=hf; exact ⟨oa₁,G₁,some x,I₁,B₁,t₁,⟨nx,v,rfl,r⟩,hk⟩
theorem ex_if {c:Expr} {a b:List Stmt} {pos:Pos} {d:Gs→DV} {X Y:B} (hc:∀ oa G,EvT ⟨fx,oa,G⟩ (isTrue c fx.env (eval c fx.env)) (tst (d G))) (ha:ExB fx (execs a fx.env) X) (hb:ExB fx (execs b fx.env) Y) :
    ExB fx (exec (.If c a b pos) fx.env) (fun G K=>d G fun x=>okK (boolO x some) fun t=>if t=true then X G K else Y G K):=fun oa G K s hd I=>by
  refine wpAny_If (wpAny_mono (hc oa G (fun t=>if t=true then X G K else Y G K) s hd I _) (fun t s₁ ⟨B,k,t',hk,e⟩=>?_) fun _ _ z=>z)
  subst e
  cases t with
  | true=>exact wpAny_mono (ha oa G K s₁ hk (I.keep B k)) (fun _ _ p=>p.lift (.of_keeps k)) fun _ _ p=>p.lift (.of_keeps k)
  | false=>exact wpAny_mono (hb oa G K s₁ hk (I.keep B k)) (fun _ _ p=>p.lift (.of_keeps k)) fun _ _ p=>p.lift (.of_keeps k)
theorem ex_ret {e:Expr} {pos:Pos} {d:Gs→DV} (hnw:fx.nw=false) (h:∀ oa G,Ev ⟨fx,oa,G⟩ (eval e fx.env) (d G)):ExB fx (exec (.Return (some e) pos) fx.env) (fun G K=>d G fun x=>noX x=true∧K (some x) G):=fun oa G K s hd I=>by
  rw [exec_Return_some]
  exact wpAny_bind (wpAny_standAt (wpAny_bind (wpAny_mono (h oa G _ s hd I _) (fun v s₁ ⟨B,k,x,hx,r⟩=>wpAny_pure ⟨oa,G,some x,fun _=>I.keep B k,B,.of_keeps k,⟨hx.1,v,rfl,r,fun q=>nomatch hnw.symm.trans q⟩,hx.2⟩) fun _ _ z=>z)))
theorem ex_retN {e:Expr} {pos:Pos} {d:Gs→DV} (h:∀ oa G,EvN ⟨fx,oa,G⟩ (eval e fx.env) (d G)):ExB fx (exec (.Return (some e) pos) fx.env) (fun G K=>d G fun x=>noX x=true∧K (some x) G):=fun oa G K s hd I=>by
  rw [exec_Return_some]
  exact wpAny_bind (wpAny_standAt (wpAny_bind (wpAny_mono (h oa G _ s hd I _) (fun v s₁ ⟨⟨B,k,x,hx,r⟩,n⟩=>wpAny_pure ⟨oa,G,some x,fun _=>I.keep B k,B,.of_keeps k,⟨hx.1,v,rfl,r,fun _=>n⟩,hx.2⟩) fun _ _ z=>z)))
theorem call_st {n:Str} {f:Nat} {fp pos:Pos} {qs:List (Expr×DV)} {Φ:Ct} {K:V→Prop} {Q:Value→Shared→Prop} {E:Value→Shared→Prop} (hx:glob Φ.fx.env.scope.names n=true) (hf:Φ.fx.g.fns.lookup n=some f) (hfn:keepIn Φ.fx.g.K (.ref (Φ.fx.g.fn f))=true) (hsf:Φ.safe f)
    (hq:∀ q∈qs,plainE q.1=true∧Good1 Φ q) (hd:manyV (qs.map Prod.snd) fun xs=>callN Φ.fx.g.P Φ.fx.d f xs K) (I:Inv Φ s)
    (hQ:∀ v s' y,Inv Φ s'→Keeps s.heap s'.heap→K y→noX y=true→Φ.rp s'.heap v y→(Φ.fx.g.newf f=true→NewV s.heap v)→Q v s') (hE:∀ s' c e,Inv Φ s'→Keeps s.heap s'.heap→c < Φ.fx.g.nc→K (excV c)→ExcAt s'.heap s.heap e (.ref (Φ.fx.g.cls c)) .none→E (.ref e) s') :
    wpAny (model Φ.fx.g.prog Φ.fx.g.w) Φ.fx.A (eval (.Call (.Name n fp) (qs.map Prod.fst) [] pos) Φ.fx.env) Q E s:=by
  refine (?_:wpAny _ _ (eval (.Name n fp) Φ.fx.env >>= fun F=>callWith pos F [] (backTo pos (starEach (qs.map Prod.fst) Φ.fx.env)) []) _ _ s)
  refine wpAny_bind (name_main I hx (I.ok.gr.fns n f hf) ?_ E)
  refine callWith_of (by rw [back_any (star_false fun q m=>(hq q m).1)]; rfl) (keeps_K hfn) (args_ok hq hd I fun vs xs s₁ I₁ k₁ hx rs=>⟨I₁.frag,?_⟩)
  exact wpAny_mono (I₁.ok.call Φ.fx.hm f xs _ Φ.fx.A s₁ Φ.bad vs hx I₁.ok.hand hsf I₁.ok.room I₁.ok.units I₁.base I₁.fr (fun a b=>I₁.badLive b) rs) (fun v s' ⟨B,k,y,hy,nx,r,nv⟩=>hQ v s' y (I₁.keep B k) (k₁.trans k) hy nx r fun q=>(nv q).le fun _=>k₁.live)
    fun v s' ⟨B,k,c,e,hv,hc,hy,x⟩=>hv▸hE s' c e (I₁.keep B k) (k₁.trans k) hc hy (x.le fun _=>k₁.live)
theorem ex_retC {n:Str} {f:Nat} {fp cpos pos:Pos} {qs:Gs→List (Expr×DV)} {es:List Expr} (hes:∀ G,(qs G).map Prod.fst=es) (hx:glob fx.env.scope.names n=true) (hf:fx.g.fns.lookup n=some f) (hfn:keepIn fx.g.K (.ref (fx.g.fn f))=true) (hsf:fx.hm=true→fx.g.safe f=true) (hnw:fx.nw=true→fx.g.newf f=true)
    (hq:∀ oa G,∀ q∈qs G,plainE q.1=true∧Good1 ⟨fx,oa,G⟩ q):ExB fx (exec (.Return (some (.Call (.Name n fp) es [] cpos)) pos) fx.env) (fun G K=>manyV ((qs G).map Prod.snd) fun xs=>callN fx.g.P fx.d f xs fun y=>K (some y) G):=fun oa G K s hd I=>by
  rw [exec_Return_some,← hes G]
  refine wpAny_bind (wpAny_standAt (wpAny_bind (call_st (Φ:=⟨fx,oa,G⟩) hx hf hfn hsf (hq oa G) hd I (fun v s' y I' k hy nx r nv=>wpAny_pure ⟨oa,G,some y,fun _=>I',I'.base,.of_keeps k,⟨nx,v,rfl,r,fun q=>nv (hnw q)⟩,hy⟩) fun s' c e I' k hc hy x=>⟨oa,G,c,e,rfl,hc,I',.of_keeps k,x,hy⟩)))
theorem ex_raise {x:Str} {c:Nat} {msg:Str} {kk:Nat} {np mp cpos pos:Pos} [Hm fx] (hx:glob fx.env.scope.names x=true) (hc:fx.g.clss.lookup x=some c) :
    ExB fx (exec (.Raise (some (.Call (.Name x np) [.Constant (.str msg) kk mp] [] cpos)) none pos) fx.env) (fun G K=>K (some (excV c)) G):=fun oa G K s hd I=>by
  refine gen_goal fun Z8 kZ8=>?_
  obtain ⟨hn,hm⟩:=I.ok.gr.clss x c hc
  obtain ⟨nm,q,N,bs,bm,bmB,hdct,sn,sub,ab,col,dd,k0,k1,k2,k3,k5,B,newId,initId,mN,F,hb,hni,hC,hN,hT⟩:=I.ok.gr.raises c hn
  refine kZ8 ?_
  refine wpAny_Raise_call_subT (C:=fx.g.cls c) (nm:=nm) (q:=q) (N:=N) (bs:=bs) (bm:=bm) (hdct:=hdct) (sn:=sn) (sub:=sub) (ab:=ab) (col:=col) (dd:=dd) (k0:=k0) (k1:=k1) (k2:=k2) (k3:=k3) (k5:=k5) F hb (I.ok.hand Hm.no) rfl hni (name_main I hx hm ⟨rfl,?_⟩ _)
  refine Calls.evalArgs_plain (x:=eval (.Constant (.str msg) kk mp) fx.env) (rest:=[]) (Calls.spliced_cons (wpAny_Constant_str (Calls.spliced_nil ⟨rfl,by refine (?_:1≤sizeLine); decide,I.base.stays _ _ hC,hN.at' fun o e=>I.base.stays _ o e,hT.keeps fun b o e=>I.base.stays b o e,fun h' e hm=>?_⟩)))
  have gr:Grown s { s with heap:=h',toks:=s.toks+1 }:=⟨hm.keeps,rfl,rfl⟩
  obtain ⟨t,ht,_,_⟩:=hm.there
  exact ⟨oa,G,c,e,rfl,hn,I.keep (I.base.grown gr) gr.keeps,.of_keeps gr.keeps,⟨_,_,ht,rfl,rfl,rfl,hm.new,by refine (?_:1 < 6); decide,.inl rfl⟩,hd⟩
theorem swaps_no {value:Expr} {t:Option Expr} {n:Nat} {env:Env} (h:notComp value=true):swapsWith value t n env=pure false:=by
  cases value <;> first | rfl | exact nomatch h
theorem ex_assign {n:Str} {k:Nat} {py spos:Pos} {value:Expr} {d:Gs→DV} (hs:swapsWith value (some (.Name n py)) spos.line fx.env=pure false) (hT:TgtOk fx.ρ fx.env n k) (h:∀ oa G,Ev ⟨fx,oa,G⟩ (eval value fx.env) (d G)) :
    ExB fx (exec (.Assign [.Name n py] value spos) fx.env) (fun G K=>d G fun x=>K none (G.set k (.v x))):=fun oa G K s hd I=>by
  refine (exec_Assign_Name _ _ _ _ _ hs).symm▸?_
  refine wpAny_bind (wpAny_standAt (wpAny_bind (wpAny_mono (h oa G _ s hd I _) (fun v s₁ ⟨B,k₁,x,hx,r⟩=>?_) fun _ _ z=>z)))
  have I₁:=I.keep B k₁
  refine wpAny_bind (wpAny_standAt (wpAny_bind (wpAny_bindName (store_ok I₁ hT.lk hT.nf (fun h' tk ps=>wpAny_pure ?_) _))))
  have q:=put_val (tk:=tk) I₁ ps r
  exact .next q.1 ((Tr.of_keeps k₁).trans q.2) hx
end
end Mine
end
noncomputable section
namespace Mine
open PySem PySem.Calls PyProof.Rows PySem.W
noncomputable abbrev Fx.mo (fx:Fx) (X:Addr→Prop):Fx:={ fx with Mo:=fun b=>fx.Mo b∨X b }
noncomputable abbrev Ct.mo (Φ:Ct) (X:Addr→Prop):Ct:=⟨Φ.fx.mo X,Φ.oa,Φ.G⟩
section
variable {Φ:Ct} {s s' s₀ s₂:Shared} {h':Heap} {X:Addr→Prop}
theorem FxOk.any {fx:Fx} {M:Addr→Prop} (ok:FxOk fx):FxOk { fx with Mo:=M }:=⟨ok.gr,ok.hand,ok.kind,ok.globals,ok.builtins,ok.vis,ok.inj,ok.apart,ok.offs,ok.nfs,ok.room,ok.units,ok.call⟩
theorem mapK_mo (hX:∀ b,X b→s₀.heap.get? b=none) (k:Keeps s₀.heap s₂.heap):MapK Φ.bad (Φ.mo X).bad s₀.heap s₂.heap:=fun b o e f n=>
  ⟨fun q=>q.elim (fun q=>q.elim (fun q=>n (.inl q)) fun q=>no_some (hX b q) e) fun q=>n (.inr q),k.get e f⟩
theorem Inv.more (I:Inv Φ s₀) (B:Base Φ.fx.g s₂) (k:Keeps s₀.heap s₂.heap) (hX:∀ b,X b→s₀.heap.get? b=none) (hl:∀ b,X b→Live s₂.heap b):Inv (Φ.mo X) s₂ where
  ok:=I.ok.any
  base:=B
  slot:=fun j=>let ⟨v,r,x⟩:=I.slot j; ⟨v,r.keep k,x.map (mapK_mo hX k) fun a _ o e f=>k.get e f⟩
  new:=fun a q=>let ⟨x,y,z⟩:=I.new a q; ⟨k.live x,y,fun w=>w.elim z fun w=>x.elim fun o e=>no_some (hX a w) e⟩
  inj:=I.inj
  off:=I.off
  gl:=I.gl
  mo:=fun a q=>q.elim (fun q=>k.live (I.mo a q)) (hl a)
  fr:=I.fr.keep k
theorem mapK_less {h:Heap}:MapK (Φ.mo X).bad Φ.bad h h:=fun b o e _ n=>⟨fun q=>n (q.imp .inl id),e⟩
theorem Inv.less (I:Inv (Φ.mo X) s):Inv Φ s where
  ok:=I.ok.any (M:=Φ.fx.Mo)
  base:=I.base
  slot:=fun j=>let ⟨v,r,x⟩:=I.slot j; ⟨v,r,x.map mapK_less fun a _ o e _=>e⟩
  new:=fun a q=>let ⟨x,y,z⟩:=I.new a q; ⟨x,y,fun w=>z (.inl w)⟩
  inj:=I.inj
  off:=I.off
  gl:=I.gl
  mo:=fun a q=>I.mo a (.inl q)
  fr:=I.fr
noncomputable def NotFr (A:Around) (b:Addr):Prop:=∀ l env,A.frames=some l→env∈l→env.frame≠some b
theorem FrAt.look {g:Gl} {A:Around} {h:Heap} (f:FrAt g A h) {l:List Env} {env:Env} {b:Addr} (e:A.frames=some l) (m:env∈l) (q:env.frame=some b):∃ o,h.get? b=some o∧o.cls=.type "frame":=by
  obtain ⟨l',e',f⟩:=f
  obtain rfl:=Option.some.inj (e.symm.trans e')
  refine gen_goal fun Z2 kZ2=>?_
  obtain ⟨_,L,o,hf,_,ho,hc,_⟩:=f env m
  refine kZ2 ?_
  obtain rfl:=Option.some.inj (q.symm.trans hf)
  exact ⟨o,ho,hc⟩
theorem FrAt.not {g:Gl} {A:Around} {h:Heap} (f:FrAt g A h) {b:Addr} (n:LiveN h b):NotFr A b:=fun l env e m q=>(f.look e m q).elim fun o z=>n.nf z.1 z.2
theorem FrAt.new {g:Gl} {A:Around} {h:Heap} (f:FrAt g A h) {b:Addr} (n:h.get? b=none):NotFr A b:=fun l env e m q=>(f.look e m q).elim fun o z=>no_some n z.1
theorem Inv.others {wr:List Addr} {tk:Nat} {Mo₂:Addr→Prop} (I:Inv Φ s) (hnw:∀ b∈wr,NotFr Φ.fx.A b) (k:∀ b o,b∉wr→s.heap.get? b=some o→h'.get? b=some o) (hw:∀ b∈wr,Φ.fx.Mo b) (h0:∀ b∈wr,Φ.fx.g.h0.get? b=none) (hs:∀ a,Mo₂ a→Φ.fx.Mo a) (hl:∀ a,Mo₂ a→Live h' a):Inv ⟨{ Φ.fx with Mo:=Mo₂ },Φ.oa,Φ.G⟩ { s with heap:=h',toks:=tk }:=by
  have nown:∀ b,Φ.own b→b∉wr:=fun b q m=>(I.new b q).2.2 (hw b m)
  have mk:MapK Φ.bad (Ct.mk { Φ.fx with Mo:=Mo₂ } Φ.oa Φ.G).bad s.heap h':=fun b o e _ n=>⟨fun q=>n (q.imp (hs b) id),k b o (fun m=>n (.inl (hw b m))) e⟩
  refine ⟨I.ok.any,⟨fun b o e=>k b o (fun m=>no_some (h0 b m) e) (I.base.stays b o e),I.base.os,I.base.gens⟩,fun j=>?_,fun a q=>?_,I.inj,I.off,I.gl,hl,I.fr.elim fun l q=>⟨l,q.1,fun env m=>?_⟩⟩
  · obtain ⟨u,r,so⟩:=I.slot j
    refine ⟨u,?_,so.map mk fun a ea o e _=>k a o (nown a (.inr ⟨j,ea⟩)) e⟩
    refine (?_:PlRead h' (Φ.fx.pl j) u)
    have na:∀ a,(Φ.fx.pl j).addr=some a→a∉wr:=fun a e=>nown a (.inl ⟨j,e⟩)
    generalize Φ.fx.pl j=p at r na
    cases p with
    | ns a x=>obtain ⟨m,hn,hu⟩:=r; exact ⟨m,hn.at' fun o e=>k a o (na a rfl) e,hu⟩
    | cell c=>obtain ⟨o,ho,hd⟩:=r; exact ⟨o,k c o (na c rfl) ho,hd⟩
    | off=>exact r
  · refine gen_goal fun Z4 kZ4=>?_
    obtain ⟨⟨o,e⟩,y,z⟩:=I.new a q
    refine kZ4 ?_
    exact ⟨⟨o,k a o (nown a q) e⟩,y,fun w=>z (hs a w)⟩
  · refine gen_goal fun Z5 kZ5=>?_
    obtain ⟨hk,L,o,hf,hn,ho,hc,hd⟩:=q.2 env m
    refine kZ5 ?_
    exact ⟨hk,L,o,hf,hn,k L o (fun z=>hnw L z l env q.1 m hf) ho,hc,hd⟩
theorem Tr.mo {Φ':Ct} (e:Φ'.fx=Φ.fx) (t:Tr (Φ.mo X) s (Φ'.mo X) s'):Tr Φ s Φ' s':=⟨e,t.keep,t.live,t.grow,t.inst⟩
theorem Tr.others {Φ':Ct} {wr:List Addr} {tk:Nat} (t:Tr Φ s₀ Φ' s) (k:∀ b o,b∉wr→s.heap.get? b=some o→h'.get? b=some o) (hw:∀ b∈wr,s₀.heap.get? b=none):Tr Φ s₀ Φ' { s with heap:=h',toks:=tk } where
  fx:=t.fx
  keep:=fun b o e n=>(t.keep b o e n).step fun o' e'=>.of (k b o' (fun m=>no_some (hw b m) e) e')
  live:=fun b l=>(t.live b l).elim fun o' e'=>⟨o',k b o' (fun m=>l.elim fun o e=>no_some (hw b m) e) e'⟩
  grow:=t.grow
  inst:=t.inst
theorem folded_no {e:Expr} {env:Env} (h:notSet e=true) (x:Value):foldedSetIterable e env x=pure x:=by
  cases e <;> first | rfl | exact nomatch h
noncomputable def TgtSim (fx:Fx) (T:Expr) (b:Gs→V→Option Gs):Prop:=∀ X oa G v x G' s,Inv ⟨fx.mo X,oa,G⟩ s→b G x=some G'→(Ct.mk (fx.mo X) oa G).rp s.heap v x→(Ct.mk (fx.mo X) oa G).wp (assign T fx.env v) (fun _ s'=>∃ oa',Inv ⟨fx.mo X,oa',G'⟩ s'∧Tr ⟨fx.mo X,oa,G⟩ s ⟨fx.mo X,oa',G'⟩ s') s
end
theorem Feed.turn {g:Gl} {A:Around} {T:Expr} {I:Addr} {fp wr:List Addr} {vals:List Value} {l0 l:List V} {St:Nat→Heap→Prop} (F:Feed g A T I fp wr vals l0 l St) {i:Nat} {x:V} {s:Shared} {bad:Addr→Prop} {N:Shared→Prop} {Q:Value→Shared→Prop} {E:Value→Shared→Prop}
    (hx:l[i]?=some x) (st:St i s.heap) (rv:RpAll g bad s.heap vals l0) (hb:∀ a,bad a→Live s.heap a) (hw:∀ b∈wr,bad b)
    (hQ:∀ v h' tk,St (i+1) h'→(∀ b o,b∉wr→s.heap.get? b=some o→h'.get? b=some o)→Rp g bad h' v x→Q v { s with heap:=h',toks:=tk }) :
    wpAny (model g.prog g.w) A (pyNext (.ref I)) (fun r s₁=>match r with | none=>N s₁ | some v=>wpAny (model g.prog g.w) A (letOwnedTupleGo T (.ref I) v) (fun _ s₂=>Q v s₂) E s₁) E s:=
  wpAny_mono (F.item i x s bad Q E hx st rv hb hw hQ) (fun r s₁ ⟨v,e,z⟩=>by subst e; exact z) fun _ _ z=>z
theorem Feed.over {g:Gl} {A:Around} {T:Expr} {I:Addr} {fp wr:List Addr} {vals:List Value} {l0 l:List V} {St:Nat→Heap→Prop} (F:Feed g A T I fp wr vals l0 l St) {s:Shared} {N:Shared→Prop} {Q:Value→Shared→Prop} {E:Value→Shared→Prop}
    (st:St l.length s.heap) (hN:∀ h' tk,(∀ b o,b∉wr→s.heap.get? b=some o→h'.get? b=some o)→N { s with heap:=h',toks:=tk }) :
    wpAny (model g.prog g.w) A (pyNext (.ref I)) (fun r s₁=>match r with | none=>N s₁ | some v=>wpAny (model g.prog g.w) A (letOwnedTupleGo T (.ref I) v) (fun _ s₂=>Q v s₂) E s₁) E s:=
  wpAny_mono (F.done s N E st hN) (fun r s₁ ⟨e,z⟩=>by subst e; exact z) fun _ _ z=>z
theorem ex_for {fx:Fx} [Hm fx] {T iter:Expr} {body:List Stmt} {pos:Pos} {d:Gs→(List V→Prop)→Prop} {b:Gs→V→Option Gs} {A:B} (hset:notSet iter=true) (hT:TgtSim fx T b) (hsrc:∀ oa G,EvSrc ⟨fx,oa,G⟩ T true iter (d G)) (hb:∀ X,ExB (fx.mo X) (execs body fx.env) A) :
    ExB fx (exec (.For T iter body [] pos) fx.env) (fun G K=>d G fun xs=>forL b A xs G K):=fun oa G K s hd I=>by
  refine wpAny_For (hsrc oa G _ s hd I _ _ fun l s₀ it s₂ kl I₀ k₀ gr fa=>?_) (folded_no hset)
  obtain ⟨J,fp,wr,vals,l0,Sp,rfl,F,st0,rv,hwr,hfp,hsz⟩:=fa
  have start:Tr ⟨fx,oa,G⟩ s ⟨fx,oa,G⟩ s₀:=.of_keeps k₀
  have wr0:∀ b∈wr,fx.g.h0.get? b=none:=fun b m=>none_of (fun l=>I₀.base.stays.live l) (hwr b m)
  let X:Addr→Prop:=fun b=>b∈fp∧s₀.heap.get? b=none
  have wrX:∀ b∈wr,(fx.mo X).Mo b:=fun b m=>.inr ⟨F.sub b m,hwr b m⟩
  let LI:Nat→Shared→Prop:=fun n s'=>∃ i oa' G',n=l.length - i∧i≤l.length∧Sp i s'.heap∧Inv ⟨fx.mo X,oa',G'⟩ s'∧Tr ⟨fx,oa,G⟩ s₀ ⟨fx,oa',G'⟩ s'∧(Ct.mk (fx.mo X) oa' G').rps s'.heap vals l0∧forL b A (l.drop i) G' K
  have notown:∀ {oa':Nat→Option Addr} {G':Gs} {s':Shared},Inv ⟨fx.mo X,oa',G'⟩ s'→Tr ⟨fx,oa,G⟩ s₀ ⟨fx,oa',G'⟩ s'→∀ b∈fp,¬ (Ct.mk fx oa' G').own b:=fun I' t' b hb q=>by
    cases e:s₀.heap.get? b with
    | none=>exact (I'.new b q).2.2 (.inr ⟨hb,e⟩)
    | some o=>exact ((hfp b hb).resolve_left fun z=>no_some z e) rfl (.inr (t'.grow b ⟨o,e⟩ q))
  refine codeAny_forLoop_any LI (fun n s' hLI=>?_) l.length ⟨0,oa,G,rfl,Nat.zero_le _,st0,I₀.more (I₀.base.grown gr) gr.keeps (fun b q=>q.2) fun b q=>(F.live 0 _ b st0 q.1).live,.of_keeps gr.keeps,rv.map (mapK_mo (fun b q=>q.2) gr.keeps),kl⟩
  refine gen_goal fun Z kZ=>?_
  obtain ⟨i,oa',G',rfl,hi,st,I',t',rv',ef⟩:=hLI
  cases hx:l[i]? with
  | none=>
    have hil:i=l.length:=Nat.le_antisymm hi (List.getElem?_eq_none_iff.mp hx)
    subst hil
    rw [List.drop_length] at ef
    refine kZ (F.over st fun h' tk hk=>wpAny_execs_nil ?_)
    have I3:Inv ⟨fx,oa',G'⟩ { s' with heap:=h',toks:=tk }:=Inv.others (Φ:=⟨fx.mo X,oa',G'⟩) (Mo₂:=fx.Mo) I' (fun b m=>I'.fr.not (F.live _ _ b st (F.sub b m))) hk wrX wr0 (fun a q=>.inl q) fun a q=>(I'.mo a (.inl q)).elim fun o e=>⟨o,hk a o (fun m=>(I₀.mo a q).elim fun o e=>no_some (hwr a m) e) e⟩
    exact .next I3 (start.trans (t'.others hk hwr)) ef
  | some x=>
    have hil:=(List.getElem?_eq_some_iff.mp hx).1
    have ed:l.drop i=x :: l.drop (i+1):=by rw [List.drop_eq_getElem_cons hil]; congr 1; exact (List.getElem?_eq_some_iff.mp hx).2
    replace ef:=ed▸ef
    refine kZ (F.turn hx st rv' (fun a q=>I'.badLive q) (fun b m=>.inl (wrX b m)) fun v h' tk st' hk rx=>?_)
    clear kZ
    refine gen_goal fun Z kZ=>?_
    refine okK_elim ef fun G₁ e₁ ef=>?_
    have I3:Inv ⟨fx.mo X,oa',G'⟩ { s' with heap:=h',toks:=tk }:=Inv.others (Φ:=⟨fx.mo X,oa',G'⟩) (Mo₂:=(fx.mo X).Mo) I' (fun b m=>I'.fr.not (F.live _ _ b st (F.sub b m))) hk wrX wr0 (fun a q=>q) fun a q=>by
      by_cases nw:a∈wr
      · exact (F.live _ _ a st' (F.sub a nw)).live
      · obtain ⟨o,e⟩:=I'.mo a q
        exact ⟨o,hk a o nw e⟩
    have t3:Tr ⟨fx,oa,G⟩ s₀ ⟨fx,oa',G'⟩ { s' with heap:=h',toks:=tk }:=t'.others hk hwr
    have rv3:(Ct.mk (fx.mo X) oa' G').rps h' vals l0:=rv'.map fun b o e _ n=>⟨n,hk b o (fun m=>n (.inl (wrX b m))) e⟩
    refine kZ (wpAny_mono (hT X oa' G' v x G₁ _ I3 e₁ rx _) (fun _ s₄ ⟨oa₄,I4,t4⟩=>?_) fun _ _ z=>z)
    have t04:Tr ⟨fx,oa,G⟩ s₀ ⟨fx,oa₄,G₁⟩ s₄:=t3.trans (t4.mo (Φ:=⟨fx,oa',G'⟩) (Φ':=⟨fx,oa₄,G₁⟩) rfl)
    have st4:Sp (i+1) s₄.heap:=F.frame _ _ _ st' fun b hb o e=>(t4.keep b o e (notown I3 t3 b hb)).get ((F.live _ _ b st' hb).nf e)
    refine wpAny_mono (hb X oa₄ G₁ _ s₄ ef I4) (fun f s₅ ⟨oa₅,G₅,fl,I5,B5,t5,hf,ek⟩=>?_) fun v s₅ ⟨oa₅,G₅,c,e,hv,hc,I5,t5,xa,ek⟩=>nomatch ek.1
    have t05:Tr ⟨fx,oa,G⟩ s₀ ⟨fx,oa₅,G₅⟩ s₅:=t04.trans (t5.mo (Φ:=⟨fx,oa₄,G₁⟩) (Φ':=⟨fx,oa₅,G₅⟩) rfl)
    cases fl with
    | none=>
      subst hf
      exact ⟨l.length - (i+1),by omega,i+1,oa₅,G₅,rfl,hil,F.frame _ _ _ st4 fun b hb o e=>(t5.keep b o e (notown I4 t04 b hb)).get ((F.live _ _ b st4 hb).nf e),I5 (.inl rfl),t05,(rv3.map t4.mapK).map t5.mapK,ek⟩
    | some y=>
      obtain ⟨nx,w,rfl,rw,nv⟩:=hf
      exact ⟨oa₅,G₅,some y,fun q=>q.elim nofun fun q=>(nomatch (Hm.no (fx:=fx)).symm.trans q),B5,start.trans t05,⟨nx,w,rfl,rw.map (mapK_less (Φ:=⟨fx,oa₅,G₅⟩)),fun q=>(nv q).le fun b l=>t04.live b (k₀.live l)⟩,ek.2⟩
section
variable {fx:Fx}
theorem sim_tgt1 {n:Str} {k:Nat} {py:Pos} (hT:TgtOk fx.ρ fx.env n k):TgtSim fx (.Name n py) (setOne k):=fun X oa G v x G' s I e r E=>by
  (injection e with e; subst e)
  exact wpAny_mono (tgt1 (Φ:=⟨fx.mo X,oa,G⟩) hT I r E) (fun _ s' q=>⟨_,q.1,q.2.1⟩) fun _ _ z=>z
theorem sim_tgtM [Hm fx] {es:List Expr} {ks:List Nat} {kk:Nat} {p:Pos} (hT:TgtsOk fx.ρ fx.env es ks):TgtSim fx (.Tuple es kk p) (setMany ks):=fun X oa G v x G' s I e r E=>have:Hm (fx.mo X):=⟨Hm.no (fx:=fx)⟩; wpAny_mono (tgtM (Φ:=⟨fx.mo X,oa,G⟩) hT I e r E) (fun _ s' q=>⟨_,q.1,q.2.1⟩) fun _ _ z=>z
theorem put_new {oa:Nat→Option Addr} {G:Gs} {n:Str} {k:Nat} {a:Addr} {u:Value} {sl:Slot} {s s₀:Shared} {Q:Unit→Shared→Prop} (hT:TgtOk fx.ρ fx.env n k) (I:Inv ⟨fx,oa,G⟩ s₀) (B:Base fx.g s) (k₀:Keeps s₀.heap s.heap) (ha:s₀.heap.get? a=none) (hl:Live s.heap a) (hsl:∀ x,sl≠.v x) (hsl':sl≠.unset) (hni:¬ isI sl)
    (ow:∀ h',(∀ b o,s.heap.get? b=some o→¬ (Ct.mk fx oa G).own b→h'.get? b=some o)→OwnAt fx.g ((Ct.mk fx oa G).put k (some a) sl).bad h' a u sl)
    (h:∀ s',Inv ((Ct.mk fx oa G).put k (some a) sl) s'→Tr ⟨fx,oa,G⟩ s₀ ((Ct.mk fx oa G).put k (some a) sl) s'→Q () s'):(Ct.mk fx oa G).wp (storeName fx.env n u) Q s:=fun E=>by
  refine store_ok (Φ:=⟨fx,oa,G⟩) (I.keep B k₀) hT.lk hT.nf (fun h' tk ps=>?_) E
  obtain ⟨c,hc,hs,_⟩:=ps.addr
  have kp:∀ b o,s.heap.get? b=some o→¬ (Ct.mk fx oa G).own b→h'.get? b=some o:=fun b o e nb=>hs.extBut b o (fun q=>nb (.inl ⟨k,q▸hc⟩)) e
  have no:¬ (Ct.mk fx oa G).own a:=fun q=>(I.new a q).1.elim fun o e=>no_some ha e
  have so:SlotOk fx.g ((Ct.mk fx oa G).put k (some a) sl).bad h' (some a) (some u) sl:=by
    cases sl with
    | unset=>exact absurd rfl hsl'
    | v x=>exact absurd rfl (hsl x)
    | junk=>exact (ow h' kp).elim
    | _=>exact ⟨a,u,rfl,rfl,ow h' kp⟩
  have q:=Inv.put (tk:=tk) I B k₀ ps so (fun b e=>by (injection e with e; subst e); exact ⟨ha,hl.elim fun o e=>⟨o,kp a o e no⟩⟩) hni
  exact h _ q.1 q.2
theorem ex_ownL {n:Str} {k:Nat} {py spos pos:Pos} {qs:Gs→List (Expr×DV)} {es:List Expr} (hT:TgtOk fx.ρ fx.env n k) (he:∀ G,(qs G).map Prod.fst=es) (hq:∀ oa G,∀ q∈qs G,plainE q.1=true∧Good1 ⟨fx,oa,G⟩ q) :
    ExB fx (exec (.Assign [.Name n py] (.List es pos) spos) fx.env) (fun G K=>manyV ((qs G).map Prod.snd) fun xs=>xs.length≤szLine∧K none (G.set k (.ownL xs))):=fun oa G K s hd I=>by
  rw [exec_Assign_Name _ _ _ _ _ (swaps_no rfl),arm_eval_List,← he G]
  simp only [bind_assoc]
  refine wpAny_bind (wpAny_standAt (wpAny_bind (wpAny_standAt (wpAny_bind (wpAny_mono (ev_items (Φ:=⟨fx,oa,G⟩) (hq oa G) _ s hd I _) (fun vs s₁ ⟨B,k₁,xs,⟨hz,hx⟩,rs⟩=>?_) fun _ _ z=>z)))))
  have I₁:=I.keep B k₁
  refine wpAny_bind (wpAny_newObj_type ?_ (by refine (?_:vs.toArray.size≤sizeLine); exact List.size_toArray.symm▸rs.length.symm▸sz_le hz))
  have gr:=Grown.push s₁ { cls:=.type "list",data:=.seq vs.toArray } s₁.toks
  have hD:s₁.heap.get? s₁.heap.objs.size=none:=size_none _
  refine wpAny_bind (wpAny_standAt (wpAny_bind (wpAny_bindName (put_new (a:=s₁.heap.objs.size) (sl:=.ownL xs) hT I₁ (B.grown gr) gr.keeps hD ⟨_,Heap.get?_push_size _ rfl⟩ (fun _ q=>nomatch q) (fun q=>nomatch q) id (fun h' kp=>?_) (fun s' I' t'=>wpAny_pure (.next I' ((Tr.of_keeps k₁).trans t') hx)) _))))
  have nb:¬ (Ct.mk fx oa G).own s₁.heap.objs.size:=fun q=>I₁.fresh (.inr q)
  refine ⟨rfl,_,_,_,kp _ _ (Heap.get?_push_size _ rfl) nb,⟨rfl,rfl⟩,rfl,?_⟩
  refine rs.map fun b o e _ n=>⟨fun q=>?_,kp b o (stays_push _ _ b o e) fun q=>n (.inr q)⟩
  rcases q with q | q
  · exact n (.inl q)
  · exact (put_own q).elim (fun q=>by (injection q with q; subst q); exact no_some hD e) fun q=>n (.inr q)
end
end Mine
end
noncomputable section
namespace Mine
open PySem PySem.Calls PyProof.Rows PySem.W
section
variable {fx:Fx}
theorem swapped_no {es:List Expr} {kk:Nat} {p:Pos} {value:Expr} {env:Env} (h:noSwap value=true):swappedStores [.Tuple es kk p] value env=pure none∧∀ t n,swapsWith value t n env=pure false:=by
  refine ⟨?_,fun t n=>swaps_no ((Bool.and_eq_true _ _).mp h).1⟩
  cases value <;> first | rfl | exact nomatch h
theorem ex_assignM [Hm fx] {es:List Expr} {ks:List Nat} {kk:Nat} {p spos:Pos} {value:Expr} {d:Gs→DV} (hs:noSwap value=true) (hT:TgtsOk fx.ρ fx.env es ks) (h:∀ oa G,Ev ⟨fx,oa,G⟩ (eval value fx.env) (d G)) :
    ExB fx (exec (.Assign [.Tuple es kk p] value spos) fx.env) (fun G K=>d G fun x=>okK (setMany ks G x) (K none)):=fun oa G K s hd I=>
  Assign_Tuple (wpAny_mono (h oa G _ s hd I _) (fun v s₁ ⟨B,k₁,x,hx,r⟩=>okK_elim hx fun G' e kG=>wpAny_mono (tgtM (Φ:=⟨fx,oa,G⟩) hT (I.keep B k₁) e r _) (fun _ s₂ q=>.next q.1 ((Tr.of_keeps k₁).trans q.2.1) kG) fun _ _ z=>z) fun _ _ z=>z) ((swapped_no (es:=es) (kk:=kk) (p:=p) hs).2 _ _:swapsWith value (some (.Tuple es kk p)) spos.line fx.env=pure false) (swapped_no hs).1
theorem own_of {Φ:Ct} {s:Shared} {k:Nat} {sl:Slot} (I:Inv Φ s) (e:getSlot Φ.G k=sl) (h:∀ {g bad h oak v},SlotOk g bad h oak v sl→∃ a u,oak=some a∧v=some u∧OwnAt g bad h a u sl):∃ a u,Φ.oa k=some a∧PlRead s.heap (Φ.fx.pl k) (some u)∧OwnAt Φ.fx.g Φ.bad s.heap a u sl:=by
  obtain ⟨v,pr,so⟩:=I.slot k
  rw [e] at so
  obtain ⟨a,u,ha,rfl,ow⟩:=h so
  exact ⟨a,u,ha,pr,ow⟩
theorem Inv.freeze {Φ:Ct} {s:Shared} {k:Nat} {l:List V} (I:Inv Φ s) (e:getSlot Φ.G k=.ownL l):Inv (Φ.put k none (.v (.list l))) s∧Tr Φ s (Φ.put k none (.v (.list l))) s:=by
  obtain ⟨a,u,ha,pr,rfl,o,vs,n,ho,hc,hd,hl⟩:=own_of I e id
  have hon:k < Φ.G.length:=by
    rw [I.gl]
    refine Nat.lt_of_lt_of_le (Nat.lt_of_not_le fun q=>?_) I.ok.nfs
    rw [I.ok.offs k q] at pr; (injection pr; done)
  have sub:∀ b,(Φ.put k none (.v (.list l))).own b→Φ.own b:=fun b q=>(put_own q).elim (fun (q:none=some b)=>nomatch q) id
  have mk:MapK Φ.bad (Φ.put k none (.v (.list l))).bad s.heap s.heap:=fun b o e _ n=>⟨fun q=>n (q.imp id (sub b)),e⟩
  have na:¬ (Φ.put k none (.v (.list l))).bad a:=fun q=>by
    rcases q with q | q | ⟨j,q⟩
    · exact (I.new a (.inr ⟨k,ha⟩)).2.2 q
    · exact q.elim fun j q=>I.off k a ha j q
    · have q:(if j=k then none else Φ.oa j)=some a:=q
      by_cases e:j=k
      · rw [if_pos e] at q; (injection q; done)
      · rw [if_neg e] at q; exact e (I.inj j k a q ha)
  refine ⟨⟨I.ok,I.base,fun j=>?_,fun b q=>I.new b (sub b q),fun i j b e1 e2=>?_,fun j b e i=>?_,?_,I.mo,I.fr⟩,⟨rfl,fun b o e _=>.of e,fun _ l=>l,fun b _ q=>sub b q,put_inst hon fun q=>q.elim⟩⟩
  · by_cases e:j=k
    · subst e
      have e1:(Φ.put j none (.v (.list l))).oa j=none:=if_pos rfl
      have e2:getSlot (Φ.put j none (.v (.list l))).G j=.v (.list l):=getSlot_self hon
      rw [e1,e2]
      exact ⟨_,pr,rfl,_,rfl,.list na ho hc hd (hl.map mk)⟩
    · obtain ⟨v,r,so⟩:=I.slot j
      have e1:(Φ.put k none (.v (.list l))).oa j=Φ.oa j:=if_neg e
      have e2:getSlot (Φ.put k none (.v (.list l))).G j=getSlot Φ.G j:=getSlot_ne e
      rw [e1,e2]
      exact ⟨v,r,so.map mk fun _ _ _ e _=>e⟩
  · have c1:(if i=k then none else Φ.oa i)=some b:=e1
    have c2:(if j=k then none else Φ.oa j)=some b:=e2
    by_cases h1:i=k
    · rw [if_pos h1] at c1; (injection c1; done)
    · by_cases h2:j=k
      · rw [if_pos h2] at c2; (injection c2; done)
      · rw [if_neg h1] at c1; rw [if_neg h2] at c2; exact I.inj i j b c1 c2
  · have c:(if j=k then none else Φ.oa j)=some b:=e
    by_cases h1:j=k
    · rw [if_pos h1] at c; (injection c; done)
    · rw [if_neg h1] at c; exact I.off j b c i
  · refine (?_:(Φ.G.set k _).length=_)
    rw [List.length_set]; exact I.gl
theorem ex_freeze {k:Nat} {t:Sem Flow} {Y:B} (h:ExB fx t Y):ExB fx t (fun G K=>okK (ownLO G k) fun l=>Y (G.set k (.v (.list l))) K):=fun oa G K s hd I=>okK_elim hd fun l e hk=>by
  have q:=Inv.freeze (Φ:=⟨fx,oa,G⟩) I (own_some e)
  exact wpAny_mono (h _ _ K s hk q.1) (fun _ _ p=>p.lift (Φ:=⟨fx,oa,G⟩) q.2) fun _ _ p=>p.lift (Φ:=⟨fx,oa,G⟩) q.2
theorem Inv.quiet {Φ:Ct} {s:Shared} (I:Inv Φ s):interactive Φ.fx.env=false:=by unfold interactive; rw [I.ok.kind]; rfl
theorem ex_call {n:Str} {f:Nat} {fp cpos pos:Pos} {qs:Gs→List (Expr×DV)} {es:List Expr} (hes:∀ G,(qs G).map Prod.fst=es) (hx:glob fx.env.scope.names n=true) (hf:fx.g.fns.lookup n=some f) (hfn:keepIn fx.g.K (.ref (fx.g.fn f))=true) (hsf:fx.hm=true→fx.g.safe f=true)
    (hq:∀ oa G,∀ q∈qs G,plainE q.1=true∧Good1 ⟨fx,oa,G⟩ q):ExB fx (exec (.Expr (.Call (.Name n fp) es [] cpos) pos) fx.env) (fun G K=>manyV ((qs G).map Prod.snd) fun xs=>callN fx.g.P fx.d f xs fun y=>if noX y=true then isNone y=true∧K none G else K (some y) G):=fun oa G K s hd I=>by
  rw [← hes G]
  refine wpAny_Expr (call_st (Φ:=⟨fx,oa,G⟩) hx hf hfn hsf (hq oa G) hd I (fun v s' y I' k hy nx r _=>?_) fun s' c e I' k hc hy x=>⟨oa,G,c,e,rfl,hc,I',.of_keeps k,x,hy⟩) I.quiet rfl
  rw [if_pos nx] at hy
  cases y with
  | none=>exact r.none_elim (.next (Φ:=⟨fx,oa,G⟩) I' (.of_keeps k) hy.2)
  | _=>(injection hy.1; done)
theorem mapSeq_dict (o:Obj) (f:Array Value→Array Value):(o.mapSeq f).dict=o.dict:=by
  obtain ⟨c,d,dt,sl⟩:=o; cases dt <;> rfl
theorem append_at {prog:Program} {w:World} {A:Around} {E:Value→Shared→Prop} {s:Shared} {l:Addr} {o:Obj} {items:Array Value} {n:Nat} {x:Value} {Q:Value→Shared→Prop} (ho:s.heap.get? l=some o) (hc:o.cls=.type "list"∧o.dict=none) (hd:o.data=.seq items n) (hsz:items.size≤sizeLine)
    (hQ:∀ h' o' n',h'.get? l=some o'→o'.cls=.type "list"∧o'.dict=none→o'.data=.seq (items.push x) n'→Heap.SameBut l s.heap h'→Q .none { s with heap:=h' }):wpAny (model prog w) A (call (.builtin "list.append") [.ref l,x]) Q E s:=by
  obtain ⟨n',hd'⟩:=Obj.data_mapSeq hd (·.push x)
  refine wpAny_call_entry slot_list_append ⟨o,ho,hc.1⟩ entry_list_append ?_ (args_list_append _ _)
  refine (?_:wpAny _ _ (updateSeq l (·.push x) >>= fun _=>ret .none) _ _ s)
  exact wpAny_bind (wpAny_updateSeq ho hd (wpAny_pure ⟨.none,rfl,hQ _ _ n' (Heap.get?_update_self _ ho (Obj.isFreed_of_seq hd')) ⟨(Obj.cls_mapSeq ..).trans hc.1,(mapSeq_dict ..).trans hc.2⟩ hd' (Heap.SameBut.update ..)⟩))
theorem ex_append {n:Str} {k:Nat} {np apos pos spos:Pos} {e:Expr} {d:Gs→DV} (hx:fx.ρ.lookup n=some k) (hn:okName n=true) (hp:plainE e=true) (hline:(apos.endLine==pos.line)=true) (h:∀ oa G,Ev ⟨fx,oa,G⟩ (eval e fx.env) (d G)) :
    ExB fx (exec (.Expr (.Call (.Attribute (.Name n np) "append" apos) [e] [] pos) spos) fx.env) (fun G K=>okK (ownLO G k) fun l=>d G fun x=>l.length < szLine∧K none (G.set k (.ownL (l++[x])))):=fun oa G K s hd I=>okK_elim hd fun l el hd=>by
  refine wpAny_Expr ?_ I.quiet rfl
  obtain ⟨a,u,ha,pr,rfl,o,vs,m,ho,hc,hd',hl⟩:=own_of I (own_some el) id
  refine wpAny_Call_method (T:="list") (id:="list.append") (base_simple rfl) ?_ hline PySem.F.plainAttrs_list slot_list_append type_list_append (name_read (Φ:=⟨fx,oa,G⟩) I.ok hx hn pr ⟨⟨o,ho,hc.1⟩,fun a q=>by cases q; exact ⟨o,ho,hc.2⟩,?_⟩ _)
  · rw [star_plain hp]; rfl
  refine callWith_builtin (by rw [star_plain hp]; rfl) ?_
  refine args_ok (Φ:=⟨fx,oa,G⟩) (qs:=[(e,d G)]) (K:=fun xs=>okK (one xs some) fun x=>l.length < szLine∧K none (G.set k (.ownL (l++[x])))) (fun q m=>by cases List.mem_singleton.mp m; exact ⟨hp,h oa G⟩) hd I fun ws xs s₁ I₁ k₁ hx rs=>okK_elim hx fun x e hk=>?_
  refine one_elim (Φ:=⟨fx,oa,G⟩) (C:=fun ws=>wpAny _ _ (call (.builtin "list.append") ([.ref a]++ws) []) _ _ s₁) e rs fun w y r e=>?_
  cases e
  refine append_at (k₁.get ho (nf_seq hc.1)) hc hd' (sz_le (by rw [all_size (Φ:=⟨fx,oa,G⟩) hl]; exact Nat.le_of_lt hk.1)) fun h' o' n' ho' hc' hd'' hs=>?_
  have mk:MapK (Ct.mk fx oa G).bad (Ct.mk fx oa G).bad s₁.heap h':=fun b o e _ nb=>⟨nb,hs.extBut b o (fun q=>nb (.inr (.inr ⟨k,q▸ha⟩))) e⟩
  have q:=Inv.mutate (Φ:=⟨fx,oa,G⟩) (sl:=.ownL (l++[x])) (tk:=s₁.toks) I₁ ha (pr.keep k₁) ⟨o,k₁.get ho (nf_seq hc.1),nf_seq hc.1⟩ hs ⟨_,ho'⟩ ⟨rfl,o',_,n',ho',hc',hd'',by rw [Array.toList_push]; exact ((hl.keep k₁).map mk).append (.cons (r.map mk) .nil)⟩ (fun _ q=>nomatch q) (fun q=>nomatch q) fun q=>q.elim
  exact .next (Φ:=⟨fx,oa,G⟩) q.1 ((Tr.of_keeps k₁).trans q.2) hk.2
end
end Mine
end
noncomputable section
namespace Mine
open PySem PySem.Calls PyProof.Rows PySem.W
section
variable {prog:Program} {w:World} {A:Around} {R:Result→Shared→Prop} {s:Shared}
theorem compLoop_any {elt target iter:Expr} {ifs:List Expr} {scope:Scope} {pos:Pos} {it acc:Value} {env:Env} (I:Nat→Shared→Prop)
    (turn:∀ n s,I n s→wpAny (model prog w) A (pyNext it) (fun r s₁=>match r with
      | none=>R (.ok .next) s₁
      | some v=>wpAny (model prog w) A (letOwnedTupleGo target it v) (fun _ s₁'=>wpAny (model prog w) A (assign target env v) (fun _ s₂=>
          wpAny (model prog w) A (forIn ifs true fun c r=>if r=true then do let ok ← isTrue c env (eval c env); pure (ForInStep.yield ok) else pure (ForInStep.yield r)) (fun ok s₃=>
            if ok=true then wpAny (model prog w) A (eval elt env) (fun x s₄=>
              wpAny (model prog w) A (call (.builtin "list.append") [acc,x]) (fun _ s₅=>∃ m,m < n∧I m s₅) (notedBy (model prog w) A env fun e s'=>R (.error e) s') s₄) (notedBy (model prog w) A env fun e s'=>R (.error e) s') s₃
            else ∃ m,m < n∧I m s₃) (notedBy (model prog w) A env fun e s'=>R (.error e) s') s₂) (notedBy (model prog w) A env fun e s'=>R (.error e) s') s₁') (notedBy (model prog w) A env fun e s'=>R (.error e) s') s₁) (notedBy (model prog w) A env fun e s'=>R (.error e) s') s)
    (n:Nat) (h:I n s):codeAny (model prog w) A (.compLoop (.ListComp elt [⟨target,iter,ifs,0⟩] scope pos) 0 it acc env) R s:=by
  refine codeAny_loop rfl I (fun n s hI=>?_) n h
  (refine (?_:wpAny _ A ((compTurn (.ListComp elt [⟨target,iter,ifs,0⟩] scope pos) 0 it acc env).onRaise (fun x=>do noteFrame x env; theTreesLotGoes x)) _ _ s))
  refine wpAny_noted ?_
  rw [compTurn_list]
  refine wpAny_bind (wpAny_standAt (wpAny_bind (wpAny_mono (turn n s hI) (fun r s₁ h₁=>?_) fun _ _ h'=>h')))
  cases r with
  | none=>exact wpAny_pure h₁
  | some v=>
    refine wpAny_bind (wpAny_mono h₁ (fun _ s₁' h₁'=>?_) fun _ _ h'=>h')
    refine wpAny_bind (wpAny_mono h₁' (fun _ s₂ h₂=>wpAny_bind (wpAny_mono h₂ (fun ok s₃ h₃=>?_) fun _ _ h'=>h')) fun _ _ h'=>h')
    cases ok with
    | false=>exact wpAny_pure ⟨rfl,h₃⟩
    | true=>
      exact wpAny_bind (wpAny_bind (wpAny_mono h₃ (fun x s₄ h₄=>wpAny_bind (wpAny_mono h₄ (fun _ s₅ h₅=>wpAny_pure (wpAny_pure ⟨rfl,h₅⟩)) fun _ _ h'=>h')) fun _ _ h'=>h'))
end
noncomputable def testsT (ifs:List Expr) (env:Env):Sem Bool:=forIn ifs true fun c r=>if r=true then do let ok ← isTrue c env (eval c env); pure (ForInStep.yield ok) else pure (ForInStep.yield r)
theorem tests_false (env:Env):∀ ifs:List Expr,(forIn ifs false fun c r=>if r=true then do let ok ← isTrue c env (eval c env); pure (ForInStep.yield ok) else pure (ForInStep.yield r):Sem Bool)=pure false
  | []=>rfl
  | c :: r=>by
    rw [List.forIn_cons]
    simp only [Bool.false_eq_true,if_false,pure_bind]
    exact tests_false env r
theorem relabel_names {scope:Scope} {env:Env} (hk:env.scope.kind=.function):(relabel scope env).names=relab env.scope.names scope.names:=by
  unfold relabel relab
  simp only [hk]
  apply List.map_congr_left
  rintro ⟨n,k⟩ _
  have:(ScopeKind.function==ScopeKind.function)=true:=by decide
  simp only [this,Bool.and_true]
  rfl
theorem relab_lookup (sc:List (Str×NameKind)):∀ (names:List (Str×NameKind)) (x:Str),(relab sc names).lookup x=(names.lookup x).map fun k=>if k==.free&&sc.lookup x==some .cell then .cell else k
  | [],x=>rfl
  | (n,k) :: r,x=>by
    have ih:=relab_lookup sc r x
    have e:relab sc ((n,k) :: r)=(n,if k==.free&&sc.lookup n==some .cell then .cell else k) :: relab sc r:=by
      unfold relab
      rw [List.map_cons]
      congr 1
      show (if _ then (n,NameKind.cell) else (n,k))=_
      split <;> rfl
    rw [e,List.lookup_cons,List.lookup_cons]
    cases hx:x==n with
    | true=>have:=beq_iff_eq.mp hx; subst this; rfl
    | false=>exact ih
noncomputable def clOf (cells:List (Str×Addr)):List (Str×NameKind)→List (Str×Addr)→List (Str×Addr)
  | [],acc=>acc
  | (n,k) :: r,acc=>clOf cells r (if k==.free then (n,(cells.lookup n).getD 0) :: acc else acc)
noncomputable def freeOk (cells:List (Str×Addr)) (names:List (Str×NameKind)):Prop:=∀ n,(n,NameKind.free)∈names→∃ c,cells.lookup n=some c
theorem closure_eq {scope:Scope} {env:Env} (h:freeOk env.cells scope.names):closureFor scope env=pure (clOf env.cells scope.names []):=by
  unfold closureFor
  suffices ∀ (names:List (Str×NameKind)) (acc:List (Str×Addr)),freeOk env.cells names→(do
      let r ← forIn names acc fun x r=>match x with
        | (name,kind)=>if (kind==NameKind.free)=true then do let c ← cellOf env name; pure (ForInStep.yield ((name,c) :: r)) else pure (ForInStep.yield r)
      pure r:Sem (List (Str×Addr)))=pure (clOf env.cells names acc) by
    simpa using this scope.names [] h
  intro names
  induction names with
  | nil=>intro acc _; rfl
  | cons p r ih=>
    obtain ⟨n,k⟩:=p
    intro acc hf
    rw [List.forIn_cons]
    have hr:freeOk env.cells r:=fun m q=>hf m (.tail _ q)
    by_cases hk:k=.free
    · subst hk
      obtain ⟨c,hc⟩:=hf n (.head _)
      have e1:cellOf env n=pure c:=by unfold cellOf; rw [hc]
      have:=ih ((n,c) :: acc) hr
      simp only [beq_self_eq_true,if_true,e1,pure_bind,clOf,hc,Option.getD_some] at this ⊢
      exact this
    · have hb:(k==NameKind.free)=false:=by simpa using hk
      have:=ih acc hr
      simp only [hb,Bool.false_eq_true,if_false,pure_bind,clOf] at this ⊢
      exact this
theorem clOf_mem (cells:List (Str×Addr)):∀ (names:List (Str×NameKind)) (acc:List (Str×Addr)) (x:Str) (c:Addr),cells.lookup x=some c→((x,NameKind.free)∈names∨acc.lookup x=some c)→(∀ d,acc.lookup x=some d→d=c)→(clOf cells names acc).lookup x=some c
  | [],acc,x,c,_,h,_=>by rcases h with h | h; cases h; exact h
  | (n,k) :: r,acc,x,c,hc,h,ha=>by
    unfold clOf
    by_cases hk:k=.free
    · subst hk
      simp only [beq_self_eq_true,if_true]
      by_cases hx:x=n
      · subst hx
        refine clOf_mem cells r _ x c hc (.inr ?_) fun d hd=>?_
        · simp [hc]
        · simp only [List.lookup_cons,beq_self_eq_true,hc,Option.getD_some,Option.some.injEq] at hd; exact hd.symm
      · have hb:(x==n)=false:=by simpa using hx
        refine clOf_mem cells r _ x c hc ?_ fun d hd=>?_
        · rcases h with h | h
          · rcases List.mem_cons.mp h with q | q
            · (injection q with q; subst q); exact absurd rfl hx
            · exact .inl q
          · exact .inr (by rw [List.lookup_cons,hb]; exact h)
        · rw [List.lookup_cons,hb] at hd; exact ha d hd
    · have hb:(k==NameKind.free)=false:=by simpa using hk
      simp only [hb,Bool.false_eq_true,if_false]
      refine clOf_mem cells r acc x c hc ?_ ha
      rcases h with h | h
      · rcases List.mem_cons.mp h with q | q
        · cases q; exact absurd rfl hk
        · exact .inl q
      · exact .inr h
theorem mem_lookup {α:Type}:∀ {l:List (Str×α)} {n:Str} {c:α},l.lookup n=some c→(n,c)∈l
  | (k,v) :: r,n,c,h=>by
    rw [List.lookup_cons] at h
    cases hb:n==k with
    | true=>replace h:=hb▸h; (injection h with h; subst h); rw [beq_iff_eq.mp hb]; exact .head _
    | false=>rw [hb] at h; exact .tail _ (mem_lookup h)
theorem filter_lookup {p:Str→Bool}:∀ {l:List (Str×Nat)} {x:Str} {k:Nat},(l.filter fun q=>p q.1).lookup x=some k→p x=true∧l.lookup x=some k
  | [],_,_,h=>by simp at h
  | (n,v) :: r,x,k,h=>by
    replace h:=List.filter_cons▸h
    split at h
    · rename_i hp
      rw [List.lookup_cons] at h ⊢
      cases hx:x==n with
      | true=>replace h:=hx▸h; (injection h with h; subst h); have:=beq_iff_eq.mp hx; subst this; exact ⟨hp,rfl⟩
      | false=>rw [hx] at h; exact filter_lookup h
    · rename_i hp
      obtain ⟨h1,h2⟩:=filter_lookup h
      refine ⟨h1,?_⟩
      rw [List.lookup_cons]
      cases hx:x==n with
      | true=>have:=beq_iff_eq.mp hx; subst this; exact absurd h1 (by exact hp)
      | false=>exact h2
theorem tests_ok {Φ:Ct}:∀ {qs:List (Expr×DV)},(∀ q∈qs,EvT Φ (isTrue q.1 Φ.fx.env (eval q.1 Φ.fx.env)) (tst q.2))→EvT Φ (testsT (qs.map Prod.fst) Φ.fx.env) (alls true (qs.map Prod.snd))
  | [],_=>fun K s hd I=>EvR.pure (a:=true) I hd rfl
  | q :: r,h=>fun K s hd I=>by
    have e:testsT ((q :: r).map Prod.fst) Φ.fx.env=(isTrue q.1 Φ.fx.env (eval q.1 Φ.fx.env) >>= fun ok=>if ok then testsT (r.map Prod.fst) Φ.fx.env else pure false):=by
      unfold testsT
      rw [List.map_cons,List.forIn_cons]
      simp only [if_true,bind_assoc,pure_bind]
      congr 1
      funext ok
      cases ok
      · exact tests_false _ _
      · rfl
    rw [e]
    refine (h q (.head _)).bind (K₁:=fun c=>if c=true then alls true (r.map Prod.snd) K else K c) hd I fun t c s₁ I₁ k₁ hk e=>?_
    subst e
    cases t
    · exact EvR.pure I₁ hk rfl
    · exact tests_ok (fun x m=>h x (.tail _ m)) K s₁ hk I₁
noncomputable def cpl (fx:Fx) (C:Addr) (x x':Str) (k:Nat):Pl:=if k=fx.nf then .ns C x else if k=fx.nf+1 then (if x'=x then .off else .ns C x') else fx.pl k
noncomputable def compFx (fx:Fx) (scope:Scope) (C:Addr) (x x':Str) (X:Addr→Prop):Fx:=
  { fx with env:=compEnvC scope (clOf fx.env.cells scope.names []) C fx.env,ρ:=(x,fx.nf) :: (x',fx.nf+1) :: fx.ρ.filter (fun p=>scope.names.lookup p.1==some .free),nf:=fx.nf+2,Mo:=fun b=>fx.Mo b∨X b,pl:=cpl fx C x x' }
structure CompOk (fx:Fx) (scope:Scope) (x x':Str):Prop where
  kind:scope.kind=.function
  loc:scope.names.lookup x=some .local
  loc':scope.names.lookup x'=some .local
  nocell:∀ y∈scope.names,y.2≠.cell
  names:∀ y∈scope.names,y.2=.local→scope.names.lookup y.1=some .local
  free:∀ n,(n,NameKind.free)∈scope.names→fx.env.kindOf n=some .cell∨fx.env.kindOf n=some .free
  cells:freeOk fx.env.cells scope.names
  room:fx.nf+2≤fx.ns
section
variable {Φ:Ct} {s s₀ s₂:Shared} {X:Addr→Prop} {scope:Scope} {x x':Str} {C:Addr}
theorem cpl_c (fx:Fx) (C:Addr) (x x':Str) (k:Nat):(k=fx.nf∧cpl fx C x x' k=.ns C x)∨(k=fx.nf+1∧x'≠x∧cpl fx C x x' k=.ns C x')∨(k=fx.nf+1∧cpl fx C x x' k=.off)∨cpl fx C x x' k=fx.pl k:=by
  unfold cpl
  by_cases h:k=fx.nf
  · exact .inl ⟨h,if_pos h⟩
  · rw [if_neg h]
    by_cases h':k=fx.nf+1
    · rw [if_pos h']
      by_cases e:x'=x
      · exact .inr (.inr (.inl ⟨h',if_pos e⟩))
      · exact .inr (.inl ⟨h',e,if_neg e⟩)
    · exact .inr (.inr (.inr (if_neg h')))
theorem cpl_old {fx:Fx} {k:Nat} (ho:∀ k,fx.nf≤k→fx.pl k=.off) (h:fx.pl k≠.off):cpl fx C x x' k=fx.pl k:=by
  have:k < fx.nf:=Nat.lt_of_not_le fun q=>h (ho k q)
  unfold cpl
  rw [if_neg (Nat.ne_of_lt this),if_neg (Nat.ne_of_lt (Nat.lt_succ_of_lt this))]
theorem compFx_addr {fx:Fx} {k:Nat} {a:Addr} (h:((compFx fx scope C x x' X).pl k).addr=some a):a=C∨(fx.pl k).addr=some a:=by
  have h:(cpl fx C x x' k).addr=some a:=h
  rcases cpl_c fx C x x' k with ⟨_,e⟩ | ⟨_,_,e⟩ | ⟨_,e⟩ | e <;> replace h:=e▸h
  · (injection h with h; subst h); exact .inl rfl
  · (injection h with h; subst h); exact .inl rfl
  · (injection h; done)
  · exact .inr h
theorem CompOk.toFx {fx:Fx} (c:CompOk fx scope x x') (ok:FxOk fx) (hC:∀ j,(fx.pl j).addr≠some C):FxOk (compFx fx scope C x x' X) where
  gr:=ok.gr
  hand:=ok.hand
  kind:=c.kind
  globals:=ok.globals
  builtins:=ok.builtins
  vis:=fun y k hy=>by
    have kn:∀ y,(compFx fx scope C x x' X).env.kindOf y=(relab fx.env.scope.names scope.names).lookup y:=fun y=>by
      refine (?_:(relabel scope fx.env).names.lookup y=_)
      rw [relabel_names ok.kind]
    have hy:((x,fx.nf) :: (x',fx.nf+1) :: fx.ρ.filter (fun p=>scope.names.lookup p.1==some .free)).lookup y=some k:=hy
    rw [List.lookup_cons] at hy
    cases hb:y==x with
    | true=>
      replace hy:=hb▸hy; (injection hy with hy; subst hy)
      cases eq_of_beq hb
      exact .inl ⟨by rw [kn,relab_lookup,c.loc]; rfl,if_pos rfl⟩
    | false=>
      rw [hb] at hy
      replace hy:((x',fx.nf+1) :: fx.ρ.filter (fun p=>scope.names.lookup p.1==some .free)).lookup y=some k:=hy
      rw [List.lookup_cons] at hy
      cases hb':y==x' with
      | true=>
        replace hy:=hb'▸hy; (injection hy with hy; subst hy)
        cases eq_of_beq hb'
        refine .inl ⟨by rw [kn,relab_lookup,c.loc']; rfl,?_⟩
        refine (?_:cpl fx C x x' (fx.nf+1)=.ns C x')
        unfold cpl
        rw [if_neg (Nat.succ_ne_self _),if_pos rfl,if_neg fun q=>by rw [q,beq_self_eq_true] at hb; (injection hb; done)]
      | false=>
        rw [hb'] at hy
        obtain ⟨hf,hk⟩:=filter_lookup (p:=fun y=>scope.names.lookup y==some .free) hy
        have hf:=eq_of_beq hf
        have hm:=mem_lookup hf
        right
        refine ⟨?_,?_⟩
        · rw [kn,relab_lookup,hf]
          simp only [Option.map_some,beq_self_eq_true,Bool.true_and]
          split
          · exact .inl rfl
          · exact .inr rfl
        · obtain ⟨cc,hcc⟩:=c.cells y hm
          refine ⟨cc,clOf_mem _ _ _ _ _ hcc (.inl hm) (fun d hd=>by (injection hd; done)),?_⟩
          rcases ok.vis y k hk with ⟨q,_⟩ | ⟨_,c',hc',hp⟩
          · rcases c.free y hm with q' | q' <;> rw [q] at q' <;> cases q'
          · replace hc':=hcc▸hc'; (injection hc' with hc'; subst hc')
            exact (cpl_old ok.offs (by exact hp.symm▸nofun)).trans hp
  inj:=fun k j e hne=>by
    have e:cpl fx C x x' k=cpl fx C x x' j:=e
    have hne:cpl fx C x x' k≠.off:=hne
    have no:∀ j y,Pl.ns C y≠fx.pl j:=fun j y q=>hC j (by rw [← q]; rfl)
    rcases cpl_c fx C x x' k with ⟨h1,e1⟩ | ⟨h1,n1,e1⟩ | ⟨_,e1⟩ | e1 <;> rcases cpl_c fx C x x' j with ⟨h2,e2⟩ | ⟨h2,n2,e2⟩ | ⟨_,e2⟩ | e2 <;>
      first | exact h1.trans h2.symm | exact absurd e1 hne | exact absurd (e.trans e2) hne | (replace e:=e2▸e1▸e; first | (cases e; exact absurd rfl n1) | (cases e; exact absurd rfl n2) | exact absurd e (no _ _) | exact absurd e.symm (no _ _) | exact ok.inj k j e (e1▸hne))
  apart:=fun k j a y cc e1 e2=>by
    have e1:cpl fx C x x' k=.ns a y:=e1
    have e2:cpl fx C x x' j=.cell cc:=e2
    have e2:fx.pl j=.cell cc:=by
      rcases cpl_c fx C x x' j with ⟨_,q⟩ | ⟨_,_,q⟩ | ⟨_,q⟩ | q
      · exact nomatch q.symm.trans e2
      · exact nomatch q.symm.trans e2
      · exact nomatch q.symm.trans e2
      · exact q.symm.trans e2
    have oth:a=C→a≠cc:=fun z q=>hC j (by rw [e2,← z,q]; rfl)
    rcases cpl_c fx C x x' k with ⟨_,q⟩ | ⟨_,_,q⟩ | ⟨_,q⟩ | q <;> replace e1:=q▸e1
    · (injection e1 with e1; subst e1); exact oth rfl
    · (injection e1 with e1; subst e1); exact oth rfl
    · (injection e1; done)
    · exact ok.apart k j a y cc e1 e2
  offs:=fun k hk=>by
    have hk:fx.nf+2≤k:=hk
    have a:k≠fx.nf:=Nat.ne_of_gt (Nat.lt_of_lt_of_le (Nat.lt_add_of_pos_right (by decide)) hk)
    have b:k≠fx.nf+1:=Nat.ne_of_gt hk
    exact (if_neg a).trans ((if_neg b).trans (ok.offs k (Nat.le_trans (Nat.le_add_right _ _) hk)))
  nfs:=c.room
  room:=ok.room
  units:=ok.units
  call:=ok.call
theorem comp_own {oa:Nat→Option Addr} {G:Gs} {a:Addr} (q:(Ct.mk (compFx Φ.fx scope C x x' X) oa G).own a) (h:oa=Φ.oa):a=C∨Φ.own a:=by
  subst h
  rcases q with ⟨j,q⟩ | q
  · exact (compFx_addr q).imp id fun q=>.inl ⟨j,q⟩
  · exact .inr (.inr q)
theorem own_comp {a:Addr} (I:Inv Φ s) (q:Φ.own a):(Ct.mk (compFx Φ.fx scope C x x' X) Φ.oa Φ.G).own a:=by
  rcases q with ⟨j,q⟩ | q
  · exact .inl ⟨j,by refine (?_:(cpl Φ.fx C x x' j).addr=some a); rw [cpl_old I.ok.offs fun e=>by replace q:=e▸q; (injection q; done)]; exact q⟩
  · exact .inr q
theorem Inv.comp (c:CompOk Φ.fx scope x x') (I:Inv Φ s₀) (B:Base Φ.fx.g s) (k:Keeps s₀.heap s.heap) (hX:∀ b,X b→s₀.heap.get? b=none∧Live s.heap b∧b≠C) (hC0:s₀.heap.get? C=none) (hC:s.heap.Ns C fun _=>none) :
    Inv ⟨compFx Φ.fx scope C x x' X,Φ.oa,Φ.G⟩ s∧MapK Φ.bad (Ct.mk (compFx Φ.fx scope C x x' X) Φ.oa Φ.G).bad s₀.heap s.heap:=by
  have hCl:Live s.heap C:=by obtain ⟨o,_,_,e,_⟩:=hC; exact ⟨o,e⟩
  have hCp:∀ j,(Φ.fx.pl j).addr≠some C:=fun j e=>(I.new C (.inl ⟨j,e⟩)).1.elim fun o e=>no_some hC0 e
  have mk:MapK Φ.bad (Ct.mk (compFx Φ.fx scope C x x' X) Φ.oa Φ.G).bad s₀.heap s.heap:=fun b o e f n=>by
    refine ⟨fun q=>?_,k.get e f⟩
    rcases q with (q | q) | q
    · exact n (.inl q)
    · exact no_some (hX b q).1 e
    · exact (comp_own (Φ:=Φ) q rfl).elim (fun q=>no_some hC0 (q▸e)) fun q=>n (.inr q)
  refine ⟨⟨c.toFx I.ok hCp,B,fun j=>?_,fun a q=>?_,I.inj,fun j a e i q=>?_,I.gl,fun a q=>q.elim (fun q=>k.live (I.mo a q)) fun q=>(hX a q).2.1,I.fr.keep k⟩,mk⟩
  · obtain ⟨v,r,so⟩:=I.slot j
    have so':=so.map mk fun a _ o e f=>k.get e f
    refine ⟨v,?_,so'⟩
    refine (?_:PlRead s.heap (cpl Φ.fx C x x' j) v)
    have vn:Φ.fx.nf≤j→v=none:=fun q=>by rw [I.ok.offs j q] at r; exact r
    rcases cpl_c Φ.fx C x x' j with ⟨h,e⟩ | ⟨h,_,e⟩ | ⟨h,e⟩ | e <;> refine e.symm▸?_
    · rw [vn (Nat.le_of_eq h.symm)]; exact ⟨_,hC,rfl⟩
    · rw [vn (h▸Nat.le_succ _)]; exact ⟨_,hC,rfl⟩
    · exact vn (h▸Nat.le_succ _)
    · exact r.keep k
  · rcases comp_own (Φ:=Φ) q rfl with rfl | q
    · exact ⟨hCl,none_of (fun l=>I.base.stays.live l) hC0,fun z=>z.elim (fun z=>(I.mo a z).elim fun o e=>no_some hC0 e) fun z=>(hX a z).2.2 rfl⟩
    · obtain ⟨⟨o,e⟩,n,m⟩:=I.new a q
      exact ⟨(k a o e).live,n,fun z=>z.elim m fun z=>no_some (hX a z).1 e⟩
  · rcases compFx_addr q with rfl | q
    · exact (I.new a (.inr ⟨j,e⟩)).1.elim fun o e=>no_some hC0 e
    · exact I.off j a e i q
end
end Mine
end
noncomputable section
namespace Mine
open PySem PySem.Calls PyProof.Rows PySem.W
theorem plain_at {h h':Heap} {D:Addr} {vs:Array Value} (p:h.PlainList D vs) (k:∀ o,h.get? D=some o→h'.get? D=some o):h'.PlainList D vs:=p.elim fun c e=>⟨c,k _ e⟩
theorem plain_nf {h:Heap} {D:Addr} {vs:Array Value} (p:h.PlainList D vs):LiveN h D:=p.elim fun c e=>⟨_,e,nf_seq rfl⟩
theorem plain_live {h:Heap} {D:Addr} {vs:Array Value} (p:h.PlainList D vs):Live h D:=p.elim fun c e=>⟨_,e⟩
theorem put_same {Φ:Ct} {k:Nat} {sl:Slot} (h:Φ.oa k=none):Φ.put k none sl=⟨Φ.fx,Φ.oa,Φ.G.set k sl⟩:=by
  unfold Ct.put
  congr 1
  funext j
  by_cases e:j=k
  · rw [if_pos e,e,h]
  · exact if_neg e
section
variable {Φ:Ct} [Hm Φ.fx] {s s₀ s₂:Shared} {scope:Scope} {x x':Str}
inductive CompEnd (Φ:Ct) (s₀:Shared) (K:List V→Prop) (D C:Addr) (s':Shared):Prop
  | mk:∀ m ys,Base Φ.fx.g s'→Keeps s₀.heap s'.heap→s₀.heap.get? C=none→s₀.heap.get? D=none→D≠C→s'.heap.Ns C m→K ys→∀ vs,s'.heap.PlainList D vs→RpAll Φ.fx.g (fun b=>Φ.bad b∨b=C) s'.heap vs.toList ys→CompEnd Φ s₀ K D C s'
noncomputable def CompT (Φ:Ct) (scope:Scope) (T:Expr) (x x':Str) (b:Gs→V→Option Gs):Prop:=(∀ G y G₁ z,b G y=some G₁→b G₁ z=b G z) ∧
  ∀ C X G G₁ v y s,Φ.fx.env.scope.kind=.function→(∀ k,Φ.fx.nf≤k→Φ.oa k=none)→Inv ⟨compFx Φ.fx scope C x x' X,Φ.oa,G⟩ s→b G y=some G₁→(Ct.mk (compFx Φ.fx scope C x x' X) Φ.oa G).rp s.heap v y →
    (Ct.mk (compFx Φ.fx scope C x x' X) Φ.oa G).wp (assign T (compFx Φ.fx scope C x x' X).env v) (fun _ s'=>Inv ⟨compFx Φ.fx scope C x x' X,Φ.oa,G₁⟩ s'∧∀ b o,b≠C→s.heap.get? b=some o→s'.heap.get? b=some o) s
theorem comp_core {elt iter T:Expr} {b:Gs→V→Option Gs} {ifs:List Expr} {pos:Pos} {l:List V} {it:Value} {de:D} {ts:List D} {K:List V→Prop} {RR:Value→Addr→Result→Shared→Prop} {E:Value→Shared→Prop}
    (c:CompOk Φ.fx scope x x') (I₀:Inv Φ s₀) (gr:Grown s₀ s₂) (fa:FeedAt Φ T false s₀ s₂ it l)
    (helt:∀ C X oa G,Ev ⟨compFx Φ.fx scope C x x' X,oa,G⟩ (eval elt (compFx Φ.fx scope C x x' X).env) (de G))
    (htest:∀ C X oa G,EvT ⟨compFx Φ.fx scope C x x' X,oa,G⟩ (testsT ifs (compFx Φ.fx scope C x x' X).env) (boolsD true ts G))
    (hT:CompT Φ scope T x x' b) (er:compL de ts b Φ.G l K)
    (hK:∀ D C s',CompEnd Φ s₀ K D C s'→RR (.ref D) C (.ok .next) s') :
    wpAny (model Φ.fx.g.prog Φ.fx.g.w) Φ.fx.A (newList []) (fun acc s₃=>wpAny (model Φ.fx.g.prog Φ.fx.g.w) Φ.fx.A (newFunctionEnv scope Φ.fx.env.globals (clOf Φ.fx.env.cells scope.names []) [] Φ.fx.env.qual none .none (some Φ.fx.env)) (fun cenv s₄=>
      codeAny (model Φ.fx.g.prog Φ.fx.g.w) Φ.fx.A (.compStart (.ListComp elt [⟨T,iter,ifs,0⟩] scope pos) 0 it acc { cenv with scope:=relabel scope Φ.fx.env }) (RR acc cenv.locals) s₄) E s₃) E s₂:=by
  refine gen_goal fun Z kZ=>?_
  obtain ⟨J,fp,wr,vals,l0,Sp,rfl,F,st0,rv,hwr,hfp,hsz⟩:=fa
  refine kZ (wpAny_newObj_type (wpAny_newFunctionEnv c.nocell (fun y hy=>nomatch hy) (fun h₁ hns₁ hsb₁=>?_) c.kind))
  clear kZ
  dsimp only at hns₁ hsb₁ ⊢
  generalize hH2:s₂.heap.push { cls:=.type "list",dict:=none,data:=.seq ([]:List Value).toArray }=H2 at hns₁ hsb₁ ⊢
  have hDn:s₂.heap.get? s₂.heap.objs.size=none:=size_none _
  have hD0:s₀.heap.get? s₂.heap.objs.size=none:=none_of gr.keeps.live hDn
  have up1:∀ b o,s₂.heap.get? b=some o→H2.get? b=some o:=fun b o e=>hH2▸Heap.get?_push_of_some _ e
  have hD1:H2.get? s₂.heap.objs.size=some { cls:=.type "list",dict:=none,data:=.seq ([]:List Value).toArray }:=hH2▸Heap.get?_push_size _ rfl
  have hCn:H2.get? H2.objs.size=none:=size_none _
  have hC2:s₂.heap.get? H2.objs.size=none:=none_of (fun l=>l.elim fun o e=>⟨o,up1 _ o e⟩) hCn
  have hC0:s₀.heap.get? H2.objs.size=none:=none_of gr.keeps.live hC2
  have hDC:s₂.heap.objs.size≠H2.objs.size:=fun q=>no_some hCn (q▸hD1)
  have up2:∀ b o,b≠H2.objs.size→H2.get? b=some o→h₁.get? b=some o:=fun b o n e=>hsb₁.extBut b o n (Heap.get?_push_of_some _ e)
  have up:Stays s₂.heap h₁:=fun b o e=>up2 b o (fun q=>no_some hC2 (q▸e)) (up1 b o e)
  have hDh:h₁.PlainList s₂.heap.objs.size #[]:=⟨_,up2 _ _ hDC hD1⟩
  generalize hDD:s₂.heap.objs.size=D at hDn hD0 hD1 hDC hDh ⊢
  generalize hCC:H2.objs.size=C at hns₁ hsb₁ hCn hC0 hC2 hDC up2 ⊢
  have gr':Grown s₀ { s₂ with heap:=h₁,toks:=s₂.toks+([]:List (Str×Value)).length }:=gr.trans ⟨up,rfl,rfl⟩
  let X:Addr→Prop:=fun b=>(b∈fp∧s₀.heap.get? b=none)∨b=D
  have fpl:∀ b∈fp,Live s₂.heap b:=fun b hb=>(F.live 0 _ b st0 hb).live
  have fpC:∀ b∈fp,b≠C:=fun b hb q=>(fpl b hb).elim fun o e=>no_some hC2 (q▸e)
  have fpD:∀ b∈fp,b≠D:=fun b hb q=>(fpl b hb).elim fun o e=>no_some hDn (q▸e)
  have hXp:∀ b,X b→s₀.heap.get? b=none∧Live h₁ b∧b≠C:=fun b q=>by
    rcases q with ⟨q,n⟩ | rfl
    · exact ⟨n,up.live (fpl b q),fpC b q⟩
    · exact ⟨hD0,plain_live hDh,hDC⟩
  obtain ⟨I₁,mk₁⟩:=I₀.comp (X:=X) c (I₀.base.grown gr') gr'.keeps hXp hC0 hns₁
  let cfx:=compFx Φ.fx scope C x x' X
  have hoa:∀ k,Φ.fx.nf≤k→Φ.oa k=none:=fun k hk=>by
    obtain ⟨v,r,so⟩:=I₀.slot k
    replace r:=(I₀.ok.offs _ hk)▸r
    cases r
    generalize getSlot Φ.G k=sl at so
    cases sl with
    | unset=>exact so.1
    | v x=>exact so.1
    | junk=>exact so
    | _=>obtain ⟨_,_,_,q,_⟩:=so; cases q
  have wrX:∀ b∈wr,cfx.Mo b:=fun b m=>.inr (.inl ⟨F.sub b m,hwr b m⟩)
  have wr0:∀ b∈wr,Φ.fx.g.h0.get? b=none:=fun b m=>none_of (fun l=>I₀.base.stays.live l) (hwr b m)
  have D0:Φ.fx.g.h0.get? D=none:=none_of (fun l=>I₀.base.stays.live l) hD0
  have wrD:D∉wr:=fun m=>fpD D (F.sub D m) rfl
  have st1:Sp 0 h₁:=F.frame _ _ _ st0 fun b _ o e=>up b o e
  have plC:(cfx.pl Φ.fx.nf).addr=some C:=by show (cpl Φ.fx C x x' Φ.fx.nf).addr=_; unfold cpl; rw [if_pos rfl]; rfl
  have loop:codeAny (model Φ.fx.g.prog Φ.fx.g.w) Φ.fx.A (.compLoop (.ListComp elt [⟨T,iter,ifs,0⟩] scope pos) 0 (.ref J) (.ref D) cfx.env) (RR (.ref D) C) { s₂ with heap:=h₁,toks:=s₂.toks+([]:List (Str×Value)).length }:=by
    let LC:Nat→Shared→Prop:=fun n s'=>∃ i G' zs vs,n=l.length - i∧i≤l.length∧Sp i s'.heap∧Inv ⟨cfx,Φ.oa,G'⟩ s'∧(∀ z,b G' z=b Φ.G z)∧Keeps s₀.heap s'.heap∧(Ct.mk cfx Φ.oa Φ.G).rps s'.heap vals l0 ∧
      s'.heap.PlainList D vs∧(Ct.mk cfx Φ.oa Φ.G).rps s'.heap vs.toList zs∧zs.length≤i∧compL de ts b Φ.G (l.drop i) fun ys=>K (zs++ys)
    refine compLoop_any LC ?_ l.length ⟨0,Φ.G,[],#[],rfl,Nat.zero_le _,st1,I₁,fun _=>rfl,gr'.keeps,rv.map mk₁,hDh,.nil,Nat.zero_le _,er⟩
    intro n s' hLC
    refine gen_goal fun Z kZ=>?_
    obtain ⟨i,G',zs,vs,rfl,hi,st,I',hG,kx,rv',hD',rz,hz,ec⟩:=hLC
    cases hx:l[i]? with
    | none=>
      have hil:i=l.length:=Nat.le_antisymm hi (List.getElem?_eq_none_iff.mp hx)
      subst hil
      replace ec:=List.drop_length▸ec
      refine kZ (F.over st fun h' tk hk=>hK D C _ ?_)
      have kC:∀ b o,s'.heap.get? b=some o→b∉wr→h'.get? b=some o:=fun b o e n=>hk b o n e
      obtain ⟨v,⟨m,hn,hv⟩,_⟩:∃ v,(∃ m,s'.heap.Ns C m∧m x=v)∧True:=by
        obtain ⟨v,r,_⟩:=I'.slot Φ.fx.nf
        have r:PlRead s'.heap (cpl Φ.fx C x x' Φ.fx.nf) v:=r
        unfold cpl at r
        rw [if_pos rfl] at r
        exact ⟨v,r,trivial⟩
      refine ⟨m,zs,⟨fun b o e=>hk b o (fun q=>no_some (wr0 b q) e) (I'.base.stays b o e),I'.base.os,I'.base.gens⟩,fun b o e=>(kx b o e).step fun o' e'=>.of (hk b o' (fun q=>no_some (hwr b q) e) e'),hC0,hD0,hDC,hn.at' fun o e=>hk C o (fun q=>fpC C (F.sub C q) rfl) e,?_,vs,plain_at hD' fun o e=>hk D o wrD e,rz.map fun b o e _ n=>⟨fun q=>n ?_,hk b o (fun q=>n (.inl (wrX b q))) e⟩⟩
      · have ec:K (zs++[]):=ec
        rwa [List.append_nil] at ec
      · rcases q with q | rfl
        · exact q.imp .inl fun q=>own_comp (X:=X) I₀ q
        · exact .inr (.inl ⟨_,plC⟩)
    | some y=>
      have hil:=(List.getElem?_eq_some_iff.mp hx).1
      have ed:l.drop i=y :: l.drop (i+1):=by rw [List.drop_eq_getElem_cons hil]; congr 1; exact (List.getElem?_eq_some_iff.mp hx).2
      rw [ed] at ec
      refine kZ (F.turn (bad:=(Ct.mk cfx Φ.oa G').bad) hx st rv' (fun a q=>I'.badLive q) (fun b m=>.inl (wrX b m)) fun v h' tk st' hk rx=>?_)
      clear kZ
      refine gen_goal fun Z kZ=>?_
      have I3:Inv ⟨cfx,Φ.oa,G'⟩ { s' with heap:=h',toks:=tk }:=Inv.others (Φ:=⟨cfx,Φ.oa,G'⟩) (Mo₂:=cfx.Mo) I' (fun b m=>I'.fr.not (F.live _ _ b st (F.sub b m))) hk wrX wr0 (fun a q=>q) fun a q=>by
        by_cases nw:a∈wr
        · exact (F.live _ _ a st' (F.sub a nw)).live
        · exact (I'.mo a q).elim fun o e=>⟨o,hk a o nw e⟩
      have mk3:MapK (Ct.mk cfx Φ.oa Φ.G).bad (Ct.mk cfx Φ.oa Φ.G).bad s'.heap h':=fun b o e _ n=>⟨n,hk b o (fun m=>n (.inl (wrX b m))) e⟩
      have ec:okK (b Φ.G y) fun G₁=>_:=ec
      refine okK_elim ec fun G₁ e₁ ec=>kZ (wpAny_mono (hT.2 C X G' G₁ v y _ I₀.ok.kind hoa I3 ((hG y).trans e₁) rx _) (fun _ s₄ q=>?_) fun _ _ z=>z)
      clear kZ
      refine gen_goal fun Z kZ=>?_
      obtain ⟨I4,kC⟩:=q
      have mk4:MapK (Ct.mk cfx Φ.oa Φ.G).bad (Ct.mk cfx Φ.oa Φ.G).bad h' s₄.heap:=fun b o e _ n=>⟨n,kC b o (fun q=>n (.inr (.inl ⟨_,q▸plC⟩))) e⟩
      have kx4:Keeps s₀.heap s₄.heap:=fun b o e=>(kx b o e).step fun o' e'=>.of (kC b o' (fun q=>no_some hC0 (q▸e)) (hk b o' (fun q=>no_some (hwr b q) e) e'))
      have st4:Sp (i+1) s₄.heap:=F.frame _ _ _ st' fun b hb o e=>kC b o (fpC b hb) e
      have rv4:=(rv'.map mk3).map mk4
      have rz4:=(rz.map mk3).map mk4
      have hD4:s₄.heap.PlainList D vs:=plain_at hD' fun o e=>kC D o hDC (hk D o wrD e)
      refine kZ (wpAny_mono (htest C X Φ.oa G₁ _ s₄ ec I4 _) (fun b' s₅ ⟨B5,k5,c5,hc5,e5⟩=>?_) fun _ _ z=>z)
      clear kZ
      refine gen_goal fun Z kZ=>?_
      subst e5
      have I5:=I4.keep B5 k5
      have st5:Sp (i+1) s₅.heap:=F.frame _ _ _ st4 fun b hb o e=>k5.get e ((F.live _ _ b st4 hb).nf e)
      have hD5:s₅.heap.PlainList D vs:=plain_at hD4 fun o e=>k5.get e ((plain_nf hD4).nf e)
      have hGs:∀ z,b G₁ z=b Φ.G z:=fun z=>hT.1 _ _ _ z e₁
      cases b' with
      | false=>exact kZ ⟨l.length - (i+1),by omega,i+1,_,zs,vs,rfl,hil,st5,I5,hGs,kx4.trans k5,rv4.keep k5,hD5,rz4.keep k5,Nat.le_succ_of_le hz,hc5⟩
      | true=>
        refine kZ (wpAny_mono (helt C X Φ.oa G₁ _ s₅ hc5 I5 _) (fun yv s₆ ⟨B6,k6,z,hz6,rz6⟩=>?_) fun _ _ z=>z)
        clear kZ
        refine gen_goal fun Z kZ=>?_
        have I6:=I5.keep B6 k6
        have hD6:s₆.heap.PlainList D vs:=plain_at hD5 fun o e=>k6.get e ((plain_nf hD5).nf e)
        have rzs:=(rz4.keep k5).keep k6
        refine kZ (wpAny_list_append_plain (hsz:=sz_le (by rw [all_size (Φ:=⟨cfx,Φ.oa,Φ.G⟩) rzs]; omega)) hD6 fun h₇ hD7 hs7=>?_)
        have k7:∀ b o,b∉[D]→s₆.heap.get? b=some o→h₇.get? b=some o:=fun b o n e=>hs7.extBut b o (fun q=>n (by rw [q]; exact .head _)) e
        have I7:Inv ⟨cfx,Φ.oa,G₁⟩ { s₆ with heap:=h₇,toks:=s₆.toks }:=Inv.others (Φ:=⟨cfx,Φ.oa,G₁⟩) (Mo₂:=cfx.Mo) I6 (fun b m=>by cases List.mem_singleton.mp m; exact I6.fr.not (plain_nf hD6)) k7 (fun b m=>by cases List.mem_singleton.mp m; exact .inr (.inr rfl)) (fun b m=>by cases List.mem_singleton.mp m; exact D0) (fun a q=>q) fun a q=>by
          by_cases nd:a=D
          · subst nd; exact plain_live hD7
          · exact (I6.mo a q).elim fun o e=>⟨o,hs7.extBut a o nd e⟩
        have mk7:MapK (Ct.mk cfx Φ.oa Φ.G).bad (Ct.mk cfx Φ.oa Φ.G).bad s₆.heap h₇:=fun b o e _ n=>⟨n,hs7.extBut b o (fun q=>n (.inl (.inr (.inr q)))) e⟩
        refine ⟨l.length - (i+1),by omega,i+1,_,zs++[z],vs.push yv,rfl,hil,F.frame _ _ _ st5 fun b hb o e=>hs7.extBut b o (fpD b hb) (k6.get e ((F.live _ _ b st5 hb).nf e)),I7,hGs,fun b o e=>(((kx4.trans k5).trans k6) b o e).step fun o' e'=>.of (hs7.extBut b o' (fun q=>no_some hD0 (q▸e)) e'),((rv4.keep k5).keep k6).map mk7,hD7,?_,by rw [List.length_append]; exact Nat.succ_le_succ hz,?_⟩
        · rw [Array.toList_push]
          exact (rzs.map mk7).append (.cons (rz6.map mk7) .nil)
        · have e:(fun ys=>K (zs++[z]++ys))=fun ys=>K (zs++(z :: ys)):=funext fun ys=>by rw [List.append_assoc]; rfl
          rw [e]; exact hz6
  exact codeAny_compStart_list loop (F.self 0 _ _ _ st1 loop)
end
end Mine
end
noncomputable section
namespace Mine
open PySem PySem.Calls PyProof.Rows PySem.W
theorem manyD_eq (ds:List D) (G:Gs):manyD ds G=manyV (ds.map (· G)):=by
  induction ds with
  | nil=>rfl
  | cons d r ih=>exact funext fun f=>congrArg (d G) (funext fun x=>congrFun ih fun xs=>f (x :: xs))
theorem boolsD_eq (b:Bool) (ds:List D) (G:Gs):boolsD b ds G=alls b (ds.map (· G)):=by
  induction ds with
  | nil=>rfl
  | cons d r ih=>exact funext fun f=>congrArg (d G) (funext fun x=>congrArg (okK (boolO x some)) (funext fun c=>congrArg (fun z=>if c=b then z else f c) (congrFun ih f)))
section
variable {Φ:Ct} {scope:Scope} {x x':Str}
theorem comp_lk {fx:Fx} {scope:Scope} {C:Addr} {X:Addr→Prop} {y:Str} (hk:fx.env.scope.kind=.function) (h:scope.names.lookup y=some .local):(compFx fx scope C x x' X).env.kindOf y≠some .free:=by
  show (relabel scope fx.env).names.lookup y≠_
  rw [relabel_names hk,relab_lookup,h]; exact nofun
theorem cpl_C {fx:Fx} {C b:Addr} {k:Nat} (h:fx.nf≤k) (ho:fx.pl k=.off) (q:(cpl fx C x x' k).addr=some b):b=C:=by
  rcases cpl_c fx C x x' k with ⟨_,e⟩ | ⟨_,_,e⟩ | ⟨_,e⟩ | e <;> rw [e] at q
  · (injection q with q; subst q); rfl
  · (injection q with q; subst q); rfl
  · (injection q; done)
  · rw [ho] at q; (injection q; done)
theorem compT1 {py:Pos} (c:CompOk Φ.fx scope x x'):CompT Φ scope (.Name x py) x x' (setOne Φ.fx.nf):=by
  refine ⟨fun G y G₁ z e=>by (injection e with e; subst e); exact congrArg some (List.set_set ..),fun C X G G₁ v y s hk hoa I e r E=>?_⟩
  (injection e with e; subst e)
  refine wpAny_mono (tgt1 (Φ:=⟨compFx Φ.fx scope C x x' X,Φ.oa,G⟩) (k:=Φ.fx.nf) ⟨by refine (?_:((x,Φ.fx.nf) :: _).lookup x=_); rw [List.lookup_cons,beq_self_eq_true],comp_lk hk c.loc⟩ I r E) (fun _ s' q=>?_) fun _ _ z=>z
  obtain ⟨I',_,k'⟩:=q
  rw [put_same (Φ:=⟨compFx Φ.fx scope C x x' X,Φ.oa,G⟩) (hoa _ (Nat.le_refl _))] at I'
  refine ⟨I',fun b o n e=>k' b o e fun q=>n ?_⟩
  have q:(cpl Φ.fx C x x' Φ.fx.nf).addr=some b:=q
  unfold cpl at q
  rw [if_pos rfl] at q
  (injection q with q; subst q); rfl
theorem set2 {G:Gs} {k:Nat} (a b c d:Slot):(((G.set k a).set (k+1) b).set k c).set (k+1) d=(G.set k c).set (k+1) d:=by
  rw [List.set_comm _ _ (Nat.succ_ne_self k),List.set_set,List.set_set]
theorem compT2 [Hm Φ.fx] {kk:Nat} {p p1 p2:Pos} (c:CompOk Φ.fx scope x x') (hne:x'≠x) (ho:∀ k,Φ.fx.nf≤k→Φ.fx.pl k=.off):CompT Φ scope (.Tuple [.Name x p1,.Name x' p2] kk p) x x' (setMany [Φ.fx.nf,Φ.fx.nf+1]):=by
  refine ⟨fun G y G₁ z e=>?_,fun C X G G₁ v y s hk hoa I e r E=>?_⟩
  · refine setMany_some (C:=fun _ G₁=>setMany [Φ.fx.nf,Φ.fx.nf+1] G₁ z=setMany [Φ.fx.nf,Φ.fx.nf+1] G z) e fun xs hl=>?_
    obtain ⟨a,b,rfl⟩:∃ a b,xs=[a,b]:=by
      rcases xs with _ | ⟨a,_ | ⟨b,_ | _⟩⟩ <;> cases hl
      exact ⟨a,b,rfl⟩
    cases z with
    | tuple zs=>
      rcases zs with _ | ⟨c,_ | ⟨d,_ | _⟩⟩ <;> try rfl
      exact congrArg some (set2 (.v a) (.v b) (.v c) (.v d))
    | _=>rfl
  · have hb:(x'==x)=false:=by cases q:x'==x with | false=>rfl | true=>exact absurd (eq_of_beq q) hne
    have:Hm (compFx Φ.fx scope C x x' X):=⟨Hm.no (fx:=Φ.fx)⟩
    refine wpAny_mono (tgtM (Φ:=⟨compFx Φ.fx scope C x x' X,Φ.oa,G⟩) (ks:=[Φ.fx.nf,Φ.fx.nf+1]) (.cons ⟨?_,comp_lk hk c.loc⟩ (.cons ⟨?_,comp_lk hk c.loc'⟩ .nil)) I e r E) (fun _ s' q=>?_) fun _ _ z=>z
    · show ((x,Φ.fx.nf) :: _).lookup x=_; rw [List.lookup_cons,beq_self_eq_true]
    · show ((x,Φ.fx.nf) :: (x',Φ.fx.nf+1) :: _).lookup x'=_; rw [List.lookup_cons,hb]; show List.lookup x' ((x',Φ.fx.nf+1) :: _)=_; rw [List.lookup_cons,beq_self_eq_true]
    · obtain ⟨I',_,k'⟩:=q
      have eo:offs [Φ.fx.nf,Φ.fx.nf+1] Φ.oa=Φ.oa:=funext fun j=>by
        show (if j=Φ.fx.nf+1 then none else if j=Φ.fx.nf then none else Φ.oa j)=_
        by_cases h:j=Φ.fx.nf+1
        · rw [if_pos h,h,hoa _ (Nat.le_succ _)]
        · rw [if_neg h]
          by_cases h':j=Φ.fx.nf
          · rw [if_pos h',h',hoa _ (Nat.le_refl _)]
          · rw [if_neg h']
      rw [eo] at I'
      refine ⟨I',fun b o n e=>k' b o e fun j m q=>n ?_⟩
      rcases List.mem_cons.mp m with rfl | m
      · exact cpl_C (Nat.le_refl _) (ho _ (Nat.le_refl _)) q
      · cases List.mem_singleton.mp m
        exact cpl_C (Nat.le_succ _) (ho _ (Nat.le_succ _)) q
end
section
variable {Φ:Ct} [Hm Φ.fx] {s s₀:Shared} {scope:Scope} {x x':Str}
theorem CompEnd.rp {K:List V→Prop} {D C:Addr} {s':Shared} (I₀:Inv Φ s₀) (ce:CompEnd Φ s₀ K D C s'):∃ ys,K ys∧Rp Φ.fx.g (fun b=>Φ.bad b∨b=C) s'.heap (.ref D) (.list ys):=by
  obtain ⟨m,ys,B,kx,hC0,hD0,hDC,hn,ky,vs,⟨c,hP⟩,rp⟩:=ce
  exact ⟨ys,ky,.list (fun q=>q.elim (fun q=>(I₀.badLive q).elim fun o e=>no_some hD0 e) hDC) hP ⟨rfl,rfl⟩ rfl rp⟩
theorem ev_comp {elt iter T:Expr} {b:Gs→V→Option Gs} {ifs:List Expr} {pos:Pos} {ds:(List V→Prop)→Prop} {de:D} {ts:List D} (c:CompOk Φ.fx scope x x') (hT:CompT Φ scope T x x' b) (hset:notSet iter=true) (hsrc:EvSrc Φ T false iter ds)
    (helt:∀ C X oa G,Ev ⟨compFx Φ.fx scope C x x' X,oa,G⟩ (eval elt (compFx Φ.fx scope C x x' X).env) (de G))
    (htest:∀ C X oa G,EvT ⟨compFx Φ.fx scope C x x' X,oa,G⟩ (testsT ifs (compFx Φ.fx scope C x x' X).env) (boolsD true ts G)) :
    Ev Φ (eval (.ListComp elt [⟨T,iter,ifs,0⟩] scope pos) Φ.fx.env) (fun K=>ds fun xs=>compL de ts b Φ.G xs fun ys=>K (.list ys)):=fun K s hd I E=>by
  rw [eval_ListComp]
  refine wpAny_comprehension_free (use:=none) rfl (folded_no hset) (closure_eq c.cells) c.kind c.names (hsrc _ s hd I _ _ fun l s₀ it s₂ kl I₀ k₀ gr fa=>comp_core (RR:=fun acc C=>compPost _ Φ.fx.A E none (Post Φ Φ.rp s K) acc C) c I₀ gr fa helt htest hT kl fun D C s' ce=>?_)
  obtain ⟨ys,ky,rp⟩:=ce.rp I₀
  obtain ⟨m,_,B,kx,hC0,_,_,hn,_⟩:=ce
  have h0:Φ.fx.g.h0.get? C=none:=none_of (fun l=>I₀.base.stays.live l) hC0
  exact ⟨m,hn,fun h' hs=>⟨⟨fun b o e=>hs.extBut b o (fun q=>no_some h0 (q▸e)) (B.stays b o e),B.os,B.gens⟩,fun b o e=>((k₀.trans kx) b o e).step fun o' e'=>.of (hs.extBut b o' (fun q=>(k₀ b o e).live.elim fun o e=>no_some hC0 (q▸e)) e'),_,ky,rp.map fun b o e _ n=>⟨fun q=>n (.inl q),hs.extBut b o (fun q=>n (.inr q)) e⟩⟩⟩
noncomputable def swapB (sc:List (Str×NameKind)) (scope:Scope) (y:Str) (py vp:Pos):Bool:=sc.lookup y==some .local&&py.line==vp.line&&!(scope.names.any fun (n,k)=>n==y&&(k==.local||k==.cell))
theorem swap_eq {fx:Fx} {elt:Expr} {gens:List Comprehension} {pos py:Pos} {y:Str} {n:Nat} (hk:fx.env.scope.kind=.function):swapsWith (.ListComp elt gens scope pos) (some (.Name y py)) n fx.env=pure (swapB fx.env.scope.names scope y py pos):=by
  have hb:(fx.env.blockKind==ScopeKind.function)=true:=by unfold Env.blockKind; rw [hk]; rfl
  refine (?_:(pure (fx.env.blockKind==ScopeKind.function&&_&&_&&_):Sem Bool)=_)
  rw [hb]
  rfl
theorem ex_assign_comp {fx:Fx} [Hm fx] {elt iter T:Expr} {b:Gs→V→Option Gs} {ifs:List Expr} {pos py p' spos:Pos} {y:Str} {k:Nat} {ds:Gs→(List V→Prop)→Prop} {de:D} {ts:List D} (c:CompOk fx scope x x') (hTc:∀ oa G,CompT ⟨fx,oa,G⟩ scope T x x' b) (hset:notSet iter=true) (hsrc:∀ oa G,EvSrc ⟨fx,oa,G⟩ T false iter (ds G))
    (helt:∀ C X oa G,Ev ⟨compFx fx scope C x x' X,oa,G⟩ (eval elt (compFx fx scope C x x' X).env) (de G))
    (htest:∀ C X oa G,EvT ⟨compFx fx scope C x x' X,oa,G⟩ (testsT ifs (compFx fx scope C x x' X).env) (boolsD true ts G)) (hT:TgtOk fx.ρ fx.env y k) :
    ExB fx (exec (.Assign [.Name y p'] (.ListComp elt [⟨T,iter,ifs,0⟩] scope pos) spos) fx.env) (fun G K=>ds G fun xs=>compL de ts b G xs fun ys=>K none (G.set k (.v (.list ys)))):=fun oa G K s hd I=>by
  cases hsw:swapB fx.env.scope.names scope y p' pos with
  | false=>exact ex_assign (fx:=fx) (d:=fun G K=>ds G fun xs=>compL de ts b G xs fun ys=>K (.list ys)) (by rw [swap_eq I.ok.kind,hsw]) hT (fun oa G=>ev_comp (Φ:=⟨fx,oa,G⟩) c (hTc oa G) hset (hsrc oa G) helt htest) oa G K s hd I
  | true=>
    rw [exec_Assign_Name_used _ _ _ _ ((swap_eq I.ok.kind).trans (by rw [hsw]))]
    refine wpAny_bind (wpAny_standAt (wpAny_bind ?_))
    show wpAny _ _ (do let _ ← comprehension (.ListComp elt [⟨T,iter,ifs,0⟩] scope pos) scope fx.env _ (newList []) false (eval iter fx.env) (some (assign (.Name y p') fx.env))) _ _ s
    refine wpAny_bind (wpAny_mono (wpAny_comprehension_free (use:=some (assign (.Name y p') fx.env)) (Q:=fun _ s'=>PostS ⟨fx,oa,G⟩ s K .next s') (E:=PostX ⟨fx,oa,G⟩ s K) rfl (folded_no hset) (closure_eq c.cells) c.kind c.names ?_) (fun _ s' hq=>wpAny_pure (wpAny_pure hq)) fun _ _ z=>z)
    refine hsrc oa G _ s hd I _ _ fun l s₀ it s₂ kl I₀ k₀ gr fa=>comp_core (Φ:=⟨fx,oa,G⟩) (RR:=fun acc C=>compPost _ fx.A (PostX ⟨fx,oa,G⟩ s K) (some (assign (.Name y p') fx.env)) (fun _ s'=>PostS ⟨fx,oa,G⟩ s K .next s') acc C) c I₀ gr fa helt htest (hTc oa G) kl fun D C s' ce=>?_
    obtain ⟨ys,ky,rp⟩:=ce.rp I₀
    obtain ⟨m,_,B,kx,hC0,_,_,hn,_⟩:=ce
    have h0:fx.g.h0.get? C=none:=none_of (fun l=>I₀.base.stays.live l) hC0
    have hCl:Live s'.heap C:=by obtain ⟨o,_,_,e,_⟩:=hn; exact ⟨o,e⟩
    have I':Inv ((Ct.mk fx oa G).mo (·=C)) s':=I₀.more B kx (fun b q=>q▸hC0) fun b q=>q▸hCl
    show wpAny _ _ (assign (.Name y p') fx.env (.ref D)) _ _ _
    refine wpAny_mono (tgt1 (Φ:=(Ct.mk fx oa G).mo (·=C)) hT I' (rp.map fun b o e _ n=>⟨fun q=>n (q.elim (fun q=>q.elim (fun q=>.inl (.inl q)) .inr) fun q=>.inl (.inr q)),e⟩) _) (fun _ s₅ ⟨I5,t5,k5⟩=>?_) fun _ _ z=>z
    have hpC:(fx.pl k).addr≠some C:=fun q=>(I₀.new C (.inl ⟨k,q⟩)).1.elim fun o e=>no_some hC0 e
    refine ⟨m,hn.at' fun o e=>k5 C o e hpC,fun h' hs=>?_⟩
    have kC:∀ b o,b∉[C]→s₅.heap.get? b=some o→h'.get? b=some o:=fun b o n e=>hs.extBut b o (fun q=>n (by rw [q]; exact .head _)) e
    have I6:=Inv.others (tk:=s₅.toks) (Φ:=((Ct.mk fx oa G).mo (·=C)).put k none (.v (.list ys))) (Mo₂:=fx.Mo) I5 (fun b m=>by cases List.mem_singleton.mp m; exact I₀.fr.new hC0) kC (fun b m=>by cases List.mem_singleton.mp m; exact .inr rfl) (fun b m=>by cases List.mem_singleton.mp m; exact h0) (fun a q=>.inl q)
      fun a q=>(I5.mo a (.inl q)).elim fun o e=>⟨o,hs.extBut a o (fun z=>(I₀.mo a q).elim fun o e=>no_some hC0 (z▸e)) e⟩
    have t6:Tr ⟨fx,oa,G⟩ s₀ ((Ct.mk fx oa G).put k none (.v (.list ys))) s₅:=(Tr.of_keeps kx).trans (Tr.mo (Φ:=⟨fx,oa,G⟩) (Φ':=(Ct.mk fx oa G).put k none (.v (.list ys))) (X:=(·=C)) rfl t5)
    exact .next (Φ:=⟨fx,oa,G⟩) I6 ((Tr.of_keeps k₀).trans (t6.others (tk:=s₅.toks) kC fun b m=>by cases List.mem_singleton.mp m; exact hC0)) ky
end
end Mine
end
noncomputable section
namespace Mine
open PySem PySem.Calls PyProof.Rows PySem.W
section
variable {Φ:Ct} {s:Shared} {v u:Value} {x y z:V} {d d1 d2 d3:DV}
theorem ev_chain {a b c:Expr} {pos:Pos} (hs:notSet c=true) (h1:Ev Φ (eval a Φ.fx.env) d1) (h2:Ev Φ (eval b Φ.fx.env) d2) (h3:Ev Φ (eval c Φ.fx.env) d3) :
    Ev Φ (eval (.Compare a [.LtE,.Lt] [b,c] pos) Φ.fx.env) (fun K=>d1 fun x=>d2 fun y=>okK (int2 x y fun i j=>some (decide (i≤j))) fun t=>if t=true then d3 fun z=>okK (int2 y z fun i j=>some (decide (i < j))) fun u=>K (.bool u) else K (.bool false)):=fun K s hd I=>by
  show Φ.wp (do
    let x ← eval a Φ.fx.env
    let y ← holding [x] (eval b Φ.fx.env)
    standAt pos
    let t ← holding [x,y] (compareOp .LtE x y)
    release [x,y] [t]
    if ← holding [t,y] (truthy t) then (do
      let z ← holding [y] (markedBehindIn .Lt c (eval c Φ.fx.env))
      standAt pos
      operate [y,z] (compareOp .Lt y z)) else pure t) _ s
  rw [not_marked hs]
  refine h1.bind hd I fun v x s₁ I₁ k₁ hx r1=>h2.holding.bind hx I₁ fun u y s₂ I₂ k₂ hy r2=>wp_stand ?_
  refine okK_elim hy fun t e kt E=>wpAny_bind (wpAny_holding (wpAny_mono (cmp_ok (o:=.LtE) (c:=t) e I₂ (r1.keep k₂) r2 E) (fun w s' q=>?_) fun _ _ z=>z))
  obtain ⟨rfl,rfl⟩:=q
  refine wpAny_bind (wpAny_release (wpAny_bind (wpAny_holding (wpAny_truthy_bool ?_))))
  cases t with
  | false=>exact wpAny_pure ⟨I₂.base,.refl _,_,kt,.bool _⟩
  | true=>exact h3.holding.bind kt I₂ (fun w z s₃ I₃ k₃ hz r3=>okK_elim hz fun c e kc=>wp_stand (wp_operate fun E=>wpAny_mono (cmp_ok (o:=.Lt) e I₃ (r2.keep k₃) r3 E) (fun w s' q=>by obtain ⟨rfl,rfl⟩:=q; exact ⟨I₃.base,.refl _,_,kc,.bool c⟩) fun _ _ z=>z)) E
theorem ev_call1 {F:Value} {f:Str} {fp pos:Pos} {e:Expr} {dd:V→Prop} {K:V→Prop} (hx:glob Φ.fx.env.scope.names f=true) (hF:bltNames.lookup f=some F) (hk:(∃ id,F=.builtin id)∨∃ T,F=.type T) (hp:plainE e=true) (h:Ev Φ (eval e Φ.fx.env) d)
    (st:∀ s v x E,Inv Φ s→Φ.rp s.heap v x→dd x→wpAny (model Φ.fx.g.prog Φ.fx.g.w) Φ.fx.A (call F [v]) (PostN Φ s K) E s) (hd:d dd) (I:Inv Φ s):Φ.wp (eval (.Call (.Name f fp) [e] [] pos) Φ.fx.env) (PostN Φ s K) s:=fun E=>by
  refine (?_:wpAny _ _ (eval (.Name f fp) Φ.fx.env >>= fun F=>callWith pos F [] (backTo pos (starEach [e] Φ.fx.env)) []) _ _ s)
  refine wpAny_bind (name_blt I hx hF ?_ E)
  have hp':(backTo pos (starEach [e] Φ.fx.env)).any (·.1)=false:=by rw [star_plain hp]; rfl
  have main:wpAny (model Φ.fx.g.prog Φ.fx.g.w) Φ.fx.A (evalArgs F true (backTo pos (starEach [e] Φ.fx.env)) []) (fun a s₁=>wpAny (model Φ.fx.g.prog Φ.fx.g.w) Φ.fx.A (call F ([]++a.pos) a.kw) (PostN Φ s K) E s₁) E s:=
    args_ok (qs:=[(e,d)]) (K:=fun xs=>okK (one xs some) dd) (fun q m=>by obtain rfl:=List.mem_singleton.mp m; exact ⟨hp,h⟩) hd I fun vs xs s₁ I₁ k₁ hx rs=>okK_elim hx fun x e hx=>one_elim (C:=fun vs=>wpAny _ _ (call F ([]++vs) []) _ _ s₁) e rs fun v x' r e=>by
      (injection e with e; subst e)
      exact wpAny_mono (st s₁ v _ E I₁ r hx) (fun _ _ p=>p.lift k₁) fun _ _ z=>z
  rcases hk with ⟨id,rfl⟩ | ⟨T,rfl⟩
  · exact callWith_builtin hp' main
  · exact PySem.callWith_type hp' main
theorem ev_listOf {fp pos:Pos} {e:Expr} (hx:glob Φ.fx.env.scope.names "list"=true) (hp:plainE e=true) (h:Ev Φ (eval e Φ.fx.env) d):EvN Φ (eval (.Call (.Name "list" fp) [e] [] pos) Φ.fx.env) (fun K=>d fun x=>okK (opN .listOf [x]) K):=fun K s hd I=>
  ev_call1 hx rfl (.inr ⟨_,rfl⟩) hp h (fun s v x E I r hx=>okK_elim hx fun z e kz=>map_elim (C:=fun z=>K z→wpAny _ _ (call (.type "list") [v]) (PostN Φ s K) E s) e (fun l e kz=>wpAny_mono (list_ok I e r E) (fun w s' q=>⟨⟨I.base.grown q.2.1,q.2.1.keeps,_,kz,q.2.2⟩,q.1▸newV_size (Nat.le_refl _)⟩) fun _ _ z=>z) kz) hd I
theorem rp_ints {h:Heap}:∀ {vs:List Value} {ns:List Int},IntsAre vs ns→Φ.rps h vs (ns.map .int)
  | _,_,.nil=>.nil
  | _,_,.cons n t hr=>.cons (.int n t) (rp_ints hr)
theorem ev_sorted {fp pos:Pos} {e:Expr} (hx:glob Φ.fx.env.scope.names "sorted"=true) (hp:plainE e=true) (h:Ev Φ (eval e Φ.fx.env) d) :
    EvN Φ (eval (.Call (.Name "sorted" fp) [e] [] pos) Φ.fx.env) (fun K=>d fun x=>okK (listO x intsL) fun is=>is.length < 64∧∀ r:List Int,r.Perm is→r.Pairwise (·≤·)→K (.list (r.map .int))):=fun K s hd I=>
  ev_call1 hx rfl (.inl ⟨_,rfl⟩) hp h (fun s v x E I r hx=>okK_elim hx fun is e ⟨hz,hK⟩=>by
    refine listO_elim (C:=fun x=>Φ.rp s.heap v x→wpAny _ _ (call (.builtin "sorted") [v]) _ E s) e (fun l e r=>?_) r
    refine r.list_elim fun a o vs n _ ha hc hd hl=>?_
    have hi:=intsAre_of e hl
    refine sorted_ints (vs:=vs.toList) ⟨o,ha,hc.1,n,by rw [hd]⟩ hi (by rw [← hi.nums,List.length_map] at hz; exact hz) fun out ns' h1 h2 h3=>?_
    have k:Stays s.heap (sortedAll s.heap vs.toList out):=fun b o e=>sortedAll_old e
    obtain ⟨ep,ho⟩:=sortedAll_at s.heap vs.toList out
    refine ⟨⟨I.base.grown (grown_of (tk:=s.toks) k),k.keeps,_,hK ns' h2 h3,.list (fun q=>?_) ho ⟨rfl,rfl⟩ rfl (rp_ints h1)⟩,newV_size (Nat.le_succ _)⟩
    obtain ⟨o',e'⟩:=I.badLive q
    exact absurd (Heap.lt_size e') (Nat.not_lt.mpr (Nat.le_succ _))) hd I
end
end Mine
end
noncomputable section
namespace Mine
open PySem PySem.Calls PyProof.Rows PySem.W
section
variable {prog:Program} {w:World} {A:Around} {E:Value→Shared→Prop} {s:Shared}
theorem list_eq_of {α:Type} {l m:List α} (hl:l.length=m.length) (h:∀ (j:Nat) v,l[j]?=some v→m[j]?=some v):l=m:=by
  refine List.ext_getElem? fun j=>?_
  cases e:l[j]? with
  | some v=>exact (h j v e).symm
  | none=>exact (List.getElem?_eq_none (hl▸List.getElem?_eq_none_iff.mp e)).symm
theorem extend_any {R:Result→Shared→Prop} {D X:Addr} {T:String} {c:Nat} {res:Value} (C:List Value→Prop) (hh:A.handled=none) (hD:s.heap.get? D=some { cls:=.type "list",dict:=none,data:=.seq #[] c,slots:=#[] }) (hne:D≠X) (hT:T="set"∨T="dict_values") (hty:s.TypeIs (.ref X) T)
    (hhint:∀ (s':Shared) (Q:Bool→Shared→Prop) (E:Value→Shared→Prop),Stays s.heap s'.heap→Q false s'→wpAny (model prog w) A.in1 (Builtin.List.listLengthHint (.ref X)) Q E s')
    (hit:∀ (Q:Value→Shared→Prop) (E:Value→Shared→Prop),(∀ (ord:List Value) I fp wr St h' d,C ord→ord.length≤sizeLine→Stays s.heap h'→(∀ b∈wr,s.heap.get? b=none)→D∉fp→Walks prog w A.in1 I fp wr ord.length (fun i v=>ord[i]?=some v) St→St 0 h'→Q (.ref I) { s with heap:=h',drawn:=d })→wpAny (model prog w) A.in1 (pyIter (.ref X)) Q E s)
    (hR:∀ (out:List Value) h' d tk c',C out→(∀ b o,b≠D→s.heap.get? b=some o→h'.get? b=some o)→h'.get? D=some { cls:=.type "list",dict:=none,data:=.seq out.toArray c',slots:=#[] }→R (.ok (.ret res)) { s with heap:=h',drawn:=d,toks:=tk }) :
    wpAny (model prog w) A.in1 (Builtin.List.listExtendWith (.ref D) (.ref X) res) (fun fin s'=>match fin with | .done f=>R (.ok f) s' | .again c'=>c'.quiet=true∧codeAny (model prog w) A c' R s') (fun e s'=>R (.error e) s') s:=by
  unfold Builtin.List.listExtendWith
  refine wpAny_bind (wpAny_typeOf hty ?_)
  have h1:Builtin.List.listSameRef (.ref D) (.ref X)=false:=by simp [Builtin.List.listSameRef,hne]
  have h2:(Value.type T==Value.type "list")=false:=by rcases hT with rfl | rfl <;> decide
  have h3:(Value.type T==Value.type "tuple")=false:=by rcases hT with rfl | rfl <;> decide
  simp only [h1,h2,h3,Bool.or_false,Bool.false_eq_true,if_false]
  refine wpAny_bind (hit _ _ fun ord I fp wr St h' d hC hz k hw hf W hst=>?_)
  refine wpAny_bind (wpAny_holding (hhint _ _ _ k ?_))
  rw [if_pos (by rcases hT with rfl | rfl <;> decide)]
  refine wpAny_bind (wpAny_rule (wpAny_bind ?_))
  have hS1:=k _ _ hD
  refine (?_:wpAny _ A.in1 (updateSeq D (·.push .none) >>= fun _=>updateSeq D (·.pop)) _ _ _)
  refine wpAny_bind (wpAny_updateSeq hS1 rfl ?_)
  have hS2:=Heap.get?_update_self (Obj.mapSeq (·.push Value.none)) hS1 rfl
  refine wpAny_updateSeq hS2 rfl ?_
  have hS3:=Heap.get?_update_self (Obj.mapSeq (·.pop)) hS2 rfl
  have oth:∀ b ob,b≠D→h'.get? b=some ob→((h'.update D (Obj.mapSeq (·.push Value.none))).update D (Obj.mapSeq (·.pop))).get? b=some ob:=
    fun b ob hb e=>(Heap.get?_update_other _ _ (Ne.symm hb)).trans ((Heap.get?_update_other _ _ (Ne.symm hb)).trans e)
  refine wpAny_pure ⟨plainId_quiet PySem.F.plain_extend_loop _,codeAny_extend_loopS W.toS hz _ hf _ ord.length 0 _ _ _ rfl (Nat.zero_le _) (W.frame 0 _ _ hst fun b hb ob e=>oth b ob (fun q=>hf (q▸hb)) e) hS3 (ItemsOf.nil _) fun s' acc' c' hm hS' hacc=>?_⟩
  have e1:acc'.toList=ord:=list_eq_of (by rw [Array.length_toList,hacc.1]) fun j v e=>hacc.2 j v (Array.getElem?_toList▸e)
  obtain ⟨hp,gs,dr,tk,os⟩:=s'
  obtain ⟨m1,m2,m3,m4,m5⟩:=hm
  subst m2; cases m3; subst m4
  refine hR ord hp d tk c' hC (fun b ob q e=>m1 b ob (fun q'=>?_) (oth b ob q (k _ _ e))) (by subst e1; exact hS')
  rcases List.mem_cons.mp q' with q' | q'
  · exact q q'
  · have:=hw b q'; rw [e] at this; (injection this; done)
end
end Mine
end
noncomputable section
namespace Mine
open PySem PySem.Calls PyProof.Rows PySem.W
section
variable {g:Gl} {bad:Addr→Prop} {h:Heap} {o:Obj} {ws:List Value} {j:Nat} {x:Str} {v:Value}
theorem look_fld (f:FldObj g o ws) (nd:g.flds.Nodup) (hx:g.flds[j]?=some x) (hv:ws[j]?=some v):lookIn x o=some (some v):=by
  obtain ⟨_,es,n,hd,hw,hk⟩:=f
  subst hw
  replace hv:=(Array.getElem?_toList)▸(List.getElem?_map)▸hv
  obtain ⟨e,ee,rfl⟩:=Option.map_eq_some_iff.mp hv
  obtain ⟨y,t,hy,ek⟩:=hk j e ee
  replace hy:=hx▸hy; (injection hy with hy; subst hy)
  unfold lookIn
  rw [hd]
  dsimp only
  cases hf:es.toList.find? (·.key.isStr x) with
  | none=>
    have:=List.find?_eq_none.mp hf e (List.mem_of_getElem? (Array.getElem?_toList▸ee))
    rw [ek] at this
    exact absurd (by simp [Value.isStr]) this
  | some e'=>
    have hm:=List.mem_of_find?_eq_some hf
    have hs:=List.find?_some hf
    obtain ⟨i,hi⟩:=List.getElem?_of_mem hm
    replace hi:=(Array.getElem?_toList)▸hi
    obtain ⟨z,t',hz,ek'⟩:=hk i e' hi
    replace hs:=ek'▸hs
    have hzx:z=x:=by simpa [Value.isStr] using hs
    subst hzx
    have:=(List.getElem?_inj (List.getElem?_eq_some_iff.mp hx).1 nd).mp (hx.trans hz.symm)
    subst this
    replace hi:=ee▸hi; (injection hi with hi; subst hi); rfl
theorem look_none (f:FldObj g o ws) (hx:x∉g.flds):lookIn x o=some none:=by
  refine gen_goal fun Z4 kZ4=>?_
  obtain ⟨_,es,n,hd,hw,hk⟩:=f
  refine kZ4 ?_
  have key:∀ e∈es.toList,∃ y t,y∈g.flds∧e.key=.str y t:=fun e m=>by
    obtain ⟨i,hi⟩:=List.getElem?_of_mem m
    rw [Array.getElem?_toList] at hi
    obtain ⟨z,t',hz,ek'⟩:=hk i e hi
    exact ⟨z,t',List.mem_of_getElem? hz,ek'⟩
  unfold lookIn
  rw [hd]
  dsimp only
  have hf:es.toList.find? (·.key.isStr x)=none:=List.find?_eq_none.mpr fun e m q=>by
    obtain ⟨y,t,hy,ek⟩:=key e m
    rw [ek] at q
    have:y=x:=by simpa [Value.isStr] using q
    exact hx (this▸hy)
  have hr:es.toList.any (·.refKey)=false:=List.any_eq_false.mpr fun e m q=>by
    obtain ⟨y,t,hy,ek⟩:=key e m
    unfold DictEntry.refKey at q
    rw [ek] at q; (injection q; done)
  rw [hf,hr]; rfl
theorem handed_rp {y:V} (r:Rp g bad h v y):handedIn v=true:=by cases r <;> rfl
end
section
variable {Φ:Ct} {s:Shared} {v u:Value} {x y z:V} {d:DV}
theorem own_dict {C:Addr} {o:Obj} {nm:Str} (I:Inv Φ s):∃ cd,clsIn Φ.fx.g.K Φ.fx.g.C=some cd∧PySem.W.ownOf cd (some o) nm=lookIn nm o:=by
  obtain ⟨cd,hc,hd⟩:=any_some I.ok.gr.cls.hdict
  exact ⟨cd,hc,by unfold PySem.W.ownOf; rw [hd]; rfl⟩
theorem find_fld {o:Obj} {ws:List Value} {j:Nat} {nm:Str} (I:Inv Φ s) (f:FldObj Φ.fx.g o ws) (hx:Φ.fx.g.flds[j]?=some nm) (hv:ws[j]?=some v):findObj Φ.fx.g.K Φ.fx.g.C (some o) nm=some (.value v):=by
  obtain ⟨cd,hc,ho⟩:=own_dict (C:=0) (o:=o) (nm:=nm) I
  unfold findObj
  rw [hc,Option.bind_some,I.ok.gr.cls.flds nm (List.mem_of_getElem? hx),Option.bind_some,Option.bind_some,Option.bind_some]
  refine (?_:(PySem.W.ownOf cd (some o) nm).bind _=_)
  rw [ho,look_fld f I.ok.gr.cls.nodup hx hv]; rfl
theorem ev_attr {e:Expr} {nm:Str} {j:Nat} {pos:Pos} (he:simpleE e=true) (hx:Φ.fx.g.flds[j]?=some nm) (h:Ev Φ (eval e Φ.fx.env) d) :
    Ev Φ (eval (.Attribute e nm pos) Φ.fx.env) (fun K=>d fun x=>okK (opN (.attr j) [x]) K):=fun K s hd I=>by
  rw [arm_eval_Attribute,base_simple he]
  refine h.bind hd I fun v x s₁ I₁ k₁ hx' r=>wp_stand ?_
  refine okK_elim hx' fun z ez kz E=>?_
  cases x with
  | dict kvs=>
    refine ifo_elim (ez:(if isIk kvs=true then (kvs[j]?).map (·.2) else none)=some z) fun hik ez=>?_
    obtain ⟨p,hp,rfl⟩:=Option.map_eq_some_iff.mp ez
    refine r.inst_elim (C:=fun v=>wpAny _ _ (holding [v] (getAttr v nm true) >>= _) _ E s₁) hik fun a dd o ws nb nb' ha hdd hf _ hl=>?_
    have hz:(kvs.map (·.2))[j]?=some p.2:=by rw [List.getElem?_map,hp]; rfl
    obtain ⟨w,hw,rw'⟩:=hl.get hz
    exact wpAny_bind (wpAny_holding (get_value I₁.frag ⟨ha,rfl,rfl,hdd⟩ I₁.ok.gr.cls.hga (find_fld I₁ hf hx hw) (handed_rp rw') (wpAny_bind (wpAny_letTemporaryGo (wpAny_pure ⟨I₁.base.grown (.toks _ _),.refl _,_,kz,rw'⟩)))))
  | _=>(injection ez; done)
theorem ev_meth {e:Expr} {nm:Str} {f:Nat} {apos pos:Pos} (he:simpleE e=true) (hline:(apos.endLine==pos.line)=true) (hnf:nm∉Φ.fx.g.flds) (hf:findIn Φ.fx.g.K (.ref Φ.fx.g.C) nm=some (some (.ref (Φ.fx.g.fn f)))) (ht:typeIn Φ.fx.g.K (.ref (Φ.fx.g.fn f))=some (.type "function")) (hk:keepIn Φ.fx.g.K (.ref (Φ.fx.g.fn f))=true) (hsf:Φ.safe f) (h:Ev Φ (eval e Φ.fx.env) d) :
    EvC Φ (Φ.fx.g.newf f) (eval (.Call (.Attribute e nm apos) [] [] pos) Φ.fx.env) (fun K=>d fun x=>isInst x=true∧callN Φ.fx.g.P Φ.fx.d f [x] fun y=>noX y=true∧K y):=fun K s hd I=>by
  rw [arm_eval_Call,base_simple he]
  refine h.bindC hd I fun v x s₁ I₁ k₁ hx r=>wp_stand fun E=>?_
  cases x with
  | dict kvs=>
    unfold methodCall
    have r':=r
    refine Rp.inst_elim (C:=fun v=>Φ.rp s₁.heap v (.dict kvs)→wpAny _ _ (holding [v] (calleeOf _ e Φ.fx.env v nm) >>= _) _ E s₁) r hx.1 (fun a dd o ws nb nb' ha hdd hfl _ hl r'=>?_) r'
    refine wpAny_bind (wpAny_holding (method_fn (od:=some o) I₁.frag ⟨ha,rfl,rfl,hdd⟩ I₁.ok.gr.cls.hga I₁.ok.gr.cls.hgk hf ht (by refine (?_:(lookIn nm o).map _=_); rw [look_none hfl hnf]; rfl) ?_))
    have hp:methodCallPos (methodCallForm ([]:List Expr).length (backTo pos (starEach [] Φ.fx.env)) (backToKw pos (keywordEach [] Φ.fx.env))) e Φ.fx.env apos pos=pure pos:=by unfold methodCallPos; rw [hline,Bool.or_true]; rfl
    refine wpAny_bind ?_
    refine (?_:wpAny _ _ (methodCallPos (methodCallForm ([]:List Expr).length (backTo pos (starEach [] Φ.fx.env)) (backToKw pos (keywordEach [] Φ.fx.env))) e Φ.fx.env apos pos) _ _ _)
    rw [hp]
    refine wpAny_pure (callWith_of rfl (keeps_K hk) (PySem.evalArgs_none ⟨I₁.frag,?_⟩))
    exact post_of_call hsf I₁ hx.2 (.cons r' .nil)
  | _=>(injection hx.1; done)
end
section
variable {fx:Fx}
theorem ownI_some {G:Gs} {k:Nat} {l:List V} (e:ownIO G k=some l):getSlot G k=.ownI l:=by
  unfold ownIO at e
  revert e
  cases getSlot G k with
  | ownI m=>exact fun e=>congrArg Slot.ownI (Option.some.inj e)
  | _=>exact fun e=>nomatch e
theorem set_fld_ok {Φ:Ct} {s:Shared} {E:Value→Shared→Prop} {b a:Addr} {o:Obj} {ws:List Value} {nm:Str} {v:Value} {Q:Unit→Shared→Prop} (I:Inv Φ s) (hb:s.heap.get? b=some (instObj Φ.fx.g.C a)) (ha:s.heap.get? a=some o) (hf:FldObj Φ.fx.g o ws) (hx:Φ.fx.g.flds[ws.length]?=some nm)
    (h:∀ h' tk o',Heap.SameBut a s.heap h'→h'.get? a=some o'→FldObj Φ.fx.g o' (ws++[v])→Q () { s with heap:=h',toks:=tk }):wpAny (model Φ.fx.g.prog Φ.fx.g.w) Φ.fx.A (setAttr (.ref b) nm v) Q E s:=by
  have ht:takerIn Φ.fx.g.K Φ.fx.g.C nm=some none:=by unfold takerIn; rw [I.ok.gr.cls.flds nm (List.mem_of_getElem? hx)]; rfl
  have IA:InstAt s.heap b (instObj Φ.fx.g.C a) Φ.fx.g.C (some o):=⟨hb,rfl,rfl,ha⟩
  refine set_plain I.frag IA I.ok.gr.cls.hsa ?_
  refine osa_open (s:={ s with toks:=s.toks+1 }) (od:=some o) I.frag ⟨hb,rfl,rfl,ha⟩ I.ok.gr.cls.over ht fun bb=>?_
  obtain ⟨cd,hc,hd'⟩:=any_some I.ok.gr.cls.hdict
  refine wpAny_bind (wpAny_pure (wpAny_bind (wpAny_bind (wpAny_loadPart hb (wpAny_bind (Looks.here (s:={ s with toks:=s.toks+1 }) (looks_clsIn I.frag hc) ?_))))))
  refine hd'.symm▸?_
  refine wpAny_pure (a:=some a) (wpAny_bind (wpAny_pure (wpAny_bind ?_)))
  skip
  refine wpAny_bind (wpAny_bind (wpAny_askSetting (wpAny_pure (wpAny_bind (wpAny_mkText (wpAny_bind (wpAny_loadPart ha ?_)))))))
  obtain ⟨hex,es,n,hd,hw,hk⟩:=hf
  have hlen:es.size=ws.length:=by rw [← hw,List.length_map,Array.length_toList]
  have key:∀ e∈es.toList,∃ y t,e.key=.str y t∧y≠nm:=fun e m=>by
    obtain ⟨i,hi⟩:=List.getElem?_of_mem m
    rw [Array.getElem?_toList] at hi
    obtain ⟨z,t',hz,ek'⟩:=hk i e hi
    refine ⟨z,t',ek',fun q=>?_⟩
    subst q
    have:=(List.getElem?_inj (List.getElem?_eq_some_iff.mp hz).1 I.ok.gr.cls.nodup).mp (hz.trans hx.symm)
    have:=(Array.getElem?_eq_some_iff.mp hi).1
    omega
  have na:es.toList.any (·.key.isStr nm)=false:=List.any_eq_false.mpr fun e m q=>by
    obtain ⟨y,t,ek,hy⟩:=key e m
    rw [ek] at q
    exact hy (by simpa [Value.isStr] using q)
  have nr:es.toList.any (·.refKey)=false:=List.any_eq_false.mpr fun e m q=>by
    obtain ⟨y,t,ek,hy⟩:=key e m
    unfold DictEntry.refKey at q
    rw [ek] at q; (injection q; done)
  rw [hd]
  dsimp only
  rw [aRefKeyMayBeTheName_at,← Array.any_toList,← Array.any_toList,nr,Bool.and_false]
  refine wpAny_updatePart ha ?_
  refine gen_goal fun Z19 kZ19=>?_
  obtain ⟨l⟩:=es
  obtain ⟨oc,od,dat,sl⟩:=o
  refine kZ19 ?_
  subst hd
  have pe:=putName_eq nm (PyData.keyHash Φ.fx.g.w.params nm) (.str nm (s.toks+1)) v oc od l n sl
  rw [na,if_neg Bool.false_ne_true,show PySem.putIn (·.key.isStr nm) (fun e=>{ e with val:=v }) ⟨PyData.keyHash Φ.fx.g.w.params nm,.str nm (s.toks+1),v⟩ l=l++[⟨PyData.keyHash Φ.fx.g.w.params nm,.str nm (s.toks+1),v⟩] by unfold PySem.putIn; rw [List.findIdx?_eq_none_iff.mpr fun e m=>by simpa using List.any_eq_false.mp na e m]] at pe
  have D':=Heap.get?_update_self (Obj.putName nm (PyData.keyHash Φ.fx.g.w.params nm) (.str nm (s.toks+1)) v) ha (by rw [pe]; rfl)
  rw [pe] at D'
  have hlt:=(List.getElem?_eq_some_iff.mp hx).1
  have hfew:=I.ok.gr.cls.few
  refine wpAny_bind (wpAny_lookBehind D' (pastItsLine_dict (by rw [List.size_toArray,List.length_append,sizeLine_eq]; refine (?_:l.length+1≤_); have:l.length=ws.length:=hlen; omega)) ?_)
  refine wpAny_pure (h _ _ _ (.update ..) D' ⟨⟨hex.1,hex.2.1,hex.2.2⟩,_,_,rfl,?_,fun j e ee=>?_⟩)
  · rw [List.map_append,hw]; rfl
  · have ee:(l++[(⟨PyData.keyHash Φ.fx.g.w.params nm,.str nm (s.toks+1),v⟩:DictEntry)])[j]?=some e:=by simpa using ee
    rcases Nat.lt_or_ge j l.length with q | q
    · rw [List.getElem?_append_left q] at ee; exact hk j e (by simpa using ee)
    · replace ee:=(List.getElem?_append_right q)▸ee
      have:j - l.length=0:=by have:=(List.getElem?_eq_some_iff.mp ee).1; rw [List.length_singleton] at this; omega
      replace ee:=this▸ee
      (injection ee with ee; subst ee)
      have hl2:l.length=ws.length:=hlen
      exact ⟨nm,_,by rw [show j=ws.length by omega]; exact hx,rfl⟩
theorem NewL.snoc {a:Addr} {ws:List Value} {l:List V} {v:Value} {x:V} (n:NewL a ws l) (hlen:ws.length=l.length) (h:∀ c m,v=.ref c→x=.list m→a < c):NewL a (ws++[v]) (l++[x]):=fun j b m e1 e2=>by
  rcases Nat.lt_or_ge j ws.length with q | q
  · replace e1:=(List.getElem?_append_left q)▸e1; replace e2:=(List.getElem?_append_left (hlen▸q))▸e2; exact n j b m e1 e2
  · replace e1:=(List.getElem?_singleton)▸(List.getElem?_append_right q)▸e1; rw [List.getElem?_append_right (hlen▸q),List.getElem?_singleton] at e2
    split at e1
    · rename_i z; rw [if_pos (hlen▸z)] at e2; exact h b m (Option.some.inj e1) (Option.some.inj e2)
    · (injection e1; done)
theorem setAttr_core {n:Str} {k j:Nat} {np ap spos:Pos} {nm:Str} {e:Expr} {d:Gs→DV} {K:Option V→Gs→Prop} {oa:Nat→Option Addr} {G:Gs} {s:Shared} (hx:fx.ρ.lookup n=some k) (hn:okName n=true) (hnm:fx.g.flds[j]?=some nm) (hs:notComp e=true) (I:Inv ⟨fx,oa,G⟩ s)
    (h:(Ct.mk fx oa G).wp (eval e fx.env) (fun v s₁=>∃ x,Base fx.g s₁∧Keeps s.heap s₁.heap∧(Ct.mk fx oa G).rp s₁.heap v x∧(∀ m,x=.list m→NewV s.heap v)∧okK (ownIO G k) fun l=>l.length=j∧K none (G.set k (.ownI (l++[x])))) s) :
    wpAny (model fx.g.prog fx.g.w) fx.A (exec (.Assign [.Attribute (.Name n np) nm ap] e spos) fx.env) (PostS ⟨fx,oa,G⟩ s K) (PostX ⟨fx,oa,G⟩ s K) s:=by
  refine plainObj_wpAny_Assign_Attribute (wpAny_mono (h _) (fun v s₁ ⟨x,B1,k1,r,nv,hx'⟩=>okK_elim hx' fun l el ⟨hj,hk⟩=>?_) fun _ _ z=>z) (swaps_no hs)
  have I1:=I.keep B1 k1
  obtain ⟨a,u,ha,pr,b,o,ws,rfl,eb,nb,hb,ho,hf,hnl,hl⟩:=own_of (Φ:=⟨fx,oa,G⟩) I (ownI_some el) id
  have hb1:=k1.get hb nf_inst
  have ho1:=k1.get ho (nf_seq hf.1.1)
  refine name_read (Φ:=⟨fx,oa,G⟩) I1.ok hx hn (pr.keep k1) ?_ _
  refine set_fld_ok (Φ:=⟨fx,oa,G⟩) I1 hb1 ho1 hf (by exact hl.length.symm▸hj.symm▸hnm) fun h' tk o' sb ho' hf'=>?_
  have mk:MapK (Ct.mk fx oa G).bad (Ct.mk fx oa G).bad s₁.heap h':=fun c o e _ nc=>⟨nc,sb.extBut c o (fun q=>nc (.inr (.inr ⟨k,q▸ha⟩))) e⟩
  have q:=Inv.mutate (Φ:=⟨fx,oa,G⟩) (sl:=.ownI (l++[x])) (tk:=tk) I1 ha (pr.keep k1) ⟨o,ho1,nf_seq hf.1.1⟩ sb ⟨_,ho'⟩ ⟨b,o',ws++[v],rfl,eb,nb,(mk _ _ hb1 nf_inst nb).2,ho',hf',hnl.snoc hl.length fun c m e q=>nv m q c b e ⟨_,hb⟩,((hl.keep k1).map mk).append (.cons (r.map mk) .nil)⟩ (fun _ q=>nomatch q) (fun q=>nomatch q) fun _=>by refine (?_:isI (getSlot G k)); rw [ownI_some el]; trivial
  exact .next (Φ:=⟨fx,oa,G⟩) q.1 ((Tr.of_keeps k1).trans q.2) hk
theorem ex_setAttr {n:Str} {k j:Nat} {np ap spos:Pos} {nm:Str} {e:Expr} {d:Gs→DV} (hx:fx.ρ.lookup n=some k) (hn:okName n=true) (hnm:fx.g.flds[j]?=some nm) (hs:notComp e=true) (h:∀ oa G,Ev ⟨fx,oa,G⟩ (eval e fx.env) (d G)) :
    ExB fx (exec (.Assign [.Attribute (.Name n np) nm ap] e spos) fx.env) (fun G K=>d G fun x=>isList x=false∧okK (ownIO G k) fun l=>l.length=j∧K none (G.set k (.ownI (l++[x])))):=fun oa G K s hd I=>
  setAttr_core (d:=d) hx hn hnm hs I fun E=>wpAny_mono (h oa G _ s hd I E) (fun v s₁ ⟨B,k,x,hx,r⟩=>⟨x,B,k,r,(fun m e=>by subst e; (injection hx.1; done)),hx.2⟩) fun _ _ z=>z
theorem ex_setAttrN {n:Str} {k j:Nat} {np ap spos:Pos} {nm:Str} {e:Expr} {d:Gs→DV} (hx:fx.ρ.lookup n=some k) (hn:okName n=true) (hnm:fx.g.flds[j]?=some nm) (hs:notComp e=true) (h:∀ oa G,EvN ⟨fx,oa,G⟩ (eval e fx.env) (d G)) :
    ExB fx (exec (.Assign [.Attribute (.Name n np) nm ap] e spos) fx.env) (fun G K=>d G fun x=>okK (ownIO G k) fun l=>l.length=j∧K none (G.set k (.ownI (l++[x])))):=fun oa G K s hd I=>
  setAttr_core (d:=d) hx hn hnm hs I fun E=>wpAny_mono (h oa G _ s hd I E) (fun v s₁ ⟨⟨B,k,x,hx,r⟩,n⟩=>⟨x,B,k,r,fun _ _=>n,hx⟩) fun _ _ z=>z
end
end Mine
end
noncomputable section
namespace Mine
open PySem PySem.Calls PyProof.Rows PySem.W
structure Noted (F:List Addr) (lo:Heap) (h h':Heap):Prop where
  low:∀ b o,h.get? b=some o→Live lo b→(∃ sl,h'.get? b=some { o with slots:=sl })∧(b∉F→h'.get? b=some o)
  data:∀ b o,h.get? b=some o→(∀ vs,o.data≠.fields vs)→(∃ sl,h'.get? b=some { o with slots:=sl })∧(b∉F→h'.get? b=some o)
  live:∀ b,Live h b→Live h' b
theorem Noted.refl (F:List Addr) (lo:Heap) (h:Heap):Noted F lo h h:=⟨fun _ o e _=>⟨⟨o.slots,e⟩,fun _=>e⟩,fun _ o e _=>⟨⟨o.slots,e⟩,fun _=>e⟩,fun _ l=>l⟩
theorem Noted.trans {F:List Addr} {lo:Heap} {h₁ h₂ h₃:Heap} (x:Noted F lo h₁ h₂) (y:Noted F lo h₂ h₃):Noted F lo h₁ h₃ where
  low:=fun b o e hb=>by
    obtain ⟨⟨sl,e₁⟩,f₁⟩:=x.low b o e hb
    obtain ⟨⟨sl',e₂⟩,f₂⟩:=y.low b _ e₁ hb
    exact ⟨⟨sl',e₂⟩,fun hF=>(y.low b _ (f₁ hF) hb).2 hF⟩
  data:=fun b o e hd=>by
    obtain ⟨⟨sl,e₁⟩,f₁⟩:=x.data b o e hd
    obtain ⟨⟨sl',e₂⟩,f₂⟩:=y.data b _ e₁ hd
    exact ⟨⟨sl',e₂⟩,fun hF=>(y.data b _ (f₁ hF) hd).2 hF⟩
  live:=fun b l=>y.live b (x.live b l)
theorem Noted.frames {F:List Addr} {lo h h' base:Heap} {l:List Env} (x:Noted F lo h h') (f:h.FunFrames base l):h'.FunFrames base l:=
  f.of_keeps fun b o ho hd=>by obtain ⟨⟨sl,e⟩,_⟩:=x.data b o ho hd; exact ⟨_,e,rfl⟩
theorem Noted.le {F:List Addr} {lo lo':Heap} {h h':Heap} (x:Noted F lo h h') (q:∀ b,Live lo' b→Live lo b):Noted F lo' h h':=⟨fun b o e hb=>x.low b o e (q b hb),x.data,x.live⟩
noncomputable def frameAddrs (l:List Env):List Addr:=l.filterMap (·.frame)
section
variable {M:Model} {A:Around} {E:Value→Shared→Prop} {s:Shared} {base:Heap} {env:Env} {outer:List Env} {L e:Addr} {lo:Heap} {cls:Value}
theorem noted_write {F:List Addr} {h:Heap} {a:Addr} {o:Obj} {vs:Array Value} (ho:h.get? a=some o) (hd:o.data=.fields vs) (hlo:lo.get? a=none) (f:Array Value→Array Value):Noted F lo h (h.update a (Obj.mapFields f)) where
  low:=fun b ob eb hb=>by
    have:(h.update a (Obj.mapFields f)).get? b=some ob:=(Heap.get?_update_ne _ _ _ _ (by intro q; subst q; obtain ⟨_,hb⟩:=hb; replace hb:=hlo▸hb; (injection hb; done))).trans eb
    exact ⟨⟨ob.slots,this⟩,fun _=>this⟩
  data:=fun b ob eb hn=>by
    have:(h.update a (Obj.mapFields f)).get? b=some ob:=(Heap.get?_update_ne _ _ _ _ (by intro q; subst q; replace eb:=ho▸eb; (injection eb with eb; subst eb); exact hn vs hd)).trans eb
    exact ⟨⟨ob.slots,this⟩,fun _=>this⟩
  live:=fun b ⟨ob,eb⟩=>by
    by_cases q:b=a
    · subst q
      exact ⟨_,Heap.get?_update_self _ ho (Obj.isFreed_of_fields (Obj.data_mapFields hd f))⟩
    · exact ⟨ob,(Heap.get?_update_ne _ _ _ _ q).trans eb⟩
theorem noted_push {F:List Addr} {h:Heap} (o:Obj):Noted F lo h (h.push o) where
  low:=fun b ob eb _=>⟨⟨ob.slots,Heap.get?_push_of_some _ eb⟩,fun _=>Heap.get?_push_of_some _ eb⟩
  data:=fun b ob eb _=>⟨⟨ob.slots,Heap.get?_push_of_some _ eb⟩,fun _=>Heap.get?_push_of_some _ eb⟩
  live:=fun b ⟨ob,eb⟩=>⟨ob,Heap.get?_push_of_some _ eb⟩
theorem noted_slots {F:List Addr} {h h':Heap} (x:Heap.SlotsOnly F h h'):Noted F lo h h' where
  low:=fun b ob eb _=>⟨x.2.2 b ob eb,fun hF=>(x.2.1 b hF).trans eb⟩
  data:=fun b ob eb _=>⟨x.2.2 b ob eb,fun hF=>(x.2.1 b hF).trans eb⟩
  live:=fun b ⟨ob,eb⟩=>let ⟨_,e⟩:=x.2.2 b ob eb; ⟨_,e⟩
theorem entry_ok {head:Value} {hadNext:Bool} {Q:Unit→Shared→Prop} {oe:Obj} {vs:Array Value}
    (hfr:A.frames=some (env :: outer)) (hl:s.heap.FunFrames base (env :: outer)) (hf:env.frame=some L) (hlo:∀ b,Live lo b→Live s.heap b)
    (he:s.heap.get? e=some oe) (hc:oe.cls=cls) (hdi:oe.dict=none) (hd:oe.data=.fields vs) (hle:lo.get? e=none) (hsz:1 < vs.size)
    (h:∀ h',Noted (frameAddrs (env :: outer)) lo s.heap h'→ExcAt h' lo e cls (rawInt L)→Q () { s with heap:=h' }) :
    wpAny M A (do let a ← frameOf env; let pl ← entryPlaceOf L hadNext; let b ← EntryCells.newEntry head a .none (rawInt L) .none pl; setField (.ref e) 1 b) Q E s:=by
  have hene:e∉(env :: outer).filterMap (·.frame):=fun hm=>by
    obtain ⟨_,o,ho,hnf⟩:=hl.mem hm
    rw [he] at ho; injection ho with ho; subst ho; exact hnf vs hd
  refine wpAny_bind (wpAny_frameOf_fun hfr hl hf fun h₁ hs₁=>?_)
  refine wpAny_bind (wpAny_entryPlaceOf fun pl hpl=>?_)
  skip
  refine wpAny_bind (wpAny_newObj_type ?_ (hpl.sizeOk5 _ _ _ _ _))
  have he₁:h₁.get? e=some oe:=(hs₁.2.1 e hene).trans he
  have he₂:=Heap.get?_push_of_some (h:=h₁) { cls:=.type "traceback",dict:=none,data:=.fields ([head,.ref L,.none,rawInt L,.none]++(if pl.isEmpty then List.replicate 6 Value.none else pl)).toArray } he₁
  refine wpAny_setField he₂ hd hsz (h _ ?_ ?_)
  · exact ((noted_slots hs₁).trans (noted_push _)).trans (noted_write he₂ hd hle _)
  · have hTe:h₁.objs.size≠e:=Nat.ne_of_gt (Heap.lt_size he₁)
    have hd₃:=Obj.data_mapFields hd (·.setIfInBounds 1 (Value.ref h₁.objs.size))
    have he₃:=Heap.get?_update_self (Obj.mapFields (·.setIfInBounds 1 (Value.ref h₁.objs.size))) he₂ (Obj.isFreed_of_fields hd₃)
    have hT₃:=(Heap.get?_update_other (h₁.push { cls:=.type "traceback",dict:=none,data:=.fields ([head,.ref L,.none,rawInt L,.none]++(if pl.isEmpty then List.replicate 6 Value.none else pl)).toArray })
      (Obj.mapFields (·.setIfInBounds 1 (Value.ref h₁.objs.size))) (Ne.symm hTe)).trans (Heap.get?_push_size h₁ rfl)
    refine ⟨_,_,he₃,(Obj.cls_mapFields _ _).trans hc,?_,hd₃,hle,by simpa using hsz,.inr ⟨h₁.objs.size,_,_,by simp [hsz],hTe,by rw [hs₁.1]; exact none_of (hlo _) (size_none _),hT₃,rfl,?_⟩⟩
    · obtain ⟨c,d,dt,sl⟩:=oe; simp only at hd hdi; subst hd; exact hdi
    · first | (simp; done) | (rcases hpl with rfl | ⟨_,_,_,_,_,_,_,rfl⟩ <;> simp)
theorem note_ok {Q:Unit→Shared→Prop} (hfr:A.frames=some (env :: outer)) (hl:s.heap.FunFrames base (env :: outer)) (hf:env.frame=some L) (hlo:∀ b,Live lo b→Live s.heap b) (x:ExcAt s.heap lo e cls .none)
    (h:∀ h',Noted (frameAddrs (env :: outer)) lo s.heap h'→ExcAt h' lo e cls (rawInt L)→Q () { s with heap:=h' }):wpAny M A (noteFrame (.ref e) env) Q E s:=by
  obtain ⟨oe,vs,he,hc,hdi,hd,hle,hsz,hh⟩:=x
  unfold noteFrame
  simp only [hf]
  rcases hh with h1 | ⟨T,oT,ts,h1,hTe,hlT,hT,hdT,h3⟩
  · refine wpAny_bind (wpAny_field he hd h1 ?_)
    refine wp_else (by decide) ?_
    exact entry_ok hfr hl hf hlo he hc hdi hd hle hsz h
  · refine wpAny_bind (wpAny_field he hd h1 ?_)
    refine wp_then (show (Value.ref T != Value.none)=true from by simp) ?_
    refine wpAny_bind (wpAny_field hT hdT h3 ?_)
    refine wp_else ((by simp [rawInt]):¬ ((Value.none==rawInt L)=true)) ?_
    refine wpAny_bind (wpAny_setField hT hdT (Array.getElem?_eq_some_iff.mp h3).1 ?_)
    have w:=noted_write (F:=frameAddrs (env :: outer)) (lo:=lo) hT hdT hlT (·.setIfInBounds 3 Value.none)
    exact entry_ok (s:={ s with heap:=_ }) hfr (w.frames hl) hf (fun b l=>w.live b (hlo b l)) ((Heap.get?_update_ne _ _ _ _ (Ne.symm hTe)).trans he) hc hdi hd hle hsz
      fun h' n x=>h h' (w.trans n) x
theorem flight_ok {Q:Unit→Shared→Prop} {F:List Addr} {fl:Value} (x:ExcAt s.heap lo e cls fl)
    (h:∀ h',Noted F lo s.heap h'→ExcAt h' lo e cls .none→Q () { s with heap:=h' }):wpAny M A (setFlight (.ref e) none) Q E s:=by
  refine gen_goal fun Z8 kZ8=>?_
  obtain ⟨oe,vs,he,hc,hdi,hd,hle,hsz,hh⟩:=x
  refine kZ8 ?_
  unfold setFlight
  rcases hh with h1 | ⟨T,oT,ts,h1,hTe,hlT,hT,hdT,h3⟩
  · refine wpAny_bind (wpAny_field he hd h1 ?_)
    refine wp_else (by decide) ?_
    exact wpAny_pure (h s.heap (.refl _ _ _) ⟨oe,vs,he,hc,hdi,hd,hle,hsz,.inl h1⟩)
  · refine wpAny_bind (wpAny_field he hd h1 ?_)
    refine wp_then (show (Value.ref T != Value.none)=true from by simp) ?_
    have hsz3:3 < ts.size:=(Array.getElem?_eq_some_iff.mp h3).1
    refine wpAny_setField hT hdT hsz3 (h _ (noted_write hT hdT hlT _) ?_)
    exact ⟨oe,vs,(Heap.get?_update_ne _ _ _ _ (Ne.symm hTe)).trans he,hc,hdi,hd,hle,hsz,.inr ⟨T,_,_,h1,hTe,hlT,Heap.get?_update_self _ hT (Obj.isFreed_of_fields (Obj.data_mapFields hdT _)),Obj.data_mapFields hdT _,by simp [hsz3]⟩⟩
theorem leaving_ok {Q:Unit→Shared→Prop} (hfr:A.frames=some (env :: outer)) (hl:s.heap.FunFrames base (env :: outer)) (hf:env.frame=some L) (hlo:∀ b,Live lo b→Live s.heap b) (x:ExcAt s.heap lo e cls .none)
    (h:∀ h',Noted (frameAddrs (env :: outer)) lo s.heap h'→ExcAt h' lo e cls .none→Q () { s with heap:=h' }):wpAny M A (leaving env (.ref e)) Q E s:=by
  unfold leaving
  exact wpAny_bind (note_ok hfr hl hf hlo x fun h₁ n₁ x₁=>flight_ok (s:={ s with heap:=h₁ }) x₁ fun h₂ n₂ x₂=>h h₂ (n₁.trans n₂) x₂)
end
section
variable {g:Gl} {A:Around} {s s₁:Shared} {h':Heap} {F:List Addr}
theorem FrOk.funs {h0 h:Heap}:∀ {l:List Env},FrOk h0 h l→h.FunFrames h0 l
  | [],_=>trivial
  | env :: l,f=>by
    obtain ⟨hk,L,o,hf,hn,ho,hc,hd⟩:=f env (.head _)
    exact ⟨hk,⟨L,o,hf,hn,ho,hd⟩,FrOk.funs fun e m=>f e (.tail _ m)⟩
theorem FrOk.frame {h0 h:Heap} {l:List Env} (f:FrOk h0 h l) {b:Addr} (m:b∈frameAddrs l):h0.get? b=none∧∃ o,h.get? b=some o∧o.cls=.type "frame":=by
  refine gen_goal fun Z11 kZ11=>?_
  obtain ⟨env,me,e⟩:=List.mem_filterMap.mp m
  obtain ⟨_,L,o,hf,hn,ho,hc,_⟩:=f env me
  refine kZ11 ?_
  obtain rfl:=Option.some.inj (hf.symm.trans e)
  exact ⟨hn,o,ho,hc⟩
theorem noted_at {l:List Env} {b:Addr} {o:Obj} (k:KeepAt s₁.heap b o) (lo:Live s.heap b) (f:FrOk g.h0 s₁.heap l) (n:Noted (frameAddrs l) s.heap s₁.heap h'):KeepAt h' b o:=k.step fun o₁ e₁=>by
  obtain ⟨⟨sl,e₂⟩,q⟩:=n.low b o₁ e₁ lo
  refine ⟨sl,e₂,fun nf=>?_⟩
  have:=q fun m=>by obtain ⟨_,o',e',c'⟩:=f.frame m; replace e':=e₁▸e'; (injection e' with e'; subst e'); exact nf c'
  rw [e₂] at this
  exact congrArg Obj.slots (Option.some.inj this)
theorem noted_keeps {l:List Env} (k:Keeps s.heap s₁.heap) (f:FrOk g.h0 s₁.heap l) (n:Noted (frameAddrs l) s.heap s₁.heap h'):Keeps s.heap h':=fun b o e=>noted_at (k b o e) ⟨o,e⟩ f n
theorem noted_base {l:List Env} (B₀:Base g s) (B:Base g s₁) (f:FrOk g.h0 s₁.heap l) (n:Noted (frameAddrs l) s.heap s₁.heap h'):Base g { s₁ with heap:=h' }:=
  ⟨fun b o e=>(n.low b o (B.stays b o e) ⟨o,B₀.stays b o e⟩).2 (fun m=>by have:=(f.frame m).1; replace this:=e▸this; (injection this; done)),B.os,B.gens⟩
end
end Mine
end
noncomputable section
namespace Mine
open PySem PySem.Calls PyProof.Rows PySem.W
section
variable {fx:Fx} {Φ:Ct} {s s₁:Shared}
structure FxTop (fx:Fx):Prop where
  top:∃ outer L,fx.A.frames=some (fx.env :: outer)∧fx.env.frame=some L
theorem exc_of {y:V} {c:Nat} (h:y=excV c):excO y=some c:=by subst h; rfl
theorem noX_none {y:V} (h:noX y=true):excO y=none:=Option.isNone_iff_eq_none.mp h
theorem local_at {n:Str} {k:Nat} (ok:FxOk fx) (hn:fx.ρ.lookup n=some k) (hnl:fx.env.kindOf n=some .local):fx.pl k=.ns fx.env.locals n:=by
  rcases ok.vis n k hn with ⟨_,hp⟩ | ⟨q,_⟩
  · exact hp
  · rcases q with q | q <;> rw [hnl] at q <;> cases q
theorem try_tail [Hm Φ.fx] {n:Str} {hpos:Pos} {k:Nat} {A:Around} {v:Value} {x:V} {G':Gs} {oa':Nat→Option Addr} {Q:Unit→Shared→Prop} {E:Value→Shared→Prop} {K:Option V→Gs→Prop} (ok:FxOk Φ.fx) (hn:Φ.fx.ρ.lookup n=some k) (hnl:Φ.fx.env.kindOf n=some .local)
    (hns:∃ m,s₁.heap.Ns Φ.fx.env.locals m) (h0:Φ.fx.g.h0.get? Φ.fx.env.locals=none) (B:Base Φ.fx.g s₁) (t:Tr Φ s (Φ.wi oa' G') s₁) (nx:noX x=true) (rp:(Φ.wi oa' G').rp s₁.heap v x) (nv:Φ.fx.nw=true→NewV s.heap v) (hk:K (some x) (G'.set k .unset)) (hu:isI (getSlot (G'.set k .unset) k)→False)
    (hQ:∀ s',PostS Φ s K (.ret v) s'→Q () s'):wpAny (model Φ.fx.g.prog Φ.fx.g.w) A (do bindName Φ.fx.env n .none; unbindBehindTheSuite Φ.fx.env n hpos) Q E s₁:=by
  obtain ⟨m,hm⟩:=hns
  have hp:=local_at ok hn hnl
  refine wpAny_nameGoes hnl hm (by rw [ok.kind]; rfl) fun h₇ m₇ hn₇ hs₇=>hQ _ ?_
  have hown:(Φ.wi oa' G').own Φ.fx.env.locals:=.inl ⟨k,by refine (?_:(Φ.fx.pl k).addr=_); rw [hp]; rfl⟩
  have hown':Φ.own Φ.fx.env.locals:=.inl ⟨k,by rw [hp]; rfl⟩
  have kp:∀ b o,b≠Φ.fx.env.locals→s₁.heap.get? b=some o→h₇.get? b=some o:=fun b o q e=>hs₇.extBut b o q e
  refine ⟨oa',G'.set k .unset,some x,fun q=>q.elim nofun fun q=>(nomatch (Hm.no (fx:=Φ.fx)).symm.trans q),⟨fun b o e=>kp b o (fun q=>no_some h0 (q▸e)) (B.stays b o e),B.os,B.gens⟩,⟨rfl,fun b o e nb=>(t.keep b o e nb).step fun o' e'=>.of (kp b o' (fun q=>nb (q▸hown')) e'),fun b l=>?_,t.grow,fun j a e q=>?_⟩,⟨nx,v,rfl,rp.map fun b o e _ nb=>⟨nb,kp b o (fun q=>nb (.inr (q▸hown))) e⟩,nv⟩,hk⟩
  · obtain ⟨o,e⟩:=t.live b l
    by_cases q:b=Φ.fx.env.locals
    · subst q; obtain ⟨o',_,_,e',_⟩:=hn₇; exact ⟨o',e'⟩
    · exact ⟨o,kp b o q e⟩
  · by_cases z:j=k
    · subst z; exact (hu q).elim
    · have q:isI (getSlot (G'.set k .unset) j):=q
      rw [getSlot_ne z] at q
      exact t.inst j a e q
theorem Inv.mark {oa:Nat→Option Addr} {G:Gs} (I:Inv ⟨fx,oa,G⟩ s) (e:Value):Inv ⟨{ fx with A:=fx.A.mark (some e),hm:=true },oa,G⟩ s:=
  ⟨⟨I.ok.gr,nofun,I.ok.kind,I.ok.globals,I.ok.builtins,I.ok.vis,I.ok.inj,I.ok.apart,I.ok.offs,I.ok.nfs,I.ok.room,I.ok.units,I.ok.call⟩,I.base,I.slot,I.new,I.inj,I.off,I.gl,I.mo,I.fr⟩
theorem Tr.unmark {A:Around} {oa oa':Nat→Option Addr} {G G':Gs} (t:Tr ⟨{ fx with A:=A,hm:=true },oa,G⟩ s ⟨{ fx with A:=A,hm:=true },oa',G'⟩ s₁):Tr ⟨fx,oa,G⟩ s ⟨fx,oa',G'⟩ s₁:=⟨rfl,t.keep,t.live,t.grow,t.inst⟩
theorem ex_tryC [Hm fx] {fnm C n:Str} {f c k:Nat} {fp cpos rpos np hpos pos:Pos} {qs:Gs→List (Expr×DV)} {es:List Expr} {hbody:List Stmt} {X:B} (top:FxTop fx) (hes:∀ G,(qs G).map Prod.fst=es) (hx:glob fx.env.scope.names fnm=true) (hf:fx.g.fns.lookup fnm=some f) (hfn:keepIn fx.g.K (.ref (fx.g.fn f))=true) (hnw:fx.nw=true→fx.g.newf f=true)
    (hC:glob fx.env.scope.names C=true) (hCl:fx.g.clss.lookup C=some c) (hn:fx.ρ.lookup n=some k) (hnl:fx.env.kindOf n=some .local) (hne:hbody≠[])
    (hq:∀ oa G,∀ q∈qs G,plainE q.1=true∧Good1 ⟨fx,oa,G⟩ q) (hh:∀ A,A.frames=fx.A.frames→A.depth=fx.A.depth→A.units=fx.A.units→ExB { fx with A:=A,hm:=true } (execs hbody fx.env) X) :
    ExB fx (exec (.Try [.Return (some (.Call (.Name fnm fp) es [] cpos)) rpos] [.ExceptHandler (some (.Name C np)) (some n) hbody hpos] [] [] pos) fx.env) (fun G K=>manyV ((qs G).map Prod.snd) fun xs=>callN fx.g.P fx.d f xs fun y=>match excO y with
      | none=>K (some y) G
      | some d=>fx.g.P.sup d c=true∧X (G.set k (.v y)) fun fl G'=>(match fl with | some x=>noX x=true | none=>False)∧K fl (G'.set k .unset)):=fun oa G K s hd I=>by
  obtain ⟨outer,L,hfr,hL⟩:=top.top
  cases hbody with
  | nil=>exact absurd rfl hne
  | cons b₀ hbody'=>
  refine wpAny_Try_except (wpAny_execs_cons ?_)
  rw [exec_Return_some,← hes G]
  refine wpAny_bind (wpAny_standAt (wpAny_bind (call_st (Φ:=⟨fx,oa,G⟩) hx hf hfn (fun q=>nomatch (Hm.no (fx:=fx)).symm.trans q) (hq oa G) hd I (fun v s' y I' k hy nx r nv=>wpAny_pure ?_) fun s₁ d e I₁ k₁ hd₁ hy xa=>?_)))
  · rw [noX_none nx] at hy
    exact ⟨oa,G,some y,fun _=>I',I'.base,.of_keeps k,⟨nx,v,rfl,r,fun q=>nv (hnw q)⟩,hy⟩
  have hy:fx.g.P.sup d c=true∧X (G.set k (.v (excV d))) fun fl G'=>(match fl with | some x=>noX x=true | none=>False)∧K fl (G'.set k .unset):=hy
  have fr:=I₁.fr.of hfr
  have hlo:∀ {h:Heap},Keeps s.heap h→∀ b,Live s.heap b→Live h b:=fun q b l=>q.live l
  refine note_ok (lo:=s.heap) hfr fr.funs hL (hlo k₁) xa fun h₂ n₂ x₂=>?_
  have k₂:=noted_keeps k₁ fr n₂
  have B₂:=noted_base I.base I₁.base fr n₂
  have I₂:Inv ⟨fx,oa,G⟩ { s₁ with heap:=h₂ }:=I.keep B₂ k₂
  refine flight_ok (s:={ s₁ with heap:=h₂ }) (F:=frameAddrs (fx.env :: outer)) x₂ fun h₃ n₃ x₃=>?_
  have fr₂:=I₂.fr.of hfr
  have k₃:=noted_keeps (s:=s) (s₁:={ s₁ with heap:=h₂ }) k₂ fr₂ n₃
  have B₃:=noted_base (s₁:={ s₁ with heap:=h₂ }) I.base B₂ fr₂ n₃
  have I₃:Inv ⟨fx,oa,G⟩ { s₁ with heap:=h₃ }:=I.keep B₃ k₃
  clear n₂ x₂ k₂ B₂ fr₂ n₃ I₂
  refine wpAny_handleBy_cons (codeAny_handlers_test ?_) nofun
  have hcl':=I.ok.gr.clss C c hCl
  refine name_main (Φ:=⟨{ fx with A:=fx.A.mark (some (.ref e)),hm:=true },oa,G⟩) (I₃.mark _) hC hcl'.2 ?_ _
  refine x₃.el fun oe vs he hcl _ _ _=>I.ok.gr.catches d c hd₁ hcl'.1 hy.1 _ _ _ _ e oe B₃.stays he hcl ?_
  clear he hcl
  refine (?_:codeAny _ _ _ _ _)
  refine codeAny_handlers_suite_as (flight_ok (s:={ s₁ with heap:=h₃ }) (F:=frameAddrs (fx.env :: outer)) x₃ fun h₄ n₄ x₄=>?_)
  have fr₃:=I₃.fr.of hfr
  have k₄:=noted_keeps (s:=s) (s₁:={ s₁ with heap:=h₃ }) k₃ fr₃ n₄
  have B₄:=noted_base (s₁:={ s₁ with heap:=h₃ }) I.base B₃ fr₃ n₄
  have I₄:Inv ⟨fx,oa,G⟩ { s₁ with heap:=h₄ }:=I.keep B₄ k₄
  have Ih:=I₄.mark (.ref e)
  clear n₄ x₃ k₃ B₃ I₃ fr₃
  refine store_ok (Φ:=⟨{ fx with A:=fx.A.mark (some (.ref e)),hm:=true },oa,G⟩) Ih hn (fun q=>nomatch (show fx.env.kindOf n=some .free from q).symm.trans hnl) (fun h₅ tk ps=>?_) _
  obtain ⟨I₅,t₅⟩:=x₄.el fun oe vs he hcl hdi hdat hnew=>put_val (tk:=tk) Ih ps (.exc hd₁ (fun q=>(I.badLive (Φ:=⟨fx,oa,G⟩) q).elim fun o e=>no_some hnew e) he ⟨hcl,hdi⟩ hdat)
  refine wpAny_mono (hh (fx.A.mark (some (.ref e))) rfl rfl rfl _ _ _ _ hy.2 I₅) (fun fl s₆ p=>?_) fun v s₆ p=>?_
  · refine gen_goal fun Z kZ=>?_
    obtain ⟨oa₆,G₆,fl,I₆,B₆,t₆,hf₆,hk⟩:=p
    cases fl with
    | none=>exact hk.1.elim
    | some x=>
      obtain ⟨nx,v,ef,rv,nv⟩:=hf₆
      refine kZ ?_
      subst ef
      have I₆:=I₆ (.inr rfl)
      have tt:Tr ⟨fx,oa,G⟩ s ⟨fx,oa₆,G₆⟩ s₆:=(Tr.of_keeps k₄).trans ((Tr.unmark (oa':=fun j=>if j=k then none else oa j) (G':=G.set k (.v (excV d))) t₅).trans (Tr.unmark t₆))
      have hns:∃ m,s₆.heap.Ns fx.env.locals m:=by
        obtain ⟨u,pr,_⟩:=I₆.slot k
        exact ((local_at I.ok hn hnl▸pr:PlRead s₆.heap (.ns fx.env.locals n) u)).imp fun _ z=>z.1
      have hloc:(Ct.mk fx oa G).own fx.env.locals:=.inl ⟨k,by refine (?_:(fx.pl k).addr=_); rw [local_at I.ok hn hnl]; rfl⟩
      refine try_tail (Φ:=⟨fx,oa,G⟩) (K:=K) (oa':=oa₆) (G':=G₆) I.ok hn hnl hns (I.new _ hloc).2.1 B₆ tt nx rv (fun q=>(nv q).le fun b l=>t₅.live b (k₄.live l)) hk.2 (fun q=>?_) fun s' p=>p
      rw [getSlot_self (show k < G₆.length by rw [I₆.gl]; exact Nat.lt_of_lt_of_le (Nat.lt_of_not_le fun z=>by have:=local_at I.ok hn hnl; rw [I.ok.offs k z] at this; (injection this; done)) I.ok.nfs)] at q
      exact q
  · obtain ⟨_,_,_,_,_,_,_,_,_,hk⟩:=p
    exact nomatch hk.1
end
end Mine
end
noncomputable section
namespace Mine
open PySem PySem.Calls PyProof.Rows PySem.W
theorem excO_some {x:V} {c:Nat} (e:excO x=some c):∃ i:Int,x=.dict [(.int i,.none)]∧i.toNat=c:=by
  revert e
  cases x with
  | dict kvs=>cases kvs with
    | nil=>exact fun e=>nomatch e
    | cons p r=>
      obtain ⟨a,b⟩:=p
      cases a with
      | int i=>cases b with
        | none=>cases r with
          | nil=>exact fun e=>⟨i,rfl,Option.some.inj e⟩
          | cons=>exact fun e=>nomatch e
        | _=>exact fun e=>nomatch e
      | _=>exact fun e=>nomatch e
  | _=>exact fun e=>nomatch e
theorem is_self {prog:Program} {w:World} {A:Around} {E:Value→Shared→Prop} {s:Shared} {x D:Addr} {ox:Obj} {od:Option Obj} {Q:Value→Shared→Prop} (I:InstAt s.heap x ox D od) (h:Q (.bool true) s):wpAny (model prog w) A (call (.builtin "isinstance") [.ref x,.ref D]) Q E s:=by
  refine call_isinstance (S:=fun _ R s=>InstAt s.heap x ox D od∧R (.ok (.ret (.bool true))) s) (fun prog w A R s hs=>isinstance_outer ?_ (by intro q; (injection q; done))) ⟨I,h⟩
  obtain ⟨I,h⟩:=hs
  obtain ⟨h0,g,d,tt,os⟩:=s
  have L0:=I.type (M:=model prog w)
  unfold Builtin.«isinstance.nested»
  refine wpAny_bind (L0.at ?_)
  rw [if_pos (beq_self_eq_true _)]
  refine wpAny_bind (wpAny_rule ?_)
  first
    | exact wpAny_pure h
    | exact wpAny_pure (wpAny_pure h)
    | (refine wpAny_bind ?_; exact wpAny_pure (wpAny_pure h))
section
variable {Φ:Ct} {s:Shared} {v u:Value} {x y z:V} {d:DV}
theorem ev_isExc {c:Nat} {tb:List Bool} {C:Str} {fp pos pT:Pos} {q:Expr×DV} (hx:glob Φ.fx.env.scope.names "isinstance"=true) (hy:glob Φ.fx.env.scope.names C=true) (hp:plainE q.1=true) (hC:Φ.fx.g.clss.lookup C=some c∨(C="ValueError"∧c=Φ.fx.g.nc)) (ht:∀ e,e < Φ.fx.g.nc→tb[e]?=some (Φ.fx.g.P.sup e c)) (h:Good1 Φ q) :
    Ev Φ (eval (.Call (.Name "isinstance" fp) [q.1,.Name C pT] [] pos) Φ.fx.env) (fun K=>q.2 fun x=>okK ((excO x).bind fun e=>tb[e]?) fun b=>K (.bool b)):=fun K s hd I E=>by
  refine (?_:wpAny _ _ (eval (.Name "isinstance" fp) Φ.fx.env >>= fun F=>callWith pos F [] (backTo pos (starEach [q.1,.Name C pT] Φ.fx.env)) []) _ _ s)
  refine wpAny_bind (name_blt (v:=.builtin "isinstance") I hx rfl ?_ E)
  rw [star_plain hp]
  refine callWith_builtin rfl (Calls.evalArgs_plain ?_)
  have q':spliced (backTo pos ((false,eval q.1 Φ.fx.env) :: starEach [.Name C pT] Φ.fx.env))=(eval q.1 Φ.fx.env >>= fun v=>holding [v] (eval (.Name C pT) Φ.fx.env >>= fun u=>holding [u] (pure []) >>= fun vs=>pure (u :: vs)) >>= fun vs=>pure (v :: vs)):=rfl
  refine (?_:wpAny _ _ (spliced (backTo pos ((false,eval q.1 Φ.fx.env) :: starEach [.Name C pT] Φ.fx.env))) _ _ _)
  rw [q']
  refine wpAny_bind (wpAny_mono (h _ s hd I E) (fun v s₁ ⟨B,k,x,hx,r⟩=>?_) fun _ _ z=>z)
  have I₁:=I.keep B k
  have hcn:c≤Φ.fx.g.nc:=hC.elim (fun e=>Nat.le_of_lt (I.ok.gr.clss C c e).1) fun e=>Nat.le_of_eq e.2
  have nameC:∀ Q:Value→Shared→Prop,Q (clsVal Φ.fx.g c) s₁→wpAny (model Φ.fx.g.prog Φ.fx.g.w) Φ.fx.A (eval (.Name C pT) Φ.fx.env) Q E s₁:=fun Q hQ=>by
    rcases hC with e | ⟨rfl,e⟩
    · obtain ⟨hlt,hm⟩:=I.ok.gr.clss C c e
      unfold clsVal at hQ
      rw [if_neg (Nat.ne_of_lt hlt)] at hQ
      exact name_main I₁ hy hm hQ E
    · unfold clsVal at hQ
      rw [if_pos e] at hQ
      exact name_blt I₁ hy rfl hQ E
  refine wpAny_bind (wpAny_holding (wpAny_bind (nameC _ ?_)))
  refine wpAny_bind (wpAny_holding (wpAny_pure (wpAny_pure (wpAny_pure ?_))))
  refine okK_elim hx fun b e kb=>?_
  obtain ⟨c',e',eb⟩:=Option.bind_eq_some_iff.mp e
  obtain ⟨i,rfl,rfl⟩:=excO_some e'
  cases r with
  | inst _ _ _ _ _ _ q=>(injection q; done)
  | exc hn nb ha hc hd=>
    have eb:=(ht _ hn).symm.trans eb
    (injection eb with eb; subst eb)
    exact I.ok.gr.isi _ c hn hcn _ _ _ s₁ _ _ I₁.base.stays ha hc.1 hc.2 ⟨_,hd⟩ fun n=>⟨I₁.base.grown (.toks _ _),k,_,kb,.bool _⟩
theorem ev_isCls {C:Str} {f:Nat} {fp pos pT:Pos} {q:Expr×DV} (hx:glob Φ.fx.env.scope.names "isinstance"=true) (hy:glob Φ.fx.env.scope.names C=true) (hp:plainE q.1=true) (hC:Φ.fx.g.fns.lookup C=some f) (hf:Φ.fx.g.fn f=Φ.fx.g.C) (h:Good1 Φ q) :
    Ev Φ (eval (.Call (.Name "isinstance" fp) [q.1,.Name C pT] [] pos) Φ.fx.env) (fun K=>q.2 fun x=>isInst x=true∧K (.bool true)):=fun K s hd I E=>by
  refine (?_:wpAny _ _ (eval (.Name "isinstance" fp) Φ.fx.env >>= fun F=>callWith pos F [] (backTo pos (starEach [q.1,.Name C pT] Φ.fx.env)) []) _ _ s)
  refine wpAny_bind (name_blt (v:=.builtin "isinstance") I hx rfl ?_ E)
  rw [star_plain hp]
  refine callWith_builtin rfl (Calls.evalArgs_plain ?_)
  have q':spliced (backTo pos ((false,eval q.1 Φ.fx.env) :: starEach [.Name C pT] Φ.fx.env))=(eval q.1 Φ.fx.env >>= fun v=>holding [v] (eval (.Name C pT) Φ.fx.env >>= fun u=>holding [u] (pure []) >>= fun vs=>pure (u :: vs)) >>= fun vs=>pure (v :: vs)):=rfl
  refine (?_:wpAny _ _ (spliced (backTo pos ((false,eval q.1 Φ.fx.env) :: starEach [.Name C pT] Φ.fx.env))) _ _ _)
  rw [q']
  refine wpAny_bind (wpAny_mono (h _ s hd I E) (fun v s₁ ⟨B,k,x,hx,r⟩=>?_) fun _ _ z=>z)
  have I₁:=I.keep B k
  refine wpAny_bind (wpAny_holding (wpAny_bind (name_main I₁ hy (I.ok.gr.fns C f hC) ?_ E)))
  refine wpAny_bind (wpAny_holding (wpAny_pure (wpAny_pure (wpAny_pure ?_))))
  rw [hf]
  cases x with
  | dict kvs=>
    refine Rp.inst_elim (C:=fun v=>wpAny _ _ (call (.builtin "isinstance") [v,.ref Φ.fx.g.C]) _ E s₁) r hx.1 fun a dd o ws nb nb' ha hdd hfl _ hl=>?_
    exact is_self (od:=some o) ⟨ha,rfl,rfl,hdd⟩ ⟨B,k,_,hx.2,.bool _⟩
  | _=>(injection hx.1; done)
end
end Mine
end
noncomputable section
namespace Mine
open PySem PySem.SetTable
theorem genG {G:Prop} (h:∀ P:Prop,(G→P)→P):G:=h G id
noncomputable def Rise (xs:Array Nat):Prop:=∀ i j a b:Nat,i < j→xs[i]?=some a→xs[j]?=some b→a < b
theorem below_go {xs:Array Nat} {j:Nat} (r:Rise xs):∀ fuel lo hi,lo≤hi→hi≤xs.size→hi≤lo+fuel→(∀ i a:Nat,i < lo→xs[i]?=some a→a < j)→(∀ i a:Nat,hi≤i→xs[i]?=some a→j≤a) →
    below.go xs j fuel lo hi≤xs.size∧(∀ i a:Nat,i < below.go xs j fuel lo hi→xs[i]?=some a→a < j)∧∀ i a:Nat,below.go xs j fuel lo hi≤i→xs[i]?=some a→j≤a
  | 0,lo,hi,h1,h2,h3,h4,h5=>⟨Nat.le_trans h1 h2,h4,fun i a q=>h5 i a (Nat.le_trans h3 q)⟩
  | fuel+1,lo,hi,h1,h2,h3,h4,h5=>by
    rw [show below.go xs j (fuel+1) lo hi=if lo < hi then (if xs.getD ((lo+hi) / 2) j < j then below.go xs j fuel ((lo+hi) / 2+1) hi else below.go xs j fuel lo ((lo+hi) / 2)) else lo from rfl]
    by_cases h:lo < hi
    · rw [if_pos h]
      have hm:(lo+hi) / 2 < xs.size:=by lia
      have e:xs[(lo+hi) / 2]?=some (xs.getD ((lo+hi) / 2) j):=by simp [hm]
      by_cases c:xs.getD ((lo+hi) / 2) j < j
      · rw [if_pos c]
        refine below_go r fuel _ hi (by lia) h2 (by lia) (fun i a q ea=>?_) h5
        by_cases q':i=(lo+hi) / 2
        · subst q'; rw [e] at ea; (injection ea with ea; subst ea); exact c
        · exact Nat.lt_trans (r _ _ _ _ (by lia) ea e) c
      · rw [if_neg c]
        refine below_go r fuel lo _ (by lia) (by lia) (by lia) h4 fun i a q ea=>?_
        by_cases q':i=(lo+hi) / 2
        · subst q'; rw [e] at ea; (injection ea with ea; subst ea); exact Nat.le_of_not_lt c
        · exact Nat.le_of_lt (Nat.lt_of_le_of_lt (Nat.le_of_not_lt c) (r _ _ _ _ (by lia) e ea))
    · rw [if_neg h]
      exact ⟨Nat.le_trans h1 h2,h4,fun i a q=>h5 i a (by lia)⟩
theorem below_ok {xs:Array Nat} (r:Rise xs) (j:Nat):below xs j≤xs.size∧(∀ i a:Nat,i < below xs j→xs[i]?=some a→a < j)∧∀ i a:Nat,below xs j≤i→xs[i]?=some a→j≤a:=
  below_go r _ _ _ (Nat.zero_le _) (Nat.le_refl _) (by lia) (fun _ _ q=>absurd q (Nat.not_lt_zero _)) fun i a q e=>by rw [Array.getElem?_eq_none q] at e; (injection e; done)
theorem below_at {xs:Array Nat} (r:Rise xs) {i j:Nat} (e:xs[i]?=some j):below xs j=i:=by
  obtain ⟨_,h1,h2⟩:=below_ok r j
  rcases Nat.lt_trichotomy i (below xs j) with q | q | q
  · exact absurd (h1 _ _ q e) (Nat.lt_irrefl _)
  · exact q.symm
  · have hb:below xs j < xs.size:=by
      have:i < xs.size:=by rcases Nat.lt_or_ge i xs.size with q | q; exact q; rw [Array.getElem?_eq_none q] at e; (injection e; done)
      lia
    have e':xs[below xs j]?=some xs[below xs j]:=by simp
    have a1:=h2 _ _ (Nat.le_refl _) e'
    have a2:=r _ _ _ _ q e' e
    lia
theorem rise_inj {xs:Array Nat} (r:Rise xs) {i k j:Nat} (e:xs[i]?=some j) (e':xs[k]?=some j):i=k:=(below_at r e).symm.trans (below_at r e')
theorem has_gap {xs:Array Nat} (r:Rise xs):∃ e,e≤xs.size∧∀ i:Nat,xs[i]?≠some e:=by
  refine Classical.byContradiction fun c=>?_
  have all:∀ e,e≤xs.size→∃ i:Nat,xs[i]?=some e:=fun e h=>Classical.byContradiction fun q=>c ⟨e,h,fun i z=>q ⟨i,z⟩⟩
  have up:∀ e,e≤xs.size→∀ i:Nat,xs[i]?=some e→e≤i:=fun e=>by
    induction e with
    | zero=>exact fun _ _ _=>Nat.zero_le _
    | succ e ih=>
      intro h i z
      obtain ⟨k,hk⟩:=all e (by lia)
      have:=ih (by lia) k hk
      rcases Nat.lt_trichotomy i k with q | q | q
      · have:=r _ _ _ _ q z hk; lia
      · subst q; rw [z] at hk; cases hk
      · lia
  obtain ⟨i,hi⟩:=all _ (Nat.le_refl _)
  have:=up _ (Nat.le_refl _) i hi
  rw [Array.getElem?_eq_none this] at hi; (injection hi; done)
theorem insertAt_list {α:Type} {xs:Array α} {p:Nat} {x:α}:(insertAt xs p x).toList=xs.toList.take p++x :: xs.toList.drop p:=by
  unfold insertAt
  rw [Array.toList_append,Array.toList_push,Array.toList_extract,Array.toList_extract,List.append_assoc,List.extract_eq_take_drop,List.extract_eq_take_drop,List.drop_zero,Nat.sub_zero,List.take_of_length_le (i:=xs.size - p) (by rw [List.length_drop,Array.length_toList]; exact Nat.le_refl _)]; rfl
theorem insertAt_get {α:Type} {xs:Array α} {p:Nat} {x:α} (h:p≤xs.size) (i:Nat):(insertAt xs p x)[i]?=if i < p then xs[i]? else if i=p then some x else xs[i - 1]?:=by
  have lp:(xs.toList.take p).length=p:=by rw [List.length_take,Array.length_toList]; exact Nat.min_eq_left h
  rw [← Array.getElem?_toList,insertAt_list]
  rcases Nat.lt_trichotomy i p with hi | rfl | hi
  · rw [if_pos hi,List.getElem?_append_left (Nat.lt_of_lt_of_eq hi lp.symm),List.getElem?_take_of_lt hi,Array.getElem?_toList]
  · rw [if_neg (Nat.lt_irrefl _),if_pos rfl,List.getElem?_append_right (Nat.le_of_eq lp),lp,Nat.sub_self]; rfl
  · rw [if_neg (Nat.lt_asymm hi),if_neg (Nat.ne_of_gt hi),List.getElem?_append_right (Nat.le_trans (Nat.le_of_eq lp) (Nat.le_of_lt hi)),lp]
    obtain ⟨k,rfl⟩:=Nat.exists_eq_add_of_lt hi
    rw [Nat.add_assoc,Nat.add_sub_cancel_left,List.getElem?_cons_succ,List.getElem?_drop,Array.getElem?_toList]; rfl
theorem insertAt_size {α:Type} {xs:Array α} {p:Nat} {x:α} (h:p≤xs.size):(insertAt xs p x).size=xs.size+1:=by
  rw [← Array.length_toList,insertAt_list,List.length_append,List.length_take,Array.length_toList,Nat.min_eq_left h,List.length_cons,List.length_drop,Array.length_toList,← Nat.add_assoc,Nat.add_sub_cancel' h]
theorem insertAt_cases {α:Type} {xs:Array α} {p:Nat} {x y:α} {i:Nat} (h:p≤xs.size) (e:(insertAt xs p x)[i]?=some y):(i=p∧x=y)∨(i≠p∧xs[if i < p then i else i - 1]?=some y):=by
  rw [insertAt_get h] at e
  by_cases h1:i < p
  · rw [if_pos h1] at e; exact .inr ⟨by lia,by rw [if_pos h1]; exact e⟩
  · rw [if_neg h1] at e
    by_cases h2:i=p
    · rw [if_pos h2] at e; (injection e with e; subst e); exact .inl ⟨h2,rfl⟩
    · rw [if_neg h2] at e; exact .inr ⟨h2,by rw [if_neg h1]; exact e⟩
theorem insertAt_old {α:Type} {xs:Array α} {p:Nat} {x y:α} {i:Nat} (h:p≤xs.size) (e:xs[i]?=some y):(insertAt xs p x)[if i < p then i else i+1]?=some y:=by
  rw [insertAt_get h]
  by_cases h1:i < p
  · rw [if_pos h1,if_pos h1]; exact e
  · rw [if_neg h1,if_neg (by lia),if_neg (by lia)]; exact e
theorem rise_insert {xs:Array Nat} (r:Rise xs) {j:Nat} (h:∀ i:Nat,xs[i]?≠some j):Rise (insertAt xs (below xs j) j):=fun i k a b hik ea eb=>by
  obtain ⟨hp,h1,h2⟩:=below_ok r j
  have le:∀ i a:Nat,below xs j≤i→xs[i]?=some a→j < a:=fun i a q e=>Nat.lt_of_le_of_ne (h2 i a q e) fun z=>h i (z▸e)
  rcases insertAt_cases hp ea with ⟨rfl,rfl⟩ | ⟨q1,z1⟩ <;> rcases insertAt_cases hp eb with ⟨rfl,rfl⟩ | ⟨q2,z2⟩
  · lia
  · rw [if_neg (by lia)] at z2; exact le _ _ (by lia) z2
  · rw [if_pos hik] at z1; exact h1 _ _ hik z1
  · refine r _ _ _ _ ?_ z1 z2
    by_cases c1:i < below xs j
    · rw [if_pos c1]
      by_cases c2:k < below xs j
      · rw [if_pos c2]; exact hik
      · rw [if_neg c2]; exact Nat.lt_of_lt_of_le c1 (Nat.le_sub_one_of_lt (Nat.lt_of_le_of_ne (Nat.le_of_not_lt c2) (Ne.symm q2)))
    · have c2:¬ k < below xs j:=fun q=>c1 (Nat.lt_trans hik q)
      rw [if_neg c1,if_neg c2]
      exact Nat.sub_lt_sub_right (Nat.succ_le_of_lt (Nat.lt_of_le_of_lt (Nat.zero_le _) (Nat.lt_of_le_of_ne (Nat.le_of_not_lt c1) (Ne.symm q1)))) hik
theorem slot_is {t:SetTable} (hd:t.dummies=#[]) (r:Rise t.place) (j:Nat):(∃ i:Nat,t.place[i]?=some j∧t.slot j=.live i)∨(∀ i:Nat,t.place[i]?≠some j)∧t.slot j=.empty:=by
  unfold slot
  by_cases h:∃ i:Nat,t.place[i]?=some j
  · obtain ⟨i,e⟩:=h
    refine .inl ⟨i,e,?_⟩
    simp only [below_at r e,e,beq_self_eq_true,if_true]
  · have h:∀ i:Nat,t.place[i]?≠some j:=fun i e=>h ⟨i,e⟩
    refine .inr ⟨h,?_⟩
    have:(t.place[below t.place j]?==some j)=false:=by simpa using h _
    simp only [this,hd,has,Bool.false_eq_true,if_false]
    simp
end Mine
end
noncomputable section
namespace Mine
open PySem PySem.SetTable
noncomputable def adv (m:Nat) (p:Probe):Probe:=
  if p.more > 0 then { p with j:=p.j+1,more:=p.more - 1 } else
  { p with j:=(leap m p.i p.perturb).1,more:=runEnd m (leap m p.i p.perturb).1 - (leap m p.i p.perturb).1,i:=(leap m p.i p.perturb).1,perturb:=(leap m p.i p.perturb).2 }
theorem advance_eq (t:SetTable) (p:Probe):t.advance p=adv t.mask p:=rfl
noncomputable def it (m:Nat):Nat→Probe→Probe
  | 0,p=>p
  | n+1,p=>it m n (adv m p)
theorem it_add (m:Nat):∀ a b p,it m (a+b) p=it m b (it m a p)
  | 0,b,p=>by rw [Nat.zero_add]; rfl
  | a+1,b,p=>by rw [Nat.succ_add]; exact it_add m a b (adv m p)
noncomputable def beg (m i pt:Nat):Probe:={ j:=i,more:=runEnd m i - i,i:=i,perturb:=pt,dummy:=none }
theorem start_eq (t:SetTable) (h:Int):t.probeStart h=beg t.mask (bits h % (t.mask+1)) (bits h):=rfl
noncomputable def lp (m:Nat) (q:Nat×Nat):Nat×Nat:=leap m q.1 q.2
theorem it_run (m:Nat):∀ k p,p.more=k→p.dummy=none→it m (k+1) p=beg m (lp m (p.i,p.perturb)).1 (lp m (p.i,p.perturb)).2
  | 0,p,h,hd=>by
    refine (?_:adv m p=_)
    unfold adv; rw [if_neg (by rw [h]; exact Nat.lt_irrefl _),hd]; rfl
  | k+1,p,h,hd=>by
    have e:adv m p={ p with j:=p.j+1,more:=p.more - 1 }:=if_pos (by rw [h]; exact Nat.succ_pos _)
    refine (?_:it m (k+1) (adv m p)=_)
    rw [it_run m k (adv m p) (by rw [e]; refine (?_:p.more - 1=k); rw [h]; rfl) (by rw [e]; exact hd),e]
theorem more_le (m i:Nat):runEnd m i - i≤9:=by unfold runEnd; split <;> lia
noncomputable def lps (m:Nat):Nat→Nat×Nat→Nat×Nat
  | 0,q=>q
  | r+1,q=>lps m r (lp m q)
theorem it_runs (m:Nat):∀ r p,p.more≤9→p.dummy=none→∃ N,N≤10 * (r+1)∧it m N p=beg m (lps m (r+1) (p.i,p.perturb)).1 (lps m (r+1) (p.i,p.perturb)).2
  | 0,p,h,hd=>⟨p.more+1,Nat.succ_le_succ h,it_run m _ p rfl hd⟩
  | r+1,p,h,hd=>by
    obtain ⟨N,h1,h2⟩:=it_runs m r (beg m (lp m (p.i,p.perturb)).1 (lp m (p.i,p.perturb)).2) (more_le _ _) rfl
    refine ⟨p.more+1+N,by lia,?_⟩
    rw [it_add,it_run m _ p rfl hd]; exact h2
theorem lps_add (m:Nat):∀ a b q,lps m (a+b) q=lps m b (lps m a q)
  | 0,b,q=>by rw [Nat.zero_add]; rfl
  | a+1,b,q=>by rw [Nat.succ_add]; exact lps_add m a b (lp m q)
theorem lps_snd (m:Nat):∀ r q,(lps m r q).2=q.2 / 32 ^ r
  | 0,q=>(Nat.div_one _).symm
  | r+1,q=>(lps_snd m r (lp m q)).trans (by refine (?_:q.2 / 32 / 32 ^ r=_); rw [Nat.div_div_eq_div_mul,Nat.pow_succ,Nat.mul_comm])
theorem lps_fst (m:Nat):∀ r q,q.1≤m→(lps m r q).1≤m
  | 0,q,h=>h
  | r+1,q,_=>lps_fst m r (lp m q) (Nat.le_of_lt_succ (Nat.mod_lt _ (Nat.succ_pos _)))
noncomputable def orb (m:Nat):Nat→Nat
  | 0=>0
  | n+1=>(orb m n * 5+1) % (m+1)
noncomputable def Msk (m:Nat):Prop:=m=7∨m=31∨m=127∨m=511
noncomputable def orbL (m:Nat):Nat→Nat→List Nat
  | 0,_=>[]
  | n+1,i=>(i * 5+1) % (m+1) :: orbL m n ((i * 5+1) % (m+1))
noncomputable def orbChk (m:Nat):Bool:=(List.range (m+1)).all fun e=>(orbL m (m+1) 0).contains e
theorem orb_chk {m:Nat} (h:Msk m):orbChk m=true∧orb m (m+1)=0:=by
  rcases h with rfl | rfl | rfl | rfl
  · decide +kernel
  · decide +kernel
  · decide +kernel
  · decide +kernel
theorem orbL_mem {m:Nat}:∀ {n a e:Nat},e∈orbL m n (orb m a)→∃ b,b < n∧e=orb m (a+b+1)
  | 0,_,_,h=>nomatch h
  | n+1,a,e,h=>by
    rcases List.mem_cons.mp h with h | h
    · exact ⟨0,Nat.succ_pos _,h⟩
    · obtain ⟨b,hb,q⟩:=orbL_mem (n:=n) (a:=a+1) h
      exact ⟨b+1,Nat.succ_lt_succ hb,by rw [q,Nat.add_right_comm a 1 b]; rfl⟩
theorem orb_all {m e:Nat} (h:Msk m) (he:e≤m):∃ b,b≤m∧e=orb m (b+1):=by
  obtain ⟨b,hb,q⟩:=orbL_mem (a:=0) (List.contains_iff_mem.mp (List.all_eq_true.mp (orb_chk h).1 e (List.mem_range.mpr (Nat.lt_succ_of_le he))))
  exact ⟨b,Nat.le_of_lt_succ hb,by rw [q,Nat.zero_add]⟩
theorem lps_orb (m:Nat):∀ r a,lps m r (orb m a,0)=(orb m (a+r),0)
  | 0,_=>rfl
  | r+1,a=>by
    have e:lp m (orb m a,0)=(orb m (a+1),0):=by unfold lp leap; rw [Nat.zero_div]; rfl
    refine (?_:lps m r (lp m (orb m a,0))=_)
    rw [e,lps_orb m r (a+1),Nat.add_right_comm a 1 r]; rfl
theorem orb_period {m:Nat} (h:Msk m):∀ b,orb m (b+(m+1))=orb m b
  | 0=>by rw [Nat.zero_add]; exact (orb_chk h).2
  | b+1=>by rw [Nat.add_right_comm b 1 (m+1)]; refine (?_:(_ * 5+1) % (m+1)=_); rw [orb_period h b]; rfl
theorem leaps {m i pt e:Nat} (h:Msk m) (hi:i≤m) (hp:pt < 2 ^ 64) (he:e≤m):∃ r,r≤m+13∧(lps m (r+1) (i,pt)).1=e:=by
  have z:lps m 13 (i,pt)=((lps m 13 (i,pt)).1,0):=Prod.ext rfl ((lps_snd m 13 (i,pt)).trans (Nat.div_eq_of_lt (Nat.lt_of_lt_of_le hp (by decide))))
  obtain ⟨a,ha,ea⟩:=orb_all h (lps_fst m 13 (i,pt) hi)
  obtain ⟨b,hb,eb⟩:=orb_all h he
  rw [ea] at z
  have go:∀ r,(lps m (13+r) (i,pt)).1=orb m (a+1+r):=fun r=>by rw [lps_add,z,lps_orb]
  by_cases c:a < b
  · exact ⟨12+(b - a),by grind,by rw [show 12+(b - a)+1=13+(b - a) by grind,go,eb]; congr 1; grind⟩
  · refine ⟨12+(m+1+b - a),by grind,?_⟩
    rw [show 12+(m+1+b - a)+1=13+(m+1+b - a) by grind,go,eb,← orb_period h (b+1)]; congr 1; grind
theorem it_all {m:Nat} {p:Probe} {e:Nat} (h:Msk m) (hi:p.i≤m) (hp:p.perturb < 2 ^ 64) (hm:p.more≤9) (hd:p.dummy=none) (he:e≤m):∃ N,N < 10 * turns m∧(it m N p).j=e:=by
  obtain ⟨r,hr,q⟩:=leaps h hi hp he
  obtain ⟨N,h1,h2⟩:=it_runs m r p hm hd
  exact ⟨N,by unfold turns; lia,by rw [h2]; exact q⟩
theorem bits_lt (h:Int):bits h < 2 ^ 64:=by unfold bits; lia
end Mine
end
noncomputable section
namespace Mine
open PySem PySem.SetTable
noncomputable def pos (m:Nat) (h:Int) (n:Nat):Probe:=it m n (beg m (bits h % (m+1)) (bits h))
noncomputable def In (t:SetTable) (j:Nat):Prop:=∃ i:Nat,t.place[i]?=some j
noncomputable def Way (t:SetTable) (h:Int) (j:Nat):Prop:=∃ n,(pos t.mask h n).j=j∧∀ n',n' < n→In t (pos t.mask h n').j
structure Tab {β:Type} (t:SetTable) (es:Array (Int×β)):Prop where
  msk:Msk t.mask
  dm:t.dummies=#[]
  sz:t.place.size=es.size
  rise:Rise t.place
  le:∀ i j:Nat,t.place[i]?=some j→j≤t.mask
  way:∀ (i j:Nat) e,t.place[i]?=some j→es[i]?=some e→Way t e.1 j
theorem it_j {m:Nat}:∀ {n:Nat} {p:Probe},p.dummy=none→(it m n p).dummy=none
  | 0,_,h=>h
  | n+1,p,h=>it_j (n:=n) (p:=adv m p) (by unfold adv; split <;> exact h)
theorem it_succ {m:Nat}:∀ n p,it m (n+1) p=adv m (it m n p)
  | 0,_=>rfl
  | n+1,p=>it_succ n (adv m p)
theorem go_spec {t:SetTable} {hashAt:Nat→Int} {h:Int} (hd:t.dummies=#[]) (r:Rise t.place):∀ N fuel p,N < fuel→p.dummy=none→¬ In t (it t.mask N p).j →
    ∃ n,n≤N∧(∀ n',n' < n→∃ i:Nat,t.place[i]?=some (it t.mask n' p).j∧hashAt i≠h) ∧
      (¬ In t (it t.mask n p).j∧probe.go t hashAt h fuel p=some (.empty (it t.mask n p).j none) ∨
       ∃ i:Nat,t.place[i]?=some (it t.mask n p).j∧hashAt i=h∧probe.go t hashAt h fuel p=some (.candidate (it t.mask n p).j i (it t.mask (n+1) p))):=by
  intro N
  induction N with
  | zero=>
    intro fuel p hf hp he
    obtain ⟨fuel,rfl⟩:=Nat.exists_eq_succ_of_ne_zero (Nat.ne_of_gt hf)
    refine ⟨0,Nat.le_refl _,fun _ q=>absurd q (Nat.not_lt_zero _),.inl ⟨he,?_⟩⟩
    rcases slot_is hd r p.j with ⟨i,e,_⟩ | ⟨_,e⟩
    · exact absurd ⟨i,e⟩ he
    · unfold probe.go; rw [e]; refine (?_:some (Met.empty p.j p.dummy)=_); rw [hp]; rfl
  | succ N ih=>
    intro fuel p hf hp he
    obtain ⟨fuel,rfl⟩:=Nat.exists_eq_succ_of_ne_zero (Nat.ne_of_gt (Nat.lt_of_le_of_lt (Nat.zero_le _) hf))
    rcases slot_is hd r p.j with ⟨i,e,es⟩ | ⟨e,es⟩
    · by_cases c:hashAt i=h
      · refine ⟨0,Nat.zero_le _,fun _ q=>absurd q (Nat.not_lt_zero _),.inr ⟨i,e,c,?_⟩⟩
        unfold probe.go; rw [es]; exact if_pos (beq_iff_eq.mpr c)
      · obtain ⟨n,h1,h2,h3⟩:=ih fuel (adv t.mask p) (Nat.lt_of_succ_lt_succ hf) (it_j (n:=1) hp) he
        have hg:probe.go t hashAt h (fuel+1) p=probe.go t hashAt h fuel (adv t.mask p):=by
          rw [probe.go]; rw [es]; exact if_neg fun q=>c (beq_iff_eq.mp q)
        refine ⟨n+1,Nat.succ_le_succ h1,fun n' q=>?_,?_⟩
        · cases n' with
          | zero=>exact ⟨i,e,c⟩
          | succ n'=>exact h2 n' (Nat.lt_of_succ_lt_succ q)
        · rw [hg]; exact h3
    · refine ⟨0,Nat.zero_le _,fun _ q=>absurd q (Nat.not_lt_zero _),.inl ⟨fun ⟨i,q⟩=>e i q,?_⟩⟩
      unfold probe.go; rw [es]; refine (?_:some (Met.empty p.j p.dummy)=_); rw [hp]; rfl
theorem it_ok {m:Nat}:∀ n p,p.i≤m→p.perturb < 2 ^ 64→p.more≤9→(it m n p).i≤m∧(it m n p).perturb < 2 ^ 64∧(it m n p).more≤9
  | 0,p,h1,h2,h3=>⟨h1,h2,h3⟩
  | n+1,p,h1,h2,h3=>by
    refine it_ok n (adv m p) ?_ ?_ ?_ <;> unfold adv <;> split
    · exact h1
    · exact Nat.le_of_lt_succ (Nat.mod_lt _ (Nat.succ_pos _))
    · exact h2
    · exact Nat.lt_of_le_of_lt (Nat.div_le_self _ _) h2
    · exact Nat.le_trans (Nat.sub_le _ _) h3
    · exact more_le _ _
section
variable {β:Type} {t:SetTable} {es:Array (Int×β)}
theorem Tab.gap (T:Tab t es) (hf:t.place.size≤t.mask) (h:Int) (k:Nat):∃ N,N < 10 * turns t.mask∧¬ In t (it t.mask N (pos t.mask h k)).j:=by
  obtain ⟨e,he,q⟩:=has_gap T.rise
  have o:=it_ok (m:=t.mask) k (beg t.mask (bits h % (t.mask+1)) (bits h)) (Nat.le_of_lt_succ (Nat.mod_lt _ (Nat.succ_pos _))) (bits_lt h) (more_le _ _)
  obtain ⟨N,h1,h2⟩:=it_all (p:=pos t.mask h k) T.msk o.1 o.2.1 o.2.2 (it_j rfl) (Nat.le_trans he hf)
  exact ⟨N,h1,fun ⟨i,z⟩=>q i (by rw [z,h2])⟩
theorem Tab.put (T:Tab t es) {h:Int} {x:β} {j:Nat} (hw:Way t h j) (hj:¬ In t j) (hl:j≤t.mask):(t.put j).1.mask=t.mask∧(t.put j).1.place.size=es.size+1∧Tab (t.put j).1 (insertAt es (t.put j).2 (h,x)):=by
  have hp:=(below_ok T.rise j).1
  have ep:(t.put j).1.place=insertAt t.place (below t.place j) j:=rfl
  have ed:(t.put j).1.dummies=#[]:=by refine (?_:(if has t.dummies j then _ else t.dummies)=_); rw [T.dm]; rfl
  have hp':below t.place j≤es.size:=T.sz▸hp
  have up:∀ {k},In t k→In (t.put j).1 k:=fun ⟨i,e⟩=>⟨_,insertAt_old hp e⟩
  have upw:∀ {k h},Way t h k→Way (t.put j).1 h k:=fun ⟨n,a,b⟩=>⟨n,a,fun n' q=>up (b n' q)⟩
  refine ⟨rfl,by rw [ep,insertAt_size hp,T.sz],T.msk,ed,by rw [ep,insertAt_size hp]; exact T.sz▸(insertAt_size hp').symm,rise_insert T.rise fun i e=>hj ⟨i,e⟩,fun i k e=>?_,fun i k e ek ee=>?_⟩
  · rcases insertAt_cases hp e with ⟨_,rfl⟩ | ⟨_,e⟩
    · exact hl
    · exact T.le _ _ e
  · rcases insertAt_cases hp ek with ⟨rfl,rfl⟩ | ⟨q,ek⟩
    · rcases insertAt_cases hp' ee with ⟨_,rfl⟩ | ⟨q,_⟩
      · exact upw hw
      · exact absurd rfl q
    · rcases insertAt_cases hp' ee with ⟨q',_⟩ | ⟨_,ee⟩
      · exact absurd q' q
      · exact upw (T.way _ _ _ ek ee)
end
end Mine
end
noncomputable section
namespace Mine
open PySem PySem.SetTable
noncomputable def Occ (O:Array (Option Nat)) (j:Nat):Prop:=∃ c,O[j]?=some (some c)
theorem it_in {m:Nat}:∀ {k:Nat} {p:Probe},k≤p.more→(it m k p).j=p.j+k
  | 0,_,_=>rfl
  | k+1,p,h=>by
    have e:adv m p={ p with j:=p.j+1,more:=p.more - 1 }:=if_pos (Nat.lt_of_lt_of_le (Nat.succ_pos _) h)
    refine (?_:(it m k (adv m p)).j=_)
    rw [it_in (p:=adv m p) (by rw [e]; exact Nat.le_sub_of_add_le h),e]
    refine (?_:p.j+1+k=_); lia
theorem run_le {m i:Nat} (h:i≤m):i≤runEnd m i∧runEnd m i≤m:=by unfold runEnd; split <;> lia
theorem occ_or {O:Array (Option Nat)} {m j:Nat} (hs:O.size=m+1) (hj:j≤m):(Occ O j∧(O.getD j (some 0)).isNone=false)∨¬ Occ O j∧(O.getD j (some 0)).isNone=true:=by
  have e:O[j]?=some (O.getD j (some 0)):=by rw [Array.getD_eq_getD_getElem?,Array.getElem?_eq_getElem (by lia)]; rfl
  unfold Occ
  refine e.symm▸?_
  cases O.getD j (some 0) with
  | none=>exact .inr ⟨(fun ⟨c,q⟩=>nomatch q),rfl⟩
  | some c=>exact .inl ⟨⟨c,rfl⟩,rfl⟩
theorem free_spec {m:Nat} {O:Array (Option Nat)} (hs:O.size=m+1):∀ r fuel i pt,r < fuel→i≤m→¬ Occ O (lps m r (i,pt)).1 →
    ∃ n j,layClean.free m O fuel i pt=some j∧(it m n (beg m i pt)).j=j∧j≤m∧¬ Occ O j∧∀ n',n' < n→Occ O (it m n' (beg m i pt)).j:=by
  intro r fuel
  induction fuel generalizing r with
  | zero=>exact fun _ _ h=>absurd h (Nat.not_lt_zero _)
  | succ fuel ih=>
    intro i pt hr hi he
    have hre:=run_le hi
    have inr:∀ k,k < runEnd m i+1 - i→(it m k (beg m i pt)).j=i+k∧i+k≤m:=fun k hk=>⟨it_in (p:=beg m i pt) (by refine (?_:k≤runEnd m i - i); omega),by omega⟩
    unfold layClean.free
    cases hf:(List.range (runEnd m i+1 - i)).find? fun k=>(O.getD (i+k) (some 0)).isNone with
    | some k=>
      obtain ⟨h1,h2,h3⟩:=List.find?_range_eq_some.mp hf
      have hk:=inr k (List.mem_range.mp h2)
      refine ⟨k,i+k,rfl,hk.1,hk.2,?_,fun n' q=>?_⟩
      · rcases occ_or hs hk.2 with ⟨_,z⟩ | ⟨z,_⟩
        · replace h1:=z▸h1; (injection h1; done)
        · exact z
      · have hn:=inr n' (Nat.lt_trans q (List.mem_range.mp h2))
        rcases occ_or hs hn.2 with ⟨z,_⟩ | ⟨_,z⟩
        · rw [hn.1]; exact z
        · have:=h3 n' q; replace this:=z▸this; (injection this; done)
    | none=>
      have hn:=List.find?_range_eq_none.mp hf
      have occ:∀ n',n' < runEnd m i+1 - i→Occ O (it m n' (beg m i pt)).j:=fun n' q=>by
        rcases occ_or hs (inr n' q).2 with ⟨z,_⟩ | ⟨_,z⟩
        · rw [(inr n' q).1]; exact z
        · have:=hn n' q; replace this:=z▸this; (injection this; done)
      cases r with
      | zero=>exact absurd (occ 0 (by omega)) he
      | succ r=>
        obtain ⟨n,j,e1,e2,e3,e4,e5⟩:=ih r (lp m (i,pt)).1 (lp m (i,pt)).2 (Nat.lt_of_succ_lt_succ hr) (Nat.le_of_lt_succ (Nat.mod_lt _ (Nat.succ_pos _))) he
        have hrun:=it_run m (runEnd m i - i) (beg m i pt) rfl rfl
        refine ⟨runEnd m i - i+1+n,j,e1,?_,e3,e4,fun n' q=>?_⟩
        · rw [it_add,hrun]; exact e2
        · by_cases c:n' < runEnd m i+1 - i
          · exact occ n' c
          · have:=e5 (n' - (runEnd m i - i+1)) (by omega)
            rw [show n'=runEnd m i - i+1+(n' - (runEnd m i - i+1)) by omega,it_add,hrun]; exact this
structure LInv (m:Nat) (H:Nat→Int) (O:Array (Option Nat)) (k:Nat):Prop where
  sz:O.size=m+1
  way:∀ j c:Nat,O[j]?=some (some c)→c < k∧∃ n,(pos m (H c) n).j=j∧∀ n',n' < n→Occ O (pos m (H c) n').j
  all:∀ c,c < k→Exists fun j:Nat=>O[j]?=some (some c)
  inj:∀ j j' c:Nat,O[j]?=some (some c)→O[j']?=some (some c)→j=j'
noncomputable def live (m:Nat) (O:Array (Option Nat)):List (Nat×Nat):=(List.range (m+1)).filterMap fun j=>(O.getD j none).map (j,·)
section
variable {m:Nat} {H:Nat→Int} {O:Array (Option Nat)} {k:Nat}
theorem live_mem (hs:O.size=m+1) {j c:Nat}:(j,c)∈live m O ↔ O[j]?=some (some c):=by
  unfold live
  rw [List.mem_filterMap]
  constructor
  · rintro ⟨j',_,e⟩
    obtain ⟨c',ec,q⟩:=Option.map_eq_some_iff.mp e
    cases q
    replace ec:=(Array.getD_eq_getD_getElem?)▸ec
    cases h:O[j]? with
    | none=>replace ec:=h▸ec; cases ec
    | some v=>rw [h] at ec; exact congrArg some ec
  · intro e
    have hj:j < O.size:=by rcases Nat.lt_or_ge j O.size with q | q; exact q; replace e:=(Array.getElem?_eq_none q)▸e; cases e
    exact ⟨j,List.mem_range.mpr (hs▸hj),by rw [Array.getD_eq_getD_getElem?,e]; rfl⟩
theorem live_rise:(live m O).Pairwise fun a b=>a.1 < b.1:=by
  refine List.Pairwise.filterMap _ (fun a a' h b hb b' hb'=>?_) List.pairwise_lt_range
  obtain ⟨c,_,rfl⟩:=Option.map_eq_some_iff.mp hb
  obtain ⟨c',_,rfl⟩:=Option.map_eq_some_iff.mp hb'
  exact h
theorem live_perm (L:LInv m H O k):((live m O).map (·.2)).Perm (List.range k):=by
  refine (List.perm_ext_iff_of_nodup ?_ List.nodup_range).mpr fun c=>?_
  · refine List.Pairwise.map _ (fun a b h=>h) ((live_rise (m:=m) (O:=O)).imp_of_mem fun {a b} ha hb h e=>?_)
    have e1:=(live_mem L.sz).mp (ha:(a.1,a.2)∈live m O)
    have e2:=(live_mem L.sz).mp (hb:(b.1,b.2)∈live m O)
    rw [← e] at e2
    exact absurd (L.inj _ _ _ e1 e2) (Nat.ne_of_lt h)
  · rw [List.mem_map,List.mem_range]
    constructor
    · rintro ⟨⟨j,c⟩,hm,rfl⟩; exact (L.way _ _ ((live_mem L.sz).mp hm)).1
    · intro hc
      obtain ⟨j,e⟩:=L.all c hc
      exact ⟨(j,c),(live_mem L.sz).mpr e,rfl⟩
noncomputable def placeOf (m:Nat) (O:Array (Option Nat)):Array Nat:=((live m O).map (·.1)).toArray
theorem place_get {i j:Nat} (e:(placeOf m O)[i]?=some j):∃ c,(live m O)[i]?=some (j,c):=by
  unfold placeOf at e
  replace e:=(List.getElem?_map)▸(List.getElem?_toArray)▸e
  obtain ⟨q,h,rfl⟩:=Option.map_eq_some_iff.mp e
  exact ⟨_,h⟩
theorem place_rise:Rise (placeOf m O):=fun i j a b h ea eb=>by
  obtain ⟨c,ec⟩:=place_get ea
  obtain ⟨d,ed⟩:=place_get eb
  obtain ⟨hi,qi⟩:=List.getElem?_eq_some_iff.mp ec
  obtain ⟨hj,qj⟩:=List.getElem?_eq_some_iff.mp ed
  have:=List.pairwise_iff_getElem.mp (live_rise (m:=m) (O:=O)) i j hi hj h
  rw [qi,qj] at this; exact this
theorem place_size (L:LInv m H O k):(placeOf m O).size=k:=by
  have:=(live_perm L).length_eq
  rw [List.length_map,List.length_range] at this
  unfold placeOf; rw [List.size_toArray,List.length_map,this]
theorem place_in (L:LInv m H O k) {j:Nat}:(∃ i:Nat,(placeOf m O)[i]?=some j) ↔ Occ O j:=by
  constructor
  · rintro ⟨i,e⟩
    obtain ⟨c,ec⟩:=place_get e
    exact ⟨c,(live_mem L.sz).mp (List.mem_of_getElem? ec)⟩
  · rintro ⟨c,e⟩
    obtain ⟨i,hi⟩:=List.getElem?_of_mem ((live_mem L.sz).mpr e)
    exact ⟨i,by unfold placeOf; rw [List.getElem?_toArray,List.getElem?_map,hi]; rfl⟩
theorem LInv.step (hm:Msk m) (L:LInv m H O k) (hk:k≤m):∃ j,layClean.free m O (turns m) (bits (H k) % (m+1)) (bits (H k))=some j∧LInv m H (O.setIfInBounds j (some k)) (k+1):=by
  obtain ⟨e,he,q⟩:=has_gap (place_rise (m:=m) (O:=O))
  replace he:=(place_size L)▸he
  have hb:bits (H k) % (m+1)≤m:=Nat.le_of_lt_succ (Nat.mod_lt _ (Nat.succ_pos _))
  obtain ⟨r,hr,hl⟩:=leaps hm hb (bits_lt (H k)) (Nat.le_trans he hk)
  have hq:¬ Occ O e:=fun z=>by obtain ⟨i,z⟩:=(place_in L).mpr z; exact q i z
  obtain ⟨n,j,e1,e2,e3,e4,e5⟩:=free_spec L.sz (r+1) (turns m) _ _ (by unfold turns; lia) hb (by rw [hl]; exact hq)
  have hj:j < O.size:=by rw [L.sz]; exact Nat.lt_succ_of_le e3
  have gs:(O.setIfInBounds j (some k))[j]?=some (some k):=by rw [Array.getElem?_setIfInBounds,if_pos rfl,if_pos hj]
  have gn:∀ i,i≠j→(O.setIfInBounds j (some k))[i]?=O[i]?:=fun i h=>by rw [Array.getElem?_setIfInBounds,if_neg (Ne.symm h)]
  have up:∀ {i},Occ O i→Occ (O.setIfInBounds j (some k)) i:=fun {i} h=>by
    by_cases c:i=j
    · subst c; exact ⟨k,gs⟩
    · obtain ⟨c',z⟩:=h; exact ⟨c',(gn i c).trans z⟩
  refine ⟨j,e1,by rw [Array.size_setIfInBounds]; exact L.sz,fun i c z=>?_,fun c hc=>?_,fun i i' c z z'=>?_⟩
  · by_cases h:i=j
    · subst h; replace z:=gs▸z; cases z
      exact ⟨Nat.lt_succ_self _,n,e2,fun n' h=>up (e5 n' h)⟩
    · rw [gn i h] at z
      obtain ⟨a,n,b,d⟩:=L.way _ _ z
      exact ⟨Nat.lt_succ_of_lt a,n,b,fun n' h=>up (d n' h)⟩
  · rcases Nat.lt_or_eq_of_le (Nat.le_of_lt_succ hc) with h | h
    · obtain ⟨i,z⟩:=L.all c h
      exact ⟨i,(gn i fun q=>e4 ⟨c,q▸z⟩).trans z⟩
    · subst h; exact ⟨j,gs⟩
  · by_cases h:i=j <;> by_cases h':i'=j
    · exact h.trans h'.symm
    · subst h; rw [gs] at z; cases z; rw [gn i' h'] at z'; exact absurd (L.way _ _ z').1 (Nat.lt_irrefl _)
    · subst h'; rw [gs] at z'; cases z'; rw [gn i h] at z; exact absurd (L.way _ _ z).1 (Nat.lt_irrefl _)
    · rw [gn i h] at z; rw [gn i' h'] at z'; exact L.inj _ _ _ z z'
end
noncomputable def layStep (m:Nat) (acc:Option (Array (Option Nat)×Nat)) (h:Int):Option (Array (Option Nat)×Nat):=do
    let (owner,k) ← acc
    let j ← layClean.free m owner (turns m) (bits h % (m+1)) (bits h)
    pure (owner.setIfInBounds j (some k),k+1)
theorem lay_fold {m:Nat} (hm:Msk m) {H:Nat→Int}:∀ (l:List Int) (O:Array (Option Nat)) (k:Nat),(∀ i h,l[i]?=some h→H (k+i)=h)→k+l.length≤m+1→LInv m H O k →
    ∃ O',l.foldl (layStep m) (some (O,k))=some (O',k+l.length)∧LInv m H O' (k+l.length)
  | [],O,k,_,_,L=>⟨O,rfl,L⟩
  | h :: l,O,k,hH,hk,L=>by
    have e0:H k=h:=hH 0 h rfl
    obtain ⟨j,e,L'⟩:=L.step hm (by rw [List.length_cons] at hk; lia)
    obtain ⟨O',e',L''⟩:=lay_fold hm l _ (k+1) (fun i x z=>by rw [Nat.add_right_comm]; exact hH (i+1) x z) (by rw [List.length_cons] at hk; lia) L'
    rw [Nat.add_right_comm] at e' L''
    refine ⟨O',?_,L''⟩
    rw [List.foldl_cons]
    refine Eq.trans (congrArg (List.foldl _ · l) ?_) e'
    rw [e0] at e
    refine (?_:(layClean.free m O (turns m) (bits h % (m+1)) (bits h)).bind _=_)
    rw [e]; rfl
theorem filterMap_range {α:Type}:∀ l:List α,(List.range l.length).filterMap (l[·]?)=l
  | []=>rfl
  | x :: l=>by
    rw [List.length_cons,List.range_succ_eq_map,List.filterMap_cons,List.filterMap_map]
    exact congrArg (x :: ·) (filterMap_range l)
theorem filterMap_get {α β:Type} {f:α→Option β}:∀ {l:List α},(∀ a∈l,(f a).isSome)→∀ i:Nat,(l.filterMap f)[i]?=l[i]?.bind f
  | [],_,_=>rfl
  | a :: l,h,i=>by
    obtain ⟨b,hb⟩:=Option.isSome_iff_exists.mp (h a (.head _))
    refine List.filterMap_cons.symm▸hb.symm▸?_
    cases i with
    | zero=>exact hb.symm
    | succ i=>exact filterMap_get (fun a q=>h a (.tail _ q)) i
theorem laid_ok {β:Type} {es:Array (Int×β)} {m:Nat} (hm:Msk m) (hk:es.size≤m) (fi mv:Nat) (led pl:Bool):∃ t order,laid m fi mv led pl (es.map (·.1))=some (t,order)∧t.mask=m ∧
    (order.filterMap (es[·]?)).toList.Perm es.toList∧Tab t (order.filterMap (es[·]?)):=by
  have e0:LInv m (fun i=>(es[i]?.map (·.1)).getD 0) (Array.replicate (m+1) none) 0:=by
    have no:∀ j c:Nat,(Array.replicate (m+1) (none:Option Nat))[j]?≠some (some c):=fun j c z=>by
      rw [Array.getElem?_replicate] at z
      split at z <;> cases z
    exact ⟨Array.size_replicate,fun j c z=>absurd z (no j c),fun c h=>absurd h (Nat.not_lt_zero _),fun j _ c z=>absurd z (no j c)⟩
  obtain ⟨O,e1,L⟩:=lay_fold hm (es.toList.map (·.1)) _ 0 (fun i h z=>by rw [List.getElem?_map,Array.getElem?_toList] at z; rw [Nat.zero_add,z]; rfl) (by rw [List.length_map,Array.length_toList]; lia) e0
  rw [Nat.zero_add,List.length_map,Array.length_toList] at e1 L
  have e2:layClean m (es.map (·.1))=some O:=by
    unfold layClean
    rw [← Array.foldl_toList,Array.toList_map]
    exact (congrArg (Option.map _) e1).trans rfl
  have P:(((live m O).map (·.2)).toArray.filterMap (es[·]?)).toList.Perm es.toList:=by
    rw [Array.toList_filterMap]
    refine (List.Perm.filterMap _ (live_perm L)).trans (.of_eq ?_)
    have:=filterMap_range es.toList
    simpa only [Array.getElem?_toList,Array.length_toList] using this
  refine ⟨{ mask:=m,place:=placeOf m O,dummies:=#[],finger:=fi,led:=led,moves:=mv,plain:=pl },((live m O).map (·.2)).toArray,?_,rfl,P,?_⟩
  · unfold laid; rw [e2]; rfl
  · have hs:∀ c∈(live m O).map (·.2),(es[c]?).isSome:=fun c hc=>by
      rw [Array.getElem?_eq_getElem (List.mem_range.mp ((live_perm L).mem_iff.mp hc))]; rfl
    have hg:∀ i:Nat,((((live m O).map (·.2)).toArray.filterMap (es[·]?)))[i]?=((live m O)[i]?.map (·.2)).bind (es[·]?):=fun i=>by
      rw [← Array.getElem?_toList,Array.toList_filterMap,filterMap_get hs,List.getElem?_map]
    refine ⟨hm,rfl,?_,place_rise,fun i j e=>?_,fun i j e ej ee=>?_⟩
    · exact (place_size L).trans ((Array.length_toList.symm.trans P.length_eq.symm).trans Array.length_toList)
    · obtain ⟨c,ec⟩:=place_get e
      have:=Array.getElem?_eq_some_iff.mp ((live_mem L.sz).mp (List.mem_of_getElem? ec))
      exact Nat.le_of_lt_succ (Nat.lt_of_lt_of_eq this.1 L.sz)
    · obtain ⟨c,ec⟩:=place_get ej
      rw [hg,ec] at ee
      have ee:es[c]?=some e:=ee
      obtain ⟨_,n,a,b⟩:=L.way _ _ ((live_mem L.sz).mp (List.mem_of_getElem? ec))
      rw [ee] at a b
      exact ⟨n,a,fun n' q=>(place_in L).mpr (b n' q)⟩
end Mine
end
noncomputable section
namespace Mine
open PySem PySem.SetTable
theorem beg_le (m x pt:Nat):(beg m (x % (m+1)) pt).j+(beg m (x % (m+1)) pt).more≤m:=by
  have h:=run_le (Nat.le_of_lt_succ (Nat.mod_lt x (Nat.succ_pos m)):x % (m+1)≤m)
  exact Nat.le_trans (Nat.le_of_eq (Nat.add_sub_cancel' h.1)) h.2
theorem it_le {m:Nat}:∀ n p,p.j+p.more≤m→(it m n p).j+(it m n p).more≤m
  | 0,_,h=>h
  | n+1,p,h=>by
    refine it_le n (adv m p) ?_
    unfold adv
    split
    · refine (?_:p.j+1+(p.more - 1)≤m); grind
    · exact beg_le m (p.i * 5+1+p.perturb / 32) 0
theorem pos_le (m:Nat) (h:Int) (n:Nat):(pos m h n).j≤m:=
  Nat.le_trans (Nat.le_add_right _ _) (it_le n (beg m (bits h % (m+1)) (bits h)) (beg_le m _ _))
theorem it_pos (m:Nat) (h:Int) (a b:Nat):it m b (pos m h a)=pos m h (a+b):=(it_add m a b _).symm
theorem odd_mask {m:Nat} (h:Msk m):(m % 2==0)=false:=by rcases h with rfl | rfl | rfl | rfl <;> rfl
section
variable {prog:Program} {w:World} {K:Type} [DecidableEq K] {kd:KeyKind prog w K} {A:Around} {E:Value→Shared→Prop} {s:Shared}
noncomputable def Ents (kd:KeyKind prog w K) (h:Heap) (es:List (Int×Value)):Prop:=∀ e∈es,∃ ks c,e=(tupleKeyHash kd ks,.ref c)∧IsTupleKey kd h ks c
noncomputable def IsK (kd:KeyKind prog w K) (h:Heap) (ks:List K) (e:Int×Value):Prop:=∃ c,e=(tupleKeyHash kd ks,.ref c)∧IsTupleKey kd h ks c
theorem Tab.fits {es:Array (Int×Value)} {t:SetTable} (T:Tab t es) (hf:es.size≤t.mask):t.fits es.size=true:=by
  unfold SetTable.fits SetTable.fill
  rw [T.sz,T.dm]
  simpa using hf
theorem class_tuple {ks:List K} {b:Addr} {Q:Bool→Shared→Prop} (hk:IsTupleKey kd s.heap ks b) (h:Q false s):wpAny (model prog w) A (ofAClassStatement 8 (.ref b)) Q E s:=by
  have hT:=hk.typeIs
  obtain ⟨o,items,n,ho,_,hd,hi⟩:=hk
  unfold ofAClassStatement
  refine wpAny_bind (wpAny_typeOf hT ?_)
  refine (?_:wpAny _ _ (pure true >>= _) _ _ s)
  refine wpAny_bind (wpAny_pure ?_)
  refine (?_:wpAny _ _ (seqItems? (.ref b) >>= _) _ _ s)
  refine wpAny_bind (wpAny_seqItems ho hd ?_)
  dsimp only
  refine wpAny_bind ?_
  rw [← Array.forIn_toList]
  refine wpAny_forIn_list _ (fun rest r s'=>r.1=none∧s'=s∧∀ v∈rest,carriedByValue v=true) _ ?_ ?_ _ _ ⟨rfl,rfl,hi.byValue⟩
  · rintro v rest r s' ⟨hr,rfl,hall⟩
    have hv:=hall v List.mem_cons_self
    have e:ofAClassStatement 7 v=pure false:=by cases v <;> first | rfl | (unfold ofAClassStatement; rfl) | (injection hv; done)
    rw [e]
    refine wpAny_bind (wpAny_pure ?_)
    exact wpAny_pure ⟨rfl,rfl,fun u hu=>hall u (List.mem_cons_of_mem _ hu)⟩
  · rintro ⟨r1,r2⟩ s' ⟨hr,rfl,_⟩
    subst hr
    exact wpAny_pure h
theorem unseen {ks:List K} {b:Addr} {Q:Bool→Shared→Prop} (hk:IsTupleKey kd s.heap ks b) {l:List Value} (hl:∀ v∈l,∃ ks' c,v=.ref c∧IsTupleKey kd s.heap ks' c) (h:Q false s) :
    wpAny (model prog w) A (searchCouldBeSeen (.ref b) l) Q E s:=by
  unfold searchCouldBeSeen
  refine wpAny_bind ?_
  refine wpAny_forIn_list _ (fun rest r s'=>r.1=none∧s'=s∧∀ v∈rest,v∈l) _ ?_ ?_ _ _ ⟨rfl,rfl,fun _ h=>h⟩
  · rintro v rest r s' ⟨hr,rfl,hall⟩
    obtain ⟨ks',c,rfl,hc⟩:=hl v (hall v List.mem_cons_self)
    have nx:∀ u∈rest,u∈l:=fun u hu=>hall u (List.mem_cons_of_mem _ hu)
    dsimp only
    by_cases q:(b==c||(carriedByValue (.ref b)&&carriedByValue (.ref c)))=true
    · rw [if_pos q]; exact wpAny_pure ⟨rfl,rfl,nx⟩
    · rw [if_neg q]
      refine wpAny_bind (wpAny_eqIsQuiet_tuple hk ?_)
      refine wpAny_bind (wpAny_eqIsQuiet_tuple hc ?_)
      refine wpAny_bind (class_tuple hk ?_)
      refine wpAny_bind (class_tuple hc ?_)
      exact wpAny_pure ⟨rfl,rfl,nx⟩
  · rintro ⟨r1,r2⟩ s' ⟨hr,rfl,_⟩
    subst hr
    exact wpAny_pure h
theorem sameMem (t:SetTable):t.sameMemory t.moves t.mask=some true:=by unfold sameMemory; rw [beq_self_eq_true]; rfl
theorem wp_led {α:Type} {M:Model} {c:Prop} [Decidable c] {m:Sem Bool} {u y:Sem α} {Q:α→Shared→Prop} (hm:∀ Q':Bool→Shared→Prop,Q' false s→wpAny M A m Q' E s) (h:wpAny M A y Q E s):wpAny M A (if c then m >>= fun r=>if r=true then u else y else y) Q E s:=
  wpAny_ite_split (fun _=>wpAny_bind (hm _ (wpAny_ite_false rfl h))) fun _=>h
theorem search_ok {S b:Addr} {o:Obj} {es:Array (Int×Value)} {ep:Nat} {t:SetTable} {ks:List K} {Q:SetFound→Shared→Prop} (hu:A.units < cLine) (ho:s.heap.get? S=some o) (hd:o.data=.set es ep t) (T:Tab t es) (hf:es.size≤t.mask)
    (he:Ents kd s.heap es.toList) (hk:IsTupleKey kd s.heap ks b) (hthere:(∃ e∈es.toList,IsK kd s.heap ks e)→Q (.there none) s)
    (hfree:∀ j,Way t (tupleKeyHash kd ks) j→¬ In t j→j≤t.mask→(∀ e∈es.toList,¬ IsK kd s.heap ks e)→Q (.free j false) s) :
    ∀ d fuel n stand,d < fuel→¬ In t (pos t.mask (tupleKeyHash kd ks) (n+d)).j→stand.getD (t.probeStart (tupleKeyHash kd ks))=pos t.mask (tupleKeyHash kd ks) n →
      (∀ n',n' < n→∃ i:Nat,t.place[i]?=some (pos t.mask (tupleKeyHash kd ks) n').j∧∀ e,es[i]?=some e→¬ IsK kd s.heap ks e)→wpAny (model prog w) A (setSearchFrom S (.ref b) (tupleKeyHash kd ks) true fuel stand) Q E s:=by
  intro d
  induction d using Nat.strongRecOn with
  | _ d ih=>
  intro fuel n stand hfu hem hst hpast
  obtain ⟨fuel,rfl⟩:=Nat.exists_eq_succ_of_ne_zero (Nat.ne_of_gt (Nat.lt_of_le_of_lt (Nat.zero_le _) hfu))
  have hfit:=T.fits hf
  refine wpAny_bind (wpAny_setState_of ho hd hfit ?_)
  refine wpAny_ite_false (c:=t.gaveWay=true) (by rw [show t.gaveWay=false from odd_mask T.msk]; rfl) ?_
  generalize hm:t.probe _ _ _=met
  replace hm:=hm.symm.trans (congrArg (t.probe _ _) hst)
  obtain ⟨N,hN,hNe⟩:=T.gap (T.sz▸hf) (tupleKeyHash kd ks) n
  obtain ⟨n1,_,h2,h3⟩:=go_spec (hashAt:=fun i=>(es[i]?.map (·.1)).getD 0) (h:=tupleKeyHash kd ks) T.dm T.rise N (10 * turns t.mask) (pos t.mask (tupleKeyHash kd ks) n) hN (it_j rfl) hNe
  simp only [it_pos] at h2 h3
  have past:∀ n',n' < n+n1→∃ i:Nat,t.place[i]?=some (pos t.mask (tupleKeyHash kd ks) n').j∧∀ e,es[i]?=some e→¬ IsK kd s.heap ks e:=fun n' q=>by
    by_cases c:n' < n
    · exact hpast n' c
    · obtain ⟨i,e1,e2⟩:=h2 (n' - n) (by grind)
      rw [show n+(n' - n)=n' by grind] at e1
      refine ⟨i,e1,fun e ee=>?_⟩
      rintro ⟨c,rfl,_⟩
      exact e2 (by rw [ee]; rfl)
  rcases h3 with ⟨h3,h4⟩ | ⟨i,h3,h5,h4⟩
  · have hm:=hm.trans h4
    subst hm
    refine wpAny_pure (hfree _ ⟨_,rfl,fun n' q=>(past n' q).imp fun _ z=>z.1⟩ h3 (pos_le _ _ _) fun e hme ⟨c,hec,hc⟩=>?_)
    obtain ⟨i,hi⟩:=List.getElem?_of_mem hme
    rw [Array.getElem?_toList] at hi
    have hp:t.place[i]?=some (t.place.getD i 0):=by
      have:i < t.place.size:=by rw [T.sz]; exact (Array.getElem?_eq_some_iff.mp hi).1
      simp [this]
    obtain ⟨n0,e0,a0⟩:=T.way _ _ _ hp hi
    subst hec
    by_cases q:n0 < n+n1
    · obtain ⟨i',e1,e2⟩:=past n0 q
      rw [e0] at e1
      obtain rfl:=rise_inj T.rise e1 hp
      exact e2 _ hi ⟨c,rfl,hc⟩
    · by_cases q':n0=n+n1
      · exact h3 ⟨i,by rw [← q',e0]; exact hp⟩
      · exact h3 (a0 _ (by grind))
  · have hm:=hm.trans h4
    subst hm
    have hlt:n1 < d:=by
      rcases Nat.lt_or_ge n1 d with q | q
      · exact q
      · refine absurd ?_ hem
        by_cases q':d=n1
        · rw [q']; exact ⟨i,h3⟩
        · exact (past (n+d) (by grind)).imp fun _ z=>z.1
    have hie:∃ e,es[i]?=some e:=⟨_,Array.getElem?_eq_getElem (by rw [← T.sz]; exact (Array.getElem?_eq_some_iff.mp h3).1)⟩
    obtain ⟨e,hi⟩:=hie
    have hme:e∈es.toList:=List.mem_of_getElem? (Array.getElem?_toList▸hi)
    obtain ⟨ks',c,rfl,hc⟩:=he e hme
    refine wp_led (fun Q' h=>unseen hk (fun v hv=>?_) h) ?_
    · obtain ⟨e,he',rfl⟩:=List.mem_map.mp hv
      rw [Array.toList_filter] at he'
      obtain ⟨ks2,c2,rfl,hc2⟩:=he e (List.mem_filter.mp he').1
      exact ⟨ks2,c2,rfl,hc2⟩
    refine hi.symm▸wpAny_bind (wpAny_holding (wpAny_eqBool_tuple hu hc hk ?_))
    refine wpAny_bind (wpAny_setState_of ho hd hfit ?_)
    by_cases q:ks'=ks
    · subst q
      exact wpAny_ite_true (decide_eq_true (decide_eq_true rfl)) (wpAny_pure (hthere ⟨_,hme,c,rfl,hc⟩))
    · refine wpAny_ite_false (decide_eq_false (Bool.eq_false_iff.mp (decide_eq_false q))) ?_
      have hs:t.slot (pos t.mask (tupleKeyHash kd ks) (n+n1)).j=.live i:=by
        rcases slot_is T.dm T.rise (pos t.mask (tupleKeyHash kd ks) (n+n1)).j with ⟨i',e1,e2⟩ | ⟨e1,_⟩
        · rw [e2,rise_inj T.rise e1 h3]
        · exact absurd h3 (e1 i)
      refine (sameMem t).symm▸?_
      dsimp only
      refine ((if_pos rfl).trans hs).symm▸?_
      dsimp only
      refine hi.symm▸?_
      refine wpAny_bind (wpAny_isSame_ref_self (wpAny_bind (wpAny_pure ?_)))
      refine wpAny_ite_false (decide_eq_false (Bool.eq_false_iff.mp (decide_eq_false q))) ?_
      refine ih (d - (n1+1)) (by grind) fuel (n+n1+1) _ (by grind) (by rw [show n+n1+1+(d - (n1+1))=n+d by grind]; exact hem) rfl fun n' z=>?_
      by_cases c':n' < n+n1
      · exact past n' c'
      · rw [show n'=n+n1 by grind]
        refine ⟨i,h3,fun e ee=>?_⟩
        rw [hi] at ee; (injection ee with ee; subst ee)
        rintro ⟨c2,hc2,hk2⟩
        exact q (hc.inj (Value.ref.inj (congrArg Prod.snd hc2)▸hk2))
end
end Mine
end
noncomputable section
namespace Mine
open PySem PySem.SetTable
section
variable {prog:Program} {w:World} {A:Around} {E:Value→Shared→Prop} {s:Shared}
theorem hash_false {ks:List Sc} {x:Str} {b:Addr} {Q:Bool→Shared→Prop} (hk:IsTupleKey (scKind prog w) s.heap (.inr x :: ks) b) (h:Q false s):wpAny (model prog w) A (hashByValue 8 (.ref b)) Q E s:=by
  have hT:=hk.typeIs
  obtain ⟨o,items,n,ho,_,hd,hi⟩:=hk
  unfold hashByValue
  refine wpAny_bind (wpAny_specialOf hT F.slot_tuple_hash.lookup ?_)
  dsimp only
  refine wpAny_bind (wpAny_seqItems ho hd ?_)
  obtain ⟨l⟩:=items
  cases hi with
  | cons hv _=>
    obtain ⟨t,rfl⟩:=Value.isStrOf_shape hv
    rw [← Array.forIn_toList]
    refine wpAny_bind ?_
    refine (?_:wpAny _ _ (forIn (_ :: _) _ _) _ _ _)
    rw [List.forIn_cons]
    exact wpAny_bind (wpAny_pure (wpAny_pure (wpAny_pure h)))
noncomputable def TS (h:Heap) (S:Addr) (es:Array (Int×Value)) (L:Bool):Prop:=
  ∃ o ep t,h.get? S=some o∧o.ExactSet∧o.data=.set es ep t∧Tab t es∧es.size * 5 < t.mask * 3∧t.led=L∧(es.size=0∨t.plain=false)
theorem insert_perm {α:Type} {es:Array α} {p:Nat} {x:α}:(insertAt es p x).toList.Perm (x :: es.toList):=by
  unfold insertAt
  rw [Array.toList_append,Array.toList_push,Array.toList_extract,Array.toList_extract,List.append_assoc,List.extract_eq_take_drop,List.extract_eq_take_drop,List.drop_zero,Nat.sub_zero,← Array.length_toList,← List.length_drop,List.take_length]
  exact List.perm_middle.trans (.cons _ (.of_eq (List.take_append_drop p es.toList)))
theorem Tab.off {t:SetTable} {es:Array (Int×Value)} (T:Tab t es):Tab { t with plain:=false } es:=⟨T.msk,T.dm,T.sz,T.rise,T.le,T.way⟩
theorem off_eq {t:SetTable} (h:t.plain=false):{ t with plain:=false }=t:=by cases t; subst h; rfl
theorem full_of {t:SetTable} {es:Array (Int×Value)} (T:Tab t es):t.tooFull=decide (t.mask * 3≤es.size * 5):=by
  unfold SetTable.tooFull SetTable.fill
  rw [T.sz,T.dm]; rfl
theorem wpAny_else {α:Type} {M:Model} {c:Prop} [Decidable c] {t e:Sem α} {Q:α→Shared→Prop} (h:¬ c) (x:wpAny M A e Q E s):wpAny M A (if c then t else e) Q E s:=by rw [if_neg h]; exact x
theorem grow_to {n m:Nat} (hm:Msk m) (h:n * 5 < m * 3) (q:m * 3≤(n+1) * 5) (hn:n < 200):∃ m',sizeAbove (grown (n+1))=m' + 1∧Msk m'∧(n+1) * 5 < m' * 3∧m' + 1≤sizeLine:=by
  rcases hm with rfl | rfl | rfl | rfl
  · cases (by decide +kernel:∀ n < 200,n * 5 < 7 * 3→7 * 3≤(n+1) * 5→n=4) n hn h q; exact ⟨31,by decide,.inr (.inl rfl),by decide,by decide⟩
  · cases (by decide +kernel:∀ n < 200,n * 5 < 31 * 3→31 * 3≤(n+1) * 5→n=18) n hn h q; exact ⟨127,by decide,.inr (.inr (.inl rfl)),by decide,by decide⟩
  · cases (by decide +kernel:∀ n < 200,n * 5 < 127 * 3→127 * 3≤(n+1) * 5→n=76) n hn h q; exact ⟨511,by decide,.inr (.inr (.inr rfl)),by decide,by decide⟩
  · exact absurd (Nat.le_trans q (Nat.mul_le_mul_right 5 hn)) (by decide)
theorem le53 {a b:Nat} (h:a * 5 < b * 3):a≤b:=Nat.le_of_lt (Nat.lt_of_mul_lt_mul_right (Nat.lt_of_lt_of_le h (Nat.mul_le_mul_left b (by decide:3≤5))))
theorem few_turns {m N:Nat} (hm:Msk m) (h:N < 10 * turns m):N < 100000:=by rcases hm with rfl | rfl | rfl | rfl <;> exact Nat.lt_of_lt_of_le h (by decide)
noncomputable def storeAt (S:Addr) (is:Array (Int×Value)) (t:SetTable) (n:Nat):Sem Bool:=do
  storeSet S is t
  if !false&&t.tooFull then setRelay S (SetTable.grown n)
  return true
theorem get_put {h:Heap} {S:Addr} {o:Obj} {es is:Array (Int×Value)} {ep:Nat} {t t1:SetTable} (ho:h.get? S=some o) (hd:o.data=.set es ep t):(h.update S (Obj.putSet is t1)).get? S=some { o with data:=.set is (ep+1) t1 }:=
  putSet_of _ _ hd▸Heap.get?_update_self (Obj.putSet is t1) ho (by rw [putSet_of _ _ hd]; rfl)
theorem stored_ok {S:Addr} {o:Obj} {es is:Array (Int×Value)} {ep:Nat} {t t1:SetTable} {L:Bool} {Q:Bool→Shared→Prop} (ho:s.heap.get? S=some o) (hex:o.ExactSet) (hd:o.data=.set es ep t) (T:Tab t1 is) (hpl:t1.plain=false) (hle:t1.led=L)
    (hs:is.size=es.size+1) (hr:es.size * 5 < t1.mask * 3) (hn:es.size < 200) (hnew:∀ h' es',Heap.SameBut S s.heap h'→TS h' S es' L→es'.toList.Perm is.toList→Q true { s with heap:=h' }) :
    wpAny (model prog w) A (storeAt S is t1 (es.size+1)) Q E s:=by
  have hz:is.size≤200:=hs▸hn
  refine wpAny_bind (wpAny_storeSet_of ho hd ?_ (Nat.le_trans hz (by decide)))
  have hg1:(s.heap.update S (Obj.putSet is t1)).get? S=some { o with data:=.set is (ep+1) t1 }:=get_put ho hd
  have sb1:Heap.SameBut S s.heap (s.heap.update S (Obj.putSet is t1)):=.update ..
  have hfu:=full_of T
  by_cases q:t1.mask * 3≤is.size * 5
  · refine wpAny_ite_true (c:=(!false&&t1.tooFull)=true) (by rw [hfu,decide_eq_true q]; rfl) ?_
    obtain ⟨m',e1,e2,e3,e4⟩:=grow_to T.msk hr (hs▸q) hn
    refine wpAny_bind (wpAny_bind (wpAny_setState_of hg1 rfl (T.fits (hs▸Nat.lt_of_mul_lt_mul_right (Nat.lt_of_lt_of_le hr (Nat.mul_le_mul_left _ (by decide:3≤5))))) ?_))
    refine wpAny_else (c:=sizeAbove (grown (es.size+1)) > sizeLine) (e1▸Nat.not_lt.mpr e4) ?_
    obtain ⟨t3,order,e5,e6,e7,T3⟩:=laid_ok (es:=is) e2 (hs▸le53 e3) t1.finger (movedTo t1 m') t1.led t1.plain
    obtain ⟨e9,e10⟩:t3.led=t1.led∧t3.plain=t1.plain:=by
      obtain ⟨a,_,e5⟩:=Option.bind_eq_some_iff.mp e5
      cases e5; exact ⟨rfl,rfl⟩
    refine wpAny_bind ?_
    rw [show t1.relaid (is.map (·.1)) (grown (es.size+1))=_ from (congrArg (fun z=>laid (z - 1) t1.finger (movedTo t1 (z - 1)) t1.led t1.plain _) e1).trans e5]
    have e8:(order.filterMap (is[·]?)).size=is.size:=by rw [← Array.length_toList,e7.length_eq,Array.length_toList]
    refine wpAny_else (by rw [e8,bne_self_eq_false]; exact Bool.false_ne_true) (wpAny_pure ?_)
    refine wpAny_storeSet_of hg1 rfl (wpAny_pure ?_) (Nat.le_trans (e8▸hz) (by decide))
    exact hnew _ _ (sb1.trans (.update _ S (Obj.putSet (order.filterMap (is[·]?)) t3))) ⟨_,_,_,get_put hg1 rfl,hex,rfl,T3,by rw [e8,hs,e6]; exact e3,e9.trans hle,.inr (e10.trans hpl)⟩ e7
  · exact wpAny_ite_false (c:=(!false&&t1.tooFull)=true) (by rw [hfu,decide_eq_false q]; rfl) (wpAny_bind (wpAny_pure (wpAny_pure (hnew _ is sb1 ⟨_,_,_,hg1,hex,rfl,T,Nat.not_le.mp q,hle,.inr hpl⟩ (.refl _)))))
theorem set_add_ok {S b:Addr} {es:Array (Int×Value)} {L:Bool} {ks:List Sc} {x:Str} {Q:Bool→Shared→Prop} (hu:A.units < cLine) (T:TS s.heap S es L) (he:Ents (scKind prog w) s.heap es.toList) (hk:IsTupleKey (scKind prog w) s.heap (.inr x :: ks) b) (hn:es.size < 200)
    (hold:(∃ e∈es.toList,IsK (scKind prog w) s.heap (.inr x :: ks) e)→∀ tk,Q false { s with toks:=tk })
    (hnew:∀ h' es' tk,Heap.SameBut S s.heap h'→TS h' S es' L→es'.toList.Perm ((tupleKeyHash (scKind prog w) (.inr x :: ks),.ref b) :: es.toList)→(∀ e∈es.toList,¬ IsK (scKind prog w) s.heap (.inr x :: ks) e)→Q true { s with heap:=h',toks:=tk }) :
    wpAny (model prog w) A (setAdd S (.ref b)) Q E s:=by
  obtain ⟨o,ep,t,ho,hex,hd,T,hr,hL,hp⟩:=T
  have hf:=le53 hr
  have hfit:=T.fits hf
  refine wpAny_holding (wpAny_bind (wpAny_pyHash_tuple hu hk ?_))
  generalize s.toks+_=tk0
  refine wpAny_holding (wpAny_bind (wpAny_setState_of ho hd hfit ?_))
  refine wpAny_else (c:=byScan (.ref b) es=true) Bool.false_ne_true ?_
  obtain ⟨N,hN,hg⟩:=T.gap (T.sz▸hf) (tupleKeyHash (scKind prog w) (.inr x :: ks)) 0
  rw [it_pos] at hg
  refine wpAny_bind (search_ok (kd:=scKind prog w) (s:={ s with toks:=tk0 }) (n:=0) (stand:=none) hu ho hd T hf he hk (fun q=>wpAny_pure (hold q _)) (fun j hw hj hl hnot=>?_) N 100000 (few_turns T.msk hN) hg rfl fun _ q=>absurd q (Nat.not_lt_zero _))
  refine wpAny_bind (wpAny_setState_of ho hd hfit ?_)
  obtain ⟨em,es1,T1⟩:=T.put (x:=Value.ref b) hw hj hl
  have key:∀ tk,wpAny (model prog w) A (storeAt S (insertAt es (t.put j).2 (tupleKeyHash (scKind prog w) (.inr x :: ks),.ref b)) { (t.put j).1 with plain:=false } (es.size+1)) Q E { s with toks:=tk }:=fun tk=>
    stored_ok (s:={ s with toks:=tk }) ho hex hd T1.off rfl hL (T1.sz.symm.trans es1) (em.symm▸hr) hn fun h' es' sb ts pe=>hnew h' es' tk sb ts (pe.trans insert_perm) hnot
  cases hpt:t.plain with
  | false=>exact wpAny_ite_false (c:=(t.put j).1.plain=true) (decide_eq_false (by refine (?_:¬ t.plain=true); rw [hpt]; exact Bool.false_ne_true)) (wpAny_bind (wpAny_pure (off_eq (t:=(t.put j).1) hpt▸key tk0)))
  | true=>exact wpAny_ite_true (c:=(t.put j).1.plain=true) (decide_eq_true hpt) (wpAny_bind (hash_false (s:={ s with toks:=tk0 }) hk (key _)))
end
end Mine
end
noncomputable section
namespace Mine
open PySem PySem.Calls PyProof.Rows
section
variable {prog:Program} {w:World} {A:Around} {E:Value→Shared→Prop} {s:Shared}
noncomputable abbrev fresh0 (w:World):Obj:={ cls:=.type "set",dict:=none,data:=.set #[] 0 (.fresh 0 0 (!w.params.followText "set-order")) }
theorem code_set_newL (a:Value) {Q₁:Value→Shared→Prop} (h:Q₁ (.ref s.heap.objs.size) { s with heap:=s.heap.push (fresh0 w) }) :
    codeAny (model prog w) A (.call (.builtin "set.__new__") ⟨[.type "set",a],[]⟩) (wants Q₁ E) s:=by
  refine codeAny_of_tree ?_
  (refine (?_:wpAny _ A.in1 (do checkBuiltinCall "set.__new__" ⟨[.type "set",a],[]⟩; again (.builtin "set.__new__" ⟨[.type "set",a],[]⟩)) _ _ s))
  refine wpAny_bind (wpAny_of_eq (PySem.F.newCall_set_1 a) (wpAny_pure ⟨plainId_quiet PySem.F.plain_set_new _,codeAny_builtin PySem.F.entry_set_new ?_⟩))
  rw [Around.under_plainId PySem.F.plain_set_new _]
  unfold Builtin.«set.__new__» Builtin.Frozenset.newClass
  have hsub:=sub_set_self
  obtain ⟨hp,g,d,tk,os⟩:=s
  dsimp only
  wp_walk
  refine wpAny_askSetting (wpAny_pure ?_)
  dsimp only
  simp only [newObj]
  refine wpAny_bind (wpAny_alloc (wpAny_pure ?_))
  exact wpAny_pure h
structure Fills (prog:Program) (w:World) (h₀:Heap) (S:Addr) (P:Nat→Value→Prop) (n:Nat) (Z:Nat→Heap→Prop):Prop where
  frame:∀ i h h',Z i h→h'.get? S=h.get? S→Z i h'
  live:∀ i h,Z i h→Live h S
  start:∀ h:Heap,h.get? S=some (fresh0 w)→Z 0 h
  add:∀ i v (s:Shared) (A:Around),A.units < cLine→i < n→P i v→Stays h₀ s.heap→Z i s.heap→∀ (Q:Bool→Shared→Prop) (E:Value→Shared→Prop),
    (∀ b h' tk,Heap.SameBut S s.heap h'→Z (i+1) h'→Q b { s with heap:=h',toks:=tk })→wpAny (model prog w) A (setAdd S v) Q E s
theorem keeps_of {h₀ h h':Heap} {l:List Addr} (k:Stays h₀ h) (hl:∀ b∈l,h₀.get? b=none) (m:∀ b o,b∉l→h.get? b=some o→h'.get? b=some o):Stays h₀ h':=fun b o e=>m b o (fun q=>by rw [hl b q] at e; (injection e; done)) (k b o e)
theorem set_loop {R:Result→Shared→Prop} {I S:Addr} {fp wr:List Addr} {P:Nat→Value→Prop} {St Z:Nat→Heap→Prop} {n:Nat} {h₀:Heap} (W:Walks prog w A.in1 I fp wr n P St) (hu:A.in1.units < cLine) (hSf:S∉fp) (hS0:h₀.get? S=none) (hw:∀ b∈wr,h₀.get? b=none)
    (Fl:Fills prog w h₀ S P n Z):∀ (k i:Nat) (s:Shared),n - i=k→i≤n→St i s.heap→Z i s.heap→Stays h₀ s.heap →
      (∀ h' tk,Stays h₀ h'→Z n h'→R (.ok (.ret .none)) { s with heap:=h',toks:=tk }) →
      codeAny (model prog w) A (.builtin "set.update.loop" ⟨[.ref S,.ref I],[]⟩) R s:=by
  have hSw:S∉wr:=fun h=>hSf (W.sub _ h)
  intro k
  induction k with
  | zero=>
    intro i s hk hi hst hZ hK hR
    obtain rfl:=show i=n from Nat.le_antisymm hi (Nat.sub_eq_zero_iff_le.mp hk)
    refine codeAny_builtin PyProof.Rows.F.entry_set_update_loop ?_
    rw [Around.under_plainId PyProof.Rows.F.plain_set_update_loop _]
    refine (?_:wpAny _ A.in1 (pyNext (.ref I) >>= _) _ _ s)
    refine wpAny_bind (W.done s _ _ hst fun h' tk hm=>?_)
    refine (?_:wpAny _ A.in1 (ret Value.none) _ _ _)
    obtain ⟨o,ho⟩:=Fl.live _ _ hZ
    exact wpAny_pure (hR h' tk (keeps_of hK hw hm) (Fl.frame _ _ _ hZ ((hm S o hSw ho).trans ho.symm)))
  | succ k ih=>
    intro i s hk hi hst hZ hK hR
    have hlt:i < n:=Nat.lt_of_sub_eq_succ hk
    refine codeAny_builtin PyProof.Rows.F.entry_set_update_loop ?_
    rw [Around.under_plainId PyProof.Rows.F.plain_set_update_loop _]
    refine (?_:wpAny _ A.in1 (pyNext (.ref I) >>= _) _ _ s)
    refine wpAny_bind (W.item i s _ _ hlt hst fun v h₁ tk₁ hP hst' hm=>?_)
    obtain ⟨o,ho⟩:=Fl.live _ _ hZ
    have hl1:=hm S o hSw ho
    have hK1:=keeps_of hK hw hm
    refine (?_:wpAny _ A.in1 (holding [v] (setAdd S v) >>= _) _ _ _)
    refine wpAny_bind (wpAny_holding (Fl.add i v _ _ hu hlt hP hK1 (Fl.frame _ _ _ hZ (hl1.trans ho.symm)) _ _ fun b h' tk hsb hZ'=>?_))
    have hK2:Stays h₀ h':=fun b o e=>by
      by_cases q:b=S
      · subst q; rw [hS0] at e; (injection e; done)
      · exact (hsb.2 b q).trans (hK1 b o e)
    refine wpAny_pure ⟨plainId_quiet PyProof.Rows.F.plain_set_update_loop _,ih (i+1) { s with heap:=h',toks:=tk } (by grind) hlt (W.frame _ _ _ hst' fun b hb o e=>(hsb.2 b fun q=>hSf (q▸hb)).trans e) hZ' hK2 hR⟩
noncomputable def Goes (prog:Program) (w:World) (h₀:Heap) (x:Value) (n:Nat) (P:Nat→Value→Prop):Prop:=∀ (s:Shared) (A:Around) (Q:Value→Shared→Prop) (E:Value→Shared→Prop),Stays h₀ s.heap →
  (∀ I fp wr St h',Stays s.heap h'→(∀ b∈wr,s.heap.get? b=none)→(∀ b∈fp,s.heap.get? b=none∨Live h₀ b)→(∀ A:Around,A.handled=none→Walks prog w A I fp wr n P St)→St 0 h'→Q (.ref I) { s with heap:=h' })→wpAny (model prog w) A (pyIter x) Q E s
set_option maxHeartbeats 3200000 in
theorem call_set {x:Value} {T:String} {n:Nat} {P:Nat→Value→Prop} {Z:Nat→Heap→Prop} {Q:Value→Shared→Prop} (hh:A.handled=none) (hu:A.units+100 < cLine) (hT:∀ s':Shared,Stays s.heap s'.heap→s'.TypeIs x T) (hs1:isSubtype (.type T) (.type "set")=pure false) (hs2:isSubtype (.type T) (.type "frozenset")=pure false)
    (hne:(Value.type T==Value.type "dict")=false) (go:Goes prog w s.heap x n P) (Fl:Fills prog w s.heap s.heap.objs.size P n Z)
    (h:∀ (h':Heap) (tk:Nat),Z n h'→Stays s.heap h'→Q (.ref s.heap.objs.size) { s with heap:=h',toks:=tk }):wpAny (model prog w) A (call (.type "set") [x]) Q E s:=by
  obtain ⟨c,tl,hmro⟩:=PySem.F.called_set.mro
  have hmade:=PySem.F.called_set.made
  have hsub:=PySem.F.called_set.sub
  refine wpAny_call (codeAny_of_tree ?_)
  refine (?_:wpAny _ _ (callAny (.type "set") _) _ _ _)
  refine wpAny_pure ⟨Code.quiet_builtin _ (by decide +kernel),codeAny_builtin PySem.F.entry_type_call ?_⟩
  rw [Around.under_plain (weight_type_call_type "set" [x] []) rfl]
  have h1:=PySem.F.called_set.notType
  have h2:=PySem.F.called_set.canCreate
  have hct:=PySem.F.typeCall_set_1 x
  repeat (any_goals (first | assumption | wp_step))
  refine codeAny_mono (code_set_newL x (E:=E) (Q₁:=fun obj s₁=>obj=.ref s.heap.objs.size∧s₁={ s with heap:=s.heap.push (fresh0 w) }) ⟨rfl,rfl⟩) fun r s₁ hr=>?_
  cases r with
  | error e=>exact hr
  | ok fl=>
    cases fl with
    | ret obj=>
      obtain ⟨rfl,rfl⟩:=hr
      have hS:(s.heap.push (fresh0 w)).get? s.heap.objs.size=some (fresh0 w):=Heap.get?_push_size _ rfl
      have hT1:Shared.TypeIs { s with heap:=s.heap.push (fresh0 w) } (.ref s.heap.objs.size) "set":=⟨_,hS,rfl⟩
      have hli:=PySem.F.called_set.init.lookup
      have hbi:=PySem.F.called_set.init.bind (.ref s.heap.objs.size)
      have hTx:=hT { s with heap:=s.heap.push (fresh0 w) } (stays_push _ _)
      repeat (any_goals (first | assumption | wp_step))
      refine codeAny_mono (codeAny_call_builtin (R:=wants (fun r s₂=>r=.none∧∃ h' tk,s₂={ s with heap:=h',toks:=tk }∧Z n h'∧Stays s.heap h') E) PySem.F.called_set.init.plain PySem.F.entry_set_init (check_set_init_1 hT1 ?_)) fun r₂ s₂ hr₂=>?_
      · unfold Builtin.«set.__init__» noKeywords Builtin.Frozenset.updateFrom
        generalize hPI:pyIter=PI
        wp_walk
        subst hPI
        refine go _ _ _ _ (stays_push _ _) fun I fp wr St h' hk hw hf W hst=>?_
        refine wpAny_bind (wpAny_runValue ?_)
        have hh3:A.in1.in1.in1.handled=none:=by simp [hh]
        have n0:s.heap.get? s.heap.objs.size=none:=size_none _
        refine set_loop (W _ hh3) (show A.units+1+1+1 < cLine by lia) (fun q=>?_) n0 (fun b q=>none_of (stays_push _ _).live (hw b q)) Fl (n - 0) 0 _ rfl (Nat.zero_le _) hst (Fl.start _ (hk _ _ hS)) ((stays_push _ _).trans hk) ?_
        · rcases hf _ q with q | ⟨o,q⟩
          · rw [hS] at q; (injection q; done)
          · rw [n0] at q; (injection q; done)
        · intro h'' tk hk' hz
          refine (?_:wpAny _ _ _ _ _ _)
          refine wpAny_pure ?_
          refine (?_:wpAny _ _ (ret Value.none) _ _ _)
          exact wpAny_pure ⟨rfl,h'',tk,rfl,hz,hk'⟩
      · cases r₂ with
        | error e=>exact hr₂
        | ok fl₂=>
          cases fl₂ with
          | ret r=>
            obtain ⟨rfl,h',tk,rfl,hz,hk'⟩:=hr₂
            repeat (any_goals (first | assumption | wp_step))
            exact h _ _ hz hk'
          | _=>exact hr₂.elim
    | _=>exact hr.elim
end
end Mine
end
noncomputable section
namespace Mine
open PySem PySem.Calls PyProof.Rows PySem.W
section
variable {prog:Program} {w:World} {A:Around} {E:Value→Shared→Prop} {s:Shared} {h₀:Heap}
theorem goes_list {l:Addr} {items:Array Value} (hl:h₀.IsList l items):Goes prog w h₀ (.ref l) items.size (fun i v=>items[i]?=some v):=fun s A Q E hk hQ=>by
  have hl1:s.heap.IsList l items:=hl.at (hk l)
  have hlt:l≠s.heap.objs.size:=by obtain ⟨o,ho,_⟩:=hl1; exact ne_size ho
  refine wpAny_pyIter_list hl1 (hQ _ _ _ _ _ (stays_push _ _) (fun b q=>?_) (fun b q=>?_) (fun A' hh=>Walks.list hh _ l hlt items) ⟨⟨_,Heap.get?_push_size _ rfl,rfl,rfl⟩,hl1.push _⟩)
  · obtain rfl:=List.mem_singleton.mp q; exact size_none _
  · rcases List.mem_cons.mp q with rfl | q
    · exact .inl (size_none _)
    · obtain rfl:=List.mem_singleton.mp q; obtain ⟨o,ho,_⟩:=hl; exact .inr ⟨o,ho⟩
theorem goes_str {x:Str} {t:Tok}:Goes prog w h₀ (.str x t) x.cps.size (SignAt x):=fun s A Q E hk hQ=>by
  cases ha:x.cps.all (· < 128)
  · exact wpAny_pyIter_wide ha (hQ _ _ _ _ _ (stays_push _ _) (fun b q=>by obtain rfl:=List.mem_singleton.mp q; exact size_none _) (fun b q=>by obtain rfl:=List.mem_singleton.mp q; exact .inl (size_none _)) (fun A' hh=>Walks.strWide hh _ x t) ⟨_,Heap.get?_push_size _ rfl,rfl,rfl⟩)
  · exact wpAny_pyIter_ascii ha (hQ _ _ _ _ _ (stays_push _ _) (fun b q=>by obtain rfl:=List.mem_singleton.mp q; exact size_none _) (fun b q=>by obtain rfl:=List.mem_singleton.mp q; exact .inl (size_none _)) (fun A' hh=>Walks.strAscii hh _ x t) ⟨_,Heap.get?_push_size _ rfl,rfl,rfl⟩)
theorem ded_snoc {K:Type} [DecidableEq K] (l:List K) (k:K):ded (l++[k])=if k∈ded l then ded l else ded l++[k]:=by unfold ded; rw [List.foldl_append]; rfl
theorem ded_take {K:Type} [DecidableEq K] {l:List K} {i:Nat} {k:K} (e:l[i]?=some k):ded (l.take (i+1))=if k∈ded (l.take i) then ded (l.take i) else ded (l.take i)++[k]:=by rw [List.take_add_one,e]; exact ded_snoc _ _
theorem ded_le {K:Type} [DecidableEq K] {l:List K}:∀ i,(ded (l.take i)).length≤l.length
  | 0=>Nat.zero_le _
  | i+1=>by
    suffices h:(ded (l.take (i+1))).length≤min (i+1) l.length from Nat.le_trans h (Nat.min_le_right _ _)
    induction i with
    | zero=>cases l with
      | nil=>exact Nat.le_refl _
      | cons x l=>exact Nat.le_min.mpr ⟨Nat.le_refl _,Nat.succ_le_succ (Nat.zero_le _)⟩
    | succ i ih=>
      cases e:l[i+1]? with
      | none=>
        have:l.length≤i+1:=List.getElem?_eq_none_iff.mp e
        rw [List.take_of_length_le (Nat.le_succ_of_le this)]
        rw [List.take_of_length_le this] at ih
        exact Nat.le_trans ih (by grind)
      | some k=>
        have hlt:=(List.getElem?_eq_some_iff.mp e).1
        rw [ded_take e]
        split
        · exact Nat.le_trans ih (by grind)
        · rw [List.length_append,List.length_singleton]; exact Nat.le_trans (Nat.succ_le_succ ih) (by grind)
theorem ded_map {K J:Type} [DecidableEq K] [DecidableEq J] {f:K→J} (hf:∀ a b,f a=f b→a=b) (l:List K):ded (l.map f)=(ded l).map f:=by
  have go:∀ (l acc:List K),l.foldl (fun a y=>if f y∈a then a else a++[f y]) (acc.map f)=(l.foldl (fun a y=>if y∈a then a else a++[y]) acc).map f:=fun l=>by
    induction l with
    | nil=>exact fun _=>rfl
    | cons x l ih=>
      intro acc
      have:f x∈acc.map f ↔ x∈acc:=⟨fun q=>by obtain ⟨y,m,e⟩:=List.mem_map.mp q; exact hf _ _ e▸m,fun q=>List.mem_map.mpr ⟨x,q,rfl⟩⟩
      rw [List.foldl_cons,List.foldl_cons,← ih]
      by_cases z:x∈acc
      · rw [if_pos z,if_pos (this.mpr z)]
      · rw [if_neg z,if_neg fun q=>z (this.mp q),List.map_append]; rfl
  unfold ded
  rw [List.foldl_map]; exact go l []
theorem fills_ded {K:Type} [DecidableEq K] {knd:KeyKind prog w K} {S:Addr} {P:Nat→Value→Prop} {ks:List K} (hP:∀ i v,P i v→∃ k,ks[i]?=some k∧knd.is k v=true∧v.scannable=true) (hn:ks.length+1 < scanBound) :
    Fills prog w h₀ S P ks.length (fun i h=>h.SetOf knd S (fun k=>decide (k∈ded (ks.take i))) (ded (ks.take i)).length) where
  frame:=fun i h h' ⟨o,es,ep,t,ho,r⟩ e=>⟨o,es,ep,t,e.trans ho,r⟩
  live:=fun i h ⟨o,es,ep,t,ho,r⟩=>⟨o,ho⟩
  start:=fun h ho=>SetOf_congr ((setObjOf_fresh (knd:=knd) _).setOf ho (by unfold scanBound; lia)) (fun _=>by simp [ded]) rfl
  add:=fun i v s A hu hi hp hk hZ Q E hQ=>by
    obtain ⟨k,ek,hkey,hsc⟩:=hP i v hp
    have:=ded_le (l:=ks) i
    unfold setAdd
    refine wpAny_holding (wpAny_bind (knd.pyHash hkey (wpAny_setAddHashed_of (s:={ s with toks:=s.toks+1 }) hkey hsc hZ (by lia) fun h' hsb hS=>hQ _ h' _ hsb (SetOf_congr hS (fun k'=>?_) ?_))))
    · rw [ded_take ek]
      by_cases z:k∈ded (ks.take i)
      · rw [if_pos z]
        by_cases q:k'=k
        · simp [q,z]
        · simp [q]
      · rw [if_neg z]
        by_cases q:k'=k <;> simp [q]
    · rw [ded_take ek]
      by_cases z:k∈ded (ks.take i) <;> simp [z]
theorem len_set {K:Type} [DecidableEq K] {knd:KeyKind prog w K} {a:Addr} {S:K→Bool} {n:Nat} {Q:Value→Shared→Prop} (hS:s.heap.SetOf knd a S n) (h:∀ t tk,Q (.int n t) { s with toks:=tk }):wpAny (model prog w) A (call (.builtin "len") [.ref a]) Q E s:=by
  obtain ⟨o,es,ep,t,ho,hex,hd,hel,hmem,hb,hf,hn⟩:=hS
  subst hn
  refine Calls.call_function_entry kind_len plain_len entry_len (args_len1 _) ?_
  exact wpAny_len_body_set ho hex hd hf (by unfold scanBound at hb; lia) (h _ _)
end
end Mine
end
noncomputable section
namespace Mine
open PySem PySem.Calls PyProof.Rows PySem.W
theorem kOf_inj {x y:V} (hx:scalar x=true) (hy:scalar y=true) (e:kOf x=kOf y):x=y:=by
  cases x <;> first | ((injection hx; done); done) | (cases y <;> first | ((injection hy; done); done) | ((first | (injection e; done) | (injection e with e; subst e)); done) | ((injection e with e; subst e); rfl))
theorem kOfs_inj:∀ {l m:List V},l.all scalar=true→m.all scalar=true→l.map kOf=m.map kOf→l=m
  | [],[],_,_,_=>rfl
  | [],_ :: _,_,_,e=>nomatch e
  | _ :: _,[],_,_,e=>nomatch e
  | x :: l,y :: m,hl,hm,e=>by
    have hl:=(Bool.and_eq_true _ _).mp hl
    have hm:=(Bool.and_eq_true _ _).mp hm
    have e:=List.cons.inj e
    rw [kOf_inj hl.1 hm.1 e.1,kOfs_inj hl.2 hm.2 e.2]
section
variable {g:Gl} {bad:Addr→Prop} {h h':Heap} {v:Value} {x:V} {vs ws:List Value} {l m:List V}
theorem items_of (r:RpAll g bad h vs l):l.all scalar=true→ItemsAre (scKind g.prog g.w) (l.map kOf) vs:=
  r.ind (D:=fun vs l=>l.all scalar=true→ItemsAre (scKind g.prog g.w) (l.map kOf) vs) (fun _=>.nil) fun v vs x l r _ ih q=>by
    have q:=(Bool.and_eq_true _ _).mp q
    refine .cons ?_ (ih q.2)
    cases r with
    | int i t=>exact (by simp [Value.isInt]:Value.isInt i (.int i t)=true)
    | str y t=>exact (by simp [Value.isStrOf]:Value.isStrOf y (.str y t)=true)
    | _=>(injection q.1; done)
theorem key_of (r:Rp g bad h v (.tuple l)) (q:l.all scalar=true):∃ c,v=.ref c∧IsTupleKey (scKind g.prog g.w) h (l.map kOf) c:=
  r.tuple_elim fun a o vs n _ ha hc hd hl=>⟨a,rfl,o,vs,n,ha,hc,hd,items_of hl q⟩
theorem key_keep {ks:List Sc} {c:Addr} (k:Stays h h') (x:IsTupleKey (scKind g.prog g.w) h ks c):IsTupleKey (scKind g.prog g.w) h' ks c:=let ⟨o,vs,n,ho,r⟩:=x; ⟨o,vs,n,k _ _ ho,r⟩
theorem RpAll.of_mem (r:RpAll g bad h vs l):v∈vs→∃ y∈l,Rp g bad h v y:=r.ind (D:=fun vs l=>v∈vs→∃ y∈l,Rp g bad h v y) (fun q=>nomatch q) fun u vs y l r _ ih q=>by
  rcases List.mem_cons.mp q with rfl | q
  · exact ⟨y,.head _,r⟩
  · obtain ⟨z,m,p⟩:=ih q; exact ⟨z,.tail _ m,p⟩
theorem RpAll.mem (r:RpAll g bad h vs l):x∈l→∃ u∈vs,Rp g bad h u x:=r.ind (D:=fun vs l=>x∈l→∃ u∈vs,Rp g bad h u x) (fun q=>nomatch q) fun u vs y l r _ ih q=>by
  rcases List.mem_cons.mp q with rfl | q
  · exact ⟨u,.head _,r⟩
  · obtain ⟨z,m,p⟩:=ih q; exact ⟨z,.tail _ m,p⟩
theorem RpAll.perm (p:ws.Perm vs):∀ {l},RpAll g bad h vs l→∃ m,m.Perm l∧RpAll g bad h ws m:=by
  induction p with
  | nil=>exact fun r=>⟨_,.refl _,r⟩
  | cons v _ ih=>
    intro l r
    cases r with
    | cons a r=>obtain ⟨m,p,q⟩:=ih r; exact ⟨_,.cons _ p,.cons a q⟩
  | swap v u _=>
    intro l r
    cases r with
    | cons a r=>cases r with
      | cons b r=>exact ⟨_,.swap _ _ _,.cons b (.cons a r)⟩
  | trans _ _ ih1 ih2=>
    intro l r
    refine genG fun Z4 kZ4=>?_
    obtain ⟨m,p,r⟩:=ih2 r
    obtain ⟨n,p',r⟩:=ih1 r
    refine kZ4 ?_
    exact ⟨n,p'.trans p,r⟩
theorem way_elim {C:V→Prop} (e:wayV x=true) (k:∀ t l,(PyData.str t :: l).all scalar=true→C (.tuple (.str t :: l))):C x:=by
  revert e
  cases x with
  | tuple l=>cases l with
    | nil=>exact fun e=>nomatch e
    | cons y l=>cases y with
      | str t=>exact fun e=>k _ _ e
      | _=>exact fun e=>nomatch e
  | _=>exact fun e=>nomatch e
theorem way_key (e:wayV x=true) (r:Rp g bad h v x):∃ c,v=.ref c∧IsTupleKey (scKind g.prog g.w) h (keysOf x) c:=way_elim (C:=fun x=>Rp g bad h v x→∃ c,v=.ref c∧IsTupleKey (scKind g.prog g.w) h (keysOf x) c) e (fun t l q r=>key_of r q) r
theorem keys_inj {y:V} (e:wayV x=true) (e':wayV y=true) (q:keysOf y=keysOf x):y=x:=
  way_elim (C:=fun x=>keysOf y=keysOf x→y=x) e (fun t l hl q=>way_elim (C:=fun y=>keysOf y=keysOf (.tuple (.str t :: l))→y=.tuple (.str t :: l)) e' (fun t' l' hl' q=>congrArg _ (kOfs_inj hl' hl q)) q) q
theorem keys_head (e:wayV x=true):∃ t ks,keysOf x=.inr t :: ks:=way_elim (C:=fun x=>∃ t ks,keysOf x=.inr t :: ks) e fun t l _=>⟨t,l.map kOf,rfl⟩
theorem no_get {α:Type} {i:Nat} {a:α} {C:Prop} (e:(#[]:Array α)[i]?=some a):C:=by simp at e
theorem tab0 {L:Bool}:Tab (SetTable.fresh 0 0 L) (#[]:Array (Int×Value)):=⟨.inl rfl,rfl,rfl,fun _ _ _ _ _ e=>no_get e,fun _ _ e=>no_get e,fun _ _ _ e=>no_get e⟩
noncomputable def WaySet (g:Gl) (bad:Addr→Prop) (h₀:Heap) (S:Addr) (l:List V) (i:Nat) (h:Heap):Prop:=
  ∃ es r,TS h S es (!g.w.params.followText "set-order")∧Ents (scKind g.prog g.w) h₀ es.toList∧RpAll g bad h₀ (es.toList.map (·.2)) r∧r.Nodup∧∀ y,y∈r ↔ y∈l.take i
theorem rps_size {es:Array (Int×Value)} {r:List V} (q:RpAll g bad h (es.toList.map (·.2)) r):es.size=r.length:=by
  have:=q.length
  rwa [List.length_map,Array.length_toList] at this
theorem fills_ways {S:Addr} {vs:Array Value} (r:RpAll g bad h vs.toList l) (hw:∀ x∈l,wayV x=true) {few:List V} (hfw:∀ x∈l,x∈few) (hn:few.length < 200):Fills g.prog g.w h S (fun i v=>vs[i]?=some v) vs.size (WaySet g bad h S l) where
  frame:=fun i h h' ⟨es,r,⟨o,ep,t,ho,q⟩,q'⟩ e=>⟨es,r,⟨o,ep,t,e.trans ho,q⟩,q'⟩
  live:=fun i h ⟨es,r,⟨o,ep,t,ho,q⟩,q'⟩=>⟨o,ho⟩
  start:=fun h ho=>⟨#[],[],⟨_,_,_,ho,⟨rfl,rfl,rfl⟩,rfl,tab0,Nat.zero_lt_succ 20,rfl,.inl rfl⟩,fun e m=>(nomatch m),.nil,.nil,fun y=>⟨fun q=>(nomatch q),fun q=>(nomatch q)⟩⟩
  add:=fun i v s A hu hi hp hk hZ Q E hQ=>by
    obtain ⟨es,R,T,he,hr,hd,hm⟩:=hZ
    have hsz:=r.length
    rw [Array.length_toList] at hsz
    obtain ⟨x,hx⟩:∃ x,l[i]?=some x:=⟨_,List.getElem?_eq_getElem (hsz▸hi)⟩
    obtain ⟨v',ev,rv⟩:=r.get hx
    replace ev:=hp▸(Array.getElem?_toList)▸ev
    (injection ev with ev; subst ev)
    have hxw:=hw x (List.mem_of_getElem? hx)
    obtain ⟨c,rfl,k⟩:=way_key hxw rv
    obtain ⟨t,ks,eh⟩:=keys_head hxw
    have mem1:∀ y,y∈l.take (i+1) ↔ y∈R∨y=x:=fun y=>by rw [List.take_add_one,hx,List.mem_append,hm]; simp
    have he':Ents (scKind g.prog g.w) s.heap es.toList:=fun e me=>let ⟨ks,c,q,z⟩:=he e me; ⟨ks,c,q,key_keep hk z⟩
    have inR:x∈R ↔ ∃ e∈es.toList,IsK (scKind g.prog g.w) s.heap (.inr t :: ks) e:=by
      refine eh▸?_
      constructor
      · intro q
        obtain ⟨u,mu,ru⟩:=hr.mem q
        obtain ⟨e,me,rfl⟩:=List.mem_map.mp mu
        obtain ⟨ks',c',rfl,z⟩:=he e me
        obtain ⟨c2,e2,k2⟩:=way_key hxw ru
        (injection e2 with e2; subst e2)
        obtain rfl:=z.inj k2
        exact ⟨_,me,c',rfl,key_keep hk z⟩
      · rintro ⟨e,me,c',rfl,z⟩
        obtain ⟨y,my,ry⟩:=hr.of_mem (List.mem_map.mpr ⟨_,me,rfl⟩)
        have hy:=hw y (List.mem_of_mem_take ((hm y).mp my))
        obtain ⟨c2,e2,k2⟩:=way_key hy ry
        (injection e2 with e2; subst e2)
        exact keys_inj hxw hy ((key_keep hk k2).inj z)▸my
    replace k:=eh▸k
    refine set_add_ok hu T he' (key_keep hk k) (by have:=hd.length_le_of_subset (l₂:=few) fun y q=>hfw y (List.mem_of_mem_take ((hm y).mp q)); rw [rps_size hr]; lia) (fun q tk=>?_) fun h' es' tk sb T' p q=>?_
    · have q:=inR.mpr q
      exact hQ _ s.heap tk (.refl _ _) ⟨es,R,T,he,hr,hd,fun y=>by rw [mem1]; exact ⟨.inl,fun z=>z.elim id fun z=>z▸q⟩⟩
    · obtain ⟨R',pR,rR⟩:=RpAll.perm (p.map Prod.snd) (RpAll.cons rv hr)
      refine hQ _ h' tk sb ⟨es',R',T',fun e me=>?_,rR,pR.nodup_iff.mpr (List.nodup_cons.mpr ⟨fun z=>?_,hd⟩),fun y=>?_⟩
      · rcases List.mem_cons.mp (p.mem_iff.mp me) with rfl | me
        · exact ⟨_,c,rfl,k⟩
        · exact he e me
      · obtain ⟨e,me,ie⟩:=inR.mp z; exact q e me ie
      · rw [pR.mem_iff,mem1,List.mem_cons]; exact or_comm
end
end Mine
end
noncomputable section
namespace Mine
open PySem PySem.Calls PyProof.Rows PySem.W
theorem slot_setit_next:PySem.Slot "set_iterator" "__next__" "set_iterator.__next__":=
  .of (owner:="set_iterator") (n:="__next__") (by rw [typeLookup_type,builtinLookup_eq_fast]; kernel_rfl) (by decide +kernel) (by decide +kernel) (by decide +kernel)
    (by first | exact .inl (by decide +kernel) | exact .inr (by decide +kernel)) (by rw [isSubtype_type]; kernel_rfl)
theorem entry_setit_next:entryFor table "set_iterator.__next__"=some Builtin.«set_iterator.__next__»:=entryFor_of_tree (by kernel_rfl)
theorem args_setit_next (a:Value):argsOk "set_iterator.__next__" ⟨[a],[]⟩:=by unfold argsOk; kernel_rfl
theorem entry_set_iter:entryFor table "set.__iter__"=some Builtin.«frozenset.__iter__»:=entryFor_alias (id':="frozenset.__iter__") (by kernel_rfl) rfl (by decide +kernel) (by kernel_rfl)
section
variable {prog:Program} {w:World} {A:Around} {E:Value→Shared→Prop} {s:Shared}
noncomputable abbrev sitObj (ff:Value) (i:Nat) (S:Addr) (n ep:Nat):Obj:={ cls:=.type "set_iterator",data:=.fields #[ff,.int i 0,.ref S,.int n 0,.int ep 0] }
theorem stop_ok {Q:Option Value→Shared→Prop} {P:Fin→Shared→Prop} (hh:A.handled=none) (h:∀ h',Stays s.heap h'→Q none { s with heap:=h' }) :
    wpAny (model prog w) A.in1 (newExc (.type "StopIteration") [] >>= fun e=>raiseNew e) P (fun e s'=>wpAny (model prog w) A (isInstance e (.type "StopIteration") >>= fun b=>if b=true then pure none else throw e) Q E s') s:=by
  refine wpAny_bind (wpAny_bind (wpAny_newObj_type (wpAny_bind (wpAny_of_eq (a:=Value.none) rfl (wpAny_newObj_type ?_ (by size_fits)))) (by size_fits)))
  refine wpAny_raiseNew_none (hh:A.in1.handled=none) ?_
  refine wpAny_bind (wpAny_isInstance (T:="StopIteration") (b:=true) ⟨_,Heap.get?_push_size _ rfl,rfl⟩ isSubtype_stop ?_)
  exact wpAny_pure (h _ ((stays_push _ _).trans (stays_push _ _)))
theorem set_fld {I:Addr} {vs:Array Value} {j:Nat} {v:Value} {Q:Unit→Shared→Prop} (ho:s.heap.get? I=some { cls:=.type "set_iterator",data:=.fields vs }) (hj:j < vs.size) (h:∀ h',h'.get? I=some { cls:=.type "set_iterator",data:=.fields (vs.setIfInBounds j v) }→Heap.SameBut I s.heap h'→Q () { s with heap:=h' }) :
    wpAny (model prog w) A (setField (.ref I) j v) Q E s:=
  wpAny_setField ho rfl hj (h _ (Heap.get?_update_self _ ho rfl) (Heap.SameBut.update ..))
theorem next_set {I S:Addr} {o:Obj} {es:Array (Int×Value)} {ep i:Nat} {t:SetTable} {ff f':Value} {r:Option Value} {Q:Option Value→Shared→Prop} (hh:A.handled=none)
    (hI:s.heap.get? I=some (sitObj ff i S es.size ep)) (ho:s.heap.get? S=some o) (hd:o.data=.set es ep t) (hf:t.fits es.size=true)
    (hn:(∃ (slot nx:Nat) (tk:Tok),ff=.int slot tk∧f'=.int nx 0∧∀ (A:Around) (Q:Option (Value×Nat)→Shared→Prop) (E:Value→Shared→Prop),Q (r.map fun x=>(x,nx)) s→wpAny (model prog w) A (setNext S slot i ep) Q E s) ∨
      ∃ F ol items n',ff=.ref F∧f'=ff∧s.heap.get? F=some ol∧ol.data=.seq items n'∧((r=none∧items[i]?=none)∨∃ (p:Nat) (tk:Tok) (x:Value) (e:Int),r=some x∧items[i]?=some (.int p tk)∧es[p]?=some (e,x)))
    (hQ:∀ x,r=some x→∀ h',h'.get? I=some (sitObj f' (i+1) S es.size ep)→Heap.SameBut I s.heap h'→Q (some x) { s with heap:=h' })
    (hE:r=none→∀ h',(∀ b o,b≠I→s.heap.get? b=some o→h'.get? b=some o)→Q none { s with heap:=h' }):wpAny (model prog w) A (pyNext (.ref I)) Q E s:=by
  have hT:s.TypeIs (.ref I) "set_iterator":=⟨_,hI,rfl⟩
  refine wpAny_bind (wpAny_attempt (wpAny_callSpecial?_slot (name:=Str.ofString "__next__") hT slot_setit_next (wpAny_call_entry slot_setit_next hT entry_setit_next ?_ (args_setit_next _))))
  refine wpAny_bind (wpAny_pure ?_)
  refine wpAny_bind (wpAny_fieldsOf hI rfl ?_)
  refine wpAny_bind (wpAny_bind (wpAny_setState_of ho hd hf (wpAny_pure ?_)))
  refine wpAny_else (by simp) ?_
  have ext:∀ {h1 h2:Heap},Heap.SameBut I s.heap h1→Stays h1 h2→∀ b o,b≠I→s.heap.get? b=some o→h2.get? b=some o:=fun a k b o q e=>k b o ((a.2 b q).trans e)
  rcases hn with ⟨slot,nx,tk,rfl,rfl,hn⟩ | ⟨F,ol,items,n',rfl,rfl,hol,hdl,hn⟩
  · refine wpAny_bind (hn _ _ _ ?_)
    cases r with
    | none=>exact wpAny_bind (set_fld hI (by simp) fun h1 _ sb=>stop_ok hh fun h2 k=>hE rfl _ (ext sb k))
    | some x=>exact wpAny_bind (set_fld hI (by simp) fun h1 g1 sb=>wpAny_bind (set_fld g1 (by simp) fun h2 g2 sb2=>wpAny_pure ⟨x,rfl,wpAny_pure (hQ x rfl h2 g2 (sb.trans sb2))⟩))
  · refine wpAny_bind (wpAny_seqItems hol hdl ?_)
    dsimp only
    rcases hn with ⟨rfl,hi⟩ | ⟨p,tk,x,e,rfl,hi,he⟩
    · exact (hi:items[(i:Int).toNat]?=_).symm▸wpAny_bind (set_fld hI (by simp) fun h1 g1 sb=>wpAny_bind (set_fld g1 (by simp) fun h2 g2 sb2=>stop_ok hh fun h3 k=>hE rfl _ (ext (sb.trans sb2) k)))
    · refine (hi:items[(i:Int).toNat]?=_).symm▸wpAny_bind (wpAny_bind (wpAny_setState_of ho hd hf (wpAny_else (by simp) ?_)))
      exact (he:es[(p:Int).toNat]?=_).symm▸wpAny_pure (wpAny_bind (set_fld hI (by simp) fun h1 g1 sb=>wpAny_pure ⟨x,rfl,wpAny_pure (hQ x rfl h1 g1 sb)⟩))
theorem wpAny_choose {M:Model} {src:Source} {n:Nat} {Q:Nat→Shared→Prop} (hn:n≠0) (h:∀ i d,i < n→Q i { s with drawn:=d }):wpAny M A (choose src n) Q E s:=fun Γ p hΓ=>by
  unfold choose
  rw [Sem.wp_choose]
  exact ⟨hn,h _ _ (Nat.mod_lt _ (Nat.pos_of_ne_zero hn))⟩
theorem eraseIdx_perm {α:Type} {x:α}:∀ {l:List α} {i:Nat},l[i]?=some x→(x :: l.eraseIdx i).Perm l
  | [],_,h=>nomatch h
  | y :: l,0,h=>by (injection h with h; subst h); exact .refl _
  | y :: l,i+1,h=>(List.Perm.swap y x _).trans (.cons y (eraseIdx_perm (l:=l) h))
theorem draw_ok {α:Type} {M:Model}:∀ (n:Nat) (xs:List α) (s:Shared) {Q:List α→Shared→Prop},xs.length=n→(∀ ys d,ys.Perm xs→Q ys { s with drawn:=d })→wpAny M A (drawOrder n xs) Q E s
  | 0,xs,s,Q,hl,h=>by obtain rfl:=List.length_eq_zero_iff.mp hl; exact wpAny_pure (h [] s.drawn (.refl _))
  | n+1,[],s,Q,hl,h=>nomatch hl
  | n+1,x :: xs,s,Q,hl,h=>by
    refine wpAny_bind (wpAny_choose (by rw [hl]; exact Nat.succ_ne_zero n) fun i d hi=>?_)
    have e:(x :: xs)[i]?=some (x :: xs)[i]:=List.getElem?_eq_getElem hi
    rw [e]
    refine wpAny_bind (draw_ok n _ _ (by rw [List.length_eraseIdx_of_lt hi,hl]; rfl) fun ys d' p=>wpAny_pure (h _ d' ((List.Perm.cons _ p).trans (eraseIdx_perm e))))
theorem pick_ok {α:Type} (f:Nat→Nat):∀ (n k:Nat) (l:List α) (o:Array α),l.length=n→(pickOrder.go f n k l o).toList.Perm (o.toList++l)
  | 0,k,l,o,h=>by obtain rfl:=List.length_eq_zero_iff.mp h; refine (?_:o.toList.Perm _); rw [List.append_nil]
  | n+1,k,l,o,h=>by
    have hi:f k % l.length < l.length:=Nat.mod_lt _ (by rw [h]; exact Nat.succ_pos n)
    have e:l[f k % l.length]?=some l[f k % l.length]:=List.getElem?_eq_getElem hi
    rw [show pickOrder.go f (n+1) k l o=(match l[f k % l.length]? with | some x=>pickOrder.go f n (k+1) (l.eraseIdx (f k % l.length)) (o.push x) | none=>o) from rfl,e]
    refine (pick_ok f n (k+1) _ _ (by rw [List.length_eraseIdx_of_lt hi,h]; rfl)).trans ?_
    rw [Array.toList_push,List.append_assoc]
    exact .append_left _ (eraseIdx_perm e)
theorem pick_perm {α:Type} (f:Nat→Nat) (xs:Array α):(pickOrder f xs).toList.Perm xs.toList:=pick_ok f _ 0 _ #[] Array.length_toList
end
end Mine
end
noncomputable section
namespace Mine
open PySem PySem.Calls PyProof.Rows PySem.W
theorem slot_setit_iter:PySem.Slot "set_iterator" "__iter__" "set_iterator.__iter__":=
  .of (owner:="set_iterator") (n:="__iter__") (by rw [typeLookup_type,builtinLookup_eq_fast]; kernel_rfl) (by decide +kernel) (by decide +kernel) (by decide +kernel)
    (by first | exact .inl (by decide +kernel) | exact .inr (by decide +kernel)) (by rw [isSubtype_type]; kernel_rfl)
theorem entry_setit_iter:entryFor table "set_iterator.__iter__"=some Builtin.«dict_keyiterator.__iter__»:=entryFor_alias (id':="dict_keyiterator.__iter__") (by kernel_rfl) rfl (by decide +kernel) (by kernel_rfl)
theorem args_setit_iter (a:Value):argsOk "set_iterator.__iter__" ⟨[a],[]⟩:=by unfold argsOk; kernel_rfl
section
variable {prog:Program} {w:World} {A:Around} {E:Value→Shared→Prop} {s:Shared} {I S:Addr} {o:Obj} {es:Array (Int×Value)} {ep:Nat} {t:SetTable} {ord:List Value}
theorem setit_self {Q:Value→Shared→Prop} {ob:Obj} (hI:s.heap.get? I=some ob) (hc:ob.cls=.type "set_iterator") (h:Q (.ref I) s):wpAny (model prog w) A (pyIter (.ref I)) Q E s:=by
  have hT:s.TypeIs (.ref I) "set_iterator":=⟨_,hI,hc⟩
  refine wpAny_pyIter_slot hT slot_setit_iter (wpAny_call_entry slot_setit_iter hT entry_setit_iter ?_ (args_setit_iter _))
  refine wpAny_bind (wpAny_pure ?_)
  exact wpAny_pure ⟨_,rfl, "set_iterator",_,hT,slot_setit_next.lookup,h⟩
noncomputable abbrev NextIs (prog:Program) (w:World) (S:Addr) (o:Obj) (i ep slot:Nat) (r:Option (Value×Nat)):Prop:=∀ (s:Shared),s.heap.get? S=some o→∀ (A:Around) (Q:Option (Value×Nat)→Shared→Prop) (E:Value→Shared→Prop),Q r s→wpAny (model prog w) A (setNext S slot i ep) Q E s
theorem mem2 {a b c:Addr} {C:Addr→Prop} (m:c∈[a,b]) (ha:C a) (hb:C b):C c:=by
  rcases List.mem_cons.mp m with rfl | m
  · exact ha
  · obtain rfl:=List.mem_singleton.mp m; exact hb
theorem walks_int (hh:A.handled=none) (hne:S≠I) (hd:o.data=.set es ep t) (hf:t.fits es.size=true) (Sl:Nat→Nat→Prop)
    (hs:∀ i slot,Sl slot i→i < es.size→∃ x nx,ord[i]?=some x∧Sl nx (i+1)∧NextIs prog w S o i ep slot (some (x,nx))) (he:∀ slot,Sl slot es.size→NextIs prog w S o es.size ep slot none) :
    Walks prog w A I [I,S] [I] es.size (fun i v=>ord[i]?=some v) (fun i h=>h.get? S=some o∧∃ slot tk,Sl slot i∧h.get? I=some (sitObj (.int slot tk) i S es.size ep)) where
  sub:=fun b m=>by obtain rfl:=List.mem_singleton.mp m; exact .head _
  frame:=fun i h h' ⟨a,slot,tk,b,c⟩ k=>⟨k S (.tail _ (.head _)) _ a,slot,tk,b,k I (.head _) _ c⟩
  item:=fun i s Q E hi ⟨a,slot,tk,b,c⟩ hQ=>by
    refine genG fun Z1 kZ1=>?_
    obtain ⟨x,nx,e1,e2,e3⟩:=hs i slot b hi
    refine kZ1 ?_
    refine next_set (r:=some x) (f':=.int nx 0) hh c a hd hf (.inl ⟨slot,nx,tk,rfl,rfl,e3 s a⟩) (fun y ey h' hI sb=>?_) fun q=>nomatch q
    (injection ey with ey; subst ey)
    exact hQ x h' s.toks e1 ⟨(sb.2 S hne).trans a,nx,0,e2,hI⟩ fun b o m e=>(sb.2 b fun q=>m (q▸.head _)).trans e
  done:=fun s Q E ⟨a,slot,tk,b,c⟩ hQ=>next_set (r:=none) (f':=.int 0 0) hh c a hd hf (.inl ⟨slot,0,tk,rfl,rfl,he slot b s a⟩) (fun y ey=>nomatch ey) fun _ h' k=>hQ h' s.toks fun b o m e=>k b o (fun q=>m (q▸.head _)) e
  self:=fun i s Q E ⟨a,slot,tk,b,c⟩ h=>setit_self c rfl h
theorem walks_ref (hh:A.handled=none) (hne:S≠I) (hd:o.data=.set es ep t) (hf:t.fits es.size=true) {F:Addr} {ol:Obj} {items:Array Value} {n':Nat} (hF:F≠I) (hdl:ol.data=.seq items n') (hz:items.size=es.size)
    (hs:∀ i,i < es.size→∃ (p:Nat) (tk:Tok) (x:Value) (e:Int),ord[i]?=some x∧items[i]?=some (.int p tk)∧es[p]?=some (e,x)) :
    Walks prog w A I [I,S,F] [I] es.size (fun i v=>ord[i]?=some v) (fun i h=>h.get? S=some o∧h.get? F=some ol∧h.get? I=some (sitObj (.ref F) i S es.size ep)) where
  sub:=fun b m=>by obtain rfl:=List.mem_singleton.mp m; exact .head _
  frame:=fun i h h' ⟨a,b,c⟩ k=>⟨k S (.tail _ (.head _)) _ a,k F (.tail _ (.tail _ (.head _))) _ b,k I (.head _) _ c⟩
  item:=fun i s Q E hi ⟨a,b,c⟩ hQ=>by
    refine genG fun Z2 kZ2=>?_
    obtain ⟨p,tk,x,e,e1,e2,e3⟩:=hs i hi
    refine kZ2 ?_
    refine next_set (r:=some x) (f':=.ref F) hh c a hd hf (.inr ⟨F,ol,items,n',rfl,rfl,b,hdl,.inr ⟨p,tk,x,e,rfl,e2,e3⟩⟩) (fun y ey h' hI sb=>?_) fun q=>nomatch q
    (injection ey with ey; subst ey)
    exact hQ x h' s.toks e1 ⟨(sb.2 S hne).trans a,(sb.2 F hF).trans b,hI⟩ fun b o m e=>(sb.2 b fun q=>m (q▸.head _)).trans e
  done:=fun s Q E ⟨a,b,c⟩ hQ=>next_set (r:=none) (f':=.ref F) hh c a hd hf (.inr ⟨F,ol,items,n',rfl,rfl,b,hdl,.inl ⟨rfl,Array.getElem?_eq_none (Nat.le_of_eq hz)⟩⟩) (fun y ey=>nomatch ey) fun _ h' k=>hQ h' s.toks fun b o m e=>k b o (fun q=>m (q▸.head _)) e
  self:=fun i s Q E ⟨a,b,c⟩ h=>setit_self c rfl h
theorem next_text {i slot:Nat} {r:Option (Value×Nat)} (hB:w.params.followText "set-order"=true) (hd:o.data=.set es ep t) (hf:t.fits es.size=true) (e:((pickOrder (w.params.setOrder S ep) es)[i]?).map (fun e=>(e.2,slot))=r):NextIs prog w S o i ep slot r:=fun s ho A Q E h=>by
  skip
  refine wpAny_bind (wpAny_setState_of ho hd hf ?_)
  refine wpAny_bind (wpAny_bind (wpAny_askSetting (wpAny_pure ?_)))
  rw [show (Setting.mk (model prog w).prog (model prog w).w.params).params.followText "set-order"=true from hB,if_pos rfl,if_neg (by simp)]
  unfold setWalk
  refine wpAny_bind (wpAny_bind (wpAny_setState_of ho hd hf ?_))
  refine wpAny_bind (wpAny_bind (wpAny_askSetting (wpAny_pure ?_)))
  refine (show (Setting.mk (model prog w).prog (model prog w).w.params).params.followText "set-order"=true from hB).symm▸(if_pos rfl).symm▸?_
  refine wpAny_bind (wpAny_askSetting (wpAny_pure (wpAny_pure ?_)))
  exact e▸h
theorem next_few {i slot:Nat} {r:Option (Value×Nat)} (hB:w.params.followText "set-order"=false) (hd:o.data=.set es ep t) (hf:t.fits es.size=true) (hl:t.led=true) (hn:es.size≤1)
    (e:(match es[SetTable.below t.place slot]?,t.place[SetTable.below t.place slot]? with | some (_,x),some j=>some (x,j+1) | _,_=>none)=r):NextIs prog w S o i ep slot r:=fun s ho A Q E h=>by
  skip
  refine wpAny_bind (wpAny_setState_of ho hd hf ?_)
  refine wpAny_bind (wpAny_bind (wpAny_askSetting (wpAny_pure ?_)))
  refine (show (Setting.mk (model prog w).prog (model prog w).w.params).params.followText "set-order"=false from hB).symm▸(if_neg Bool.false_ne_true).symm▸?_
  refine wpAny_else (show ¬ (!t.plain&&decide (es.size > 1))=true by simp; omega) ?_
  refine wpAny_bind (wpAny_else (show ¬ (!t.led&&!es.isEmpty)=true by simp [hl]) (wpAny_pure ?_))
  refine wpAny_pure ?_
  subst e; exact h
theorem iter_set {L:Bool} {Q:Value→Shared→Prop} (hL:L = !w.params.followText "set-order") (T:TS s.heap S es L)
    (h:∀ (ord:List Value) I fp wr St h' d,ord.Perm (es.toList.map (·.2))→Stays s.heap h'→(∀ b∈wr,s.heap.get? b=none)→(∀ b∈fp,s.heap.get? b=none∨b=S)→(∀ A:Around,A.handled=none→Walks prog w A I fp wr es.size (fun i v=>ord[i]?=some v) St)→St 0 h'→Q (.ref I) { s with heap:=h',drawn:=d }) :
    wpAny (model prog w) A (pyIter (.ref S)) Q E s:=by
  refine genG fun Z3 kZ3=>?_
  obtain ⟨o,ep,t,ho,hex,hd,T,hr,hl,hp⟩:=T
  refine kZ3 ?_
  have hf:t.fits es.size=true:=T.fits (by have:=T.msk; lia)
  have hT:s.TypeIs (.ref S) "set":=⟨_,ho,hex.1⟩
  refine wpAny_pyIter_slot hT PySem.F.slot_set_iter (wpAny_call_entry PySem.F.slot_set_iter hT entry_set_iter ?_ (PySem.F.args_set_iter_1 _))
  unfold Builtin.«frozenset.__iter__»
  refine wpAny_bind (wpAny_bind (wpAny_pure (wpAny_pure ?_)))
  refine wpAny_bind (wpAny_bind (wpAny_bind (wpAny_setState_of ho hd hf (wpAny_pure (wpAny_pure ?_)))))
  skip
  refine wpAny_bind (wpAny_bind (wpAny_setState_of ho hd hf ?_))
  refine wpAny_bind (wpAny_bind (wpAny_askSetting (wpAny_pure (wpAny_pure ?_))))
  have hle:es.size≤511:=by have:=T.msk; rcases this with q | q | q | q <;> lia
  extract_lets jp
  have hjp:∀ (s1:Shared) ff,s1.heap.get? S=some o→(∀ h',h'.get? s1.heap.objs.size=some (sitObj ff 0 S es.size ep)→Stays s1.heap h'→Q (.ref s1.heap.objs.size) { s1 with heap:=h' }) →
      wpAny (model prog w) A.in1 (jp ff) (fun fin s'=>∃ v,fin=.done (.ret v)∧∃ T' r,s'.TypeIs v T'∧typeLookup (.type T') (Str.ofString "__next__")=pure (some r)∧Q v s') E s1:=fun s1 ff h1 hq=>by
    refine wpAny_bind (wpAny_setEpoch_of h1 hd hf ?_)
    refine wpAny_bind (wpAny_newObj_type ?_)
    exact wpAny_pure ⟨_,rfl, "set_iterator",_,⟨_,Heap.get?_push_size _ rfl,rfl⟩,slot_setit_next.lookup,hq _ (Heap.get?_push_size _ rfl) (stays_push _ _)⟩
  have nI:∀ (h1:Heap),Stays s.heap h1→s.heap.get? h1.objs.size=none:=fun h1 k=>none_of k.live (size_none _)
  refine wpAny_ite_split (fun c=>?_) fun c=>?_
  · refine wpAny_bind (draw_ok _ _ _ List.length_range fun ys d py=>?_)
    refine wpAny_bind (wpAny_newTuple ?_ (by rw [List.length_map,py.length_eq,List.length_range]; exact Nat.le_trans hle (by decide)))
    have k1:Stays s.heap (s.heap.push { cls:=.type "tuple",data:=.seq (ys.map fun (i:Nat)=>rawInt i).toArray 0 }):=stays_push _ _
    have hy:∀ a∈ys,(es.toList[a]?).isSome:=fun a m=>by
      rw [List.getElem?_eq_getElem (by rw [Array.length_toList]; exact List.mem_range.mp (py.mem_iff.mp m))]; rfl
    refine hjp _ _ (k1 _ _ ho) fun h' hI k=>h ((ys.filterMap (es.toList[·]?)).map (·.2)) _ _ _ _ h' d ?_ (k1.trans k) (fun b m=>?_) (fun b m=>?_) (fun A hh=>walks_ref hh (ne_size (k1 _ _ ho)) hd hf (F:=s.heap.objs.size) (Nat.ne_of_lt (by rw [Heap.size_push]; exact Nat.lt_succ_self _)) (rfl:Obj.data { cls:=.type "tuple",data:=.seq (ys.map fun (i:Nat)=>rawInt i).toArray 0 }=_) (by simp [py.length_eq]) fun i hi=>?_) ⟨(k1.trans k) _ _ ho,k _ _ (Heap.get?_push_size _ rfl),hI⟩
    · refine (List.Perm.map _ ((List.Perm.filterMap _ py).trans (.of_eq ?_)))
      exact Array.length_toList▸filterMap_range _
    · obtain rfl:=List.mem_singleton.mp m; exact nI _ k1
    · rcases List.mem_cons.mp m with rfl | m
      · exact .inl (nI _ k1)
      · exact mem2 (C:=fun b=>s.heap.get? b=none∨b=S) m (.inr rfl) (.inl (size_none _))
    · have hl':i < ys.length:=by rw [py.length_eq,List.length_range]; exact hi
      have ep:ys[i] < es.size:=List.mem_range.mp (py.mem_iff.mp (List.getElem_mem hl'))
      refine ⟨ys[i],0,es[ys[i]].2,es[ys[i]].1,?_,?_,Array.getElem?_eq_getElem ep⟩
      · rw [List.getElem?_map,filterMap_get hy,List.getElem?_eq_getElem hl']
        refine (?_:((es.toList[ys[i]]?).map _)=_)
        rw [Array.getElem?_toList,Array.getElem?_eq_getElem ep]; rfl
      · simp [hl',rawInt]
  · refine wpAny_bind (wpAny_pure ?_)
    cases hB:w.params.followText "set-order" with
    | true=>
      have pk:=pick_perm (w.params.setOrder S ep) es
      refine hjp s _ ho fun h' hI k=>h ((pickOrder (w.params.setOrder S ep) es).toList.map (·.2)) _ _ _ _ h' s.drawn (pk.map _) k (fun b m=>by obtain rfl:=List.mem_singleton.mp m; exact size_none _) (fun b m=>mem2 (C:=fun b=>s.heap.get? b=none∨b=S) m (.inl (size_none _)) (.inr rfl))
        (fun A hh=>walks_int hh (ne_size ho) hd hf (fun _ _=>True) (fun i slot _ hi=>?_) fun slot _=>?_) ⟨k _ _ ho,0,0,trivial,hI⟩
      · have hl':i < (pickOrder (w.params.setOrder S ep) es).size:=by exact Array.length_toList▸pk.length_eq.symm▸Array.length_toList.symm▸hi
        exact ⟨(pickOrder (w.params.setOrder S ep) es)[i].2,slot,by rw [List.getElem?_map,Array.getElem?_toList,Array.getElem?_eq_getElem hl']; rfl,trivial,next_text hB hd hf (by rw [Array.getElem?_eq_getElem hl']; rfl)⟩
      · exact next_text hB hd hf (by rw [Array.getElem?_eq_none (by rw [← Array.length_toList,pk.length_eq,Array.length_toList]; exact Nat.le_refl _)]; rfl)
    | false=>
      have hl2:t.led=true:=by rw [hl,hL,hB]; rfl
      have hn:es.size≤1:=by
        have c:¬ (!w.params.followText "set-order"&&(!t.plain&&decide (es.size > 1)))=true:=c
        rcases hp with q | q
        · lia
        · rw [hB,q] at c; simpa using c
      refine hjp s _ ho fun h' hI k=>h (es.toList.map (·.2)) _ _ _ _ h' s.drawn (.refl _) k (fun b m=>by obtain rfl:=List.mem_singleton.mp m; exact size_none _) (fun b m=>mem2 (C:=fun b=>s.heap.get? b=none∨b=S) m (.inl (size_none _)) (.inr rfl))
        (fun A hh=>walks_int hh (ne_size ho) hd hf (fun slot i=>SetTable.below t.place slot=i) (fun i slot e hi=>?_) fun slot e=>next_few hB hd hf hl2 hn (by rw [e,Array.getElem?_eq_none (Nat.le_refl _)])) ⟨k _ _ ho,0,0,?_,hI⟩
      · have hi0:i=0:=by lia
        subst hi0
        obtain ⟨j,ej⟩:∃ j,t.place[0]?=some j:=⟨_,Array.getElem?_eq_getElem (by rw [T.sz]; exact hi)⟩
        refine ⟨es[0].2,j+1,by rw [List.getElem?_map,Array.getElem?_toList,Array.getElem?_eq_getElem hi]; rfl,?_,next_few hB hd hf hl2 hn (by rw [e,Array.getElem?_eq_getElem hi,ej])⟩
        have b:=below_ok T.rise (j+1)
        have b1:=b.1
        rw [T.sz] at b1
        rcases Nat.lt_or_ge (SetTable.below t.place (j+1)) 1 with q | q
        · exact absurd (b.2.2 0 j (by lia) ej) (by lia)
        · lia
      · have b:=below_ok T.rise 0
        rcases Nat.eq_zero_or_pos (SetTable.below t.place 0) with q | q
        · exact q
        · have b1:=b.1
          obtain ⟨j,ej⟩:∃ j,t.place[0]?=some j:=⟨_,Array.getElem?_eq_getElem (Nat.lt_of_lt_of_le q b1)⟩
          exact absurd (b.2.1 0 j q ej) (Nat.not_lt_zero _)
end
end Mine
end
noncomputable section
namespace Mine
open PySem PySem.Calls PyProof.Rows PySem.W
noncomputable abbrev KKd:=PyProof.Rows.KeyKind
structure SI (k₀:SortKind) (a₀:Array Keyed) (st:SortSt):Prop where
  perm:(arrOf st).Perm a₀
  kind:kindOf st=k₀
  failed:failedOf st=none
  pend:pendingOf st=#[]
section
variable {M:Model} {A:Around} {s:Shared} {k₀:SortKind} {a₀:Array Keyed} {st:SortSt} {E:Value→Shared→Prop} {κ:KKd}
noncomputable def keyK (κ:KKd) (x:Keyed):κ.α:=(κ.keyOf x.1).getD κ.dflt
noncomputable def LtIs (M:Model) (A:Around) (s:Shared) (k₀:SortKind) (κ:KKd) (a₀:Array Keyed):Prop:=∀ x y:Keyed,x∈a₀.toList→y∈a₀.toList→∀ (E:Value→Shared→Prop) (Q:Bool→Shared→Prop),Q (κ.blt (keyK κ x) (keyK κ y)) s→wpAny M A (keyLt' k₀ x.1 y.1) Q E s
theorem SI.size (I:SI k₀ a₀ st):(arrOf st).size=a₀.size:=I.perm.size_eq
theorem SI.setArr {xs:Array Keyed} (I:SI k₀ a₀ st) (h:xs.Perm (arrOf st)):SI k₀ a₀ (setArr st xs):=⟨h.trans I.perm,I.kind,I.failed,I.pend⟩
theorem SI.mem (I:SI k₀ a₀ st) {x:Keyed} (h:x∈(arrOf st).toList):x∈a₀.toList:=(Array.perm_iff_toList_perm.mp I.perm).mem_iff.mp h
theorem kk_at {xs:Array Keyed} {i:Nat} {x:Keyed} (e:xs[i]?=some x):KK κ xs i=keyK κ x:=by unfold KK; rw [e]; rfl
theorem wpS_ltAt {i j:Nat} {Q:Option Bool→SortSt→Prop} (L:LtIs M A s k₀ κ a₀) (I:SI k₀ a₀ st) (hi:i < a₀.size) (hj:j < a₀.size) (h:∀ b,κ.blt (KK κ (arrOf st) i) (KK κ (arrOf st) j)=b→Q (some b) st):wpS M A E s (ltAt' i j) Q st:=by
  rw [ltAt'_eq]
  refine wpS_bind (wpS_get ?_)
  have ei:=getElem?_pos (arrOf st) i (I.size▸hi)
  have ej:=getElem?_pos (arrOf st) j (I.size▸hj)
  dsimp only
  rw [elem'_eq,elem'_eq,ei,ej]
  refine wpS_bind (wpS_pure (wpS_bind (wpS_pure ?_)))
  rw [lt'_eq]
  refine wpS_bind (wpS_get ?_)
  rw [I.kind]
  exact wpS_bind (wpS_lift (wpAny_attempt (L _ _ (I.mem (by simp)) (I.mem (by simp)) _ _ ⟨rfl,wpS_pure (h _ (by rw [kk_at ei,kk_at ej]))⟩)))
theorem wpS_rev {i j:Nat} {Q:Unit→SortSt→Prop} (I:SI k₀ a₀ st) (h:∀ st',SI k₀ a₀ st'→arrOf st'=mirror (arrOf st) i j ((j - i) / 2)→Q () st'):wpS M A E s (reverseSlice' i j) Q st:=by
  rw [reverseSlice'_eq]; exact wpS_modify (h _ (I.setArr (mirror_perm _ _ _ _)) rfl)
theorem srt_snoc {xs:Array Keyed} {x:Nat} (h:SortedToK κ xs x) (q:κ.kle (KK κ xs (x - 1)) (KK κ xs x)):SortedToK κ xs (x+1):=fun i j hij hj=>by
  rcases Nat.lt_or_ge j x with z | z
  · exact h i j hij z
  · cases Nat.le_antisymm (Nat.le_of_lt_succ hj) z
    rcases Nat.lt_or_ge i x with z | z
    · exact KeyOrd.kle_trans (h i (x - 1) (Nat.le_sub_one_of_lt z) (Nat.sub_one_lt (Nat.ne_of_gt (Nat.zero_lt_of_lt z)))) q
    · cases Nat.le_antisymm hij z; exact KeyOrd.kle_refl _
theorem ninc_snoc {xs:Array Keyed} {x:Nat} (h:NonIncK κ xs x) (q:κ.kle (KK κ xs x) (KK κ xs (x - 1))):NonIncK κ xs (x+1):=fun i j hij hj=>by
  rcases Nat.lt_or_ge j x with z | z
  · exact h i j hij z
  · cases Nat.le_antisymm (Nat.le_of_lt_succ hj) z
    rcases Nat.lt_or_ge i x with z | z
    · exact KeyOrd.kle_trans q (h i (x - 1) (Nat.le_sub_one_of_lt z) (Nat.sub_one_lt (Nat.ne_of_gt (Nat.zero_lt_of_lt z))))
    · cases Nat.le_antisymm hij z; exact KeyOrd.kle_refl _
theorem wpS_asc {a nrem:Nat} {f:Nat→Option (Option Nat)×Nat→StateT SortSt Sem (ForInStep (Option (Option Nat)×Nat))} {Q:Option (Option Nat)×Nat→SortSt→Prop} {g:Nat→Option Bool→StateT SortSt Sem (ForInStep (Option (Option Nat)×Nat))}
    (L:LtIs M A s k₀ κ a₀) (hf:∀ x,f x (none,x)=(ltAt' (0+x) (0+x - 1) >>= g x)) (g1:∀ x,g x (some true)=pure (.done (none,x))) (g0:∀ x,g x (some false)=pure (.yield (none,x+1)))
    (hn:nrem≤a₀.size) (h1:1≤a) (h2:a≤nrem) (I:SI k₀ a₀ st) (hs:SortedToK κ (arrOf st) a) (h:∀ m,1≤m→m≤nrem→SortedToK κ (arrOf st) m→(m < nrem→κ.klt (KK κ (arrOf st) m) (KK κ (arrOf st) (m - 1)))→Q (none,m) st):wpS M A E s (forIn [a:nrem] (none,a) f) Q st:=by
  refine wpS_forRange (I:=fun x c st'=>c=(none,x)∧st'=st∧SortedToK κ (arrOf st) x) ?_ ?_ ⟨rfl,rfl,hs⟩
  · rintro x c st' q1 q2 ⟨rfl,rfl,hs⟩
    rw [hf,Nat.zero_add]
    refine wpS_bind (wpS_ltAt L I (Nat.lt_of_lt_of_le q2 hn) (Nat.lt_of_le_of_lt (Nat.sub_le _ _) (Nat.lt_of_lt_of_le q2 hn)) fun b e=>?_)
    cases b
    · rw [g0]; exact wpS_pure ⟨rfl,rfl,srt_snoc hs e⟩
    · rw [g1]; exact wpS_pure (h x (Nat.le_trans h1 q1) (Nat.le_of_lt q2) hs fun _=>e)
  · rintro c st' ⟨rfl,rfl,hs⟩
    rw [Nat.max_eq_right h2] at hs ⊢
    exact h _ (Nat.le_trans h1 h2) (Nat.le_refl _) hs fun q=>absurd q (Nat.lt_irrefl _)
noncomputable def EqB (κ:KKd) (xs:Array Keyed) (i j:Nat):Prop:=∀ k,i≤k→k < j→KK κ xs k=KK κ xs (j - 1)
theorem turn_eq {xs:Array Keyed} {i j:Nat} (hj:j≤xs.size) (e:EqB κ xs i j):KK κ (mirror xs i j ((j - i) / 2))=KK κ xs:=funext fun k=>KK_mirror_equal hj e k
theorem srt_of {xs ys:Array Keyed} {n:Nat} (e:KK κ ys=KK κ xs):(SortedToK κ xs n→SortedToK κ ys n)∧(NonIncK κ xs n→NonIncK κ ys n):=⟨fun h i j a b=>by rw [e]; exact h i j a b,fun h i j a b=>by rw [e]; exact h i j a b⟩
theorem ninc_turn {xs:Array Keyed} {n:Nat} (hn:n≤xs.size) (h:NonIncK κ xs n):SortedToK κ (mirror xs 0 n ((n - 0) / 2)) n:=fun i j hij hj=>by
  rw [KK_mirror hn,KK_mirror hn,if_pos ⟨Nat.zero_le _,Nat.lt_of_le_of_lt hij hj⟩,if_pos ⟨Nat.zero_le _,hj⟩]
  exact h _ _ (by omega) (by omega)
theorem wpS_optE {α:Type} {c:Prop} [Decidable c] {i j:Nat} {X:StateT SortSt Sem α} {Q:α→SortSt→Prop} (I:SI k₀ a₀ st) (hj:j≤a₀.size) (e:EqB κ (arrOf st) i j) (h:∀ st',SI k₀ a₀ st'→KK κ (arrOf st')=KK κ (arrOf st)→wpS M A E s X Q st'):wpS M A E s (if c then reverseSlice' i j >>= fun _=>X else X) Q st:=by
  split
  · exact wpS_bind (wpS_rev I fun st' I' e'=>h st' I' (by rw [e']; exact turn_eq (I.size▸hj) e))
  · exact h st I rfl
theorem one_eq {k x:Nat} (a:x - (0+1)≤k) (b:k < x):k=x - 1:=by lia
theorem blk_le {k x q:Nat} (a:x+1 - (q+1+1)≤k):x - (q+1)≤k:=by lia
theorem wpS_countRun {nrem:Nat} {Q:Option Nat→SortSt→Prop} (L:LtIs M A s k₀ κ a₀) (hn:nrem≤a₀.size) (h1:1≤nrem) (I:SI k₀ a₀ st)
    (h:∀ m st',SI k₀ a₀ st'→1≤m→m≤nrem→SortedToK κ (arrOf st') m→(EqB κ (arrOf st) 0 nrem→m=nrem∧arrOf st'=arrOf st)→Q (some m) st'):wpS M A E s (countRun' 0 nrem) Q st:=by
  rw [countRun'_eq]
  have hz:nrem≤(arrOf st).size:=I.size▸hn
  refine wpS_bind (wpS_asc L (fun _=>rfl) (fun _=>rfl) (fun _=>rfl) hn (Nat.le_refl 1) h1 I (fun i j a b=>by cases Nat.lt_one_iff.mp b; obtain rfl:=Nat.le_zero.mp a; exact KeyOrd.kle_refl _) fun n hn1 hn2 hs hlt=>?_)
  dsimp only
  by_cases e:n=nrem
  · rw [if_pos (by simpa using e)]; exact wpS_pure (h n st I hn1 hn2 hs fun _=>⟨e,rfl⟩)
  rw [if_neg (by simpa using e)]
  have hlt:=hlt (Nat.lt_of_le_of_ne hn2 e)
  have hno:¬ EqB κ (arrOf st) 0 nrem:=fun q=>by
    rw [q n (Nat.zero_le _) (Nat.lt_of_le_of_ne hn2 e),q (n - 1) (Nat.zero_le _) (by lia)] at hlt
    exact absurd hlt (by unfold KeyOrd.klt; rw [κ.irrefl]; exact Bool.false_ne_true)
  have fin:∀ m st',SI k₀ a₀ st'→1≤m→m≤nrem→SortedToK κ (arrOf st') m→Q (some m) st':=fun m st' I' a b c=>h m st' I' a b c fun q=>absurd q hno
  clear h
  -- a run that went down is turned round,and goes on
  have turn:∀ {n':Nat} {st':SortSt} {f:Nat→Option (Option Nat)×Nat→StateT SortSt Sem (ForInStep (Option (Option Nat)×Nat))} {F:Option (Option Nat)×Nat→StateT SortSt Sem (Option Nat)} {g:Nat→Option Bool→StateT SortSt Sem (ForInStep (Option (Option Nat)×Nat))},
      (∀ x,f x (none,x)=(ltAt' (0+x) (0+x - 1) >>= g x))→(∀ x,g x (some true)=pure (.done (none,x)))→(∀ x,g x (some false)=pure (.yield (none,x+1)))→(∀ m,F (none,m)=pure (some m))→SI k₀ a₀ st'→1≤n'→n'≤nrem→NonIncK κ (arrOf st') n' →
      wpS M A E s (reverseSlice' 0 (0+n') >>= fun _=>forIn [n':nrem] (none,n') f >>= F) Q st':=fun hf g1 g0 hF I' q1 q2 hd=>by
    rw [Nat.zero_add]
    refine wpS_bind (wpS_rev I' fun st4 I4 e4=>wpS_bind (wpS_asc L hf g1 g0 hn q1 q2 I4 (by rw [e4]; exact ninc_turn (Nat.le_trans q2 (I'.size▸hn)) hd) fun m a b c _=>?_))
    rw [hF]; exact wpS_pure (fin m st4 I4 a b c)
  have hlt':n < nrem:=Nat.lt_of_le_of_ne hn2 e
  have go:∀ {α:Type} {c:Prop} [Decidable c] {i j:Nat} {X:StateT SortSt Sem α} {F:Option Bool→StateT SortSt Sem α} {Q:α→SortSt→Prop},(c ↔ n > 1)→i=0→j=n - 1→wpS M A E s (F (some true)) Q st→F (some false)=(reverseSlice' 0 (0+n) >>= fun _=>X) →
      (∀ st2,SI k₀ a₀ st2→NonIncK κ (arrOf st2) (n+1)→wpS M A E s X Q st2)→wpS M A E s (if c then ltAt' i j >>= F else X) Q st:=fun hc hi hj ht hF hX=>by
    subst hi hj
    have dn:∀ {ys:Array Keyed},KK κ ys=KK κ (arrOf st)→NonIncK κ (arrOf st) n→NonIncK κ ys (n+1):=fun e h=>(srt_of e).2 (ninc_snoc h (KeyOrd.kle_of_klt hlt))
    split
    · refine wpS_bind (wpS_ltAt L I (Nat.lt_of_lt_of_le (Nat.zero_lt_of_lt hlt') hn) (Nat.lt_of_le_of_lt (Nat.sub_le _ _) (Nat.lt_of_lt_of_le hlt' hn)) fun b eb=>?_)
      cases b
      · have eqs:∀ k,k < n→KK κ (arrOf st) k=KK κ (arrOf st) (n - 1):=fun k hk=>KeyOrd.kle_antisymm (hs k (n - 1) (Nat.le_sub_one_of_lt hk) (Nat.sub_one_lt_of_lt hn1)) (KeyOrd.kle_trans eb (hs 0 k (Nat.zero_le _) hk))
        rw [hF,Nat.zero_add]
        exact wpS_bind (wpS_rev I fun st' I' e'=>hX st' I' (dn (by rw [e']; exact turn_eq (Nat.le_trans hn2 hz) fun k _ hk=>eqs k hk) fun i j hij hj=>by rw [eqs i (Nat.lt_of_le_of_lt hij hj),eqs j hj]; exact KeyOrd.kle_refl _))
      · exact ht
    · rename_i hc'
      have:n=1:=Nat.le_antisymm (Nat.le_of_not_lt fun q=>hc' (hc.mpr q)) hn1
      exact hX st I (dn rfl fun i j hij hj=>by rw [this] at hj; obtain rfl:=Nat.lt_one_iff.mp hj; obtain rfl:=Nat.le_zero.mp hij; exact KeyOrd.kle_refl _)
  refine go Iff.rfl rfl (by rw [Nat.zero_add]) (wpS_pure (fin n st I hn1 hn2 hs)) rfl fun st2 I2 d2=>?_
  refine wpS_bind (wpS_lift (wpAny_rule ⟨rfl,?_⟩))
  have one:∀ {xs:Array Keyed} {x:Nat},EqB κ xs (x - (0+1)) x:=fun {xs x} k a b=>congrArg (KK κ xs) (one_eq a b)
  refine wpS_bind (wpS_forRange (I:=fun x c st'=>∃ q,c=(none,x,q)∧SI k₀ a₀ st'∧NonIncK κ (arrOf st') x∧EqB κ (arrOf st') (x - (q+1)) x) ?_ ?_ ⟨0,rfl,I2,d2,one⟩)
  · rintro x c st' hx1 hx2 ⟨q,rfl,I',d',e'⟩
    have hxa:=Nat.lt_of_lt_of_le hx2 hn
    have hx0:x - 1 < a₀.size:=Nat.lt_of_le_of_lt (Nat.sub_le _ _) hxa
    have z0:0+x=x:=Nat.zero_add x
    refine wpS_bind (wpS_ltAt L I' (z0.symm▸hxa) (z0.symm▸hx0) fun b eb=>?_)
    dsimp only at eb
    rw [z0] at eb
    cases b
    · refine wpS_bind (wpS_ltAt L I' (z0.symm▸hx0) (z0.symm▸hxa) fun b eb'=>?_)
      dsimp only at eb'
      rw [z0] at eb'
      cases b
      · have ek:KK κ (arrOf st') x=KK κ (arrOf st') (x - 1):=KeyOrd.kle_antisymm eb' eb
        refine wpS_pure ⟨q+1,rfl,I',ninc_snoc d' eb',fun k a b=>?_⟩
        rw [Nat.add_sub_cancel,ek]
        rcases Nat.lt_or_ge k x with z | z
        · exact e' k (blk_le a) z
        · rw [Nat.le_antisymm (Nat.le_of_lt_succ b) z,ek]
      · exact wpS_pure (wpS_optE I' (z0.symm▸Nat.le_of_lt hxa) (z0.symm▸e') fun st3 I3 k3=>
          turn (fun _=>rfl) (fun _=>rfl) (fun _=>rfl) (fun _=>rfl) I3 (Nat.le_trans (Nat.succ_le_succ (Nat.zero_le _)) hx1) (Nat.le_of_lt hx2) ((srt_of k3).2 d'))
    · exact wpS_optE I' (z0.symm▸Nat.le_of_lt hxa) (z0.symm▸e') fun st3 I3 k3=>wpS_pure ⟨0,rfl,I3,(srt_of k3).2 (ninc_snoc d' (KeyOrd.kle_of_klt eb)),one⟩
  · rintro c st' ⟨q,rfl,I',d',e'⟩
    rw [Nat.max_eq_right hlt'] at d' e'
    have z0:0+max (n+1) nrem=nrem:=by rw [Nat.zero_add,Nat.max_eq_right hlt']
    have z1:max (n+1) nrem=nrem:=Nat.max_eq_right hlt'
    exact wpS_optE I' (z0.symm▸hn) (z0.symm▸e') fun st3 I3 k3=>turn (fun _=>rfl) (fun _=>rfl) (fun _=>rfl) (fun _=>rfl) I3 (z1.symm▸h1) (Nat.le_of_eq z1) (z1.symm▸(srt_of k3).2 d')
end
end Mine
end
noncomputable section
namespace Mine
open PySem PySem.Calls PyProof.Rows PySem.W
section
variable {M:Model} {A:Around} {s:Shared} {k₀:SortKind} {a₀:Array Keyed} {st:SortSt} {E:Value→Shared→Prop} {κ:KKd}
theorem ins_sorted {xs:Array Keyed} {k l:Nat} (hk:k < xs.size) (hl:l≤k) (h:SortedToK κ xs k) (a:∀ i,i < l→κ.kle (KK κ xs i) (KK κ xs k)) (b:∀ i,l≤i→i < k→κ.kle (KK κ xs k) (KK κ xs i)):SortedToK κ (bubble xs k (k - l)) (k+1):=fun i j hij hj=>by
  rw [KK_bubble hk (Nat.sub_le _ _),KK_bubble hk (Nat.sub_le _ _),Nat.sub_sub_self hl]
  have hj:=Nat.le_of_lt_succ hj
  rcases Nat.lt_trichotomy i l with qi | rfl | qi
  · rw [if_neg (Nat.ne_of_lt qi),if_neg fun z=>Nat.lt_asymm z.1 qi]
    rcases Nat.lt_trichotomy j l with qj | rfl | qj
    · rw [if_neg (Nat.ne_of_lt qj),if_neg fun z=>Nat.lt_asymm z.1 qj]; exact h i j hij (Nat.lt_of_lt_of_le qj hl)
    · rw [if_pos rfl]; exact a i qi
    · rw [if_neg (Nat.ne_of_gt qj),if_pos ⟨qj,hj⟩]; exact h i (j - 1) (Nat.le_sub_one_of_lt (Nat.lt_trans qi qj)) (Nat.lt_of_lt_of_le (Nat.sub_one_lt_of_lt qj) hj)
  · rw [if_pos rfl]
    rcases Nat.lt_or_ge i j with qj | qj
    · rw [if_neg (Nat.ne_of_gt qj),if_pos ⟨qj,hj⟩]; exact b (j - 1) (Nat.le_sub_one_of_lt qj) (Nat.lt_of_lt_of_le (Nat.sub_one_lt_of_lt qj) hj)
    · obtain rfl:=Nat.le_antisymm hij qj; rw [if_pos rfl]; exact KeyOrd.kle_refl _
  · have qj:l < j:=Nat.lt_of_lt_of_le qi hij
    rw [if_neg (Nat.ne_of_gt qi),if_pos ⟨qi,Nat.le_trans hij hj⟩,if_neg (Nat.ne_of_gt qj),if_pos ⟨qj,hj⟩]
    exact h (i - 1) (j - 1) (Nat.sub_le_sub_right hij 1) (Nat.lt_of_lt_of_le (Nat.sub_one_lt_of_lt qj) hj)
theorem mid_lt {l r k x:Nat} (h:¬ l ≥ r) (hr:r≤k) (hf:r - l≤k - x):(l+r) / 2 < k∧l≤(l+r) / 2∧(l+r) / 2 < r∧(l+r) / 2 - l≤k - (x+1)∧r - ((l+r) / 2+1)≤k - (x+1):=
  have h:=Nat.not_le.mp h
  have a:(l+r) / 2 < r:=Nat.div_lt_of_lt_mul (Nat.two_mul r▸Nat.add_lt_add_right h r)
  have b:l≤(l+r) / 2:=(Nat.le_div_iff_mul_le Nat.two_pos).mpr (Nat.mul_two l▸Nat.add_le_add_left (Nat.le_of_lt h) l)
  ⟨Nat.lt_of_lt_of_le a hr,b,a,Nat.le_pred_of_lt (Nat.lt_of_lt_of_le (Nat.sub_lt_sub_right b a) hf),Nat.le_pred_of_lt (Nat.lt_of_lt_of_le (Nat.sub_lt_sub_left h (Nat.lt_succ_of_le b)) hf)⟩
theorem wpS_binarySort {n ok:Nat} {Q:Bool→SortSt→Prop} (L:LtIs M A s k₀ κ a₀) (hn:n≤a₀.size) (h1:1≤ok) (h2:ok≤n) (I:SI k₀ a₀ st) (hs:SortedToK κ (arrOf st) ok) (h:∀ st',SI k₀ a₀ st'→SortedToK κ (arrOf st') n→Q true st'):wpS M A E s (binarySort' 0 n ok) Q st:=by
  rw [binarySort'_eq]
  have hm:max ok 1=ok:=Nat.max_eq_left h1
  refine wpS_bind (wpS_forRange (I:=fun k c st'=>c=(none,())∧SI k₀ a₀ st'∧SortedToK κ (arrOf st') k) ?_ (fun c st' ⟨e,I',hs'⟩=>by subst e; rw [hm,Nat.max_eq_right h2] at hs'; exact wpS_pure (h st' I' hs')) ⟨rfl,I,hm.symm▸hs⟩)
  rintro k c st' hk1 hk2 ⟨rfl,I',hs'⟩
  have hka:=Nat.lt_of_lt_of_le hk2 hn
  have fin:∀ l,l≤k→(∀ i,i < l→κ.kle (KK κ (arrOf st') i) (KK κ (arrOf st') k))→(∀ i,l≤i→i < k→κ.kle (KK κ (arrOf st') k) (KK κ (arrOf st') i))→SI k₀ a₀ (setArr st' (bubble (arrOf st') (0+k) (0+k - (0+l))))∧SortedToK κ (arrOf (setArr st' (bubble (arrOf st') (0+k) (0+k - (0+l))))) (k+1):=fun l hl a b=>
    ⟨I'.setArr (bubble_perm _ _ _),by show SortedToK κ (bubble (arrOf st') (0+k) (0+k - (0+l))) (k+1); rw [Nat.zero_add,Nat.zero_add]; exact ins_sorted (I'.size▸hka) hl hs' a b⟩
  refine wpS_bind (wpS_forRange (I:=fun x c st''=>st''=st'∧∃ l r,c=(none,l,r)∧l≤r∧r≤k∧r - l≤k - x∧(∀ i,i < l→κ.kle (KK κ (arrOf st') i) (KK κ (arrOf st') k))∧∀ i,r≤i→i < k→κ.kle (KK κ (arrOf st') k) (KK κ (arrOf st') i)) ?_ ?_ ⟨rfl,0,k,rfl,Nat.zero_le _,Nat.le_refl _,Nat.le_refl _,fun i q=>absurd q (Nat.not_lt_zero _),fun i q z=>absurd z (Nat.not_lt.mpr q)⟩)
  · rintro x c st'' _ _ ⟨rfl,l,r,rfl,hlr,hr,hf,a,b⟩
    dsimp only
    split
    · rename_i q
      cases Nat.le_antisymm hlr q
      exact wpS_pure (wpS_bind (by rw [moveDown'_eq]; exact wpS_modify (wpS_pure ⟨rfl,fin l hr a b⟩)))
    · rename_i q
      obtain ⟨m1,m2,m3,m4,m5⟩:=mid_lt q hr hf
      refine wpS_bind (wpS_ltAt L I' (by rw [Nat.zero_add]; exact hka) (by rw [Nat.zero_add]; exact Nat.lt_trans m1 hka) fun bb e=>?_)
      rw [Nat.zero_add,Nat.zero_add] at e
      cases bb
      · exact wpS_pure ⟨rfl,_,r,rfl,m3,hr,m5,fun i hi=>KeyOrd.kle_trans (hs' i _ (Nat.le_of_lt_succ hi) m1) e,b⟩
      · exact wpS_pure ⟨rfl,l,_,rfl,m2,Nat.le_of_lt m1,m4,a,fun i hi hk=>KeyOrd.kle_trans (KeyOrd.kle_of_klt e) (hs' _ i hi hk)⟩
  · rintro c st'' ⟨rfl,l,r,rfl,hlr,hr,hf,a,b⟩
    have:l=r:=Nat.le_antisymm hlr (by have:r - l≤k - max 0 k:=hf; rw [Nat.max_eq_right (Nat.zero_le _),Nat.sub_self] at this; exact Nat.sub_eq_zero_iff_le.mp (Nat.le_zero.mp this))
    subst this
    exact wpS_bind (by rw [moveDown'_eq]; exact wpS_modify (wpS_pure ⟨rfl,fin l hr a b⟩))
theorem wpS_ite {α:Type} {c:Prop} [Decidable c] {t e:StateT SortSt Sem α} {Q:α→SortSt→Prop} (h1:c→wpS M A E s t Q st) (h2:¬ c→wpS M A E s e Q st):wpS M A E s (if c then t else e) Q st:=by
  split
  · exact h1 ‹_›
  · exact h2 ‹_›
theorem minRun_few {n:Nat} (h2:2≤n) (h:n < 64):minRun' n n 0=n:=by
  obtain ⟨f,rfl⟩:∃ f,n=f+2:=⟨n - 2,by grind⟩
  rw [minRun'_succ,if_pos h]
theorem SI.out (I:SI k₀ a₀ st):∃ xs g,st=SortSt.mk' k₀ xs #[] g none∧xs.Perm a₀:=by
  obtain ⟨hp,hk,hf,hd⟩:=I
  obtain ⟨k,xs,p,g,f⟩:=st
  subst hk; subst hf; subst hd
  exact ⟨_,_,rfl,hp⟩
theorem wpS_sortRuns {Q:Unit→SortSt→Prop} (L:LtIs M A s k₀ κ a₀) (I:SI k₀ a₀ st) (h2:2≤a₀.size) (hq:a₀.size < 64∨EqB κ (arrOf st) 0 a₀.size) (h:∀ st',(arrOf st').Perm a₀→failedOf st'=none→SortedToK κ (arrOf st') a₀.size→Q () st'):wpS M A E s sortRuns' Q st:=by
  refine wpS_bind (wpS_get ?_)
  extract_lets size mr lo
  have hs:size=a₀.size:=I.size
  have hm:a₀.size < 64→mr=size:=fun q=>minRun_few (hs▸h2) (hs▸q)
  clear_value mr size
  subst hs
  refine wpS_bind (wpS_mono (wpS_forRange (I:=fun x c st'=>(x=0∧c=(none,0)∧st'=st)∨(c=(none,a₀.size)∧(arrOf st').Perm a₀∧failedOf st'=none∧(pendingOf st').size≤1∧SortedToK κ (arrOf st') a₀.size)) (Q:=fun c st'=>c=(none,a₀.size)∧(arrOf st').Perm a₀∧failedOf st'=none∧(pendingOf st').size≤1∧SortedToK κ (arrOf st') a₀.size) ?_ ?_ (.inl ⟨rfl,rfl,rfl⟩)) ?_)
  · rintro x c st' _ hx (⟨rfl,rfl,rfl⟩ | ⟨rfl,R⟩)
    · refine wpS_ite (fun hl=>absurd (Nat.le_trans h2 (hl:a₀.size≤0)) (by decide)) fun hl=>?_
      refine wpS_bind (wpS_countRun (nrem:=a₀.size) L (Nat.le_refl _) (Nat.le_of_succ_le h2) I fun m st1 I1 hm1 hm2 hs1 hall=>?_)
      dsimp (zeta:=false) only
      extract_lets n jp force n'
      let RR:ForInStep (Option Unit×Nat)→SortSt→Prop:=fun r s''=>match r with
        | .done c'=>c'=(none,a₀.size)∧(arrOf s'').Perm a₀∧failedOf s''=none∧(pendingOf s'').size≤1∧SortedToK κ (arrOf s'') a₀.size
        | .yield c'=>(0+1=0∧c'=(none,0)∧s''=st')∨(c'=(none,a₀.size)∧(arrOf s'').Perm a₀∧failedOf s''=none∧(pendingOf s'').size≤1∧SortedToK κ (arrOf s'') a₀.size)
      have hjp:∀ n st1,SI k₀ a₀ st1→n=a₀.size→SortedToK κ (arrOf st1) a₀.size→wpS M A E s (jp () n) RR st1:=by
        intro n st1 I1 e hs1
        obtain ⟨xs,g,rfl,hp⟩:=I1.out
        subst e
        refine wpS_bind (wpS_get ?_)
        exact wpS_bind (wpS_modify (wpS_pure (.inr ⟨by rw [Nat.zero_add],hp,rfl,Nat.le_refl 1,hs1⟩)))
      refine wpS_mono (?_:wpS M A E s _ RR st1) fun r _ q=>by cases r <;> exact q
      refine wpS_ite (fun q=>?_) fun q=>?_
      · refine wpS_bind (wpS_lift (wpAny_rule ⟨rfl,?_⟩))
        have q:m < mr:=q
        have hf:min (a₀.size - 0) mr=a₀.size:=hq.elim (fun hq=>by rw [hm hq]; exact Nat.min_self _) fun hq=>Nat.min_eq_left (Nat.le_of_lt ((hall hq).1▸q:a₀.size < mr))
        show wpS M A E s (binarySort' 0 (min (a₀.size - 0) mr) m >>= _) _ _
        rw [hf]
        exact wpS_bind (wpS_binarySort L (Nat.le_refl _) hm1 hm2 I1 hs1 fun st2 I2 hs2=>hjp _ st2 I2 hf hs2)
      · have q:¬ m < mr:=q
        have e:m=a₀.size:=hq.elim (fun hq=>Nat.le_antisymm hm2 (Nat.le_of_not_lt fun z=>q (hm hq▸z))) fun hq=>(hall hq).1
        exact hjp m st1 I1 e (e▸hs1)
    · exact wpS_ite (fun hl=>wpS_pure ⟨rfl,R⟩) fun hl=>absurd (Nat.le_refl a₀.size) hl
  · rintro c st' (⟨q,_⟩ | q)
    · exact absurd q (by lia)
    · exact q
  · rintro c st' ⟨rfl,hp,hf,hd,hs⟩
    refine wpS_bind (wpS_forRange (I:=fun _ c st''=>c=(none,())∧st''=st') ?_ ?_ ⟨rfl,rfl⟩)
    · rintro y c st1 _ _ ⟨rfl,rfl⟩
      refine wpS_bind (wpS_get ?_)
      exact wpS_ite (fun _=>wpS_pure (wpS_pure (h _ hp hf hs))) fun q'=>absurd hd q'
    · rintro c st1 ⟨rfl,rfl⟩
      exact wpS_pure (h _ hp hf hs)
end
end Mine
end
noncomputable section
namespace Mine
open PySem PySem.Calls PyProof.Rows PySem.W
theorem set_len:typeLookup (.type "set") "__len__"=pure (some (.builtin "set.__len__")):=by rw [typeLookup_type,builtinLookup_eq_fast]; kernel_rfl
section
variable {prog:Program} {w:World} {A:Around} {E:Value→Shared→Prop} {s:Shared} {S:Addr} {es:Array (Int×Value)} {L:Bool}
theorem hint_set {Q:Bool→Shared→Prop} (hT:s.TypeIs (.ref S) "set") (h:Q false s):wpAny (model prog w) A (Builtin.List.listLengthHint (.ref S)) Q E s:=by
  unfold Builtin.List.listLengthHint
  refine wpAny_bind (wpAny_specialOf hT set_len ?_)
  wp_delta
  refine wpAny_bind (wpAny_isInstance hT sub_set_self ?_)
  refine (?_:wpAny _ A (typeOf (Value.ref S) >>= _) _ _ _)
  exact wpAny_bind (wpAny_typeOf hT (wpAny_pure h))
theorem collect_set {Q:List Value→Shared→Prop} (hh:A.handled=none) (hL:L = !w.params.followText "set-order") (T:TS s.heap S es L)
    (h:∀ (out:List Value) h' d tk,out.Perm (es.toList.map (·.2))→Stays s.heap h'→Q out { s with heap:=h',drawn:=d,toks:=tk }):wpAny (model prog w) A (collect (.ref S)) Q E s:=by
  have hn:es.size≤sizeLine:=by
    obtain ⟨o,ep,t,ho,hex,hd,T,hr,hl,hp⟩:=T
    refine Nat.le_trans (?_:es.size≤511) (by decide)
    rcases T.msk with q | q | q | q <;> lia
  have T0:=T
  obtain ⟨o,ep,t,ho,hex,hd,_⟩:=T
  have hT:∀ s':Shared,s'.heap.get? S=some o→s'.TypeIs (.ref S) "set":=fun s' e=>⟨o,e,hex.1⟩
  have hSI:s.heap.objs.size≠S:=(ne_size ho).symm
  unfold collect
  refine wpAny_bind (wpAny_runValue (codeAny_builtin PySem.F.entry_proto_collect ?_))
  rw [Around.under_plainId PySem.F.plain_proto_collect _]
  refine (?_:wpAny _ A.in1 (newList [] >>= fun l=>again (.builtin "list.__iadd__" ⟨[l,.ref S],[]⟩)) _ _ s)
  refine wpAny_bind (wpAny_newObj_type ?_)
  refine wpAny_pure ⟨plainId_quiet PySem.F.plain_list_iadd _,codeAny_builtin PySem.F.entry_list_iadd ?_⟩
  rw [Around.under_plainId PySem.F.plain_list_iadd _]
  refine (?_:wpAny _ A.in1 (Builtin.List.listExtendWith (.ref s.heap.objs.size) (.ref S) (.ref s.heap.objs.size)) _ _ _)
  have k1:=stays_push s.heap { cls:=.type "list",data:=.seq ([]:List Value).toArray }
  refine extend_any (R:=wants _ E) (C:=fun out=>out.Perm (es.toList.map (·.2))) (s:={ s with heap:=s.heap.push { cls:=.type "list",data:=.seq ([]:List Value).toArray } }) hh (Heap.get?_push_size _ rfl) hSI (.inl rfl) (hT _ (k1 _ _ ho)) (fun s' Q E k hq=>hint_set (hT _ (k _ _ (k1 _ _ ho))) hq) (fun Q E hQ=>?_) fun out h' d tk c' hC k hD=>?_
  · refine iter_set hL (s:={ s with heap:=s.heap.push { cls:=.type "list",data:=.seq ([]:List Value).toArray } }) (?_:TS _ S es L) fun ord I fp wr St h' d py k2 hw hf W hst=>?_
    · obtain ⟨o,ep,t,ho,q⟩:=T0; exact ⟨o,ep,t,k1 _ _ ho,q⟩
    have hl:ord.length=es.size:=by rw [py.length_eq,List.length_map,Array.length_toList]
    exact hQ ord I fp wr St h' d py (hl▸hn) k2 hw (fun q=>(hf _ q).elim (fun e=>by rw [Heap.get?_push_size _ rfl] at e; (injection e; done)) hSI) (hl▸W A.in1 hh) hst
  · refine (?_:wpAny _ A (load s.heap.objs.size >>= _) _ _ _)
    refine wpAny_bind (wpAny_load hD ?_)
    exact wpAny_pure (h out h' d tk hC fun b ob e=>k b ob (ne_size e) (k1 _ _ e))
end
end Mine
end
noncomputable section
namespace Mine
open PySem PySem.Calls PyProof.Rows PySem.W
noncomputable abbrev tuples':Bool→SortKind:=sortPriv% PySem.Builtin.KeyKind.tuples
section
variable {prog:Program} {w:World} {A:Around} {E:Value→Shared→Prop} {s:Shared}
theorem one_lt {b:Bool} {p q:Value} {k m:Sc} {Q:Bool→Shared→Prop} (hp:scIs k p=true) (hq:scIs m q=true) (hk:(k.isLeft==m.isLeft)=true) (h:Q (scLt k m) s):wpAny (model prog w) A (oneLt' b p q) Q E s:=
  scIs_elim (C:=fun k p=>(k.isLeft==m.isLeft)=true→Q (scLt k m) s→wpAny (model prog w) A (oneLt' b p q) Q E s) hp
    (fun i t hk h=>scIs_elim (C:=fun m q=>(true==m.isLeft)=true→Q (scLt (.inl i) m) s→wpAny (model prog w) A (oneLt' b (.int i t) q) Q E s) hq (fun j u _ h=>by
        cases b
        · rw [oneLt'_eq]; exact wpAny_bind (P.lt_int (wpAny_truthy_bool h))
        · exact oneLt_int h) (fun _ _ hk=>nomatch hk) hk h)
    (fun x t hk h=>scIs_elim (C:=fun m q=>(false==m.isLeft)=true→Q (scLt (.inr x) m) s→wpAny (model prog w) A (oneLt' b (.str x t) q) Q E s) hq (fun _ _ hk=>nomatch hk) (fun y u _ h=>by
        cases b
        · rw [oneLt'_eq]; exact wpAny_bind (lt_str (wpAny_truthy_bool h))
        · exact oneLt_str h) hk h) hk h
set_option tactic.hygienic true in
theorem key_lt {b:Bool} {ks ms:List Sc} {c c':Addr} {Q:Bool→Shared→Prop} (hc:IsTupleKey (scKind prog w) s.heap ks c) (hc':IsTupleKey (scKind prog w) s.heap ms c') (hk:ltK ks ms=true) (h:Q (lexLt ks ms) s):wpAny (model prog w) A (keyLt' (tuples' b) (.ref c) (.ref c')) Q E s:=by
  obtain ⟨o,items,n,ho,_,hd,hi⟩:=hc
  obtain ⟨o',items',n',ho',_,hd',hi'⟩:=hc'
  refine wpAny_bind (listItems_at ho hd ?_)
  refine wpAny_bind (listItems_at ho' hd' ?_)
  refine wpAny_bind (wpAny_forIn_list _ (fun rest r s'=>r.1=none∧s'=s∧∃ ks ms vs us j,rest=(vs.zip us).zipIdx j∧ItemsAre (scKind prog w) ks vs∧ItemsAre (scKind prog w) ms us∧ltK ks ms=true∧Q (lexLt ks ms) s∧(decide (items.size < items'.size)=decide (vs.length < us.length))) _ ?_ ?_ _ _ ⟨rfl,rfl,ks,ms,items.toList,items'.toList,0,rfl,hi,hi',hk,h,rfl⟩)
  · rintro v rest r s' ⟨hr,rfl,ks,ms,vs,us,j,e,hv,hu,hk,h,hsz⟩
    cases hv with
    | nil=>(injection e; done)
    | cons h1 hv=>
      cases hu with
      | nil=>(injection e; done)
      | cons h2 hu=>
        cases e
        refine wpAny_bind ((scKind prog w).eqBool h1 h2 ?_)
        rename_i k p ks vs m q ms us
        rw [ltK_cc] at hk
        rw [lex_cc] at h
        by_cases e:k=m
        · rw [decide_eq_true e]
          rw [if_pos e] at hk h
          exact wpAny_pure ⟨rfl,rfl,ks,ms,vs,us,j+1,rfl,hv,hu,hk,h,hsz.trans (decide_eq_decide.mpr Nat.succ_lt_succ_iff)⟩
        · rw [decide_eq_false e]
          rw [if_neg e] at hk h
          exact wpAny_bind (one_lt h1 h2 hk (wpAny_pure (wpAny_pure h)))
  · rintro ⟨r1,r2⟩ s' ⟨hr,rfl,ks,ms,vs,us,j,e,hv,hu,hk,h,hsz⟩
    subst hr
    refine wpAny_pure ?_
    show Q (decide (items.size < items'.size)) s'
    rw [hsz]
    have:lexLt ks ms=decide (vs.length < us.length):=by
      cases hv with
      | nil=>cases hu <;> rfl
      | cons h1 hv=>
        cases hu with
        | nil=>rfl
        | cons h2 hu=>(injection e; done)
    rw [← this]; exact h
theorem mapM_ok {α β:Type} {M:Model} {f:α→Sem β} {C:β→Prop}:∀ {l:List α} {Q:List β→Shared→Prop},(∀ a∈l,∀ Q:β→Shared→Prop,(∀ b,C b→Q b s)→wpAny M A (f a) Q E s)→(∀ bs,(∀ b∈bs,C b)→Q bs s)→wpAny M A (l.mapM f) Q E s
  | [],Q,_,h=>by rw [List.mapM_nil]; exact wpAny_pure (h [] fun _ q=>nomatch q)
  | a :: l,Q,hf,h=>by
    rw [List.mapM_cons]
    refine wpAny_bind (hf a (.head _) _ fun b hb=>wpAny_bind (mapM_ok (fun a q=>hf a (.tail _ q)) fun bs hbs=>wpAny_pure (h _ fun b' q=>?_)))
    rcases List.mem_cons.mp q with rfl | q
    · exact hb
    · exact hbs _ q
theorem arr_mapM {α β:Type} {M:Model} {f:α→Sem β} {C:β→Prop} {xs:Array α} {Q:Array β→Shared→Prop} (hf:∀ a∈xs.toList,∀ Q:β→Shared→Prop,(∀ b,C b→Q b s)→wpAny M A (f a) Q E s) (h:∀ bs,(∀ b∈bs.toList,C b)→Q bs s):wpAny M A (xs.mapM f) Q E s:=by
  rw [Array.mapM_eq_mapM_toList]
  exact wpAny_bind (mapM_ok hf fun bs hb=>wpAny_pure (h _ hb))
theorem key_kind {vs:Array Value} {Q:SortKind→Shared→Prop} (hv:∀ v∈vs.toList,∃ c x ks,v=.ref c∧IsTupleKey (scKind prog w) s.heap (.inr x :: ks) c) (h:∀ b,Q (tuples' b) s):wpAny (model prog w) A (keyKind' vs) Q E s:=by
  refine wpAny_bind (arr_mapM (C:=fun r=>∃ x t,r=some (.str x t)) (fun v m Q hQ=>?_) fun fs hfs=>?_)
  · obtain ⟨c,x,ks,rfl,k⟩:=hv v m
    have hT:=k.typeIs
    obtain ⟨o,items,n,ho,_,hd,hi⟩:=k
    refine wpAny_bind (wpAny_typeOf hT ?_)
    refine wpAny_bind (listItems_at ho hd (wpAny_pure (hQ _ ?_)))
    obtain ⟨l⟩:=items
    cases hi with
    | cons hx _=>obtain ⟨t,rfl⟩:=Value.isStrOf_shape hx; exact ⟨x,t,rfl⟩
  · have ha:fs.all (·.isSome)=true:=by
      rw [← Array.all_toList,List.all_eq_true]; intro f m; obtain ⟨x,t,rfl⟩:=hfs f m; rfl
    rw [if_pos ha]
    refine wpAny_bind (wpAny_rule ?_)
    refine wpAny_bind (wpAny_bind (arr_mapM (C:=fun _=>True) (fun v m Q hQ=>?_) fun ts _=>?_))
    · rw [Array.toList_filterMap] at m
      obtain ⟨f,mf,e⟩:=List.mem_filterMap.mp m
      obtain ⟨x,t,rfl⟩:=hfs f mf
      (injection e with e; subst e)
      exact wpAny_typeOf (typeIs_str s x t) (hQ _ trivial)
    · split
      · exact wpAny_pure (wpAny_pure (h _))
      · exact wpAny_pure (wpAny_pure (h _))
end
end Mine
end
noncomputable section
namespace Mine
open PySem PySem.Calls PyProof.Rows PySem.W
theorem sc_irrefl (a:Sc):scLt a a=false:=by
  cases a with
  | inl i=>exact decide_eq_false (Int.lt_irrefl i)
  | inr x=>exact decide_eq_false (List.lt_irrefl _)
theorem sc_trans {a b c:Sc} (h1:scLt a b=true) (h2:scLt b c=true):scLt a c=true:=by
  cases a with
  | inl i=>cases b with
    | inl j=>cases c with
      | inl k=>exact decide_eq_true (Int.lt_trans (of_decide_eq_true h1) (of_decide_eq_true h2))
      | inr z=>rfl
    | inr y=>cases c with
      | inl k=>(injection h2; done)
      | inr z=>rfl
  | inr x=>cases b with
    | inl j=>(injection h1; done)
    | inr y=>cases c with
      | inl k=>(injection h2; done)
      | inr z=>exact decide_eq_true (List.lt_trans (of_decide_eq_true h1) (of_decide_eq_true h2))
theorem sc_total {a b:Sc} (h:a≠b) (h1:scLt a b=false):scLt b a=true:=by
  cases a with
  | inl i=>cases b with
    | inl j=>exact decide_eq_true (Int.lt_iff_le_and_ne.mpr ⟨Int.not_lt.mp (of_decide_eq_false h1),fun e=>h (congrArg _ e.symm)⟩)
    | inr y=>(injection h1; done)
  | inr x=>cases b with
    | inl j=>rfl
    | inr y=>
      refine decide_eq_true (Classical.byContradiction fun q=>h (congrArg _ ?_))
      have:=List.le_antisymm (List.not_lt.mp q) (List.not_lt.mp (of_decide_eq_false h1))
      obtain ⟨⟨x⟩⟩:=x; obtain ⟨⟨y⟩⟩:=y
      exact congrArg _ (congrArg _ this)
theorem lex_irrefl:∀ l:List Sc,lexLt l l=false
  | []=>rfl
  | k :: ks=>by rw [lex_cc,if_pos rfl]; exact lex_irrefl ks
theorem lex_trans:∀ {a b c:List Sc},lexLt a b=true→lexLt b c=true→lexLt a c=true
  | [],[],_,h,_=>nomatch h
  | [],_ :: _,[],_,h=>nomatch h
  | [],_ :: _,_ :: _,_,_=>rfl
  | _ :: _,[],_,h,_=>nomatch h
  | _ :: _,_ :: _,[],_,h=>nomatch h
  | x :: a,y :: b,z :: c,h1,h2=>by
    rw [lex_cc] at h1 h2 ⊢
    by_cases e1:x=y
    · subst e1
      rw [if_pos rfl] at h1
      by_cases e2:x=z
      · rw [if_pos e2] at h2 ⊢; exact lex_trans h1 h2
      · rw [if_neg e2] at h2 ⊢; exact h2
    · rw [if_neg e1] at h1
      by_cases e2:y=z
      · subst e2; rw [if_neg e1]; exact h1
      · rw [if_neg e2] at h2
        have:=sc_trans h1 h2
        rw [if_neg fun e=>by rw [e,sc_irrefl] at this; (injection this; done)]; exact this
theorem lex_total:∀ {a b:List Sc},a≠b→lexLt a b=false→lexLt b a=true
  | [],[],h,_=>absurd rfl h
  | [],_ :: _,_,h=>nomatch h
  | _ :: _,[],_,_=>rfl
  | x :: a,y :: b,h,h1=>by
    rw [lex_cc] at h1 ⊢
    by_cases e:x=y
    · subst e; rw [if_pos rfl] at h1 ⊢; exact lex_total (fun e=>h (by rw [e])) h1
    · rw [if_neg e] at h1; rw [if_neg (Ne.symm e)]; exact sc_total e h1
open Classical in
noncomputable def keyIn (prog:Program) (w:World) (h:Heap):Value→Option (List Sc)
  | .ref c=>if q:∃ ks,IsTupleKey (scKind prog w) h ks c then some q.choose else none
  | _=>none
theorem keyIn_eq {prog:Program} {w:World} {h:Heap} {c:Addr} {ks:List Sc} (k:IsTupleKey (scKind prog w) h ks c):keyIn prog w h (.ref c)=some ks:=by
  have q:∃ ks,IsTupleKey (scKind prog w) h ks c:=⟨ks,k⟩
  exact (dif_pos q).trans (congrArg some (q.choose_spec.inj k))
noncomputable def wayKind (prog:Program) (w:World) (h:Heap):KKd where
  α:=List Sc
  blt:=lexLt
  irrefl:=lex_irrefl
  trans:=fun _ _ _=>lex_trans
  negTrans:=fun a b c h=>by
    by_cases e:a=b
    · subst e; exact .inr h
    · cases q:lexLt a b with
      | true=>exact .inl rfl
      | false=>exact .inr (lex_trans (lex_total e q) h)
  total:=fun a b h1 h2=>Classical.byContradiction fun e=>by rw [lex_total e h1] at h2; (injection h2; done)
  keyOf:=keyIn prog w h
  dflt:=[]
end Mine
end
noncomputable section
namespace Mine
open PySem PySem.Calls PyProof.Rows PySem.W
section
variable {prog:Program} {w:World} {A:Around} {E:Value→Shared→Prop} {s:Shared}
structure Ordered (prog:Program) (w:World) (h:Heap) (vs:List Value):Prop where
  keys:∀ v∈vs,∃ c x ks,v=.ref c∧IsTupleKey (scKind prog w) h (.inr x :: ks) c
  lt:∀ c c' ks ms,.ref c∈vs→.ref c'∈vs→IsTupleKey (scKind prog w) h ks c→IsTupleKey (scKind prog w) h ms c'→ltK ks ms=true
theorem Ordered.move {h h':Heap} {vs ws:List Value} (O:Ordered prog w h vs) (p:ws.Perm vs) (k:∀ ks c,IsTupleKey (scKind prog w) h ks c→IsTupleKey (scKind prog w) h' ks c):Ordered prog w h' ws where
  keys:=fun v m=>let ⟨c,x,ks,e,q⟩:=O.keys v (p.mem_iff.mp m); ⟨c,x,ks,e,k _ _ q⟩
  lt:=fun c c' ks ms m m' q q'=>by
    obtain ⟨_,x,ks',e,z⟩:=O.keys _ (p.mem_iff.mp m)
    obtain ⟨_,x',ks'',e',z'⟩:=O.keys _ (p.mem_iff.mp m')
    (injection e with e; subst e); (injection e' with e'; subst e')
    rw [q.inj (k _ _ z),q'.inj (k _ _ z')]
    exact O.lt c c' _ _ (p.mem_iff.mp m) (p.mem_iff.mp m') z z'
theorem pairs_snd {vs:List Value} {a:Array Keyed} (p:a.Perm (pairsOf vs)):(a.map (·.2)).toList.Perm vs:=by
  rw [Array.toList_map]
  refine ((Array.perm_iff_toList_perm.mp p).map _).trans (.of_eq ?_)
  rw [pairsOf_toList,List.map_snd_zip (Nat.le_refl _)]
theorem lt_ways {vs:List Value} {b:Bool} (O:Ordered prog w s.heap vs):LtIs (model prog w) A s (tuples' b) (wayKind prog w s.heap) (pairsOf vs):=fun x y hx hy E Q h=>by
  rw [pairsOf_toList] at hx hy
  have mx:=(mem_zip_self hx).2
  have my:=(mem_zip_self hy).2
  refine gen_goal fun Z3 kZ3=>?_
  obtain ⟨c,t,ks,e,k⟩:=O.keys _ mx
  obtain ⟨c',t',ks',e',k'⟩:=O.keys _ my
  refine kZ3 ?_
  have ex:keyK (wayKind prog w s.heap) x=.inr t :: ks:=by unfold keyK; exact e.symm▸congrArg (Option.getD · []) (keyIn_eq k)
  have ey:keyK (wayKind prog w s.heap) y=.inr t' :: ks':=by unfold keyK; rw [e']; exact congrArg (Option.getD · []) (keyIn_eq k')
  rw [ex,ey] at h
  rw [e] at mx ⊢
  rw [e'] at my ⊢
  exact key_lt k k' (O.lt _ _ _ _ mx my k k') h
noncomputable def RisesV (prog:Program) (w:World) (h:Heap) (vs:List Value):Prop:=vs.Pairwise fun x y=>lexLt ((keyIn prog w h y).getD []) ((keyIn prog w h x).getD [])=false
theorem rises_of {h:Heap} {vs:List Value} {xs:Array Keyed} (p:xs.Perm (pairsOf vs)) (hs:SortedToK (wayKind prog w h) xs (pairsOf vs).size):RisesV prog w h (xs.map (·.2)).toList:=by
  have self:∀ x∈xs.toList,x.1=x.2:=fun x m=>by
    have:=(Array.perm_iff_toList_perm.mp p).mem_iff.mp m
    rw [pairsOf_toList] at this
    exact (mem_zip_self this).1
  refine List.pairwise_iff_getElem.mpr fun i j hi hj hij=>?_
  rw [Array.toList_map,List.length_map,Array.length_toList] at hi hj
  have q:=hs i j (Nat.le_of_lt hij) (p.size_eq▸hj)
  have key:∀ (i:Nat) (hi:i < xs.size) (hi':i < (xs.map (·.2)).toList.length),KK (wayKind prog w h) xs i=(keyIn prog w h (xs.map (·.2)).toList[i]).getD []:=fun i hi hi'=>by
    rw [kk_at (getElem?_pos xs i hi)]
    unfold keyK
    rw [self _ (by simp)]
    simp only [Array.toList_map,List.getElem_map,Array.getElem_toList]
    rfl
  rw [← key i hi,← key j hj]
  exact q
theorem Ordered.same {h h':Heap} {vs:List Value} (O:Ordered prog w h vs) (k:∀ ks c,IsTupleKey (scKind prog w) h ks c→IsTupleKey (scKind prog w) h' ks c):∀ v∈vs,keyIn prog w h' v=keyIn prog w h v:=fun v m=>by
  obtain ⟨c,x,ks,rfl,q⟩:=O.keys v m
  rw [keyIn_eq q,keyIn_eq (k _ _ q)]
theorem RisesV.congr {h h':Heap} {vs:List Value} (r:RisesV prog w h' vs) (e:∀ v∈vs,keyIn prog w h' v=keyIn prog w h v):RisesV prog w h vs:=List.Pairwise.imp_of_mem (fun a b z=>by exact (e _ a)▸(e _ b)▸z) r
theorem sort_ways {a:Addr} {vs:List Value} {n:Nat} {P:Fin→Shared→Prop} (ho:s.heap.get? a=some (seqObj "list" vs.toArray n)) (O:Ordered prog w s.heap vs) (zl:vs.length≤sizeLine) (hz:vs.length < 64∨∀ x∈vs,∀ y∈vs,keyIn prog w s.heap x=keyIn prog w s.heap y)
    (h:∀ out:Array Value,out.toList.Perm vs→RisesV prog w s.heap out.toList→P (.done (.ret .none)) { s with heap:=sortedHeap s.heap a vs out }):wpAny (model prog w) A (Builtin.«list.sort» ⟨[.ref a],[]⟩) P E s:=by
  rw [list_sort_plain]
  have ha:a < s.heap.objs.size:=Heap.lt_size ho
  refine wpAny_bind (listItems_at ho rfl ?_)
  refine wpAny_bind (listUpdate_at ho rfl ?_ (by rw [List.size_toArray]; exact zl))
  obtain ⟨e1,ho1⟩:∃ e1,(s.heap.update a (Obj.mapSeq fun _=>#[])).get? a=some (seqObj "list" #[] e1):=⟨_,get?_update_seq ho (fun _=>#[])⟩
  refine wpAny_bind (seqEpoch_at ho1 rfl ?_)
  refine wpAny_bind (wpAny_newTuple ?_ zl)
  refine wpAny_bind (wpAny_newList ?_)
  refine wpAny_holding ?_
  have oth:∀ b o,b≠a→s.heap.get? b=some o→(((s.heap.update a (Obj.mapSeq fun _=>#[])).push (seqObj "tuple" vs.toArray 0)).push (seqObj "list" #[] 0)).get? b=some o:=fun b o q e=>Heap.get?_push_of_some _ (Heap.get?_push_of_some _ ((Heap.get?_update_other _ _ (Ne.symm q)).trans e))
  have ho6:(((s.heap.update a (Obj.mapSeq fun _=>#[])).push (seqObj "tuple" vs.toArray 0)).push (seqObj "list" #[] 0)).get? a=some (seqObj "list" #[] e1):=Heap.get?_push_of_some _ (Heap.get?_push_of_some _ ho1)
  have k6:∀ ks c,IsTupleKey (scKind prog w) s.heap ks c→IsTupleKey (scKind prog w) (((s.heap.update a (Obj.mapSeq fun _=>#[])).push (seqObj "tuple" vs.toArray 0)).push (seqObj "list" #[] 0)) ks c:=fun ks c k=>by
    obtain ⟨o,it,n',hc,hcl,r⟩:=k
    exact ⟨o,it,n',oth c o (fun q=>by subst q; replace hc:=ho▸hc; (injection hc with hc; subst hc); exact absurd (Value.type.inj hcl) (by decide)) hc,hcl,r⟩
  have O6:=O.move (.refl _) k6
  have same:=O.same k6
  refine (?_:wpAny (model prog w) A _ P E { s with heap:=((s.heap.update a (Obj.mapSeq fun _=>#[])).push (seqObj "tuple" vs.toArray 0)).push (seqObj "list" #[] 0) })
  dsimp only
  have fin:∀ st':SortSt,(arrOf st').Perm (pairsOf vs)→failedOf st'=none→SortedToK (wayKind prog w (((s.heap.update a (Obj.mapSeq fun _=>#[])).push (seqObj "tuple" vs.toArray 0)).push (seqObj "list" #[] 0))) (arrOf st') (pairsOf vs).size→wpAny (model prog w) A (do
      let touched:=(← seqEpoch a) != e1
      Builtin.List.listUpdate (.ref a) fun _=>(arrOf st').map (·.2)
      if let some e:=failedOf st' then rule "list.sort.comparison-raised"; throw e
      if touched then rule "list.sort.modified"; raiseError "ValueError" "list modified during sort"
      ret .none) P E { s with heap:=((s.heap.update a (Obj.mapSeq fun _=>#[])).push (seqObj "tuple" vs.toArray 0)).push (seqObj "list" #[] 0) }:=fun st' hp hf hs=>by
    refine wpAny_bind (seqEpoch_at ho6 rfl ?_)
    refine wpAny_bind (listUpdate_at ho6 rfl ?_ (hsz2:=Nat.le_succ_of_le (by refine Nat.le_trans (Nat.le_of_eq ?_) zl; rw [Array.size_map,hp.size_eq,pairsOf_size])))
    refine hf.symm▸?_
    simp only [bne_self_eq_false,Bool.false_eq_true,if_false]
    exact wpAny_pure (h _ (pairs_snd hp) ((rises_of hp hs).congr fun v m=>same v ((pairs_snd hp).mem_iff.mp m)))
  by_cases h2:vs.toArray.size < 2
  · rw [if_pos h2,if_pos h2]
    refine wpAny_bind (wpAny_pure ?_)
    rw [StateT.run_pure]
    refine wpAny_bind (wpAny_pure ?_)
    refine fin (SortSt.mk' general' (vs.toArray.zip vs.toArray) #[] 7 none) (Array.Perm.refl _) rfl fun i j hij hj=>?_
    rw [pairsOf_size,← List.size_toArray] at hj
    obtain rfl:=Nat.le_zero.mp (Nat.le_of_lt_succ (Nat.lt_of_lt_of_le hj (Nat.le_of_lt_succ h2)))
    obtain rfl:=Nat.le_zero.mp hij
    exact KeyOrd.kle_refl _
  · rw [if_neg h2,if_neg h2]
    refine wpAny_bind (key_kind (fun v m=>O6.keys v m) fun b=>?_)
    refine wpAny_bind (wpAny_mono (wpS_sortRuns (k₀:=tuples' b) (κ:=wayKind prog w _) (a₀:=pairsOf vs) (st:=SortSt.mk' (tuples' b) (vs.toArray.zip vs.toArray) #[] 7 none) (Q:=fun _ st'=>(arrOf st').Perm (pairsOf vs)∧failedOf st'=none∧SortedToK (wayKind prog w _) (arrOf st') (pairsOf vs).size) (lt_ways O6) ⟨Array.Perm.refl _,rfl,rfl,rfl⟩ (by rw [pairsOf_size]; simpa using h2) (by
      rw [pairsOf_size]
      refine hz.imp id fun hz k _ hk=>?_
      have at':∀ i,i < vs.length→∃ v∈vs,KK (wayKind prog w (((s.heap.update a (Obj.mapSeq fun _=>#[])).push (seqObj "tuple" vs.toArray 0)).push (seqObj "list" #[] 0))) (vs.toArray.zip vs.toArray) i=(keyIn prog w s.heap v).getD []:=fun i hi=>by
        refine ⟨vs[i],List.getElem_mem hi,?_⟩
        rw [kk_at (x:=(vs[i],vs[i])) (by simp [hi])]
        exact congrArg (Option.getD · []) (same _ (List.getElem_mem hi))
      obtain ⟨v,mv,ev⟩:=at' k hk
      obtain ⟨u,mu,eu⟩:=at' (vs.length - 1) (Nat.sub_one_lt_of_lt hk)
      exact ev.trans ((congrArg (Option.getD · []) (hz v mv u mu)).trans eu.symm)) fun st' a1 a2 a3=>⟨a1,a2,a3⟩) ?_ fun _ _ e=>e)
    rintro ⟨⟨⟩,st'⟩ s' ⟨rfl,hp,hf,hs⟩
    exact fin st' hp hf hs
end
end Mine
end
noncomputable section
namespace Mine
open PySem PySem.Calls PyProof.Rows PySem.W
section
variable {prog:Program} {w:World} {A:Around} {E:Value→Shared→Prop} {s:Shared} {S:Addr} {es:Array (Int×Value)} {L:Bool}
theorem sorted_set {Q:Value→Shared→Prop} (hh:A.handled=none) (hL:L = !w.params.followText "set-order") (T:TS s.heap S es L) (O:Ordered prog w s.heap (es.toList.map (·.2))) (hz:es.size < 64)
    (h:∀ (out:Array Value) h' d tk b e,out.toList.Perm (es.toList.map (·.2))→RisesV prog w s.heap out.toList→Stays s.heap h'→s.heap.get? b=none→NewV s.heap (.ref b)→h'.get? b=some (seqObj "list" out e)→Q (.ref b) { s with heap:=h',drawn:=d,toks:=tk }):wpAny (model prog w) A (call (.builtin "sorted") [.ref S]) Q E s:=by
  refine Calls.call_function_entry kind_sorted plain_sorted entry_sorted (args_sorted1 _) ?_
  unfold Builtin.«sorted»
  refine wpAny_bind (m:=checkCount "sorted" 1 1 _) (wpAny_pure ?_)
  refine wpAny_bind (collect_set hh hL T fun vs h1 d tk p k=>?_)
  have vl:vs.length < 64:=by rw [p.length_eq,List.length_map,Array.length_toList]; exact hz
  refine wpAny_bind (wpAny_newList ?_ (Nat.le_trans (Nat.le_of_lt vl) (by decide)))
  have k2:Stays s.heap (h1.push (seqObj "list" vs.toArray 0)):=k.trans (stays_push _ _)
  have hoL:(h1.push (seqObj "list" vs.toArray 0)).get? h1.objs.size=some (seqObj "list" vs.toArray 0):=Heap.get?_push_size _ rfl
  have kk:∀ ks c,IsTupleKey (scKind prog w) s.heap ks c→IsTupleKey (scKind prog w) (h1.push (seqObj "list" vs.toArray 0)) ks c:=fun ks c ⟨o,vs,n,ho,r⟩=>⟨o,vs,n,k2 _ _ ho,r⟩
  have O2:=O.move p kk
  refine wpAny_bind (wpAny_holding (wpAny_call_entry slot_list_sort ⟨_,hoL,rfl⟩ entry_list_sort (sort_ways hoL O2 (Nat.le_trans (Nat.le_of_lt vl) (by decide)) (.inl vl) fun out po ro=>⟨_,rfl,?_⟩) (args_list_sort _)))
  have n0:s.heap.get? h1.objs.size=none:=none_of k.live (size_none _)
  obtain ⟨e,he⟩:=sortedHeap_at (out:=out) hoL
  refine wpAny_pure ⟨_,rfl,h out _ d tk _ e (po.trans p) (ro.congr fun v m=>O.same kk v ((po.trans p).mem_iff.mp m)) (fun b o q=>?_) n0 (fun a b e ⟨o,q⟩=>by (injection e with e; subst e); exact Heap.lt_size (k b o q)) he⟩
  rw [sortedHeap_old (fun q'=>by subst q'; rw [n0] at q; (injection q; done)) (Heap.lt_size (k2 _ _ q))]
  exact k2 _ _ q
end
section
variable {Φ:Ct} [Hm Φ.fx] {s:Shared} {v u:Value} {x y z:V} {d:DV}
theorem rises_rp {h:Heap} {vs:List Value} {r:List V} (hr:Φ.rps h vs r) (hw:∀ x∈r,wayV x=true) (R:RisesV Φ.fx.g.prog Φ.fx.g.w h vs):Rises r:=by
  have key:∀ (i:Nat) (hi:i < r.length) (hi':i < vs.length),(keyIn Φ.fx.g.prog Φ.fx.g.w h vs[i]).getD []=keysOf r[i]:=fun i hi hi'=>by
    obtain ⟨v,ev,rv⟩:=hr.get (List.getElem?_eq_getElem hi)
    (injection (List.getElem?_eq_getElem hi').symm.trans ev with Xq; subst Xq)
    obtain ⟨c,e,k⟩:=way_key (hw _ (List.getElem_mem hi)) rv
    rw [e,keyIn_eq k]; rfl
  refine List.pairwise_iff_getElem.mpr fun i j hi hj hij=>?_
  have hl:=hr.length
  rw [← key i hi (hl▸hi),← key j hj (hl▸hj)]
  exact List.pairwise_iff_getElem.mp R i j (hl▸hi) (hl▸hj) hij
theorem ev_nest {f:Str} {id:String} {fp pos sp spos:Pos} {e:Expr} {P:Shared→Value→Shared→Prop} {dd:V→Prop} (hx:glob Φ.fx.env.scope.names f=true) (hF:bltNames.lookup f=some (.builtin id)) (hs:glob Φ.fx.env.scope.names "set"=true) (hp:plainE e=true) (h:Ev Φ (eval e Φ.fx.env) d)
    (st:∀ s v x E,Inv Φ s→Φ.rp s.heap v x→dd x→wpAny (model Φ.fx.g.prog Φ.fx.g.w) Φ.fx.A (call (.type "set") [v]) (fun u s₁=>wpAny (model Φ.fx.g.prog Φ.fx.g.w) Φ.fx.A (call (.builtin id) [u]) (P s) E s₁) E s) (hP:∀ s s₁ v s',Keeps s.heap s₁.heap→P s₁ v s'→P s v s') (hd:d dd) (I:Inv Φ s) :
    Φ.wp (eval (.Call (.Name f fp) [.Call (.Name "set" sp) [e] [] spos] [] pos) Φ.fx.env) (P s) s:=fun E=>by
  refine (?_:wpAny _ _ (eval (.Name f fp) Φ.fx.env >>= fun F=>callWith pos F [] (backTo pos (starEach [.Call (.Name "set" sp) [e] [] spos] Φ.fx.env)) []) _ _ s)
  refine wpAny_bind (name_blt I hx hF ?_ E)
  refine callWith_builtin rfl (Calls.evalArgs_plain ?_)
  refine (?_:wpAny _ _ (eval (.Call (.Name "set" sp) [e] [] spos) Φ.fx.env >>= fun v=>holding [v] (pure []) >>= fun vs=>pure (v :: vs)) _ _ s)
  refine wpAny_bind ?_
  refine (?_:wpAny _ _ (eval (.Name "set" sp) Φ.fx.env >>= fun F=>callWith spos F [] (backTo spos (starEach [e] Φ.fx.env)) []) _ _ s)
  refine wpAny_bind (name_blt (v:=.type "set") I hs rfl ?_ E)
  refine PySem.callWith_type (by rw [star_plain hp]; rfl) ?_
  refine args_ok (qs:=[(e,d)]) (K:=fun xs=>okK (one xs some) dd) (fun q m=>by obtain rfl:=List.mem_singleton.mp m; exact ⟨hp,h⟩) hd I fun vs xs s₁ I₁ k₁ hx rs=>okK_elim hx fun x e hx=>?_
  refine one_elim (C:=fun vs=>wpAny _ _ (call (.type "set") ([]++vs) []) _ _ s₁) e rs fun v x' r e=>?_
  cases e
  exact wpAny_mono (st s₁ _ x E I₁ r hx) (fun u s₂ p=>wpAny_bind (wpAny_holding (wpAny_pure (wpAny_pure (wpAny_mono p (fun _ _ q=>hP _ _ _ _ k₁ q) fun _ _ z=>z))))) fun _ _ z=>z
theorem ev_sortedSet {fp pos sp spos:Pos} {e:Expr} (hx:glob Φ.fx.env.scope.names "sorted"=true) (hs:glob Φ.fx.env.scope.names "set"=true) (hp:plainE e=true) (h:Ev Φ (eval e Φ.fx.env) d) :
    EvN Φ (eval (.Call (.Name "sorted" fp) [.Call (.Name "set" sp) [e] [] spos] [] pos) Φ.fx.env) (fun K=>d fun x=>okK (listO x some) fun l=>(l.all wayV&&decide (l.length≤szLine))=true∧(∀ x∈l,∀ y∈l,ltK (keysOf x) (keysOf y)=true)∧(∃ m:List V,m.length < 64∧∀ x∈l,x∈m)∧∀ r:List V,r.Nodup→(∀ y,y∈r ↔ y∈l)→Rises r→K (.list r)):=fun K s hd I=>by
  refine ev_nest (P:=fun s=>PostN Φ s K) hx rfl hs hp h (fun s v x E I r hx=>?_) (fun _ _ _ _ k p=>p.lift k) hd I
  refine okK_elim hx fun l e ⟨q,hlt,⟨few,hfl,hfw⟩,hK⟩=>?_
  refine listO_elim (C:=fun x=>Φ.rp s.heap v x→wpAny _ _ (call (.type "set") [v]) _ E s) e (fun l' e r=>?_) r
  cases e
  have q:=(Bool.and_eq_true _ _).mp q
  have hw:∀ x∈l,wayV x=true:=List.all_eq_true.mp q.1
  refine r.list_elim fun a o vs n _ ha hc hd hl=>?_
  have hu:=I.room
  have hsz:=all_size hl
  refine call_set (T:="list") (I.ok.hand Hm.no) hu (fun s' k=>⟨o,k _ _ ha,hc.1⟩) PySem.F.sub_list_set PySem.F.sub_list_frozenset (by decide) (goes_list ⟨o,ha,hc.1,n,hd⟩) (fills_ways hl hw hfw (Nat.lt_of_lt_of_le hfl (by decide))) fun h' tk hZ k=>?_
  obtain ⟨es,r,T,he,hr,hnd,hm⟩:=hZ
  rw [hsz,List.take_length] at hm
  have O:Ordered Φ.fx.g.prog Φ.fx.g.w h' (es.toList.map (·.2)):=by
    have kk:∀ y∈r,∀ v,Φ.rp s.heap v y→∃ c x ks,v=.ref c∧keysOf y=.inr x :: ks∧IsTupleKey (scKind Φ.fx.g.prog Φ.fx.g.w) h' (.inr x :: ks) c:=fun y my v ry=>by
      have hy:=hw y ((hm y).mp my)
      obtain ⟨c,e,z⟩:=way_key hy ry
      obtain ⟨x,ks,eh⟩:=keys_head hy
      exact ⟨c,x,ks,e,eh,eh▸key_keep k z⟩
    refine ⟨fun v m=>?_,fun c c' ks ms m m' q q'=>?_⟩
    · obtain ⟨y,my,ry⟩:=hr.of_mem m
      obtain ⟨c,x,ks,e,_,z⟩:=kk y my v ry
      exact ⟨c,x,ks,e,z⟩
    · obtain ⟨y,my,ry⟩:=hr.of_mem m
      obtain ⟨y',my',ry'⟩:=hr.of_mem m'
      obtain ⟨_,x,ks',e,eh,z⟩:=kk y my _ ry
      obtain ⟨_,x',ms',e',eh',z'⟩:=kk y' my' _ ry'
      (injection e with e; subst e); (injection e' with e'; subst e')
      rw [q.inj z,q'.inj z',← eh,← eh']
      exact hlt y ((hm y).mp my) y' ((hm y').mp my')
  refine sorted_set (s:={ s with heap:=h',toks:=tk }) (I.ok.hand Hm.no) rfl T O (by rw [rps_size hr]; exact Nat.lt_of_le_of_lt (hnd.length_le_of_subset (l₂:=few) fun y q=>hfw y ((hm y).mp q)) hfl) fun out h2 dr tk2 b e po ro k2 hb hnv ho=>?_
  obtain ⟨R,pR,rR⟩:=RpAll.perm po hr
  have nb:s.heap.get? b=none:=none_of k.live hb
  have hRw:∀ x∈R,wayV x=true:=fun y q=>hw y ((hm y).mp (pR.mem_iff.mp q))
  refine ⟨⟨⟨I.base.stays.trans (k.trans k2),I.base.os,I.base.gens⟩,(k.trans k2).keeps,.list R,hK R (pR.nodup_iff.mpr hnd) (fun y=>pR.mem_iff.trans (hm y)) (rises_rp (rR.keep k.keeps) hRw ro),.list (fun q=>?_) ho ⟨rfl,rfl⟩ rfl (rR.keep (k.trans k2).keeps)⟩,hnv.le fun b l=>k.keeps.live l⟩
  obtain ⟨o',e'⟩:=I.badLive q
  rw [nb] at e'; (injection e'; done)
theorem ev_lenSet {fp pos sp spos:Pos} {e:Expr} (hx:glob Φ.fx.env.scope.names "len"=true) (hs:glob Φ.fx.env.scope.names "set"=true) (hp:plainE e=true) (h:Ev Φ (eval e Φ.fx.env) d) :
    Ev Φ (eval (.Call (.Name "len" fp) [.Call (.Name "set" sp) [e] [] spos] [] pos) Φ.fx.env) (fun K=>d fun x=>okK ((setLen x).map fun n=>.int n) K):=fun K s hd I=>by
  refine ev_nest (P:=fun s=>Post Φ Φ.rp s K) hx rfl hs hp h (fun s v x E I r hx=>?_) (fun _ _ _ _ k p=>p.lift k) hd I
  refine okK_elim hx fun z e kz=>map_elim (C:=fun z=>K z→_) e (fun n e kz=>?_) kz
  have fin:∀ {Kd:Type} [DecidableEq Kd] (kd:KeyKind Φ.fx.g.prog Φ.fx.g.w Kd) (S:Kd→Bool) (h':Heap) (tk:Nat),h'.SetOf kd s.heap.objs.size S n→Stays s.heap h'→wpAny (model Φ.fx.g.prog Φ.fx.g.w) Φ.fx.A (call (.builtin "len") [.ref s.heap.objs.size]) (Post Φ Φ.rp s K) E { s with heap:=h',toks:=tk }:=fun kd S h' tk hS k=>
    len_set (s:={ s with heap:=h',toks:=tk }) hS fun t tk'=>⟨⟨I.base.stays.trans k,I.base.os,I.base.gens⟩,k.keeps,_,kz,.int _ _⟩
  cases x with
  | str t=>
    refine ifo_elim e fun q e=>?_
    (injection e with e; subst e)
    refine r.str_elim fun tk=>?_
    have F:=fills_ded (knd:=PySem.strKind Φ.fx.g.prog Φ.fx.g.w) (h₀:=s.heap) (S:=s.heap.objs.size) (P:=SignAt t) (ks:=t.cps.toList.map fun c=>(⟨#[c]⟩:Str)) (fun i v ⟨c,u,hc,e⟩=>⟨⟨#[c]⟩,by rw [List.getElem?_map,Array.getElem?_toList,hc]; rfl,by subst e; simp [PySem.strKind,Value.isStrOf],by subst e; rfl⟩) (by rw [List.length_map,Array.length_toList]; unfold scanBound; lia)
    have el:(ded ((t.cps.toList.map fun c=>(⟨#[c]⟩:Str)).take t.cps.size)).length=(ded t.cps.toList).length:=by
      rw [List.take_of_length_le (by rw [List.length_map,Array.length_toList]; exact Nat.le_refl _),ded_map (fun a b e=>by simpa using e),List.length_map]
    rw [List.length_map,Array.length_toList] at F
    exact call_set (T:="str") (I.ok.hand Hm.no) I.room (fun s' k=>typeIs_str _ _ _) (by rw [isSubtype_type]; kernel_rfl) (by rw [isSubtype_type]; kernel_rfl) (by decide) goes_str F fun h' tk hZ k=>fin (PySem.strKind _ _) _ h' tk (el▸hZ) k
  | list l=>
    obtain ⟨is,ei,e⟩:=Option.bind_eq_some_iff.mp e
    refine ifo_elim e fun q e=>?_
    (injection e with e; subst e)
    refine r.list_elim fun a o vs n _ ha hc hd hl=>?_
    have hi:=intsAre_of ei hl
    have hli:vs.size=is.length:=by rw [← Array.length_toList,hi.nums.symm,List.length_map]
    have F:=fills_ded (knd:=intKind Φ.fx.g.prog Φ.fx.g.w) (h₀:=s.heap) (S:=s.heap.objs.size) (P:=fun i v=>vs[i]?=some v) (ks:=is) (fun i v e=>?_) (by unfold scanBound; lia)
    · rw [← hli] at F
      exact call_set (T:="list") (I.ok.hand Hm.no) I.room (fun s' k=>⟨o,k _ _ ha,hc.1⟩) PySem.F.sub_list_set PySem.F.sub_list_frozenset (by decide) (goes_list ⟨o,ha,hc.1,n,hd⟩) F fun h' tk hZ k=>fin (intKind _ _) _ h' tk (by rw [hli,List.take_length] at hZ; exact hZ) k
    · obtain ⟨t,et⟩:=hi.int_at i v (Array.getElem?_toList▸e)
      have hlt:i < is.length:=hli▸(Array.getElem?_eq_some_iff.mp e).1
      refine ⟨is.getD i 0,by rw [List.getElem?_eq_getElem hlt]; simp [hlt],?_,by subst et; rfl⟩
      subst et; simp [intKind,Value.isInt]
  | _=>(injection e; done)
end
end Mine
end
noncomputable section
namespace Mine
open PySem PySem.Calls PyProof.Rows PySem.W
section
variable {prog:Program} {w:World} {A:Around} {E:Value→Shared→Prop} {s:Shared}
theorem sorted_ways {l:Addr} {vs:List Value} {Q:Value→Shared→Prop} (hl:s.heap.IsList l vs.toArray) (O:Ordered prog w s.heap vs) (zl:vs.length≤sizeLine) (hz:vs.length < 64∨∀ x∈vs,∀ y∈vs,keyIn prog w s.heap x=keyIn prog w s.heap y)
    (h:∀ (out:Array Value) h' b e,out.toList.Perm vs→RisesV prog w s.heap out.toList→Stays s.heap h'→s.heap.get? b=none→NewV s.heap (.ref b)→h'.get? b=some (seqObj "list" out e)→Q (.ref b) { s with heap:=h' }):wpAny (model prog w) A (call (.builtin "sorted") [.ref l]) Q E s:=by
  refine Calls.call_function_entry kind_sorted plain_sorted entry_sorted (args_sorted1 _) ?_
  unfold Builtin.«sorted»
  refine wpAny_bind (m:=checkCount "sorted" 1 1 _) (wpAny_pure ?_)
  refine wpAny_bind (collect_list hl ?_ zl)
  refine wpAny_bind (wpAny_newList ?_ zl)
  generalize hH:(s.heap.push (seqObj "list" #[] 0)).update s.heap.objs.size (Obj.mapSeq (·++vs.toArray))=h1
  have k:Stays s.heap h1:=fun b o e=>by rw [← hH,Heap.get?_update_other _ _ (Nat.ne_of_gt (Heap.lt_size e))]; exact Heap.get?_push_of_some _ e
  have k2:Stays s.heap (h1.push (seqObj "list" vs.toArray 0)):=k.trans (stays_push _ _)
  have hoL:(h1.push (seqObj "list" vs.toArray 0)).get? h1.objs.size=some (seqObj "list" vs.toArray 0):=Heap.get?_push_size _ rfl
  have kk:∀ ks c,IsTupleKey (scKind prog w) s.heap ks c→IsTupleKey (scKind prog w) (h1.push (seqObj "list" vs.toArray 0)) ks c:=fun ks c ⟨o,vs,n,ho,r⟩=>⟨o,vs,n,k2 _ _ ho,r⟩
  have O2:=O.move (.refl _) kk
  have same:=O.same kk
  refine (?_:wpAny _ _ _ _ _ { s with heap:=h1.push (seqObj "list" vs.toArray 0) })
  refine wpAny_bind (wpAny_holding (wpAny_call_entry slot_list_sort ⟨_,hoL,rfl⟩ entry_list_sort (sort_ways hoL O2 zl (hz.imp id fun q x mx y my=>by rw [same x mx,same y my]; exact q x mx y my) fun out po ro=>⟨_,rfl,?_⟩) (args_list_sort _)))
  have n0:s.heap.get? h1.objs.size=none:=none_of k.live (size_none _)
  obtain ⟨e,he⟩:=sortedHeap_at (out:=out) hoL
  refine wpAny_pure ⟨_,rfl,h out _ _ e po (ro.congr fun v m=>same v (po.mem_iff.mp m)) (fun b o q=>?_) n0 (fun a b e ⟨o,q⟩=>by (injection e with e; subst e); exact Heap.lt_size (k b o q)) he⟩
  rw [sortedHeap_old (fun q'=>by subst q'; rw [n0] at q; (injection q; done)) (Heap.lt_size (k2 _ _ q))]
  exact k2 _ _ q
end
section
variable {Φ:Ct} [Hm Φ.fx] {s:Shared} {v u:Value} {x y z:V} {d:DV}
theorem ways_ordered {h:Heap} {vs:List Value} {l:List V} (hr:Φ.rps h vs l) (hw:∀ x∈l,wayV x=true) (hlt:∀ x∈l,∀ y∈l,ltK (keysOf x) (keysOf y)=true):Ordered Φ.fx.g.prog Φ.fx.g.w h vs:=by
  refine ⟨fun v m=>?_,fun c c' ks ms m m' q q'=>?_⟩
  · obtain ⟨y,my,ry⟩:=hr.of_mem m
    obtain ⟨c,e,z⟩:=way_key (hw y my) ry
    obtain ⟨x,ks,eh⟩:=keys_head (hw y my)
    exact ⟨c,x,ks,e,eh▸z⟩
  · obtain ⟨y,my,ry⟩:=hr.of_mem m
    obtain ⟨y',my',ry'⟩:=hr.of_mem m'
    obtain ⟨_,e,z⟩:=way_key (hw y my) ry
    obtain ⟨_,e',z'⟩:=way_key (hw y' my') ry'
    (injection e with e; subst e); (injection e' with e'; subst e')
    rw [q.inj z,q'.inj z']
    exact hlt y my y' my'
theorem ev_sortedL {fp pos:Pos} {e:Expr} (hx:glob Φ.fx.env.scope.names "sorted"=true) (hp:plainE e=true) (h:Ev Φ (eval e Φ.fx.env) d) :
    EvN Φ (eval (.Call (.Name "sorted" fp) [e] [] pos) Φ.fx.env) (fun K=>d fun x=>okK (listO x some) fun l=>(l.all wayV&&decide (l.length≤szLine))=true∧(∀ x∈l,∀ y∈l,ltK (keysOf x) (keysOf y)=true)∧(l.length < 64∨∀ x∈l,∀ y∈l,x=y)∧∀ r:List V,r.Perm l→Rises r→K (.list r)):=fun K s hd I=>
  ev_call1 hx rfl (.inl ⟨_,rfl⟩) hp h (fun s v x E I r hx=>okK_elim hx fun l e ⟨q,hlt,hfew,hK⟩=>by
    refine listO_elim (C:=fun x=>Φ.rp s.heap v x→wpAny _ _ (call (.builtin "sorted") [v]) _ E s) e (fun l' e r=>?_) r
    cases e
    have q:=(Bool.and_eq_true _ _).mp q
    have hw:∀ x∈l,wayV x=true:=List.all_eq_true.mp q.1
    refine r.list_elim fun a o vs n _ ha hc hd hl=>?_
    have hlen:=hl.length
    refine sorted_ways (vs:=vs.toList) ⟨o,ha,hc.1,n,by rw [hd]⟩ (ways_ordered hl hw hlt) (by rw [hlen]; exact sz_le (of_decide_eq_true q.2)) (hfew.imp (fun z=>by rw [hlen]; exact z) fun z u mu u' mu'=>?_) fun out h' b e po ro k hb hnv ho=>?_
    · obtain ⟨y,my,ry⟩:=hl.of_mem mu
      obtain ⟨y',my',ry'⟩:=hl.of_mem mu'
      obtain ⟨c,e,q⟩:=way_key (hw y my) ry
      obtain ⟨c',e',q'⟩:=way_key (hw y' my') ry'
      rw [e,e',keyIn_eq q,keyIn_eq q',z y my y' my']
    obtain ⟨R,pR,rR⟩:=RpAll.perm po hl
    refine ⟨⟨⟨I.base.stays.trans k,I.base.os,I.base.gens⟩,k.keeps,.list R,hK R pR (rises_rp rR (fun y m=>hw y (pR.mem_iff.mp m)) ro),.list (fun q=>?_) ho ⟨rfl,rfl⟩ rfl (rR.keep k.keeps)⟩,hnv⟩
    obtain ⟨o',e'⟩:=I.badLive q
    exact no_some hb e') hd I
end
end Mine
end
noncomputable section
namespace Mine
open PySem PySem.Calls PyProof.Rows PySem.W
section
variable {Φ:Ct} {s:Shared} {v u:Value} {x y z:V} {d d1 d2:DV}
theorem ev_edict {pos:Pos}:Ev Φ (eval (.Dict [] [] pos) Φ.fx.env) (fun K=>K (.dict [])):=fun K s hd I E=>
  wpAny_Dict_empty (let gr:=Grown.push s { cls:=.type "dict",data:=.dict #[] } s.toks; ⟨I.base.grown gr,gr.keeps,_,hd,.dict I.fresh (Heap.get?_push_size _ rfl) ⟨rfl,rfl,rfl⟩ rfl⟩)
theorem rev_pick (items:Array Value):slicePick items none none (some (-1))=items.toList.reverse.toArray:=by
  refine congrArg List.toArray ?_
  refine (?_:(sliceRange ((items.size:Int) - 1) (-1) (-1)).filterMap (items[·]?)=_)
  have e:sliceRange ((items.size:Int) - 1) (-1) (-1)=(List.range items.size).reverse:=by
    unfold sliceRange
    have h1:¬ ((-1:Int) > 0):=by decide
    have c:(if (items.size:Int) - 1 > -1 then ((items.size:Int) - 1 - -1 - -1 - 1) / (- -1) else 0).toNat=items.size:=by
      rw [show (- -1:Int)=1 from rfl,Int.ediv_one]
      split <;> omega
    simp only [h1,if_false,c]
    refine List.ext_getElem (by simp) fun i a b=>?_
    rw [List.getElem_map,List.getElem_range,List.getElem_reverse,List.getElem_range,List.length_range]
    omega
  have p:=picks_eq (xs:=items) (Nat.zero_le items.size) (Nat.le_refl _)
  rw [Nat.sub_zero,show ((0 + ·):Nat→Nat)=id from funext fun k=>Nat.zero_add k,List.map_id,List.drop_zero,List.take_of_length_le (by rw [Array.length_toList]; exact Nat.le_refl _)] at p
  rw [e,List.filterMap_reverse,p]
theorem RpAll.rev {h:Heap} {vs:List Value} {l:List V} (r:Φ.rps h vs l):Φ.rps h vs.reverse l.reverse:=by
  refine r.ind (D:=fun vs l=>Φ.rps h vs.reverse l.reverse) .nil fun v vs x l r _ i=>?_
  rw [List.reverse_cons,List.reverse_cons]
  exact RpAll.append i (.cons r .nil)
theorem rev_ok {sl:Addr} {t:Tok} (I:Inv Φ s) (e:revO x (.int (-1))=some z) (r:Φ.rp s.heap v x) (hs:s.heap.IsSliceOf sl .none .none (.int (-1) t)):HasItem s v∧Φ.wp (getItem v (.ref sl)) (Φ.Gives s z) s:=
  listO_elim (C:=fun x=>Φ.rp s.heap v x→HasItem s v∧Φ.wp (getItem v (.ref sl)) (Φ.Gives s z) s) e (fun l e r=>r.list_elim fun a o vs n _ ha hc hd hl=>by
    have hL:s.heap.IsList a vs:=⟨_,ha,hc.1,_,hd⟩
    refine ⟨⟨_,_,hL.typeIs,slot_list_getitem.lookup⟩,if_elim (C:=fun z=>Φ.wp (getItem (.ref a) (.ref sl)) (Φ.Gives s z) s) (e:(if (-1:Int) = -1∧l.length≤szLine then some (PyData.list l.reverse) else none)=some z) fun hz=>?_⟩
    refine fun E=>wpAny_getItem_list_slice hL hs .none .none (.int _ _) (fun q=>nomatch q) ?_ (by rw [all_size hl]; exact sz_le hz.2)
    rw [rev_pick]
    exact made_list (tk:=s.toks) I (RpAll.rev hl)) r
theorem ev_rev {value st:Expr} {p pos:Pos} (h1:Ev Φ (eval value Φ.fx.env) d1) (h2:Ev Φ (eval st Φ.fx.env) d2) :
    Ev Φ (eval (.Subscript value (.Slice none none (some st) p) pos) Φ.fx.env) (fun K=>d1 fun x=>d2 fun y=>okK (revO x y) K):=fun K s hd I=>by
  rw [arm_eval_Subscript]
  refine h1.bind hd I fun v x s₁ I₁ k₁ hx r1=>?_
  have hS:EvR Φ (fun h v (y:V)=>∃ sl vk,v=.ref sl∧h.IsSliceOf sl .none .none vk∧Φ.rp h vk y) (eval (.Slice none none (some st) p) Φ.fx.env) d2:=fun K s hd I=>by
    rw [arm_eval_Slice]
    refine fun E=>wpAny_bind (wpAny_pure (wpAny_bind (wpAny_holding (wpAny_pure (wpAny_bind (wpAny_holding (wpAny_mono (h2 K s hd I E) (fun vk s' ⟨B,k,y,hy,rk⟩=>?_) fun _ _ z=>z)))))))
    have gr:=Grown.push s' { cls:=.type "slice",data:=.fields #[.none,.none,vk] } s'.toks
    exact wpAny_newObj_type ⟨B.grown gr,k.trans gr.keeps,y,hy,_,vk,rfl,Heap.IsSliceOf.new ..,rk.keep gr.keeps⟩
  refine hS.holding.bind (K₁:=fun y=>okK (revO x y) K) hx I₁ fun u y s₂ I₂ k₂ hq rq=>?_
  obtain ⟨sl,vk,rfl,hs,rk⟩:=rq
  refine okK_elim hq fun z e kz=>?_
  have hy:y=.int (-1):=by
    refine listO_elim (C:=fun _=>y=.int (-1)) e fun l e=>intO_elim (C:=fun y=>y=.int (-1)) e fun i e=>?_
    exact ifo_elim e fun q _=>congrArg _ q.1
  subst hy
  exact rk.int_elim (C:=fun vk=>s₂.heap.IsSliceOf sl .none .none vk→_) (fun t hs=>step I₂ kz (sub_tail (rev_ok I₂ e (r1.keep k₂) hs))) hs
theorem tuple_ok {l:List V} (I:Inv Φ s) (e:pairO x=some l) (r:Φ.rp s.heap v x):Φ.wp (call (.type "tuple") [v]) (Φ.Gives s (.tuple l)) s:=
  pair_elim (C:=fun x l=>Φ.rp s.heap v x→Φ.wp (call (.type "tuple") [v]) (Φ.Gives s (.tuple l)) s) e
    (fun l hz r=>r.list_elim fun a o vs n _ ha hc hd hl E=>call_tuple_list ⟨_,ha,hc.1,_,hd⟩ (fun h' hk=>by
      have k2:Stays s.heap (h'.push { cls:=.type "tuple",data:=.seq vs }):=fun b o e=>Heap.get?_push_of_some _ (hk b o e)
      refine ⟨grown_of (tk:=s.toks) k2,.tuple (fun q=>?_) (Heap.get?_push_size _ rfl) rfl rfl (hl.keep k2.keeps)⟩
      obtain ⟨o',e'⟩:=I.badLive q
      exact no_some (size_none _) (hk _ _ e')) (by rw [all_size hl]; exact sz_le hz))
    (fun l hz r=>r.tuple_elim fun a o vs n hb ha hc hd hl E=>call_tuple_same ⟨_,ha,hc,_,hd⟩ ⟨.refl _,.tuple hb ha hc hd hl⟩) r
theorem ev_tupleOf {fp pos:Pos} {qs:List (Expr×DV)} (hx:glob Φ.fx.env.scope.names "tuple"=true) (hq:∀ q∈qs,plainE q.1=true∧Good1 Φ q):Ev Φ (eval (.Call (.Name "tuple" fp) (qs.map Prod.fst) [] pos) Φ.fx.env) (fun K=>manyV (qs.map Prod.snd) fun xs=>okK (opN .tupleOf xs) K):=
  ev_callB (op:=opN .tupleOf) hx rfl (.inr ⟨_,rfl⟩) hq fun s vs xs z I rs e=>one_elim (C:=fun vs=>Φ.wp (call (.type "tuple") vs) (Φ.Gives s z) s) e rs fun v x r e=>map_elim e fun l e=>tuple_ok I e r
theorem bools_at {h:Heap} {vs:List Value} {l:List V} {bs:List Bool} (e:boolsL l=some bs) (r:Φ.rps h vs l):vs=bs.map .bool:=by
  refine r.ind (D:=fun vs l=>∀ bs,boolsL l=some bs→vs=bs.map .bool) (fun bs e=>some_elim e rfl) (fun v vs x l r _ ih bs e=>?_) bs e
  unfold boolsL at e
  rw [List.mapM_cons] at e
  obtain ⟨b,hb,e⟩:=Option.bind_eq_some_iff.mp e
  obtain ⟨bs',hbs,e⟩:=Option.bind_eq_some_iff.mp e
  (injection e with e; subst e)
  refine boolO_elim (C:=fun x=>Φ.rp h v x→_) hb (fun c e r=>?_) r
  (injection e with e; subst e)
  exact r.bool_elim (by rw [ih bs' hbs]; rfl)
theorem all_ok [Hm Φ.fx] {l:List V} {bs:List Bool} (I:Inv Φ s) (hz:l.length≤szLine) (e:boolsL l=some bs) (r:Φ.rp s.heap v (.list l)):Φ.wp (call (.builtin "all") [v]) (Φ.Gives s (.bool (bs.all id))) s:=by
  refine r.list_elim fun a o vs n _ ha hc hd hl E=>?_
  have hL:s.heap.IsList a vs:=⟨_,ha,hc.1,_,hd⟩
  have hb:=bools_at e hl
  have hlen:vs.size=bs.length:=by rw [← Array.length_toList,hb,List.length_map]
  refine call_all_walk (wpAny_pyIter_list hL ⟨_,_,_,_,_,_,fun i=>bs.getD i true,rfl,Walks.list (A:=Φ.fx.A.in1) (I.ok.hand Hm.no) s.heap.objs.size a (ne_size ha) vs,⟨⟨_,Heap.get?_push_size _ rfl,rfl,rfl⟩,hL.push _⟩,?_,fun h' tk hk=>?_⟩)
  · intro i v s Q E hv hq
    have hv:vs[i]?=some v:=hv
    rw [← Array.getElem?_toList,hb,List.getElem?_map] at hv
    obtain ⟨b,eb,rfl⟩:=Option.map_eq_some_iff.mp hv
    refine wpAny_truthy_bool ?_
    have hq:Q (bs.getD i true) s:=hq
    rw [List.getD_eq_getElem?_getD,eb] at hq
    exact hq
  · have ea:(List.range vs.size).all (fun i=>bs.getD i true)=bs.all id:=by
      rw [hlen,Bool.eq_iff_iff,List.all_eq_true,List.all_eq_true]
      constructor
      · intro q b m
        obtain ⟨i,hi,rfl⟩:=List.getElem_of_mem m
        have:=q i (List.mem_range.mpr hi)
        rw [List.getD_eq_getElem?_getD,List.getElem?_eq_getElem hi] at this
        exact this
      · intro q i m
        have hi:=List.mem_range.mp m
        rw [List.getD_eq_getElem?_getD,List.getElem?_eq_getElem hi]
        exact q _ (List.getElem_mem hi)
    rw [ea]
    refine ⟨⟨fun b o e=>hk b o (fun m=>?_) (Heap.get?_push_of_some _ e),rfl,rfl⟩,.bool _⟩
    obtain rfl:=List.mem_singleton.mp m
    exact no_some (size_none _) e
theorem ev_all [Hm Φ.fx] {fp pos:Pos} {qs:List (Expr×DV)} (hx:glob Φ.fx.env.scope.names "all"=true) (hq:∀ q∈qs,plainE q.1=true∧Good1 Φ q):Ev Φ (eval (.Call (.Name "all" fp) (qs.map Prod.fst) [] pos) Φ.fx.env) (fun K=>manyV (qs.map Prod.snd) fun xs=>okK (opN .allOf xs) K):=
  ev_callB (op:=opN .allOf) hx rfl (.inl ⟨_,rfl⟩) hq fun s vs xs z I rs e=>one_elim (C:=fun vs=>Φ.wp (call (.builtin "all") vs) (Φ.Gives s z) s) e rs fun v x r e=>
    listO_elim (f:=fun l=>if l.length≤szLine then (boolsL l).map fun bs=>PyData.bool (bs.all id) else none) (C:=fun x=>Φ.rp s.heap v x→Φ.wp (call (.builtin "all") [v]) (Φ.Gives s z) s) e (fun l e r=>ifo_elim e fun hz e=>map_elim (C:=fun z=>Φ.wp (call (.builtin "all") [v]) (Φ.Gives s z) s) e fun bs e=>all_ok I hz e r) r
end
end Mine
end
noncomputable section
namespace Mine
open PySem PySem.Calls PyProof.Rows PySem.W
noncomputable def FrameAt (h:Heap) (L:Addr):Prop:=∃ o,h.get? L=some o∧o.cls=.type "frame"
section
variable {M:Model} {A:Around} {E:Value→Shared→Prop} {s₀ s:Shared} {m cm:Str→Option Value} {env:Env}
theorem stLF {n:Str} {v:Value} {Q:Unit→Shared→Prop} (x:InCallC s₀ env.locals m env.cells cm s) (fr:FrameAt s.heap env.locals) (hk:env.scope.kind=.function) (hl:env.kindOf n=some .local)
    (h:∀ s',InCallC s₀ env.locals (fun y=>if y=n then some v else m y) env.cells cm s'→FrameAt s'.heap env.locals→Q () s'):wpAny M A (storeName env n v) Q E s:=by
  rw [storeName_local hl (by rw [hk]; rfl)]
  refine wpAny_nsSetC x.toInCall.ns fun h' hn' hs' hc'=>h _ ⟨⟨?_,hn',fun b o e=>?_,x.toInCall.fresh⟩,fun k c hc=>?_,x.apart,x.above⟩ ?_
  · obtain ⟨h₁,tk,rfl⟩:=x.toInCall.same
    exact ⟨h',_,rfl⟩
  · exact hs'.extBut b o (Nat.ne_of_lt (Nat.lt_of_lt_of_le (Heap.lt_size e) x.toInCall.fresh)) (x.toInCall.keep b o e)
  · exact (x.cell k c hc).sameBut hs' (Nat.ne_of_gt (x.above k c (mem_of_lookup hc)))
  · obtain ⟨o,e,c⟩:=fr
    obtain ⟨o',e',c'⟩:=hc' o e
    exact ⟨o',e',c'.trans c⟩
theorem stCF {n:Str} {c:Addr} {v:Value} {Q:Unit→Shared→Prop} (x:InCallC s₀ env.locals m env.cells cm s) (fr:FrameAt s.heap env.locals) (hk:env.scope.kind=.function) (hl:env.kindOf n=some .cell)
    (hc:env.cells.lookup n=some c)
    (h:∀ s',InCallC s₀ env.locals m env.cells (fun y=>if y=n then some v else cm y) s'→FrameAt s'.heap env.locals→Q () s'):wpAny M A (storeName env n v) Q E s:=by
  have hLc:=x.above n c (mem_of_lookup hc)
  refine wpAny_storeName_cell hk hl hc (x.cell n c hc) fun h' hc' hs'=>h _ ⟨⟨?_,x.toInCall.ns.sameBut hs' (Nat.ne_of_lt hLc),fun b o e=>?_,x.toInCall.fresh⟩,fun k c' hk'=>?_,x.apart,x.above⟩ ?_
  · obtain ⟨h₁,tk,rfl⟩:=x.toInCall.same
    exact ⟨h',_,rfl⟩
  · exact hs'.extBut b o (Nat.ne_of_lt (Nat.lt_trans (Nat.lt_of_lt_of_le (Heap.lt_size e) x.toInCall.fresh) hLc)) (x.toInCall.keep b o e)
  · by_cases hkn:k=n
    · subst hkn
      rw [hc] at hk'; (injection hk' with hk'; subst hk')
      simpa using hc'
    · rw [if_neg hkn]
      exact (x.cell k c' hk').sameBut hs' fun e=>hkn (name_of_addr x.apart (mem_of_lookup hk') (e▸mem_of_lookup hc))
  · obtain ⟨o,e,hcl⟩:=fr
    exact ⟨o,hs'.extBut _ o (Nat.ne_of_lt hLc) e,hcl⟩
theorem bindParamsF (f:Str×Value→PUnit→Sem (ForInStep PUnit)) (hf:∀ n v u,f (n,v) u=(do storeName env n v; pure (.yield ⟨⟩))) (hk:env.scope.kind=.function) :
    ∀ (binds:List (Str×Value)) (m cm:Str→Option Value) (s:Shared) (Q:PUnit→Shared→Prop),InCallC s₀ env.locals m env.cells cm s→FrameAt s.heap env.locals →
      (∀ x∈binds,env.kindOf x.1=some .local∨(env.kindOf x.1=some .cell∧(env.cells.lookup x.1).isSome=true)) →
      (∀ s',InCallC s₀ env.locals (bindL env.kindOf binds m) env.cells (bindC env.kindOf binds cm) s'→FrameAt s'.heap env.locals→Q ⟨⟩ s')→wpAny M A (forIn binds ⟨⟩ f) Q E s
  | [],m,cm,s,Q,x,fr,_,h=>by rw [List.forIn_nil]; exact wpAny_pure (h s x fr)
  | (n,v) :: r,m,cm,s,Q,x,fr,hkind,h=>by
    rw [List.forIn_cons,hf]
    have hr:∀ y∈r,env.kindOf y.1=some .local∨(env.kindOf y.1=some .cell∧(env.cells.lookup y.1).isSome=true):=fun y hy=>hkind y (List.mem_cons_of_mem _ hy)
    rcases hkind (n,v) List.mem_cons_self with hl | ⟨hl,hc⟩
    · refine wpAny_bind (wpAny_bind (stLF x fr hk hl fun s' x' fr'=>wpAny_pure (bindParamsF f hf hk r _ _ s' Q x' fr' hr fun s'' x''=>h s'' ?_)))
      unfold bindL bindC; rw [if_pos hl,if_pos hl]; exact x''
    · obtain ⟨c,hc⟩:=Option.isSome_iff_exists.mp hc
      have hnl:¬ env.kindOf n=some .local:=by rw [hl]; decide
      refine wpAny_bind (wpAny_bind (stCF x fr hk hl hc fun s' x' fr'=>wpAny_pure (bindParamsF f hf hk r _ _ s' Q x' fr' hr fun s'' x''=>h s'' ?_)))
      unfold bindL bindC; rw [if_neg hnl,if_neg hnl]; exact x''
theorem newEnvF {scope:Scope} {globals:Addr} {binds:List (Str×Value)} {qual:Str} {func:Option Addr} {code:Value} {builtins:Addr} {Q:Env→Shared→Prop}
    (hk:scope.kind=.function)
    (hkind:∀ x∈binds,scope.names.lookup x.1=some .local∨(scope.names.lookup x.1=some .cell∧((cellsFrom (s.heap.objs.size+1) scope.names []).lookup x.1).isSome=true))
    (hQ:∀ env,env=newEnv scope s.heap.objs.size globals (cellsFrom (s.heap.objs.size+1) scope.names []) qual func code none builtins →
      ∀ s',InCallC s env.locals (bindL env.kindOf binds fun _=>none) env.cells (bindC env.kindOf binds fun _=>none) s'→FrameAt s'.heap env.locals→Q env s') :
    wpAny M A (newFunctionEnv scope globals [] binds qual func code none builtins) Q E s:=by
  simp only [newFunctionEnv,Option.isSome_none,Bool.false_eq_true,if_false]
  refine wpAny_bind (wpAny_alloc ?_)
  refine wpAny_bind (wpAny_layCells _ (fun name kind cells=>by cases hkc:kind==NameKind.cell <;> simp [hkc]) _ _ _ _ ?_)
  have ok:=cellsFrom_ok scope.names (s.heap.push { cls:=.type "frame",data:=.dict #[] }) (s.heap.objs.size+1) [] ⟨fun _ _ hm=>(nomatch hm),List.Pairwise.nil⟩ (by rw [Heap.size_push]; exact Nat.le_refl _)
  rw [Heap.size_push] at ok
  rw [show ({ s with heap:=s.heap.push { cls:=.type "frame",data:=.dict #[] } }:Shared).heap.objs.size=s.heap.objs.size+1 from Heap.size_push ..]
  refine wpAny_bind (bindParamsF (s₀:=s) (env:=newEnv scope s.heap.objs.size globals (cellsFrom (s.heap.objs.size+1) scope.names []) qual func code none builtins)
    _ (fun _ _ _=>rfl) hk binds (fun _=>none) (fun _=>none) _ _
    ⟨⟨⟨_,_,rfl⟩,(Heap.Ns.new s.heap (.type "frame")).keeps (pushCells_keeps _ _),fun b o e=>pushCells_keeps _ _ b o (Heap.get?_push_of_some _ e),Nat.le_refl _⟩,
      fun n c hc=>(ok.empty n c (mem_of_lookup hc)).1,ok.apart,fun n c hm=>(ok.empty n c hm).2⟩
    ⟨_,pushCells_keeps _ _ _ _ (Heap.get?_push_size _ rfl),rfl⟩
    hkind fun s' x fr=>wpAny_pure (hQ _ rfl s' x fr))
end
section
variable {prog:Program} {w:World} {A:Around} {s:Shared}
theorem callF {R:Result→Shared→Prop} {a:Addr} {o:Obj} {fd:FuncData} {body:List Stmt} {vals:List Value} {binds:List (Str×Value)}
    (hroom:A.depth < recursionLimit) (ho:s.heap.get? a=some o) (hdata:o.data=.func fd) (hlim:s.heap.NoLimit) (hcd:s.heap.CodeRec fd.code fd.qualname)
    (hbody:fd.body=.stmts body) (hbind:bindArgs fd ⟨vals,[]⟩=pure binds) (hclo:fd.closure=[])
    (hkind:∀ x∈binds,fd.scope.names.lookup x.1=some .local∨(fd.scope.names.lookup x.1=some .cell∧((cellsFrom (s.heap.objs.size+1) fd.scope.names []).lookup x.1).isSome=true))
    (hco:fd.scope.isCoroutine=false) (hgen:fd.scope.isGenerator=false) (hk:fd.scope.kind=.function)
    (h:∀ s₁,InCallC s (callEnvC fd s.heap.objs.size a).locals (bindL (callEnvC fd s.heap.objs.size a).kindOf binds fun _=>none) (callEnvC fd s.heap.objs.size a).cells
        (bindC (callEnvC fd s.heap.objs.size a).kindOf binds fun _=>none) s₁→FrameAt s₁.heap (callEnvC fd s.heap.objs.size a).locals →
      wpAny (model prog w) (A.deeper (callEnvC fd s.heap.objs.size a)) (execs body (callEnvC fd s.heap.objs.size a)) (fun f s'=>R (.ok (.ret (match f with | .ret v=>v | _=>.none))) s')
        (fun e s'=>wpAny (model prog w) (A.deeper (callEnvC fd s.heap.objs.size a)) (leaving (callEnvC fd s.heap.objs.size a) e) (fun _ s''=>R (.error e) s'') (fun e' s''=>R (.error e') s'') s') s₁) :
    codeAny (model prog w) A (.call (.ref a) ⟨vals,[]⟩) R s:=by
  refine codeAny_call_function hroom ho hdata hco hgen hbody hcd ?_
  rw [hbind,hclo]
  refine wpAny_pure (newEnvF hk hkind fun env he s' x fr=>?_)
  subst he
  exact ⟨hlim.keeps x.toInCall.keep,codeAny_func (h s' x fr)⟩
end
end Mine
end
noncomputable section
namespace Mine
open PySem PySem.Calls PyProof.Rows PySem.W
theorem cells_have:∀ (names:List (Str×NameKind)) (n:Nat) (acc:List (Str×Addr)) (x:Str),((x,NameKind.cell)∈names∨(acc.lookup x).isSome=true)→((cellsFrom n names acc).lookup x).isSome=true
  | [],_,_,_,h=>by
    rcases h with h | h
    · cases h
    · exact h
  | (y,k) :: r,n,acc,x,h=>by
    unfold cellsFrom
    have more:∀ q:Str×Addr,(acc.lookup x).isSome=true→((q :: acc).lookup x).isSome=true:=fun q e=>by
      rw [List.lookup_cons]; split
      · rfl
      · exact e
    split
    · refine cells_have r _ _ x ?_
      rcases h with h | h
      · rcases List.mem_cons.mp h with e | e
        · (injection e with e; subst e); right; rw [List.lookup_cons]; simp
        · exact .inl e
      · exact .inr (more _ h)
    · rename_i hk
      refine cells_have r _ _ x ?_
      rcases h with h | h
      · rcases List.mem_cons.mp h with e | e
        · cases e; exact absurd rfl hk
        · exact .inl e
      · exact .inr h
theorem bindL_get {kindOf:Str→Option NameKind} {x:Str} (hx:kindOf x=some .local):∀ (ps:List Str) (vs:List Value) (m:Str→Option Value),ps.Nodup→ps.length=vs.length →
    (∀ i:Nat,ps[i]?=some x→bindL kindOf (ps.zip vs) m x=vs[i]?)∧(x∉ps→bindL kindOf (ps.zip vs) m x=m x)
  | [],_,m,_,_=>⟨fun i e=>by simp at e,fun _=>by simp [bindL]⟩
  | p :: ps,[],m,_,e=>by simp at e
  | p :: ps,v :: vs,m,hn,e=>by
    obtain ⟨hp,hn'⟩:=List.nodup_cons.mp hn
    have ih:=fun m=>bindL_get hx ps vs m hn' (Nat.succ.inj e)
    refine ⟨fun i ei=>?_,fun nx=>?_⟩
    · refine (?_:bindL kindOf (ps.zip vs) _ x=_)
      cases i with
      | zero=>
        (injection ei with ei; subst ei)
        rw [(ih _).2 hp,if_pos hx]; exact if_pos rfl
      | succ i=>exact (ih _).1 i ei
    · refine (?_:bindL kindOf (ps.zip vs) _ x=_)
      rw [(ih _).2 fun q=>nx (.tail _ q)]
      split
      · exact if_neg fun q:x=p=>nx (q▸.head _)
      · rfl
theorem bindC_get {kindOf:Str→Option NameKind} {x:Str} (hx:kindOf x≠some .local):∀ (ps:List Str) (vs:List Value) (m:Str→Option Value),ps.Nodup→ps.length=vs.length →
    (∀ i:Nat,ps[i]?=some x→bindC kindOf (ps.zip vs) m x=vs[i]?)∧(x∉ps→bindC kindOf (ps.zip vs) m x=m x)
  | [],_,m,_,_=>⟨fun i e=>by simp at e,fun _=>by simp [bindC]⟩
  | p :: ps,[],m,_,e=>by simp at e
  | p :: ps,v :: vs,m,hn,e=>by
    obtain ⟨hp,hn'⟩:=List.nodup_cons.mp hn
    have ih:=fun m=>bindC_get hx ps vs m hn' (Nat.succ.inj e)
    refine ⟨fun i ei=>?_,fun nx=>?_⟩
    · refine (?_:bindC kindOf (ps.zip vs) _ x=_)
      cases i with
      | zero=>
        (injection ei with ei; subst ei)
        rw [(ih _).2 hp,if_neg hx]; exact if_pos rfl
      | succ i=>exact (ih _).1 i ei
    · refine (?_:bindC kindOf (ps.zip vs) _ x=_)
      rw [(ih _).2 fun q=>nx (.tail _ q)]
      split
      · rfl
      · exact if_neg fun q:x=p=>nx (q▸.head _)
theorem zipIdx_lookup:∀ (l:List Str) (n:Nat) (x:Str) (k:Nat),(l.zipIdx n).lookup x=some k→∃ j,k=n+j∧l[j]?=some x
  | [],_,_,_,e=>nomatch e
  | y :: r,n,x,k,e=>by
    rw [List.zipIdx_cons,List.lookup_cons] at e
    cases hb:x==y with
    | true=>replace e:=hb▸e; (injection e with e; subst e); rw [beq_iff_eq.mp hb]; exact ⟨0,rfl,rfl⟩
    | false=>
      rw [hb] at e
      obtain ⟨j,h1,h2⟩:=zipIdx_lookup r (n+1) x k e
      exact ⟨j+1,by rw [h1,Nat.add_assoc,Nat.add_comm 1],h2⟩
structure FnAt (g:Gl) (a:Addr) (fn:Fn) (fd:FuncData) (body:List Stmt) (nms:List Str):Prop where
  at':∃ o:Obj,g.h0.get? a=some o∧o.data=.func fd
  bd:fd.body=.stmts body
  code:g.h0.CodeRec fd.code fd.qualname
  glo:fd.globals=mainGlobals
  blt:fd.builtins=builtinsNs
  clo:fd.closure=[]
  co:fd.scope.isCoroutine=false
  gen:fd.scope.isGenerator=false
  kind:fd.scope.kind=.function
  bind:∀ vals:List Value,vals.length=fn.npar→bindArgs fd ⟨vals,[]⟩=pure ((nms.take fn.npar).zip vals)
  nodup:nms.Nodup
  npar:fn.npar≤nms.length
  nslots:nms.length≤fn.nslots
  kinds:∀ x∈nms,fd.scope.names.lookup x=some .local∨fd.scope.names.lookup x=some .cell
noncomputable def plOf (nms:List Str) (sc:List (Str×NameKind)) (L:Addr) (cs:List (Str×Addr)) (k:Nat):Pl:=match nms[k]? with
  | none=>.off
  | some x=>if sc.lookup x=some .local then .ns L x else match cs.lookup x with | some c=>.cell c | none=>.off
noncomputable def fnFx (g:Gl) (A:Around) (fd:FuncData) (nms:List Str) (ns:Nat) (a L:Addr) (bad:Addr→Prop) (d:Nat) (hm nw:Bool):Fx:=
  { g:=g,A:=A.deeper (callEnvC fd L a),env:=callEnvC fd L a,ρ:=nms.zipIdx,pl:=plOf nms fd.scope.names L (cellsFrom (L+1) fd.scope.names []),Mo:=bad,nf:=nms.length,ns:=ns,d:=d,hm:=hm,nw:=nw }
section
variable {g:Gl} {a:Addr} {fn:Fn} {fd:FuncData} {body:List Stmt} {nms:List Str}
theorem pl_cases (F:FnAt g a fn fd body nms) (L n:Nat) (k:Nat):(nms[k]?=none∧plOf nms fd.scope.names L (cellsFrom n fd.scope.names []) k=.off)∨∃ x,nms[k]?=some x∧((fd.scope.names.lookup x=some .local∧plOf nms fd.scope.names L (cellsFrom n fd.scope.names []) k=.ns L x) ∨
    (fd.scope.names.lookup x=some .cell∧∃ c,(cellsFrom n fd.scope.names []).lookup x=some c∧plOf nms fd.scope.names L (cellsFrom n fd.scope.names []) k=.cell c)):=by
  unfold plOf
  cases hk:nms[k]? with
  | none=>exact .inl ⟨rfl,rfl⟩
  | some x=>
    refine .inr ⟨x,rfl,(F.kinds x (List.mem_of_getElem? hk)).imp (fun h=>⟨h,if_pos h⟩) fun h=>⟨h,?_⟩⟩
    obtain ⟨c,hc⟩:=Option.isSome_iff_exists.mp (cells_have fd.scope.names n [] x (.inl (mem_of_lookup h)))
    refine ⟨c,hc,(if_neg fun q=>?_).trans ?_⟩
    · replace q:=h▸q; cases q
    · rw [hc]
theorem fx_ok {d:Nat} {A:Around} {L:Addr} {bad:Addr→Prop} (F:FnAt g a fn fd body nms) (gr:Ground g) (ih:CallOk g (callN g.P d) d) {hm nw:Bool} (hand:HandOk hm A) (hroom:A.depth+(1+2 * d) < 990) (hunits:A.units+(3+4 * d)+100 < cLine)
    (above:∀ x c,(cellsFrom (L+1) fd.scope.names []).lookup x=some c→L < c) (apart:(cellsFrom (L+1) fd.scope.names []).Pairwise fun x y=>x.2≠y.2) :
    FxOk (fnFx g A fd nms fn.nslots a L bad d hm nw) where
  gr:=gr
  hand:=hand
  kind:=F.kind
  globals:=F.glo
  builtins:=F.blt
  vis:=fun x k hx=>by
    obtain ⟨j,rfl,hj⟩:=zipIdx_lookup nms 0 x k hx
    rw [Nat.zero_add]
    rcases pl_cases F L (L+1) j with ⟨q,_⟩ | ⟨y,q,z⟩ <;> rw [hj] at q <;> cases q
    exact z.imp (fun z=>⟨z.1,z.2⟩) fun ⟨z,c,hc,zp⟩=>⟨.inl z,c,hc,zp⟩
  inj:=fun k j e hne=>by
    rcases pl_cases F L (L+1) k with ⟨_,q⟩ | ⟨x,qk,zk⟩
    · exact absurd q hne
    rcases pl_cases F L (L+1) j with ⟨_,q⟩ | ⟨y,qj,zj⟩
    · exact absurd (e.trans q) hne
    have e:plOf nms fd.scope.names L (cellsFrom (L+1) fd.scope.names []) k=plOf nms fd.scope.names L (cellsFrom (L+1) fd.scope.names []) j:=e
    have:x=y:=by
      rcases zk with ⟨_,q⟩ | ⟨_,c,q1,q⟩ <;> rcases zj with ⟨_,q'⟩ | ⟨_,c',q1',q'⟩ <;> rw [q,q'] at e <;> cases e
      · rfl
      · exact name_of_addr apart (mem_of_lookup q1) (mem_of_lookup q1')
    subst this
    exact (List.getElem?_inj (List.getElem?_eq_some_iff.mp qk).1 F.nodup).mp (qk.trans qj.symm)
  apart:=fun k j b x c e1 e2=>by
    have e1:plOf nms fd.scope.names L (cellsFrom (L+1) fd.scope.names []) k=.ns b x:=e1
    have e2:plOf nms fd.scope.names L (cellsFrom (L+1) fd.scope.names []) j=.cell c:=e2
    rcases pl_cases F L (L+1) k with ⟨_,q⟩ | ⟨y,_,⟨_,q⟩ | ⟨_,_,_,q⟩⟩ <;> rw [q] at e1 <;> cases e1
    rcases pl_cases F L (L+1) j with ⟨_,q⟩ | ⟨y,_,⟨_,q⟩ | ⟨_,c',q1,q⟩⟩ <;> rw [q] at e2 <;> cases e2
    exact Nat.ne_of_lt (above y _ q1)
  offs:=fun k hk=>by
    rcases pl_cases F L (L+1) k with ⟨_,q⟩ | ⟨y,q,_⟩
    · exact q
    · exact absurd (List.getElem?_eq_some_iff.mp q).1 (Nat.not_lt.mpr hk)
  nfs:=F.nslots
  room:=by refine (?_:A.depth+1+2 * d < 990); omega
  units:=by refine (?_:A.units+3+4 * d+100 < cLine); omega
  call:=ih
end
end Mine
end
noncomputable section
namespace Mine
open PySem PySem.Calls PyProof.Rows PySem.W
section
variable {g:Gl} {a:Addr} {fn:Fn} {fd:FuncData} {body:List Stmt} {nms:List Str}
theorem run_fn {d:Nat} {A:Around} {s:Shared} {bad:Addr→Prop} {vals:List Value} {G0:Gs} {oa0:Nat→Option Addr} {K:Option V→Gs→Prop} {R:Result→Shared→Prop} {hm nw:Bool} (F:FnAt g a fn fd body nms) (gr:Ground g) (ih:CallOk g (callN g.P d) d)
    (hand:HandOk hm A) (hfrs:FrAt g A s.heap) (hroom:A.depth+(1+2 * d) < 990) (hunits:A.units+(3+4 * d)+100 < cLine) (B:Base g s) (hbad:∀ b,bad b→Live s.heap b) (hlen:vals.length=fn.npar) (hG:G0.length=fn.nslots)
    (hoa:∀ k b,oa0 k=some b→k=0∧Live s.heap b∧g.h0.get? b=none∧¬ bad b)
    (hsl:∀ k,k < fn.npar→SlotOk g (fun b=>bad b∨∃ k,oa0 k=some b) s.heap (oa0 k) vals[k]? (getSlot G0 k)) (hun:∀ k,¬ k < fn.npar→getSlot G0 k=.unset∧oa0 k=none) (sim:∀ L,ExB (fnFx g A fd nms fn.nslots a L bad d hm nw) (execs body (callEnvC fd L a)) (exs g.P.sup (callN g.P d) fn.body)) (hb:exs g.P.sup (callN g.P d) fn.body G0 K)
    (hR:∀ s' (Φ':Ct) f fl,(fl=none→Inv Φ' s')→Base g s'→Φ'.fx.g=g→Φ'.fx.Mo=bad→Φ'.fx.nw=nw→(∀ b o,s.heap.get? b=some o→(∀ k,oa0 k≠some b)→KeepAt s'.heap b o)→(∀ k b,Φ'.oa k=some b→isI (getSlot Φ'.G k)→oa0 k=some b)→FlOk Φ' s s'.heap f fl→K fl Φ'.G →
      R (.ok (.ret (match f with | .ret v=>v | _=>.none))) s')
    (hX:∀ s' c e G',c < g.nc→Base g s'→(∀ b o,s.heap.get? b=some o→(∀ k,oa0 k≠some b)→KeepAt s'.heap b o)→ExcAt s'.heap s.heap e (.ref (g.cls c)) .none→K (some (excV c)) G'→R (.error (.ref e)) s'):codeAny (model g.prog g.w) A (.call (.ref a) ⟨vals,[]⟩) R s:=by
  obtain ⟨o,ho,hd⟩:=F.at'
  have dead:∀ a,s.heap.objs.size≤a→s.heap.get? a=none:=fun a ha=>by
    cases e:s.heap.get? a with
    | none=>rfl
    | some o=>exact absurd (Heap.lt_size e) (Nat.not_lt.mpr ha)
  have cok:=cellsFrom_ok fd.scope.names (s.heap.push { cls:=.type "frame",data:=.dict #[] }) (s.heap.objs.size+1) [] ⟨fun _ _ hm=>(nomatch hm),List.Pairwise.nil⟩ (by rw [Heap.size_push]; exact Nat.le_refl _)
  rw [Heap.size_push] at cok
  have above:∀ x c,(cellsFrom (s.heap.objs.size+1) fd.scope.names []).lookup x=some c→s.heap.objs.size < c:=fun x c hx=>(cok.empty x c (mem_of_lookup hx)).2
  have ok:=fx_ok (bad:=bad) (hm:=hm) (nw:=nw) F gr ih hand hroom hunits above cok.apart
  have hkc:∀ x∈nms,fd.scope.names.lookup x=some .local∨(fd.scope.names.lookup x=some .cell∧((cellsFrom (s.heap.objs.size+1) fd.scope.names []).lookup x).isSome=true):=fun x hx=>(F.kinds x hx).imp id fun h=>⟨h,cells_have _ _ _ _ (.inl (mem_of_lookup h))⟩
  refine callF (o:=o) (fd:=fd) (body:=body) (binds:=(nms.take fn.npar).zip vals) (by refine (?_:A.depth < 1000); omega) (B.stays _ _ ho) hd (gr.nolim.keeps fun b o e=>B.stays b o e) (F.code.keeps fun b o e=>B.stays b o e) F.bd (F.bind vals hlen) F.clo
    (fun x hx=>hkc x.1 (List.mem_of_mem_take (List.of_mem_zip hx).1)) F.co F.gen F.kind (fun s₁ ic fcl=>?_)
  let fx:Fx:=fnFx g A fd nms fn.nslots a s.heap.objs.size bad d hm nw
  have sim:ExB fx (execs body fx.env) (exs g.P.sup (callN g.P d) fn.body):=sim s.heap.objs.size
  have plDead:∀ k b,(fx.pl k).addr=some b→s.heap.get? b=none:=fun k b e=>by
    have e:(plOf nms fd.scope.names s.heap.objs.size (cellsFrom (s.heap.objs.size+1) fd.scope.names []) k).addr=some b:=e
    rcases pl_cases F s.heap.objs.size (s.heap.objs.size+1) k with ⟨_,q⟩ | ⟨y,_,⟨_,q⟩ | ⟨_,c,q1,q⟩⟩ <;> rw [q] at e <;> (first | (injection e; done) | (injection e with e; subst e))
    · exact dead _ (Nat.le_refl _)
    · exact dead _ (Nat.le_of_lt (above y _ q1))
  have kp:Stays s.heap s₁.heap:=ic.toInCall.keep
  obtain ⟨hs₁,tk₁,es₁⟩:=ic.toInCall.same
  have notOwn:∀ b,Live s.heap b→(∀ k,oa0 k≠some b)→¬ (Ct.mk fx oa0 G0).own b:=fun b l n q=>by
    rcases q with ⟨k,q⟩ | ⟨k,q⟩
    · obtain ⟨o,e⟩:=l; rw [plDead k b q] at e; (injection e; done)
    · exact n k q
  have mk:MapK (fun b=>bad b∨∃ k,oa0 k=some b) (Ct.mk fx oa0 G0).bad s.heap s₁.heap:=fun b o e _ n=>⟨fun q=>q.elim (fun q=>n (.inl q)) (notOwn b ⟨o,e⟩ fun k q=>n (.inr ⟨k,q⟩)),kp b o e⟩
  have hpar:(nms.take fn.npar).length=vals.length:=by rw [List.length_take,hlen]; exact Nat.min_eq_left F.npar
  have hpnd:(nms.take fn.npar).Nodup:=F.nodup.sublist (List.take_sublist _ _)
  have inPar:∀ k x,nms[k]?=some x→k < fn.npar→(nms.take fn.npar)[k]?=some x:=fun k x hk hlt=>by rw [List.getElem?_take_of_lt hlt]; exact hk
  have notPar:∀ k x,nms[k]?=some x→¬ k < fn.npar→x∉nms.take fn.npar:=fun k x hk hge hm=>by
    obtain ⟨j,hj⟩:=List.getElem?_of_mem hm
    have hjl:j < fn.npar:=Nat.lt_of_lt_of_le (List.getElem?_eq_some_iff.mp hj).1 (List.length_take_le _ _)
    rw [List.getElem?_take_of_lt hjl] at hj
    exact hge ((List.getElem?_inj (List.getElem?_eq_some_iff.mp hj).1 F.nodup).mp (hj.trans hk.symm)▸hjl)
  have slot:∀ k,∃ v,PlRead s₁.heap (fx.pl k) v∧(k < fn.npar→v=vals[k]?)∧(¬ k < fn.npar→v=none):=fun k=>by
    rcases pl_cases F s.heap.objs.size (s.heap.objs.size+1) k with ⟨e,q⟩ | ⟨x,hk,⟨h1,q⟩ | ⟨h1,c,h2,q⟩⟩
    · exact ⟨none,by refine (?_:PlRead _ (plOf _ _ _ _ _) _); rw [q]; rfl,fun hlt=>absurd hlt (Nat.not_lt.mpr (Nat.le_trans F.npar (List.getElem?_eq_none_iff.mp e))),fun _=>rfl⟩
    · have bl:=bindL_get (kindOf:=(callEnvC fd s.heap.objs.size a).kindOf) (x:=x) h1 (nms.take fn.npar) vals (fun _=>none) hpnd hpar
      exact ⟨_,by refine (?_:PlRead _ (plOf _ _ _ _ _) _); rw [q]; exact ⟨_,ic.toInCall.ns,rfl⟩,fun hlt=>bl.1 k (inPar k x hk hlt),fun hge=>bl.2 (notPar k x hk hge)⟩
    · have bc:=bindC_get (kindOf:=(callEnvC fd s.heap.objs.size a).kindOf) (x:=x) (fun z=>by have z:fd.scope.names.lookup x=some .local:=z; rw [h1] at z; cases z) (nms.take fn.npar) vals (fun _=>none) hpnd hpar
      exact ⟨_,by refine (?_:PlRead _ (plOf _ _ _ _ _) _); rw [q]; exact ic.cell x c h2,fun hlt=>bc.1 k (inPar k x hk hlt),fun hge=>bc.2 (notPar k x hk hge)⟩
  obtain ⟨l,hl,fl⟩:=hfrs
  have fr₁':FrOk g.h0 s₁.heap (callEnvC fd s.heap.objs.size a :: l):=fun env m=>by
    cases m with
    | head=>
      obtain ⟨o',e',c'⟩:=fcl
      obtain ⟨on,_,_,en,dn,_⟩:=ic.toInCall.ns
      (injection e'.symm.trans en with Xq; subst Xq)
      exact ⟨by refine (?_:fd.scope.kind≠_); rw [F.kind]; exact nofun,_,o',rfl,none_of (fun l=>B.stays.live l) (size_none _),e',c',fun vs q=>nomatch dn.symm.trans q⟩
    | tail _ m=>exact (fl.keep kp.keeps) env m
  have hAf:fx.A.frames=some (callEnvC fd s.heap.objs.size a :: l):=by refine (?_:(A.deeper (callEnvC fd s.heap.objs.size a)).frames=_); unfold Around.deeper; rw [hl]; rfl
  have fr₁:FrAt g fx.A s₁.heap:=⟨_,hAf,fr₁'⟩
  have I₁:Inv ⟨fx,oa0,G0⟩ s₁:=by
    refine ⟨ok,⟨fun b o e=>kp b o (B.stays b o e),by rw [es₁]; exact B.os,by rw [es₁]; exact B.gens⟩,fun k=>?_,fun b q=>?_,fun k j b e1 e2=>(hoa k b e1).1.trans (hoa j b e2).1.symm,fun k b e j q=>?_,hG,fun b q=>kp.live (hbad b q),fr₁⟩
    · obtain ⟨v,r,h1,h2⟩:=slot k
      refine ⟨v,r,?_⟩
      by_cases hlt:k < fn.npar
      · rw [h1 hlt]; exact (hsl k hlt).map mk fun b _ o e _=>kp b o e
      · rw [h2 hlt,(hun k hlt).1]; exact ⟨(hun k hlt).2,rfl⟩
    · rcases q with ⟨k,q⟩ | ⟨k,q⟩
      · have hn:=plDead k b q
        refine ⟨?_,none_of (fun l=>B.stays.live l) hn,fun z=>by obtain ⟨o,e⟩:=hbad b z; rw [hn] at e; (injection e; done)⟩
        obtain ⟨v,r,_⟩:=slot k
        have q:(fx.pl k).addr=some b:=q
        generalize fx.pl k=pl at r q
        cases pl with
        | ns a' x=>(injection q with q; subst q); obtain ⟨m,⟨o',_,_,ho',_⟩,_⟩:=r; exact ⟨o',ho'⟩
        | cell c=>(injection q with q; subst q); obtain ⟨o',ho',_⟩:=r; exact ⟨o',ho'⟩
        | off=>(injection q; done)
      · obtain ⟨_,l,h0,nb⟩:=hoa k b q
        exact ⟨kp.live l,h0,nb⟩
    · obtain ⟨o,e⟩:=(hoa k b e).2.1
      rw [plDead j b q] at e; (injection e; done)
  refine wpAny_mono (sim oa0 G0 K s₁ hb I₁) (fun f s' ⟨oa',G',fl,I',B',t,hf,hk⟩=>hR s' ⟨fx,oa',G'⟩ f fl (fun q=>I' (.inl q)) B' rfl rfl rfl (fun b o e n=>t.keep b o (kp b o e) (notOwn b ⟨o,e⟩ n)) (fun k b e q=>(t.inst k b e q).1) (hf.lift fun b l=>kp.live l) hk) fun v s' ⟨oa',G',c,e,hv,hc,I',t,xa,hk⟩=>?_
  subst hv
  have fr':=I'.fr.of hAf
  exact leaving_ok (lo:=s.heap) hAf fr'.funs rfl (fun b l=>t.live b (kp.live l)) (xa.le fun b l=>kp.live l) fun h' n x=>hX { s' with heap:=h' } c e G' hc (noted_base (s:=s) (s₁:=s') B I'.base fr' n) (fun b o e nn=>noted_at (s:=s) (s₁:=s') (t.keep b o (kp b o e) (notOwn b ⟨o,e⟩ nn)) ⟨o,e⟩ fr' n) x hk
end
end Mine
end
noncomputable section
namespace Mine
open PySem PySem.Calls PyProof.Rows PySem.W
section
variable {g:Gl}
theorem getD_app {α:Type} {l r:List α} {k:Nat} {x:α} (h:l[k]?=some x) (d:α):(l++r).getD k d=x:=by
  rw [List.getD_eq_getElem?_getD,List.getElem?_append_left (List.getElem?_eq_some_iff.mp h).1,h]; rfl
theorem getD_rep {α:Type} {l:List α} {k n:Nat} {d:α} (h:l.length≤k):(l++List.replicate n d).getD k d=d:=by
  rw [List.getD_eq_getElem?_getD,List.getElem?_append_right h,List.getElem?_replicate]; split <;> rfl
noncomputable def SimAll (g:Gl) (d:Nat) (a:Addr) (fn:Fn) (fd:FuncData) (body:List Stmt) (nms:List Str) (safe nw:Bool):Prop:=∀ hm A L bad,(hm=true→safe=true)→ExB (fnFx g A fd nms fn.nslots a L bad d hm nw) (execs body (callEnvC fd L a)) (exs g.P.sup (callN g.P d) fn.body)
structure InitAt (g:Gl) (d:Nat) (fn:Fn):Prop where
  it:∃ fI fd body nms,findIn g.K (.ref g.C) "__init__"=some (some (.ref fI))∧typeIn g.K (.ref fI)=some (.type "function")∧FnAt g fI fn fd body nms∧SimAll g d fI fn fd body nms false false
theorem room_a {a d:Nat} (h:a+2 * (d+1) < 990):a+(1+2 * d) < 990:=Nat.add_comm (2 * d) 1▸Nat.lt_of_succ_lt h
theorem room_b {a d:Nat} (h:a+2 * (d+1) < 990):a+1+(1+2 * d) < 990:=Nat.add_comm (2 * d) 1▸(Nat.add_right_comm a (2 * d) 1▸h:a+1+2 * d+1 < 990)
theorem room_c {a d c:Nat} (h:a+4 * (d+1)+100 < c):a+(3+4 * d)+100 < c:=Nat.add_comm (4 * d) 3▸Nat.lt_of_succ_lt (h:a+4 * d+103+1 < c)
theorem room_d {a d c:Nat} (h:a+4 * (d+1)+100 < c):a+1+(3+4 * d)+100 < c:=Nat.add_comm (4 * d) 3▸(Nat.add_right_comm a (4 * d) 1▸h:a+1+4 * d+3+100 < c)
theorem first_oa {D b:Addr} {k:Nat} (e:(if k=0 then some D else none)=some b):k=0∧b=D:=by
  by_cases q:k=0
  · exact ⟨q,(Option.some.inj ((if_pos q).symm.trans e)).symm⟩
  · exact nomatch (if_neg q).symm.trans e
theorem noX_of5 {l:List V} (h:l.length=5):noX (instV l)=true:=by
  cases l with
  | nil=>exact nomatch h
  | cons x l=>cases l with
    | nil=>exact nomatch h
    | cons=>rfl
theorem isIk_of5 {l:List V} (h:l.length=5):isIk (l.map fun x=>(PyData.none,x))=true:=by
  cases l with
  | nil=>exact nomatch h
  | cons=>rfl
theorem fl_map (l:List V):(l.map fun x=>(PyData.none,x)).map (·.2)=l:=List.map_map.trans (List.map_id l)
theorem callOk_step {d:Nat} (gr:Ground g) (hfn:∀ f fn,g.P.fns[f]?=some fn→fn.init=false→∃ fd body nms,FnAt g (g.fn f) fn fd body nms∧SimAll g d (g.fn f) fn fd body nms (g.safe f) (g.newf f)) (hin:∀ f fn,g.P.fns[f]?=some fn→fn.init=true→g.fn f=g.C∧g.safe f=false∧InitAt g d fn) (ih:CallOk g (callN g.P d) d) :
    CallOk g (callN g.P (d+1)) (d+1):=fun hm f args K A s bad vals hc hand hsafe hroom hunits B hfr hbad hvals=>by
  refine okK_elim hc fun fn hf ⟨hlen,hb⟩=>?_
  have hva:=hvals.length
  cases hi:fn.init with
  | false=>
    rw [hi,if_neg Bool.false_ne_true,Nat.add_zero] at hlen
    obtain ⟨fd,body,nms,F,sim⟩:=hfn f fn hf hi
    have e0:frame0 fn args=args.map .v++List.replicate (fn.nslots - fn.npar) .unset:=by unfold frame0; rw [hi]; rfl
    have hml:(args.map Slot.v).length=fn.npar:=by rw [List.length_map,hlen]
    refine wpAny_call (run_fn (oa0:=fun _=>none) (nw:=g.newf f) F gr ih hand hfr (room_a hroom) (room_c hunits) B hbad (hva.trans hlen) ?_ (fun k b e=>nomatch e) (fun k hk=>?_) (fun k hk=>⟨?_,rfl⟩) (fun L=>sim hm A L bad hsafe) hb (fun s' Φ' f' fl I' B' hg hm hnw kk ki hfl hk=>?_) fun s' c e G' hc B' kk x hk=>?_)
    · rw [e0,List.length_append,hml,List.length_replicate]; exact Nat.add_sub_cancel' (Nat.le_trans F.npar F.nslots)
    · have hka:k < args.length:=hlen▸hk
      obtain ⟨v,hv,rv⟩:=hvals.get (List.getElem?_eq_getElem hka)
      rw [show getSlot (frame0 fn args) k=.v args[k] by rw [e0]; exact getD_app (by rw [List.getElem?_map,List.getElem?_eq_getElem hka]; rfl) _,hv]
      exact ⟨rfl,v,rfl,rv.map fun b o e _ n=>⟨fun q=>q.elim n fun ⟨_,q⟩=>(nomatch q),e⟩⟩
    · rw [e0]; exact getD_rep (hml▸Nat.not_lt.mp hk)
    · rw [hi,if_neg Bool.false_ne_true] at hk
      cases fl with
      | none=>subst hfl; exact ⟨B',fun b o e=>kk b o e fun k q=>(nomatch q),_,hk,rfl,.none,fun _ a b q=>nomatch q⟩
      | some y=>obtain ⟨nx,v,rfl,r,nv⟩:=hfl; subst hg; exact ⟨B',fun b o e=>kk b o e fun k q=>(nomatch q),_,hk,nx,r.map fun b o e _ n=>⟨fun q=>n (.inl (hm▸q)),e⟩,fun q=>nv (hnw▸q)⟩
    · rw [hi,if_neg Bool.false_ne_true] at hk
      exact ⟨B',fun b o e=>kk b o e fun k q=>(nomatch q),c,e,rfl,hc,hk,x⟩
  | true=>
    rw [hi,if_pos rfl] at hlen
    obtain ⟨hC,hsf,⟨fI,fd,body,nms,h1,h2,F,sim⟩⟩:=hin f fn hf hi
    have hm0:hm=false:=by cases hm with | false=>rfl | true=>exact absurd (hsafe rfl) (by rw [hsf]; exact Bool.false_ne_true)
    subst hm0
    rw [hC]
    have X:=gr.frag.keeps B.stays
    have e0:frame0 fn args=(.ownI [] :: args.map .v)++List.replicate (fn.nslots - fn.npar) .unset:=by unfold frame0; rw [hi]; rfl
    have hml:(Slot.ownI [] :: args.map Slot.v).length=fn.npar:=by rw [List.length_cons,List.length_map,hlen]
    have kp:Stays s.heap ((s.heap.push emptyDict).push (instObj g.C s.heap.objs.size)):=(stays_push _ _).trans (stays_push _ _)
    have hD:((s.heap.push emptyDict).push (instObj g.C s.heap.objs.size)).get? s.heap.objs.size=some emptyDict:=Heap.get?_push_of_some _ (Heap.get?_push_size _ rfl)
    have hX:((s.heap.push emptyDict).push (instObj g.C s.heap.objs.size)).get? (s.heap.objs.size+1)=some (instObj g.C s.heap.objs.size):=by rw [← Heap.size_push s.heap emptyDict]; exact Heap.get?_push_size _ rfl
    have nb:∀ b,bad b→b < s.heap.objs.size:=fun b q=>(hbad b q).elim fun o e=>Heap.lt_size e
    have nd:¬ bad s.heap.objs.size:=fun q=>Nat.lt_irrefl _ (nb _ q)
    have nx:¬ bad (s.heap.objs.size+1):=fun q=>Nat.not_lt.mpr (Nat.le_succ _) (nb _ q)
    refine wpAny_call (make_core (makes_of X gr.cls.makes) (looks_findIn X h1) (fun self=>bind_fn X self h2) (.inl rfl) ?_)
    refine run_fn (oa0:=fun k=>if k=0 then some s.heap.objs.size else none) (nw:=false) F gr ih hand (hfr.keep kp.keeps) (room_b hroom) (room_d hunits) ⟨B.stays.trans kp,B.os,B.gens⟩ (fun b q=>kp.live (hbad b q)) (by rw [List.length_cons,hva]; exact hlen) ?_ (fun k b e=>?_) (fun k hk=>?_) (fun k hk=>⟨?_,?_⟩) (fun L=>sim false _ L bad nofun) hb (fun s' Φ' f' fl I' B' hg hm hnw kk ki hfl hk=>?_) fun s' c e G' hc B' kk x hk=>?_
    · rw [e0,List.length_append,hml,List.length_replicate]; exact Nat.add_sub_cancel' (Nat.le_trans F.npar F.nslots)
    · obtain rfl:=(first_oa e).2
      exact ⟨(first_oa e).1,⟨_,hD⟩,none_of (fun l=>B.stays.live l) (size_none s.heap),nd⟩
    · cases k with
      | zero=>
        rw [show getSlot (frame0 fn args) 0=.ownI [] by rw [e0]; rfl,if_pos rfl]
        exact ⟨_,.ref (s.heap.objs.size+1),rfl,rfl,_,_,[],rfl,rfl,(fun q=>q.elim nx fun ⟨k,q⟩=>Nat.succ_ne_self _ (first_oa q).2),hX,hD,⟨⟨rfl,rfl,rfl⟩,#[],0,rfl,rfl,fun j e h=>by simp at h⟩,(fun j b m e=>by simp at e),.nil⟩
      | succ k=>
        have hka:k < args.length:=Nat.lt_of_succ_lt_succ (show k+1 < args.length+1 by rw [hlen]; exact hk)
        obtain ⟨v,hv,rv⟩:=hvals.get (List.getElem?_eq_getElem hka)
        rw [show getSlot (frame0 fn args) (k+1)=.v args[k] by rw [e0]; exact getD_app (by refine (?_:(args.map Slot.v)[k]?=_); rw [List.getElem?_map,List.getElem?_eq_getElem hka]; rfl) _,if_neg (Nat.succ_ne_zero k)]
        exact ⟨rfl,v,hv,rv.map fun b o e _ n=>⟨fun q=>q.elim n fun ⟨j,q⟩=>Nat.ne_of_lt (Heap.lt_size e) (first_oa q).2,kp b o e⟩⟩
    · rw [e0]; exact getD_rep (hml▸Nat.not_lt.mp hk)
    · exact if_neg fun q=>hk (by rw [q,← hlen]; exact Nat.succ_pos _)
    · rw [hi,if_pos rfl] at hk
      have no:∀ b,b≠s.heap.objs.size→∀ k,(if k=0 then some s.heap.objs.size else none)≠some b:=fun b n k q=>n (first_oa q).2
      cases fl with
      | some y=>exact absurd hk.1 (by rw [hfl.1]; exact fun q=>nomatch q)
      | none=>
        subst hfl
        have I':=I' rfl
        refine ⟨rfl,okK_elim hk fun l el ⟨hl5,kl⟩=>?_⟩
        have sl:=ownI_some el
        obtain ⟨a',u,ha,pr,b,o,ws,hu,hba,hnb,hbo,ho,hF,hnl,hl⟩:=own_of I' sl id
        obtain rfl:=(first_oa (ki 0 a' ha (by rw [sl]; trivial))).2
        subst hba hg
        exact ⟨B',fun b o e=>kk b o (kp b o e) (no b fun q=>Nat.lt_irrefl _ (q▸Heap.lt_size e)),_,kl,noX_of5 hl5,
          .inst (l:=l) nx nd ((kk _ _ hX (no _ (Nat.succ_ne_self _))).get nf_inst) ho hF hnl (isIk_of5 hl5) (fl_map l) (hl.map fun b o e _ n=>⟨fun q=>n (.inl (hm▸q)),e⟩),fun _=>newV_size (Nat.le_succ _)⟩
    · rw [hi,if_pos rfl] at hk
      exact ⟨B',fun b o eb=>kk b o (kp b o eb) fun k q=>Nat.ne_of_lt (Heap.lt_size eb) (first_oa q).2,c,e,rfl,hc,hk.2,x.le fun b l=>kp.live l⟩
end
end Mine
end
noncomputable section
namespace Mine
open PySem PySem.Calls PyProof.Rows PySem.W
section
variable {g:Gl} {bad bad':Addr→Prop} {h h':Heap} {v:Value} {x y:V} {vs:List Value} {l:List V}
theorem scal_ok (q:scal x=true) (r:Rp g bad h v x):Rp g bad' h' v x:=by
  cases r with
  | none=>exact .none
  | bool b=>exact .bool b
  | int i t=>exact .int i t
  | str x t=>exact .str x t
  | _=>(injection q; done)
theorem scal_all (r:RpAll g bad h vs l):l.all scal=true→RpAll g bad' h' vs l:=
  r.ind (D:=fun vs l=>l.all scal=true→RpAll g bad' h' vs l) (fun _=>.nil) fun v vs x l r _ ih q=>by
    have q:=(Bool.and_eq_true _ _).mp ((List.all_cons (a:=x) (l:=l) (f:=scal))▸q)
    exact .cons (scal_ok q.1 r) (ih q.2)
theorem noL_ok (hX:∀ b,bad' b→bad b∨∃ o,h.get? b=some o∧o.cls=.type "list") (q:noL x=true) (r:Rp g bad h v x):Rp g bad' h v x:=by
  cases x with
  | tuple l=>exact r.tuple_elim fun a o vs n nb ha hc hd hl=>.tuple (fun z=>(hX a z).elim nb fun ⟨o',e',c'⟩=>by rw [ha] at e'; (injection e' with e'; subst e'); rw [hc] at c'; exact absurd (Value.type.inj c') (by decide)) ha hc hd (scal_all hl q)
  | _=>exact scal_ok q r
theorem noL_all (hX:∀ b,bad' b→bad b∨∃ o,h.get? b=some o∧o.cls=.type "list") (r:RpAll g bad h vs l):l.all noL=true→RpAll g bad' h vs l:=
  r.ind (D:=fun vs l=>l.all noL=true→RpAll g bad' h vs l) (fun _=>.nil) fun v vs x l r _ ih q=>by
    have q:=(Bool.and_eq_true _ _).mp ((List.all_cons (a:=x) (l:=l) (f:=noL))▸q)
    exact .cons (noL_ok hX q.1 r) (ih q.2)
theorem Rp.live {a:Addr} (r:Rp g bad h (.ref a) x):Live h a:=by
  cases r with
  | list _ e _ _ _=>exact ⟨_,e⟩
  | tuple _ e _ _ _=>exact ⟨_,e⟩
  | inst _ _ e _ _ _ _ _ _=>exact ⟨_,e⟩
  | exc _ _ e _ _=>exact ⟨_,e⟩
  | dict _ e _ _=>exact ⟨_,e⟩
theorem flds_ok {X:Addr→Prop} {ws:List Value} (hL:∀ b,bad' b→bad b∨∃ o,h.get? b=some o∧o.cls=.type "list") (hb:∀ b,bad' b→bad b∨X b) (r:RpAll g bad h ws l):l.all fldOk=true→(∀ (j:Nat) b m,ws[j]?=some (.ref b)→l[j]?=some (.list m)→¬ X b)→RpAll g bad' h ws l:=
  r.ind (D:=fun ws l=>l.all fldOk=true→(∀ (j:Nat) b m,ws[j]?=some (.ref b)→l[j]?=some (.list m)→¬ X b)→RpAll g bad' h ws l) (fun _ _=>.nil) fun v vs x l r _ ih q z=>by
    have q:=(Bool.and_eq_true _ _).mp ((List.all_cons (a:=x) (l:=l) (f:=fldOk))▸q)
    refine .cons ?_ (ih q.2 fun j b m e1 e2=>z (j+1) b m e1 e2)
    have qx:=q.1
    cases x with
    | list m=>exact r.list_elim (C:=fun v=>(∀ b,v=.ref b→¬ X b)→Rp g bad' h v (.list m)) (fun a o vs n nb ha hc hd hl z=>.list (fun w=>(hb a w).elim nb (z a rfl)) ha hc hd (noL_all hL hl qx)) fun b e=>z 0 b m (by rw [e]; rfl) rfl
    | _=>exact noL_ok hL qx r
theorem lend_ok {h₀:Heap} {X:Addr→Prop} (hX:∀ b,X b→Live h₀ b∧∃ o,h.get? b=some o∧o.cls=.type "list") (hb:∀ b,bad' b→bad b∨X b) (n:NewV h₀ v) (q:lendOk y=true) (r:Rp g bad h v y):Rp g bad' h v y:=by
  have hL:∀ b,bad' b→bad b∨∃ o,h.get? b=some o∧o.cls=.type "list":=fun b z=>(hb b z).imp id fun z=>(hX b z).2
  cases y with
  | dict kvs=>
    have q:=(Bool.and_eq_true _ _).mp q
    have no:∀ {b:Addr} {o:Obj},¬ bad b→h.get? b=some o→o.cls≠.type "list"→¬ bad' b:=fun nb e nc z=>(hL _ z).elim nb fun ⟨o',e',c'⟩=>by rw [e] at e'; (injection e' with e'; subst e'); exact nc c'
    refine Rp.inst_elim (C:=fun v=>NewV h₀ v→Rp g bad' h v (.dict kvs)) r q.1 (fun a d o ws nb nb' ha hd hf hn hl n=>?_) n
    exact .inst (no nb ha nofun) (no nb' hd fun e=>nomatch hf.1.1.symm.trans e) ha hd hf hn q.1 rfl (flds_ok hL hb hl q.2 fun j b m e1 e2 z=>absurd (n a b rfl (hX b z).1) (Nat.not_lt.mpr (Nat.le_of_lt (hn j b m e1 e2))))
  | tuple l=>exact noL_ok hL q r
  | list l=>exact nomatch q
  | _=>exact scal_ok q r
theorem PlRead.at {p:Pl} {u:Option Value} (r:PlRead h p u) (k:∀ c,p.addr=some c→∀ o,h.get? c=some o→h'.get? c=some o):PlRead h' p u:=by
  cases p with
  | ns a x=>obtain ⟨m,hn,hu⟩:=r; exact ⟨m,hn.at' fun o e=>k a rfl o e,hu⟩
  | cell c=>obtain ⟨o,ho,hd⟩:=r; exact ⟨o,k c rfl o ho,hd⟩
  | off=>exact r
noncomputable def RowAt (g:Gl) (bad:Addr→Prop) (h:Heap) (b:Addr) (l:List V):Prop:=∃ o vs n,h.get? b=some o∧(o.cls=.type "list"∧o.dict=none)∧o.data=.seq vs n∧RpAll g bad h vs.toList l
inductive Rows (g:Gl) (bad:Addr→Prop) (h:Heap):List Addr→List (List V)→Prop
  | nil:Rows g bad h [] []
  | cons {b:Addr} {bs:List Addr} {l:List V} {ls:List (List V)}:RowAt g bad h b l→Rows g bad h bs ls→Rows g bad h (b :: bs) (l :: ls)
theorem RowAt.map {b:Addr} {l:List V} (r:RowAt g bad h b l) (k:MapK bad bad' h h') (t:∀ o,h.get? b=some o→NoFr o→h'.get? b=some o):RowAt g bad' h' b l:=by
  obtain ⟨o,vs,n,e,c,d,rs⟩:=r
  exact ⟨o,vs,n,t o e (nf_seq c.1),c,d,rs.map k⟩
theorem Rows.map {bs:List Addr} {ls:List (List V)} (r:Rows g bad h bs ls) (k:MapK bad bad' h h'):(∀ b∈bs,∀ o,h.get? b=some o→NoFr o→h'.get? b=some o)→Rows g bad' h' bs ls:=by
  induction r with
  | nil=>exact fun _=>.nil
  | cons a _ ih=>exact fun t=>.cons (a.map k (t _ (.head _))) (ih fun b m=>t b (.tail _ m))
theorem Rows.get {bs:List Addr} {ls:List (List V)} (r:Rows g bad h bs ls):∀ {i:Nat} {b:Addr},bs[i]?=some b→∃ l,ls[i]?=some l∧RowAt g bad h b l:=by
  induction r with
  | nil=>intro i b e; (injection e; done)
  | cons a _ ih=>
    intro i b e
    cases i with
    | zero=>(injection e with e; subst e); exact ⟨_,rfl,a⟩
    | succ i=>exact ih e
theorem Rows.set {bs:List Addr} {ls:List (List V)} {b:Addr} {l':List V} (r:Rows g bad h bs ls) (k:MapK bad bad h h') (hk:∀ c o,c≠b→h.get? c=some o→h'.get? c=some o) (a':RowAt g bad h' b l'):∀ {i:Nat},bs[i]?=some b→bs.Nodup→Rows g bad h' bs (ls.set i l'):=by
  induction r with
  | nil=>intro i e; (injection e; done)
  | @cons c bs l ls a rs ih=>
    intro i e nd
    have nd:=List.nodup_cons.mp nd
    cases i with
    | zero=>(injection e with e; subst e); exact .cons a' (rs.map k fun b m o e _=>hk b o (fun q=>nd.1 (q▸m)) e)
    | succ i=>exact .cons (a.map k fun o e' _=>hk c o (fun q=>nd.1 (q▸List.mem_of_getElem? e)) e') (ih e nd.2)
theorem Rows.len {bs:List Addr} {ls:List (List V)} (r:Rows g bad h bs ls):bs.length=ls.length:=by
  induction r with
  | nil=>rfl
  | cons _ _ ih=>exact congrArg (· + 1) ih
theorem Rows.rps {bs:List Addr} {ls:List (List V)} (r:Rows g bad h bs ls):(∀ b∈bs,¬ bad b)→RpAll g bad h (bs.map .ref) (ls.map .list):=by
  induction r with
  | nil=>exact fun _=>.nil
  | cons a _ ih=>exact fun nb=>.cons (a.elim fun o q=>q.elim fun vs q=>q.elim fun n q=>.list (nb _ (.head _)) q.1 q.2.1 q.2.2.1 q.2.2.2) (ih fun b m=>nb b (.tail _ m))
noncomputable def appN:Nat→List (List V)→List (List V)
  | 0,ls=>ls
  | _+1,[]=>[]
  | i+1,l :: ls=>(l++[.int 0]) :: appN i ls
theorem appN_all:∀ ls:List (List V),appN ls.length ls=app0 ls
  | []=>rfl
  | l :: ls=>congrArg (_ :: ·) (appN_all ls)
theorem appN_get:∀ (i:Nat) (ls:List (List V)),(appN i ls)[i]?=ls[i]?
  | 0,_=>rfl
  | _+1,[]=>rfl
  | i+1,_ :: ls=>appN_get i ls
theorem appN_set:∀ {i:Nat} {ls:List (List V)} {l:List V},ls[i]?=some l→(appN i ls).set i (l++[.int 0])=appN (i+1) ls
  | 0,l :: ls,_,e=>by (injection e with e; subst e); rfl
  | i+1,l :: ls,_,e=>congrArg (_ :: ·) (appN_set (i:=i) (ls:=ls) e)
end
section
variable {Φ:Ct} {s:Shared}
theorem Inv.reslot {k:Nat} {u:Option Value} {sl:Slot} (I:Inv Φ s) (hoa:Φ.oa k=none) (pr:PlRead s.heap (Φ.fx.pl k) u) (so:SlotOk Φ.fx.g Φ.bad s.heap none u sl) (hon:k < Φ.G.length):Inv ⟨Φ.fx,Φ.oa,Φ.G.set k sl⟩ s where
  ok:=I.ok
  base:=I.base
  slot:=fun j=>by
    by_cases e:j=k
    · subst e
      refine ⟨u,pr,?_⟩
      refine (?_:SlotOk Φ.fx.g Φ.bad s.heap (Φ.oa j) u (getSlot (Φ.G.set j sl) j))
      rw [hoa,getSlot_self hon]; exact so
    · obtain ⟨v,r,x⟩:=I.slot j
      refine ⟨v,r,?_⟩
      refine (?_:SlotOk Φ.fx.g Φ.bad s.heap (Φ.oa j) v (getSlot (Φ.G.set k sl) j))
      rw [getSlot_ne e]; exact x
  new:=I.new
  inj:=I.inj
  off:=I.off
  gl:=(List.length_set ..).trans I.gl
  mo:=I.mo
  fr:=I.fr
theorem Tr.reslot {Φ₀:Ct} {s₀:Shared} {k:Nat} {sl:Slot} (t:Tr Φ₀ s₀ Φ s) (hoa:Φ.oa k=none):Tr Φ₀ s₀ ⟨Φ.fx,Φ.oa,Φ.G.set k sl⟩ s:=⟨t.fx,t.keep,t.live,t.grow,fun j a e q=>by
  have ne:j≠k:=fun z=>by rw [z,hoa] at e; (injection e; done)
  have q:isI (getSlot (Φ.G.set k sl) j):=q
  rw [getSlot_ne ne] at q
  exact t.inst j a e q⟩
theorem Inv.junk {k:Nat} (I:Inv Φ s) (e:getSlot Φ.G k=.junk):Φ.oa k=none:=by
  obtain ⟨v,_,so⟩:=I.slot k
  rw [e] at so; exact so
theorem addr_on {k:Nat} {c:Addr} (I:Inv Φ s) (e:(Φ.fx.pl k).addr=some c):k < Φ.G.length:=by
  rw [I.gl]
  refine Nat.lt_of_lt_of_le (Nat.lt_of_not_le fun q=>?_) I.ok.nfs
  rw [I.ok.offs k q] at e; (injection e; done)
theorem pl_on {k:Nat} {v:Value} (I:Inv Φ s) (pr:PlRead s.heap (Φ.fx.pl k) (some v)):k < Φ.G.length:=by
  cases e:Φ.fx.pl k with
  | off=>rw [e] at pr; (injection pr; done)
  | _=>exact addr_on I (by rw [e]; rfl)
theorem tgt_on {n:Str} {k:Nat} (I:Inv Φ s) (hT:TgtOk Φ.fx.ρ Φ.fx.env n k):k < Φ.G.length:=by
  rcases I.ok.vis n k hT.lk with ⟨_,e⟩ | ⟨_,c,_,e⟩ <;> exact addr_on I (by rw [e]; rfl)
end
structure Hd (fx:Fx) (oa₀:Nat→Option Addr) (G₀:Gs) (s₀:Shared) (oa:Nat→Option Addr) (G:Gs) (X:Addr→Prop) (k:Nat) (a:Addr) (bs:List Addr) (ls:List (List V)) (s:Shared):Prop where
  I:Inv ⟨fx.mo X,oa,G⟩ s
  tr:Tr ⟨fx,oa₀,G₀⟩ s₀ ⟨fx,oa,G⟩ s
  new:∀ b,X b→s₀.heap.get? b=none
  nm:∀ b,X b→¬ fx.Mo b
  z0:∀ b,X b→fx.g.h0.get? b=none
  jk:getSlot G k=.junk
  pr:PlRead s.heap (fx.pl k) (some (.ref a))
  mem:∀ b∈a :: bs,X b
  nd:(a :: bs).Nodup
  la:∃ o n,s.heap.get? a=some o∧(o.cls=.type "list"∧o.dict=none)∧o.data=.seq (bs.map Value.ref).toArray n
  rows:Rows fx.g (Ct.mk (fx.mo X) oa G).bad s.heap bs ls
section
variable {fx:Fx} {oa₀ oa:Nat→Option Addr} {G₀ G:Gs} {s₀ s s':Shared} {X:Addr→Prop} {k a:Nat} {bs:List Addr} {ls:List (List V)}
theorem Hd.notBad (H:Hd fx oa₀ G₀ s₀ oa G X k a bs ls s) {b:Addr} (m:X b):¬ (Ct.mk fx oa G).bad b:=fun q=>q.elim (H.nm b m) fun q=>(H.I.new b q).2.2 (.inr m)
theorem Hd.keep (H:Hd fx oa₀ G₀ s₀ oa G X k a bs ls s) (B:Base fx.g s') (q:Keeps s.heap s'.heap):Hd fx oa₀ G₀ s₀ oa G X k a bs ls s' where
  I:=H.I.keep B q
  tr:=H.tr.trans (.of_keeps q)
  new:=H.new
  nm:=H.nm
  z0:=H.z0
  jk:=H.jk
  pr:=H.pr.keep q
  mem:=H.mem
  nd:=H.nd
  la:=H.la.elim fun o z=>z.elim fun n z=>⟨o,n,q.get z.1 (nf_seq z.2.1.1),z.2⟩
  rows:=H.rows.map q.mapK fun b _ o e n=>q.get e n
theorem Hd.frozen (H:Hd fx oa₀ G₀ s₀ oa G X k a bs ls s):Inv ⟨fx,oa,G.set k (.v (rowsV ls))⟩ s∧Tr ⟨fx,oa₀,G₀⟩ s₀ ⟨fx,oa,G.set k (.v (rowsV ls))⟩ s:=by
  have I:Inv ⟨fx,oa,G⟩ s:=Inv.less (Φ:=⟨fx,oa,G⟩) H.I
  have hoa:oa k=none:=H.I.junk H.jk
  obtain ⟨o,n,ho,hc,hd⟩:=H.la
  refine ⟨Inv.reslot (Φ:=⟨fx,oa,G⟩) I hoa H.pr ⟨rfl,_,rfl,.list (H.notBad (H.mem a (.head _))) ho hc hd ?_⟩ (pl_on (Φ:=⟨fx,oa,G⟩) I H.pr),H.tr.reslot hoa⟩
  rw [List.toList_toArray]
  exact (H.rows.map (mapK_less (Φ:=⟨fx,oa,G⟩)) fun b _ o e _=>e).rps fun b m=>H.notBad (H.mem b (.tail _ m))
theorem Hd.notOwn (H:Hd fx oa₀ G₀ s₀ oa G X k a bs ls s) {j:Nat} {c b:Addr} (e:(fx.pl j).addr=some c) (m:X b):b≠c:=fun q=>(H.I.new c (.inl ⟨j,e⟩)).2.2 (.inr (q▸m))
theorem Hd.put {m tk:Nat} {v:Value} {sl:Slot} {h':Heap} (H:Hd fx oa₀ G₀ s₀ oa G X k a bs ls s) (hm:k≠m) (ps:PlSet s.heap (fx.pl m) (some v) h') (so:SlotOk fx.g ((Ct.mk (fx.mo X) oa G).put m none sl).bad h' none (some v) sl) (hni:¬ isI sl) :
    Hd fx oa₀ G₀ s₀ (fun j=>if j=m then none else oa j) (G.set m sl) X k a bs ls { s with heap:=h',toks:=tk }:=by
  have q:=Inv.put (tk:=tk) (Φ:=⟨fx.mo X,oa,G⟩) H.I H.I.base (.refl _) ps so (fun a e=>nomatch e) hni
  obtain ⟨c,hc,hs,_⟩:=ps.addr
  have kp:∀ b o,X b→s.heap.get? b=some o→h'.get? b=some o:=fun b o m e=>hs.extBut b o (H.notOwn hc m) e
  refine ⟨q.1,H.tr.trans (Tr.mo (Φ:=⟨fx,oa,G⟩) (Φ':=(Ct.mk fx oa G).put m none sl) rfl q.2),H.new,H.nm,H.z0,(getSlot_ne hm).trans H.jk,?_,H.mem,H.nd,H.la.elim fun o z=>z.elim fun n z=>⟨o,n,kp a o (H.mem a (.head _)) z.1,z.2⟩,H.rows.map q.2.mapK fun b m o e _=>kp b o (H.mem b (.tail _ m)) e⟩
  have ho:fx.pl k≠.off:=fun e=>by have:=H.pr; rw [e] at this; (injection this; done)
  exact ps.other (fun q=>hm (H.I.ok.inj k m q ho)) (fun a' x c q=>q.elim (fun q=>H.I.ok.apart m k a' x c q.1 q.2) fun q=>H.I.ok.apart k m a' x c q.1 q.2) H.pr
theorem Hd.ch {w tk:Nat} {h':Heap} {ls':List (List V)} {X₂:Addr→Prop} (H:Hd fx oa₀ G₀ s₀ oa G X k a bs ls s) (hw:X w) (hn:LiveN s.heap w) (hk:∀ b o,b≠w→s.heap.get? b=some o→h'.get? b=some o) (hs:∀ b,X₂ b→X b) (hl:X₂ w→Live h' w) (hm:∀ b∈a :: bs,X₂ b) (ha:a≠w) (rows:Rows fx.g (Ct.mk (fx.mo X₂) oa G).bad h' bs ls') :
    Hd fx oa₀ G₀ s₀ oa G X₂ k a bs ls' { s with heap:=h',toks:=tk }:=by
  have hk':∀ b o,b∉[w]→s.heap.get? b=some o→h'.get? b=some o:=fun b o n e=>hk b o (fun q=>n (by rw [q]; exact .head _)) e
  refine ⟨Inv.others (Φ:=⟨fx.mo X,oa,G⟩) (Mo₂:=(fx.mo X₂).Mo) H.I (fun b m=>by cases List.mem_singleton.mp m; exact H.I.fr.not hn) hk' (fun b m=>by cases List.mem_singleton.mp m; exact .inr hw) (fun b m=>by cases List.mem_singleton.mp m; exact H.z0 w hw) (fun b q=>q.imp id (hs b)) (fun b q=>?_),
    H.tr.others hk' fun b m=>by cases List.mem_singleton.mp m; exact H.new w hw,fun b q=>H.new b (hs b q),fun b q=>H.nm b (hs b q),fun b q=>H.z0 b (hs b q),H.jk,H.pr.at fun c e o=>hk c o fun q=>H.notOwn e hw q.symm,hm,H.nd,H.la.elim fun o z=>z.elim fun n z=>⟨o,n,hk a o ha z.1,z.2⟩,rows⟩
  by_cases e:b=w
  · subst e; exact q.elim (fun q=>absurd q (H.nm b hw)) hl
  · exact (H.I.mo b (q.imp id (hs b))).elim fun o z=>⟨o,hk b o e z⟩
theorem Hd.unset {r:Nat} (H:Hd fx oa₀ G₀ s₀ oa G X k a bs ls s) (hr:k≠r) (e:getSlot G r=.unset) (hl:r < G.length):Hd fx oa₀ G₀ s₀ oa (G.set r .junk) X k a bs ls s:=by
  obtain ⟨u,pr,so⟩:=H.I.slot r
  rw [show getSlot (Ct.mk (fx.mo X) oa G).G r=.unset from e] at so
  exact ⟨Inv.reslot (Φ:=⟨fx.mo X,oa,G⟩) H.I so.1 pr rfl hl,H.tr.reslot so.1,H.new,H.nm,H.z0,(getSlot_ne hr).trans H.jk,H.pr,H.mem,H.nd,H.la,H.rows⟩
theorem Hd.more {J:Addr} {o:Obj} (H:Hd fx oa₀ G₀ s₀ oa G X k a bs ls s) (eJ:J=s.heap.objs.size) (I₀:Inv ⟨fx,oa₀,G₀⟩ s₀) (ho:o.isFreed=false):Hd fx oa₀ G₀ s₀ oa G (fun b=>X b∨b=J) k a bs ls { s with heap:=s.heap.push o }:=by
  subst eJ
  have n0:s₀.heap.get? s.heap.objs.size=none:=none_of (fun l=>H.tr.live _ l) (size_none _)
  have gr:=Grown.push s o s.toks
  have I:=Inv.more (Φ:=⟨fx.mo X,oa,G⟩) (X:=(·=s.heap.objs.size)) H.I (H.I.base.grown gr) gr.keeps (fun b q=>q▸size_none _) fun b q=>q▸⟨_,Heap.get?_push_size _ ho⟩
  have em:(fx.mo X).mo (·=s.heap.objs.size)=fx.mo (fun b=>X b∨b=s.heap.objs.size):=by
    show ({ fx with Mo:=fun b=>(fx.Mo b∨X b)∨b=s.heap.objs.size }:Fx)={ fx with Mo:=fun b=>fx.Mo b∨(X b∨b=s.heap.objs.size) }
    rw [show (fun b=>(fx.Mo b∨X b)∨b=s.heap.objs.size)=fun b=>fx.Mo b∨(X b∨b=s.heap.objs.size) from funext fun b=>propext or_assoc]
  have I:Inv ⟨fx.mo (fun b=>X b∨b=s.heap.objs.size),oa,G⟩ { s with heap:=s.heap.push o }:=em▸I
  have H':=H.keep (H.I.base.grown gr) gr.keeps
  refine ⟨I,H'.tr,fun b q=>q.elim (H.new b) fun q=>q▸n0,fun b q=>q.elim (H.nm b) fun q z=>(I₀.mo b z).elim fun o e=>no_some n0 (q▸e),fun b q=>q.elim (H.z0 b) fun q=>q▸none_of (fun l=>I₀.base.stays.live l) n0,H.jk,H'.pr,fun b m=>.inl (H.mem b m),H.nd,H'.la,H.rows.map (fun b o e f n=>⟨fun q=>n ?_,gr.keeps.get e f⟩) fun b m o e f=>gr.keeps.get e f⟩
  rcases q with (q | q | q) | q
  · exact .inl (.inl q)
  · exact .inl (.inr q)
  · exact (no_some (size_none _) (q▸e)).elim
  · exact .inr q
theorem set_self {G:Gs} {r:Nat} {sl:Slot} (e:getSlot G r=sl) (h:r < G.length):G.set r sl=G:=by
  subst e
  unfold getSlot
  rw [List.getD_eq_getElem?_getD,List.getElem?_eq_getElem h]
  exact List.set_getElem_self h
theorem rows_loop [Hm fx] {n m:Str} {r kk:Nat} {pm pn p1 ap cp cpos sp fpos:Pos} {Q:Flow→Shared→Prop} {E:Value→Shared→Prop} (I₀:Inv ⟨fx,oa₀,G₀⟩ s₀) (H:Hd fx oa₀ G₀ s₀ oa G X k a bs ls s) (hx:fx.ρ.lookup n=some k) (hn:okName n=true) (hT:TgtOk fx.ρ fx.env m r) (hm:okName m=true) (hr:k≠r) (hj:getSlot G r=.junk) (hl:r < G.length)
    (hz:∀ l∈ls,l.length < szLine) (hline:(ap.endLine==cpos.line)=true) (h:∀ X' s',Hd fx oa₀ G₀ s₀ oa G X' k a bs (app0 ls) s'→Q .next s') :
    wpAny (model fx.g.prog fx.g.w) fx.A (exec (.For (.Name m pm) (.Name n pn) [.Expr (.Call (.Attribute (.Name m p1) "append" ap) [.Constant (.int 0) kk cp] [] cpos) sp] [] fpos) fx.env) Q E s:=by
  refine wpAny_For (name_read (Φ:=⟨fx.mo X,oa,G⟩) H.I.ok hx hn H.pr ?_ _) (folded_no rfl)
  obtain ⟨o,c,ho,hc,hd⟩:=H.la
  refine wpAny_pyIter_list ⟨o,ho,hc.1,c,hd⟩ ?_
  have H1:=H.more (J:=s.heap.objs.size) (o:={ cls:=.type "list_iterator",data:=.fields #[.ref a,.int 0 0] }) rfl I₀ rfl
  have hne:∀ b∈a :: bs,b≠s.heap.objs.size:=fun b m=>(H.I.mo b (.inr (H.mem b m))).elim fun o e=>ne_size e
  have nJ:¬ X s.heap.objs.size:=fun q=>(H.I.mo _ (.inr q)).elim fun o e=>ne_size e rfl
  have st1:(s.heap.push { cls:=.type "list_iterator",data:=.fields #[.ref a,.int 0 0] }).IsListIter s.heap.objs.size a 0:=⟨_,Heap.get?_push_size _ rfl,rfl,rfl⟩
  generalize s.heap.objs.size=J at H1 hne nJ st1 ⊢
  have W:=Walks.list (prog:=fx.g.prog) (w:=fx.g.w) (A:=fx.A) (H.I.ok.hand (Hm.no (fx:=fx))) J a (hne a (.head _)) (bs.map Value.ref).toArray
  have hsz:(bs.map Value.ref).toArray.size=bs.length:=by rw [List.size_toArray,List.length_map]
  have hlen:bs.length=ls.length:=H.rows.len
  have lst:∀ {L:List (List V)} {s':Shared},Hd fx oa₀ G₀ s₀ oa G (fun b=>X b∨b=J) k a bs L s'→s'.heap.IsList a (bs.map Value.ref).toArray:=fun H=>H.la.elim fun o z=>z.elim fun n z=>⟨o,z.1,z.2.1.1,n,z.2.2⟩
  have oth:∀ {L:List (List V)} {s':Shared} {h':Heap} {tk:Nat} {X₂:Addr→Prop},Hd fx oa₀ G₀ s₀ oa G (fun b=>X b∨b=J) k a bs L s'→LiveN s'.heap J→(∀ b,X₂ b→X b∨b=J)→(X₂ J→Live h' J)→(∀ b∈a :: bs,X₂ b)→(∀ b o,b∉[J]→s'.heap.get? b=some o→h'.get? b=some o)→Hd fx oa₀ G₀ s₀ oa G X₂ k a bs L { s' with heap:=h',toks:=tk }:=fun {L s' h' tk X₂} H2 hJn hs hJl hm hk=>by
    have hk':∀ b o,b≠J→s'.heap.get? b=some o→h'.get? b=some o:=fun b o n e=>hk b o (fun q=>n (List.mem_singleton.mp q)) e
    exact H2.ch (.inr rfl) hJn hk' hs hJl hm (hne a (.head _)) (H2.rows.map (fun b o e f n=>⟨fun q=>n (q.imp (fun q=>q.imp id (hs b)) id),hk' b o (fun q=>n (.inl (.inr (.inr q)))) e⟩) fun b m o e f=>hk' b o (hne b (.tail _ m)) e)
  let LI:Nat→Shared→Prop:=fun c s'=>∃ i,c=bs.length - i∧i≤bs.length∧s'.heap.IsListIter J a i∧Hd fx oa₀ G₀ s₀ oa G (fun b=>X b∨b=J) k a bs (appN i ls) s'
  refine codeAny_forLoop_any LI (fun c s' hLI=>?_) bs.length ⟨0,rfl,Nat.zero_le _,st1,H1⟩
  refine gen_goal fun Z kZ=>?_
  obtain ⟨i,rfl,hi,st,H2⟩:=hLI
  have hJn:LiveN s'.heap J:=st.elim fun o z=>⟨o,z.1,nf_seq z.2.1⟩
  by_cases hil:i < bs.length
  · refine kZ (W.item i s' _ _ (hsz▸hil) ⟨st,lst H2⟩ fun v h' tk hv st' hk=>?_)
    clear kZ
    have hb:bs[i]?=some bs[i]:=List.getElem?_eq_getElem hil
    have ev:v=.ref bs[i]:=by
      have hv:(bs.map Value.ref).toArray[i]?=some v:=hv
      rw [List.getElem?_toArray,List.getElem?_map,hb] at hv
      (injection hv with hv; subst hv); rfl
    subst ev
    generalize bs[i]=b at hb ⊢
    have H3:=oth (tk:=tk) (X₂:=fun b=>X b∨b=J) H2 hJn (fun _ q=>q) (fun _=>st'.1.elim fun o z=>⟨o,z.1⟩) (fun b m=>.inl (H.mem b m)) hk
    refine letOwned_ok (st'.1.elim fun o z=>⟨o,_,_,z.1,z.2.1,z.2.2,by decide⟩) ?_
    rw [arm_assign_Name]
    refine wpAny_bind (wpAny_standAt (wpAny_bindName (store_ok (Φ:=⟨fx.mo (fun b=>X b∨b=J),oa,G⟩) H3.I hT.lk hT.nf (fun h4 tk4 ps=>?_) _)))
    have H4:=H3.put (tk:=tk4) (sl:=.junk) hr ps rfl id
    have eo:(fun j=>if j=r then none else oa j)=oa:=funext fun j=>by
      by_cases e:j=r
      · rw [if_pos e,e]; exact (H3.I.junk hj).symm
      · exact if_neg e
    rw [eo,set_self hj hl] at H4
    have st4:h4.IsListIter J a (i+1):=by
      obtain ⟨c,hc,hs,_⟩:=ps.addr
      obtain ⟨o,z⟩:=st'.1
      exact ⟨o,hs.extBut J o (H3.notOwn hc (.inr rfl)) z.1,z.2⟩
    obtain ⟨l,hgl,o,vs,c,ho,hc,hd,hrs⟩:=H4.rows.get hb
    rw [appN_get] at hgl
    refine wpAny_execs_cons (wpAny_Expr ?_ (Inv.quiet (Φ:=⟨fx.mo (fun b=>X b∨b=J),oa,G⟩) H4.I) rfl)
    refine wpAny_Call_method (T:="list") (id:="list.append") (base_simple rfl) rfl hline PySem.F.plainAttrs_list slot_list_append type_list_append (name_read (Φ:=⟨fx.mo (fun b=>X b∨b=J),oa,G⟩) H4.I.ok hT.lk hm ps.self ⟨⟨o,ho,hc.1⟩,fun a q=>by (injection q with q; subst q); exact ⟨o,ho,hc.2⟩,?_⟩ _)
    refine callWith_builtin rfl ?_
    refine args_ok (Φ:=⟨fx.mo (fun b=>X b∨b=J),oa,G⟩) (qs:=[(.Constant (.int 0) kk cp,fun K=>K (.int 0))]) (K:=fun xs=>okK (one xs some) fun x=>x=.int 0) (fun q m=>by obtain rfl:=List.mem_singleton.mp m; exact ⟨rfl,ev_lit rfl⟩) rfl H4.I fun ws xs s5 I5 k5 hx rs=>okK_elim hx fun x e hk=>?_
    refine one_elim (Φ:=⟨fx.mo (fun b=>X b∨b=J),oa,G⟩) (C:=fun ws=>wpAny _ _ (call (.builtin "list.append") ([.ref b]++ws) []) _ _ s5) e rs fun w y rw' e=>?_
    (injection e with e; subst e)
    subst hk
    have H5:=H4.keep I5.base k5
    have hbX:X b:=H.mem b (.tail _ (List.mem_of_getElem? hb))
    have ho5:=k5.get ho (nf_seq hc.1)
    refine append_at ho5 hc hd (sz_le (by rw [all_size (Φ:=⟨fx.mo (fun b=>X b∨b=J),oa,G⟩) hrs]; exact Nat.le_of_lt (hz l (List.mem_of_getElem? hgl)))) fun h6 o6 n6 ho6 hc6 hd6 hs=>wpAny_execs_nil ?_
    have mk:MapK (Ct.mk (fx.mo fun b=>X b∨b=J) oa G).bad (Ct.mk (fx.mo fun b=>X b∨b=J) oa G).bad s5.heap h6:=fun c o e _ nb=>⟨nb,hs.extBut c o (fun q=>nb (.inl (.inr (.inl (q▸hbX))))) e⟩
    have row:RowAt fx.g (Ct.mk (fx.mo fun b=>X b∨b=J) oa G).bad h6 b (l++[.int 0]):=⟨o6,_,n6,ho6,hc6,hd6,by rw [Array.toList_push]; exact ((hrs.keep k5).map mk).append (.cons (rw'.map mk) .nil)⟩
    have H6:=H5.ch (tk:=s5.toks) (X₂:=fun b=>X b∨b=J) (.inl hbX) ⟨o,ho5,nf_seq hc.1⟩ (fun c o n e=>hs.extBut c o n e) (fun _ q=>q) (fun _=>⟨_,ho6⟩) (fun b m=>.inl (H.mem b m)) (fun q=>(List.nodup_cons.mp H.nd).1 (q▸List.mem_of_getElem? hb)) (H5.rows.set mk (fun c o n e=>hs.extBut c o n e) row hb (List.nodup_cons.mp H.nd).2)
    rw [appN_set hgl] at H6
    exact ⟨bs.length - (i+1),by omega,i+1,rfl,hil,st4.elim fun o z=>⟨o,hs.extBut J o (fun q=>hne b (.tail _ (List.mem_of_getElem? hb)) q.symm) (k5.get z.1 (nf_seq z.2.1)),z.2⟩,H6⟩
  · have hil:i=bs.length:=Nat.le_antisymm hi (Nat.not_lt.mp hil)
    subst hil
    refine kZ (W.done s' _ _ (by rw [hsz]; exact ⟨st,lst H2⟩) fun h' tk hk=>wpAny_execs_nil (h X _ ?_))
    rw [hlen,appN_all] at H2
    exact oth H2 hJn (fun _ q=>.inl q) (fun q=>absurd q nJ) H.mem hk
end
end Mine
end
noncomputable section
namespace Mine
open PySem PySem.Calls PyProof.Rows PySem.W
section
variable {Φ:Ct} {s:Shared}
theorem NewV.none {h:Heap} {a:Addr} (n:NewV h (.ref a)):h.get? a=none:=by
  cases e:h.get? a with
  | none=>rfl
  | some o=>exact absurd (n a a rfl ⟨o,e⟩) (Nat.lt_irrefl _)
inductive NewItems (Φ:Ct) (s:Shared) (K:List V→Prop) (vs:List Value) (s':Shared):Prop
  | mk:Base Φ.fx.g s'→Keeps s.heap s'.heap→∀ xs,K xs→Φ.rps s'.heap vs xs→(∀ b,Value.ref b∈vs→s.heap.get? b=none)→(vs.Pairwise fun u v=>∀ b,u=.ref b→v≠.ref b)→NewItems Φ s K vs s'
theorem items_new {pos:Pos}:∀ {qs:List (Expr×DV)} {K:List V→Prop} {s:Shared},(∀ q∈qs,plainE q.1=true∧EvN Φ (eval q.1 Φ.fx.env) q.2)→manyV (qs.map Prod.snd) K→Inv Φ s→Φ.wp (spliced (backTo pos (starEach (qs.map Prod.fst) Φ.fx.env))) (NewItems Φ s K) s
  | [],K,s,_,hd,I=>fun E=>wpAny_pure ⟨I.base,.refl _,[],hd,.nil,(fun _ m=>nomatch m),.nil⟩
  | q :: r,K,s,h,hd,I=>fun E=>by
    refine List.map_cons.symm▸(star_plain (h q (.head _)).1).symm▸?_
    have e:spliced (backTo pos ((false,eval q.1 Φ.fx.env) :: starEach (r.map Prod.fst) Φ.fx.env))=(eval q.1 Φ.fx.env >>= fun v=>holding [v] (spliced (backTo pos (starEach (r.map Prod.fst) Φ.fx.env))) >>= fun vs=>pure (v :: vs)):=rfl
    refine e.symm▸?_
    refine wpAny_bind (wpAny_mono ((h q (.head _)).2 (fun x=>manyV (r.map Prod.snd) fun xs=>K (x :: xs)) s hd I E) (fun v s₁ ⟨⟨B,k,x,hx,rv⟩,n⟩=>?_) fun _ _ z=>z)
    refine wpAny_bind (wpAny_holding (wpAny_mono (items_new (fun q m=>h q (.tail _ m)) hx (I.keep B k) E) (fun vs s₂ ⟨B₂,k₂,xs,hxs,rs,n₂,d₂⟩=>?_) fun _ _ z=>z))
    refine wpAny_pure ⟨B₂,k.trans k₂,x :: xs,hxs,.cons (rv.keep k₂) rs,fun b m=>?_,.cons (fun u m b e e'=>?_) d₂⟩
    · rcases List.mem_cons.mp m with m | m
      · subst m; exact n.none
      · exact none_of k.live (n₂ b m)
    · subst e e'
      exact (Rp.live rv).elim fun o e=>no_some (n₂ b m) e
theorem rowO_elim {x:V} {l:List V} {C:V→List V→Prop} (e:rowO x=some l) (k:l.all noL=true→l.length < szLine→C (.list l) l):C x l:=by
  cases x with
  | list m=>exact if_elim (C:=fun l=>(l.all noL=true→l.length < szLine→C (.list l) l)→C (.list m) l) e (fun q k=>k q.1 q.2) k
  | _=>(injection e; done)
theorem rows_of {g:Gl} {bad:Addr→Prop} {h:Heap} {vs:List Value} {xs:List V} (r:RpAll g bad h vs xs):∀ {ls:List (List V)},xs.mapM rowO=some ls→∃ bs,vs=bs.map Value.ref∧Rows g bad h bs ls∧∀ l∈ls,l.all noL=true∧l.length < szLine:=
  r.ind (D:=fun vs xs=>∀ {ls:List (List V)},xs.mapM rowO=some ls→∃ bs,vs=bs.map Value.ref∧Rows g bad h bs ls∧∀ l∈ls,l.all noL=true∧l.length < szLine)
    (fun e=>by (injection e with e; subst e); exact ⟨[],rfl,.nil,fun _ m=>nomatch m⟩) fun v vs x xs r _ ih ls e=>by
      rw [List.mapM_cons] at e
      obtain ⟨l,hl,e⟩:=Option.bind_eq_some_iff.mp e
      obtain ⟨ls',hls,e⟩:=Option.bind_eq_some_iff.mp e
      (injection e with e; subst e)
      obtain ⟨bs,rfl,rs,hq⟩:=ih hls
      refine rowO_elim (C:=fun x l=>Rp g bad h v x→∃ bs',v :: bs.map Value.ref=bs'.map Value.ref∧Rows g bad h bs' (l :: ls')∧∀ m∈l :: ls',m.all noL=true∧m.length < szLine) hl (fun h1 h2 r=>?_) r
      exact r.list_elim (C:=fun v=>∃ bs',v :: bs.map Value.ref=bs'.map Value.ref∧Rows g bad h bs' (l :: ls')∧∀ m∈l :: ls',m.all noL=true∧m.length < szLine) fun a o ws n nb ha hc hd hl=>⟨a :: bs,rfl,.cons ⟨o,ws,n,ha,hc,hd,hl⟩ rs,fun m q=>by
        rcases List.mem_cons.mp q with rfl | q
        · exact ⟨h1,h2⟩
        · exact hq m q⟩
theorem Rows.lists {g:Gl} {bad:Addr→Prop} {h:Heap} {bs:List Addr} {ls:List (List V)} (r:Rows g bad h bs ls):∀ b∈bs,∃ o,h.get? b=some o∧o.cls=.type "list":=by
  induction r with
  | nil=>exact fun _ m=>nomatch m
  | cons a _ ih=>
    intro b m
    rcases List.mem_cons.mp m with rfl | m
    · obtain ⟨o,_,_,e,c,_⟩:=a; exact ⟨o,e,c.1⟩
    · exact ih b m
theorem Rows.noL {g:Gl} {bad bad':Addr→Prop} {h:Heap} {bs:List Addr} {ls:List (List V)} (hX:∀ b,bad' b→bad b∨∃ o,h.get? b=some o∧o.cls=.type "list") (r:Rows g bad h bs ls):(∀ l∈ls,l.all noL=true)→Rows g bad' h bs ls:=by
  induction r with
  | nil=>exact fun _=>.nil
  | cons a _ ih=>exact fun q=>.cons (a.elim fun o z=>z.elim fun vs z=>z.elim fun n z=>⟨o,vs,n,z.1,z.2.1,z.2.2.1,noL_all hX z.2.2.2 (q _ (.head _))⟩) (ih fun l m=>q l (.tail _ m))
end
section
variable {fx:Fx} {oa:Nat→Option Addr} {G:Gs} {s:Shared} {k:Nat}
theorem rows_mk {n:Str} {py spos pos:Pos} {qs:List (Expr×DV)} {K:List (List V)→Prop} {Q:Flow→Shared→Prop} {E:Value→Shared→Prop} (hT:TgtOk fx.ρ fx.env n k) (hq:∀ q∈qs,plainE q.1=true∧EvN ⟨fx,oa,G⟩ (eval q.1 fx.env) q.2)
    (hd:manyV (qs.map Prod.snd) fun xs=>okK (xs.mapM rowO) fun ls=>ls.length≤szLine∧K ls) (I:Inv ⟨fx,oa,G⟩ s)
    (h:∀ oa' a bs ls s',K ls→(∀ l∈ls,l.length < szLine)→(∀ b∈a :: bs,∃ o,s'.heap.get? b=some o∧o.cls=.type "list")→Hd fx oa G s oa' (G.set k .junk) (·∈a :: bs) k a bs ls s'→Q .next s') :
    wpAny (model fx.g.prog fx.g.w) fx.A (exec (.Assign [.Name n py] (.List (qs.map Prod.fst) pos) spos) fx.env) Q E s:=by
  rw [exec_Assign_Name _ _ _ _ _ (swaps_no rfl),arm_eval_List]
  simp only [bind_assoc]
  refine wpAny_bind (wpAny_standAt (wpAny_bind (wpAny_standAt (wpAny_bind (wpAny_mono (items_new (Φ:=⟨fx,oa,G⟩) hq hd I _) (fun vs s₁ ⟨B,k₁,xs,hx,rs,hn,hp⟩=>okK_elim hx fun ls e ⟨hz,hK⟩=>?_) fun _ _ z=>z)))))
  obtain ⟨bs,rfl,rows,hl⟩:=rows_of rs e
  have hsz:bs.length≤szLine:=by rw [rows.len]; exact hz
  refine wpAny_bind (wpAny_newObj_type ?_ (by refine (?_:(bs.map Value.ref).toArray.size≤sizeLine); rw [List.size_toArray,List.length_map]; exact sz_le hsz))
  have gr:=Grown.push s₁ { cls:=.type "list",data:=.seq (bs.map Value.ref).toArray } s₁.toks
  have ha₁:s₁.heap.get? s₁.heap.objs.size=none:=size_none _
  have ha:(s₁.heap.push { cls:=.type "list",data:=.seq (bs.map Value.ref).toArray }).get? s₁.heap.objs.size=some { cls:=.type "list",data:=.seq (bs.map Value.ref).toArray }:=Heap.get?_push_size _ rfl
  have up:Stays s₁.heap (s₁.heap.push { cls:=.type "list",data:=.seq (bs.map Value.ref).toArray }):=gr.stays
  generalize hS:s₁.heap.push { cls:=.type "list",data:=.seq (bs.map Value.ref).toArray }=h₂ at ha up gr ⊢
  generalize s₁.heap.objs.size=a at ha₁ ha ⊢
  have rows2:=rows.map (fun b o e _ n=>⟨n,up b o e⟩) fun b _ o e _=>up b o e
  have lists:∀ b∈a :: bs,∃ o,h₂.get? b=some o∧o.cls=.type "list":=fun b m=>by
    rcases List.mem_cons.mp m with rfl | m
    · exact ⟨_,ha,rfl⟩
    · exact rows2.lists b m
  have new:∀ b∈a :: bs,s.heap.get? b=none:=fun b m=>by
    rcases List.mem_cons.mp m with rfl | m
    · exact none_of k₁.live ha₁
    · exact hn b (List.mem_map.mpr ⟨b,m,rfl⟩)
  have nd:(a :: bs).Nodup:=List.nodup_cons.mpr ⟨fun m=>(rows.lists a m).elim fun o z=>no_some ha₁ z.1,(List.pairwise_map.mp hp).imp fun q e=>q _ rfl (by rw [e])⟩
  have kk:Keeps s.heap h₂:=k₁.trans up.keeps
  have I2:=Inv.more (Φ:=⟨fx,oa,G⟩) (X:=(·∈a :: bs)) (s₂:={ s₁ with heap:=h₂ }) I (B.grown gr) kk new fun b m=>(lists b m).elim fun o z=>⟨o,z.1⟩
  have rows3:Rows fx.g (Ct.mk (fx.mo (·∈a :: bs)) oa G).bad h₂ bs ls:=rows2.noL (fun b q=>by
    rcases q with (q | q) | q
    · exact .inl (.inl q)
    · exact .inr (lists b q)
    · exact .inl (.inr q)) fun l m=>(hl l m).1
  refine wpAny_bind (wpAny_standAt (wpAny_bind (wpAny_bindName (store_ok (Φ:=⟨fx.mo (·∈a :: bs),oa,G⟩) I2 hT.lk hT.nf (fun h' tk ps=>wpAny_pure ?_) _))))
  have q:=Inv.put (oak:=none) (sl:=.junk) (tk:=tk) (Φ:=⟨fx.mo (·∈a :: bs),oa,G⟩) I2 I2.base (.refl _) ps rfl (fun a e=>nomatch e) id
  obtain ⟨c,hc,hs,_⟩:=ps.addr
  have kp:∀ b o,b∈a :: bs→h₂.get? b=some o→h'.get? b=some o:=fun b o m e=>hs.extBut b o (fun z=>(I2.new c (.inl ⟨k,hc⟩)).2.2 (.inr (z▸m))) e
  refine h _ a bs ls _ hK (fun l m=>(hl l m).2) (fun b m=>(lists b m).elim fun o z=>⟨o,kp b o m z.1,z.2⟩) ⟨q.1,(Tr.of_keeps kk).trans (Tr.mo (Φ:=⟨fx,oa,G⟩) (Φ':=(Ct.mk fx oa G).put k none .junk) rfl q.2),new,fun b m z=>(I.mo b z).elim fun o e=>no_some (new b m) e,fun b m=>none_of (fun l=>I.base.stays.live l) (new b m),getSlot_self ?_,ps.self,fun _ m=>m,nd,⟨_,_,kp a _ (.head _) ha,⟨rfl,rfl⟩,rfl⟩,rows3.map q.2.mapK fun b m o e _=>kp b o (.tail _ m) e⟩
  exact addr_on (Φ:=⟨fx.mo (·∈a :: bs),oa,G⟩) I2 hc
theorem unset_of {G:Gs} {r:Nat} (h:isUnset G r=true):getSlot G r=.unset:=by
  unfold isUnset at h
  revert h
  cases getSlot G r with
  | unset=>exact fun _=>rfl
  | _=>exact fun e=>nomatch e
theorem ex_rows [Hm fx] {n m:Str} {r kk:Nat} {py spos pos pm pn p1 ap cp cpos sp fpos:Pos} {qs:Gs→List (Expr×DV)} {es:List Expr} {rest:List Stmt} {Y:B} (hes:∀ G,(qs G).map Prod.fst=es) (hT:TgtOk fx.ρ fx.env n k) (hn:okName n=true) (hTr:TgtOk fx.ρ fx.env m r) (hm:okName m=true) (hkr:k≠r) (hline:(ap.endLine==cpos.line)=true)
    (hq:∀ oa G,∀ q∈qs G,plainE q.1=true∧EvN ⟨fx,oa,G⟩ (eval q.1 fx.env) q.2) (hY:ExB fx (execs rest fx.env) Y) :
    ExB fx (execs (.Assign [.Name n py] (.List es pos) spos :: .For (.Name m pm) (.Name n pn) [.Expr (.Call (.Attribute (.Name m p1) "append" ap) [.Constant (.int 0) kk cp] [] cpos) sp] [] fpos :: rest) fx.env)
      (fun G K=>manyV ((qs G).map Prod.snd) fun xs=>okK (xs.mapM rowO) fun ls=>ls.length≤szLine∧isUnset G r=true∧Y ((G.set k (.v (rowsV (app0 ls)))).set r .junk) K):=fun oa G K s hd I=>by
  refine (hes G)▸?_
  refine wpAny_execs_cons (rows_mk hT (hq oa G) hd I fun oa' a bs ls s' ⟨hu,hY'⟩ hz _ H=>?_)
  have rl:r < G.length:=tgt_on (Φ:=⟨fx,oa,G⟩) I hTr
  have rl':r < (G.set k .junk).length:=by rw [List.length_set]; exact rl
  have H2:=H.unset hkr ((getSlot_ne (Ne.symm hkr)).trans (unset_of hu)) rl'
  refine wpAny_execs_cons (rows_loop I H2 hT.lk hn hTr hm hkr (getSlot_self rl') (by rw [List.length_set]; exact rl') hz hline fun X' s'' H3=>?_)
  have q:=H3.frozen
  replace q:=((by rw [List.set_comm _ _ (Ne.symm hkr),List.set_set]):((G.set k .junk).set r .junk).set k (.v (rowsV (app0 ls)))=(G.set k (.v (rowsV (app0 ls)))).set r .junk)▸q
  exact wpAny_mono (hY _ _ K s'' hY' q.1) (fun _ _ p=>p.lift (Φ:=⟨fx,oa,G⟩) q.2) fun _ _ p=>p.lift (Φ:=⟨fx,oa,G⟩) q.2
theorem ex_hand [Hm fx] {n m mm:Str} {r j kk:Nat} {py spos pos pm pn p1 ap cp cpos sp fpos pmm sp2 sp3:Pos} {qs:Gs→List (Expr×DV)} {es:List Expr} {rest suite:List Stmt} {ec et:Expr} {dc dt:Gs→DV} {XA Y:B} (hes:∀ G,(qs G).map Prod.fst=es) (hT:TgtOk fx.ρ fx.env n k) (hn:okName n=true) (hTr:TgtOk fx.ρ fx.env m r) (hm:okName m=true) (hkr:k≠r) (hTm:TgtOk fx.ρ fx.env mm j) (hkj:k≠j) (hjr:j≠r) (hline:(ap.endLine==cpos.line)=true)
    (hq:∀ oa G,∀ q∈qs G,plainE q.1=true∧EvN ⟨fx,oa,G⟩ (eval q.1 fx.env) q.2) (hc:∀ oa G,EvN ⟨fx,oa,G⟩ (eval ec fx.env) (dc G)) (hcc:notComp ec=true) (ht:∀ oa G,EvT ⟨fx,oa,G⟩ (isTrue et fx.env (eval et fx.env)) (tst (dt G))) (hA:ExB fx (execs suite fx.env) XA) (hY:ExB fx (execs rest fx.env) Y) :
    ExB fx (execs (.Assign [.Name n py] (.List es pos) spos :: .Assign [.Name mm pmm] ec sp2 :: .If et suite [] sp3 :: .For (.Name m pm) (.Name n pn) [.Expr (.Call (.Attribute (.Name m p1) "append" ap) [.Constant (.int 0) kk cp] [] cpos) sp] [] fpos :: rest) fx.env)
      (fun G K=>manyV ((qs G).map Prod.snd) fun xs=>okK (xs.mapM rowO) fun ls=>ls.length≤szLine∧dc (G.set k (.v (rowsV ls))) fun y=>lendOk y=true∧dt ((G.set k (.v (rowsV ls))).set j (.v y)) fun x=>okK (boolO x some) fun t=>
        if t=true then XA ((G.set k (.v (rowsV ls))).set j (.v y)) (fun fl G'=>(match fl with | some z=>noX z=true | none=>False)∧(match fl with | none=>Y G' K | some x=>K (some x) G'))
        else isUnset G r=true∧Y (((G.set k (.v (rowsV (app0 ls)))).set j (.v y)).set r .junk) K):=fun oa G K s hd I=>by
  refine (hes G)▸?_
  refine wpAny_execs_cons (rows_mk hT (hq oa G) hd I fun oa' a bs ls s' hK hz hl H=>?_)
  have q1:=H.frozen
  rw [List.set_set] at q1
  refine wpAny_execs_cons ?_
  refine (exec_Assign_Name _ _ _ _ _ (swaps_no hcc)).symm▸?_
  refine wpAny_bind (wpAny_standAt (wpAny_bind (wpAny_mono (hc _ _ _ s' hK q1.1 _) (fun v s2 ⟨⟨B,k2,y,⟨hy,hd2⟩,rp⟩,nv⟩=>?_) fun _ _ z=>z)))
  have H2:=H.keep B k2
  have rp':Rp fx.g (Ct.mk (fx.mo (·∈a :: bs)) oa' (G.set k .junk)).bad s2.heap v y:=lend_ok (X:=(·∈a :: bs)) (h₀:=s'.heap) (fun b m=>(hl b m).elim fun o z=>⟨⟨o,z.1⟩,o,k2.get z.1 (nf_seq z.2),z.2⟩) (fun b z=>by
    rcases z with (z | z) | z
    · exact .inl (.inl z)
    · exact .inr z
    · exact .inl (.inr z)) nv hy rp
  refine wpAny_bind (wpAny_standAt (wpAny_bind (wpAny_bindName (store_ok (Φ:=⟨fx.mo (·∈a :: bs),oa',G.set k .junk⟩) H2.I hTm.lk hTm.nf (fun h' tk ps=>wpAny_pure ?_) _))))
  refine gen_goal fun Z5 kZ5=>?_
  obtain ⟨c,hc',hs,_⟩:=ps.addr
  refine kZ5 ?_
  have H3:=H2.put (tk:=tk) (sl:=.v y) hkj ps ⟨rfl,v,rfl,rp'.map fun b o e _ n=>⟨fun q=>n (q.imp id fun q=>(put_own q).elim (fun (z:none=some b)=>nomatch z) id),hs.extBut b o (fun q=>n (.inr (.inl ⟨j,q▸hc'⟩))) e⟩⟩ id
  have q3:=H3.frozen
  replace q3:=((by rw [List.set_comm _ _ (Ne.symm hkj),List.set_set]):((G.set k .junk).set j (.v y)).set k (.v (rowsV ls))=(G.set k (.v (rowsV ls))).set j (.v y))▸q3
  refine wpAny_execs_cons (wpAny_If (wpAny_mono (ht _ _ _ _ hd2 q3.1 _) (fun t s4 ⟨B4,k4,t',hk,e⟩=>?_) fun _ _ z=>z))
  subst e
  have H4:=H3.keep B4 k4
  cases t with
  | true=>
    have I4:=q3.1.keep B4 k4
    have t4:=q3.2.trans (.of_keeps k4)
    refine wpAny_mono (hA _ _ _ s4 hk I4) (fun f s5 p=>?_) fun v s5 p=>?_
    · obtain ⟨oa5,G5,fl,I5,B5,t5,hf,hk5⟩:=p.lift (Φ:=⟨fx,oa,G⟩) t4
      cases fl with
      | none=>exact hk5.1.elim
      | some z=>obtain ⟨nx,v,rfl,rr⟩:=hf; exact ⟨oa5,G5,some z,I5,B5,t5,⟨nx,v,rfl,rr⟩,hk5.2⟩
    · obtain ⟨oa5,G5,c,e,h1,h2,I5,t5,x,hk5⟩:=p.lift (Φ:=⟨fx,oa,G⟩) t4
      exact nomatch hk5.1
  | false=>
    have rl:r < G.length:=tgt_on (Φ:=⟨fx,oa,G⟩) I hTr
    have rl':r < ((G.set k .junk).set j (.v y)).length:=by rw [List.length_set,List.length_set]; exact rl
    have H5:=H4.unset hkr ((getSlot_ne (Ne.symm hjr)).trans ((getSlot_ne (Ne.symm hkr)).trans (unset_of hk.1))) rl'
    refine wpAny_execs_nil (wpAny_execs_cons (rows_loop I H5 hT.lk hn hTr hm hkr (getSlot_self rl') (by rw [List.length_set]; exact rl') hz hline fun X' s'' H6=>?_))
    have q:=H6.frozen
    replace q:=((by rw [List.set_comm _ _ (Ne.symm hkr),List.set_comm _ _ (Ne.symm hkj),List.set_set]):(((G.set k .junk).set j (.v y)).set r .junk).set k (.v (rowsV (app0 ls)))=((G.set k (.v (rowsV (app0 ls)))).set j (.v y)).set r .junk)▸q
    exact wpAny_mono (hY _ _ K s'' hk.2 q.1) (fun _ _ p=>p.lift (Φ:=⟨fx,oa,G⟩) q.2) fun _ _ p=>p.lift (Φ:=⟨fx,oa,G⟩) q.2
end
end Mine
end
noncomputable section
namespace Mine
open PySem PySem.Calls PyProof.Rows PySem.W
noncomputable def sxOf (fx:Fx):Sx:=⟨fx.env.scope.names,fx.ρ,fx.nf,fx.ns,fx.hm,fx.nw⟩
noncomputable def GoodP (fx:Fx) (p:Pz) (x:Expr) (d:D):Prop:=match p with
  | .val=>∀ oa G,Ev ⟨fx,oa,G⟩ (eval x fx.env) (d G)
  | .test=>∀ oa G,EvT ⟨fx,oa,G⟩ (isTrue x fx.env (eval x fx.env)) (tst (d G))
  | .new=>∀ oa G,EvN ⟨fx,oa,G⟩ (eval x fx.env) (d G)
  | .src st T=>∀ oa G,EvSrc ⟨fx,oa,G⟩ T st x (fun K=>d G fun v=>okK (seqV v) K)
  | .asg y py sp=>∀ k,TgtOk fx.ρ fx.env y k→ExB fx (exec (.Assign [.Name y py] x sp) fx.env) (fun G K=>d G fun v=>K none (G.set k (.v v)))
noncomputable def KidOk (g:Gl) (n:Nat) (t:Kid) (d:D):Prop:=∀ fx,fx.g=g→fx.d=n→sxOf fx=t.1→GoodP fx t.2.1 t.2.2 d
inductive Kids (g:Gl) (n:Nat):List Kid→List D→Prop
  | nil:Kids g n [] []
  | cons {t:Kid} {ts:List Kid} {d:D} {ds:List D}:KidOk g n t d→Kids g n ts ds→Kids g n (t :: ts) (d :: ds)
section
variable {g:Gl} {n:Nat} {ds:List D} {C:List D→Prop} {t u w:Kid}
@[elab_as_elim] theorem Kids.n0 (h:Kids g n [] ds) (k:C []):C ds:=by cases h; exact k
@[elab_as_elim] theorem Kids.nc {ts:List Kid} (h:Kids g n (t :: ts) ds) (k:∀ d ds,KidOk g n t d→Kids g n ts ds→C (d :: ds)):C ds:=by cases h with | cons a b=>exact k _ _ a b
@[elab_as_elim] theorem Kids.n1 (h:Kids g n [t] ds) (k:∀ d,KidOk g n t d→C [d]):C ds:=h.nc fun d ds a b=>b.n0 (k d a)
@[elab_as_elim] theorem Kids.n2 (h:Kids g n [t,u] ds) (k:∀ d e,KidOk g n t d→KidOk g n u e→C [d,e]):C ds:=h.nc fun d ds a b=>b.n1 fun e c=>k d e a c
@[elab_as_elim] theorem Kids.n3 (h:Kids g n [t,u,w] ds) (k:∀ d e f,KidOk g n t d→KidOk g n u e→KidOk g n w f→C [d,e,f]):C ds:=h.nc fun d ds a b=>b.n2 fun e f c q=>k d e f a c q
theorem Kids.pairs {X:Sx} {p:Pz} {xs:List Expr}:∀ {ds:List D},Kids g n (xs.map fun x=>(X,p,x)) ds→∃ qs:List (Expr×D),qs.map Prod.fst=xs∧qs.map Prod.snd=ds∧∀ q∈qs,KidOk g n (X,p,q.1) q.2:=by
  induction xs with
  | nil=>intro ds h; exact h.n0 ⟨[],rfl,rfl,fun _ m=>nomatch m⟩
  | cons x xs ih=>
    intro ds h
    refine h.nc fun d ds a b=>?_
    obtain ⟨qs,e1,e2,hq⟩:=ih b
    exact ⟨(x,d) :: qs,congrArg (x :: ·) e1,congrArg (d :: ·) e2,fun q m=>by cases m with | head=>exact a | tail _ m=>exact hq q m⟩
end
section
variable {g:Gl} {n:Nat} {ds:List D} {fx:Fx} {xs:List Expr}
theorem Kids.vals (h:Kids g n (xs.map fun x=>(sxOf fx,.val,x)) ds) (hg:fx.g=g) (hn:fx.d=n):∃ qs:Gs→List (Expr×DV),(∀ G,(qs G).map Prod.fst=xs∧(qs G).map Prod.snd=ds.map (· G))∧∀ oa G,∀ q∈qs G,q.1∈xs∧Good1 ⟨fx,oa,G⟩ q:=by
  obtain ⟨qs,rfl,rfl,hq⟩:=h.pairs
  refine ⟨fun G=>qs.map fun q=>(q.1,q.2 G),fun G=>⟨by rw [List.map_map]; rfl,by rw [List.map_map,List.map_map]; rfl⟩,fun oa G q m=>?_⟩
  obtain ⟨q',m',rfl⟩:=List.mem_map.mp m
  exact ⟨List.mem_map.mpr ⟨q',m',rfl⟩,hq q' m' fx hg hn rfl oa G⟩
theorem Kids.items (h:Kids g n (xs.map fun x=>(sxOf fx,.val,x)) ds) (hg:fx.g=g) (hn:fx.d=n) (hp:plains xs=true):∃ qs:Gs→List (Expr×DV),(∀ G,(qs G).map Prod.fst=xs∧(qs G).map Prod.snd=ds.map (· G))∧∀ oa G,∀ q∈qs G,plainE q.1=true∧Good1 ⟨fx,oa,G⟩ q:=by
  obtain ⟨qs,h1,h2⟩:=h.vals hg hn
  exact ⟨qs,h1,fun oa G q m=>⟨List.all_eq_true.mp hp _ (h2 oa G q m).1,(h2 oa G q m).2⟩⟩
theorem Kids.tests (h:Kids g n (xs.map fun x=>(sxOf fx,.test,x)) ds) (hg:fx.g=g) (hn:fx.d=n):∃ qs:Gs→List (Expr×DV),(∀ G,(qs G).map Prod.fst=xs∧(qs G).map Prod.snd=ds.map (· G))∧∀ oa G,∀ q∈qs G,EvT ⟨fx,oa,G⟩ (isTrue q.1 fx.env (eval q.1 fx.env)) (tst q.2):=by
  obtain ⟨qs,rfl,rfl,hq⟩:=h.pairs
  refine ⟨fun G=>qs.map fun q=>(q.1,q.2 G),fun G=>⟨by rw [List.map_map]; rfl,by rw [List.map_map,List.map_map]; rfl⟩,fun oa G q m=>?_⟩
  obtain ⟨q',m',rfl⟩:=List.mem_map.mp m
  exact hq q' m' fx hg hn rfl oa G
theorem Kids.news (h:Kids g n (xs.map fun x=>(sxOf fx,.new,x)) ds) (hg:fx.g=g) (hn:fx.d=n) (hp:plains xs=true):∃ qs:Gs→List (Expr×DV),(∀ G,(qs G).map Prod.fst=xs∧(qs G).map Prod.snd=ds.map (· G))∧∀ oa G,∀ q∈qs G,plainE q.1=true∧EvN ⟨fx,oa,G⟩ (eval q.1 fx.env) q.2:=by
  obtain ⟨qs,rfl,rfl,hq⟩:=h.pairs
  refine ⟨fun G=>qs.map fun q=>(q.1,q.2 G),fun G=>⟨by rw [List.map_map]; rfl,by rw [List.map_map,List.map_map]; rfl⟩,fun oa G q m=>?_⟩
  obtain ⟨q',m',rfl⟩:=List.mem_map.mp m
  exact ⟨List.all_eq_true.mp hp _ (List.mem_map.mpr ⟨q',m',rfl⟩),hq q' m' fx hg hn rfl oa G⟩
theorem Kids.node {nb:Bool} {f:List Expr→Expr} {op:List V→(V→Prop)→Prop} (h:Kids g n (xs.map fun x=>(sxOf fx,.val,x)) ds) (hg:fx.g=g) (hn:fx.d=n) (hp:plains xs=true)
    (k:∀ oa G (qs:List (Expr×DV)),(∀ q∈qs,plainE q.1=true∧Good1 ⟨fx,oa,G⟩ q)→EvC ⟨fx,oa,G⟩ nb (eval (f (qs.map Prod.fst)) fx.env) (fun K=>manyV (qs.map Prod.snd) fun xs=>op xs K)):∀ oa G,EvC ⟨fx,oa,G⟩ nb (eval (f xs) fx.env) (fun K=>manyD ds G fun xs=>op xs K):=fun oa G=>by
  obtain ⟨qs,h1,h2⟩:=h.items hg hn hp
  have q:=k oa G (qs G) (h2 oa G)
  rw [(h1 G).1,(h1 G).2] at q
  rw [manyD_eq]
  exact q
end
theorem lName {x:Expr} {f:Str×Pos→Bool} {C:Expr→Prop} (h:(vName x).any f=true) (k:∀ n p,f (n,p)=true→C (.Name n p)):C x:=
  if hi:x.ctorIdx=23 then Expr.Name.elim (motive_1:=fun x=>(vName x).any f=true→C x) x hi (fun n p h=>k n p h) h else by
    unfold vName at h; rw [dif_neg hi] at h; (injection h; done)
theorem lTup {x:Expr} {f:List Expr×Nat×Pos→Bool} {C:Expr→Prop} (h:(vTup x).any f=true) (k:∀ xs k p,f (xs,k,p)=true→C (.Tuple xs k p)):C x:=
  if hi:x.ctorIdx=25 then Expr.Tuple.elim (motive_1:=fun x=>(vTup x).any f=true→C x) x hi (fun xs j p h=>k xs j p h) h else by
    unfold vTup at h; rw [dif_neg hi] at h; (injection h; done)
theorem lLst {x:Expr} {f:List Expr×Pos→Bool} {C:Expr→Prop} (h:(vLst x).any f=true) (k:∀ xs p,f (xs,p)=true→C (.List xs p)):C x:=
  if hi:x.ctorIdx=24 then Expr.List.elim (motive_1:=fun x=>(vLst x).any f=true→C x) x hi (fun xs p h=>k xs p h) h else by
    unfold vLst at h; rw [dif_neg hi] at h; (injection h; done)
theorem lSub {x:Expr} {f:Expr×Expr×Pos→Bool} {C:Expr→Prop} (h:(vSub x).any f=true) (k:∀ v s p,f (v,s,p)=true→C (.Subscript v s p)):C x:=
  if hi:x.ctorIdx=21 then Expr.Subscript.elim (motive_1:=fun x=>(vSub x).any f=true→C x) x hi (fun v s p h=>k v s p h) h else by
    unfold vSub at h; rw [dif_neg hi] at h; (injection h; done)
theorem lSlc {x:Expr} {f:Option Expr×Option Expr×Option Expr×Pos→Bool} {C:Expr→Prop} (h:(vSlc x).any f=true) (k:∀ l u st p,f (l,u,st,p)=true→C (.Slice l u st p)):C x:=
  if hi:x.ctorIdx=26 then Expr.Slice.elim (motive_1:=fun x=>(vSlc x).any f=true→C x) x hi (fun l u st p h=>k l u st p h) h else by
    unfold vSlc at h; rw [dif_neg hi] at h; (injection h; done)
theorem lCall {x:Expr} {f:Expr×List Expr×List Keyword×Pos→Bool} {C:Expr→Prop} (h:(vCall x).any f=true) (k:∀ u xs ks p,f (u,xs,ks,p)=true→C (.Call u xs ks p)):C x:=
  if hi:x.ctorIdx=16 then Expr.Call.elim (motive_1:=fun x=>(vCall x).any f=true→C x) x hi (fun u xs ks p h=>k u xs ks p h) h else by
    unfold vCall at h; rw [dif_neg hi] at h; (injection h; done)
theorem lAttr {x:Expr} {f:Expr×Str×Pos→Bool} {C:Expr→Prop} (h:(vAttr x).any f=true) (k:∀ o n q,f (o,n,q)=true→C (.Attribute o n q)):C x:=
  if hi:x.ctorIdx=20 then Expr.Attribute.elim (motive_1:=fun x=>(vAttr x).any f=true→C x) x hi (fun o n q h=>k o n q h) h else by
    unfold vAttr at h; rw [dif_neg hi] at h; (injection h; done)
theorem lDict {x:Expr} {f:List (Option Expr)×List Expr×Pos→Bool} {C:Expr→Prop} (h:(vDict x).any f=true) (k:∀ ks vs p,f (ks,vs,p)=true→C (.Dict ks vs p)):C x:=
  if hi:x.ctorIdx=6 then Expr.Dict.elim (motive_1:=fun x=>(vDict x).any f=true→C x) x hi (fun ks vs p h=>k ks vs p h) h else by
    unfold vDict at h; rw [dif_neg hi] at h; (injection h; done)
theorem Ev.evC {Φ:Ct} {t:Sem Value} {d:DV} (h:Ev Φ t d):EvC Φ false t d:=fun K s hd I E=>wpAny_mono (h K s hd I E) (fun _ _ p=>⟨p,nofun⟩) fun _ _ z=>z
theorem EvN.evC {Φ:Ct} {b:Bool} {t:Sem Value} {d:DV} (h:EvN Φ t d):EvC Φ b t d:=fun K s hd I E=>wpAny_mono (h K s hd I E) (fun _ _ p=>⟨p.1,fun _=>p.2⟩) fun _ _ z=>z
@[elab_as_elim] theorem l1 {α:Type} {xs:List α} {f:α→Bool} {C:List α→Prop} (h:(sole xs).any f=true) (k:∀ y,f y=true→C [y]):C xs:=by
  match xs,h with
  | [],h=>(injection h; done)
  | [y],h=>exact k y h
  | _ :: _ :: _,h=>(injection h; done)
@[elab_as_elim] theorem l2 {α:Type} {xs:List α} {f:α×α→Bool} {C:List α→Prop} (h:(two? xs).any f=true) (k:∀ y z,f (y,z)=true→C [y,z]):C xs:=by
  match xs,h with
  | [],h=>(injection h; done)
  | [y],h=>(injection h; done)
  | [y,z],h=>exact k y z h
  | _ :: _ :: _ :: _,h=>(injection h; done)
@[elab_as_elim] theorem ln {α:Type} {xs:List α} {C:List α→Prop} (h:xs.isEmpty=true) (k:C []):C xs:=by
  cases xs with
  | nil=>exact k
  | cons=>(injection h; done)
theorem a2 {a b:Bool} (h:(a&&b)=true):a=true∧b=true:=(Bool.and_eq_true _ _).mp h
theorem any_get {α:Type} {o:Option α} {f:α→Bool} (h:o.any f=true):∃ a,o=some a∧f a=true:=by
  cases o with
  | none=>(injection h; done)
  | some a=>exact ⟨a,rfl,h⟩
end Mine
end
noncomputable section
namespace Mine
open PySem PySem.Calls PyProof.Rows PySem.W
theorem litEq_of {x y:V} (h:litEq x y=true):y=x:=by
  cases x with
  | int i=>cases y with | int j=>rw [eq_of_beq h] | _=>(injection h; done)
  | str s=>cases y with | str t=>rw [eq_of_beq h] | _=>(injection h; done)
  | _=>(injection h; done)
theorem lConst {x:Expr} {f:Const×Nat×Pos→Bool} {C:Expr→Prop} (h:(vConst x).any f=true) (k:∀ c k p,f (c,k,p)=true→C (.Constant c k p)):C x:=
  if hi:x.ctorIdx=19 then Expr.Constant.elim (motive_1:=fun x=>(vConst x).any f=true→C x) x hi (fun c j p h=>k c j p h) h else by
    unfold vConst at h; rw [dif_neg hi] at h; (injection h; done)
theorem lBin {x:Expr} {f:Expr×Operator×Expr×Pos→Bool} {C:Expr→Prop} (h:(vBin x).any f=true) (k:∀ l o r p,f (l,o,r,p)=true→C (.BinOp l o r p)):C x:=
  if hi:x.ctorIdx=2 then Expr.BinOp.elim (motive_1:=fun x=>(vBin x).any f=true→C x) x hi (fun l o r p h=>k l o r p h) h else by
    unfold vBin at h; rw [dif_neg hi] at h; (injection h; done)
theorem lCmp {x:Expr} {f:Expr×List CmpOp×List Expr×Pos→Bool} {C:Expr→Prop} (h:(vCmp x).any f=true) (k:∀ l o r p,f (l,o,r,p)=true→C (.Compare l o r p)):C x:=
  if hi:x.ctorIdx=15 then Expr.Compare.elim (motive_1:=fun x=>(vCmp x).any f=true→C x) x hi (fun l o r p h=>k l o r p h) h else by
    unfold vCmp at h; rw [dif_neg hi] at h; (injection h; done)
theorem lBool {x:Expr} {f:BoolOp×List Expr×Pos→Bool} {C:Expr→Prop} (h:(vBool x).any f=true) (k:∀ o xs p,f (o,xs,p)=true→C (.BoolOp o xs p)):C x:=
  if hi:x.ctorIdx=0 then Expr.BoolOp.elim (motive_1:=fun x=>(vBool x).any f=true→C x) x hi (fun o xs p h=>k o xs p h) h else by
    unfold vBool at h; rw [dif_neg hi] at h; (injection h; done)
theorem lUn {x:Expr} {f:UnaryOp×Expr×Pos→Bool} {C:Expr→Prop} (h:(vUn x).any f=true) (k:∀ o y p,f (o,y,p)=true→C (.UnaryOp o y p)):C x:=
  if hi:x.ctorIdx=3 then Expr.UnaryOp.elim (motive_1:=fun x=>(vUn x).any f=true→C x) x hi (fun o y p h=>k o y p h) h else by
    unfold vUn at h; rw [dif_neg hi] at h; (injection h; done)
theorem lIf {x:Expr} {f:Expr×Expr×Expr×Pos→Bool} {C:Expr→Prop} (h:(vIf x).any f=true) (k:∀ t y z p,f (t,y,z,p)=true→C (.IfExp t y z p)):C x:=
  if hi:x.ctorIdx=5 then Expr.IfExp.elim (motive_1:=fun x=>(vIf x).any f=true→C x) x hi (fun t y z p h=>k t y z p h) h else by
    unfold vIf at h; rw [dif_neg hi] at h; (injection h; done)
theorem lComp {x:Expr} {f:Expr×List Comprehension×Scope×Pos→Bool} {C:Expr→Prop} (h:(vComp x).any f=true) (k:∀ y gs sc p,f (y,gs,sc,p)=true→C (.ListComp y gs sc p)):C x:=
  if hi:x.ctorIdx=8 then Expr.ListComp.elim (motive_1:=fun x=>(vComp x).any f=true→C x) x hi (fun y gs sc p h=>k y gs sc p h) h else by
    unfold vComp at h; rw [dif_neg hi] at h; (injection h; done)
theorem lnCall {X:Sx} {nm:Str} {x:Expr} {f:List Expr→Bool} {C:Expr→Prop} (h:nCall X nm x f=true) (k:∀ q xs p,glob X.sc nm=true→f xs=true→C (.Call (.Name nm q) xs [] p)):C x:=
  lCall (by unfold nCall at h; exact h) fun u xs ks p h=>lName (C:=fun u=>C (.Call u xs ks p)) h fun n q h=>by
    have e:n=nm:=eq_of_beq (a2 h).1
    subst e
    exact ln (C:=fun ks=>C (.Call (.Name n q) xs ks p)) (a2 (a2 (a2 h).2).2).1 (k q xs p (a2 (a2 h).2).1 (a2 (a2 (a2 h).2).2).2)
theorem lnCall1 {X:Sx} {nm:Str} {x:Expr} {f:Expr→Bool} {C:Expr→Prop} (h:nCall1 X nm x f=true) (k:∀ q y p,glob X.sc nm=true→f y=true→C (.Call (.Name nm q) [y] [] p)):C x:=
  lnCall h fun q xs p hg h=>l1 (C:=fun xs=>C (.Call (.Name nm q) xs [] p)) h fun y h=>k q y p hg h
theorem lmCall {x:Expr} {f:Expr→Str→List Expr→Bool} {C:Expr→Prop} (h:mCall x f=true) (k:∀ y nm q xs p,(q.endLine==p.line)=true→f y nm xs=true→C (.Call (.Attribute y nm q) xs [] p)):C x:=
  lCall (by unfold mCall at h; exact h) fun u xs ks p h=>lAttr (C:=fun u=>C (.Call u xs ks p)) h fun y nm q h=>ln (C:=fun ks=>C (.Call (.Attribute y nm q) xs ks p)) (a2 h).1 (k y nm q xs p (a2 (a2 h).2).1 (a2 (a2 h).2).2)
theorem lmCall1 {X:Sx} {k:List Kid→Bool} {nm:Str} {x:Expr} {C:Expr→Prop} (h:mCall1 X k nm x=true) (f:∀ y q e p,(q.endLine==p.line)=true→simpleE y=true→plainE e=true→k [(X,.val,y),(X,.val,e)]=true→C (.Call (.Attribute y nm q) [e] [] p)):C x:=
  lmCall h fun y n q xs p hl h=>by
    have e:n=nm:=eq_of_beq (a2 h).1
    subst e
    exact l1 (C:=fun xs=>C (.Call (.Attribute y n q) xs [] p)) (a2 (a2 h).2).2 fun z hz=>f y q z p hl (a2 (a2 h).2).1 (a2 hz).1 (a2 hz).2
theorem sx_comp {fx:Fx} {scope:Scope} {x x':Str} {C:Addr} {Y:Addr→Prop} (hk:fx.env.scope.kind=.function):sxOf (compFx fx scope C x x' Y)=(sxOf fx).comp scope x x':=by
  unfold Sx.comp sxOf
  have:(compFx fx scope C x x' Y).env.scope.names=relab fx.env.scope.names scope.names:=relabel_names hk
  rw [this]
  rfl
theorem compOk_of {fx:Fx} {scope:Scope} {x x':Str} (ok:FxOk fx) (h:compChk (sxOf fx) scope x x'=true):CompOk fx scope x x':=by
  obtain ⟨h1,h⟩:=a2 h
  obtain ⟨h2,h⟩:=a2 h
  obtain ⟨h3,h⟩:=a2 h
  obtain ⟨h5,h⟩:=a2 h
  obtain ⟨h6,h⟩:=a2 h
  obtain ⟨h7,h8⟩:=a2 h
  have h5:=List.all_eq_true.mp h5
  have h6:=List.all_eq_true.mp h6
  have h7:=List.all_eq_true.mp h7
  have fr:∀ n,(n,NameKind.free)∈scope.names→(fx.env.kindOf n=some .cell∨fx.env.kindOf n=some .free)∧∃ k,fx.ρ.lookup n=some k:=fun n hn=>by
    rcases (Bool.or_eq_true _ _).mp (h7 _ hn) with q | q
    · exact absurd rfl (bne_iff_ne.mp q)
    · obtain ⟨q1,q2⟩:=a2 q
      exact ⟨((Bool.or_eq_true _ _).mp q1).imp eq_of_beq eq_of_beq,Option.isSome_iff_exists.mp q2⟩
  refine ⟨eq_of_beq h1,eq_of_beq h2,eq_of_beq h3,fun y hy=>bne_iff_ne.mp (h5 y hy),fun y hy hl=>((Bool.or_eq_true _ _).mp (h6 y hy)).elim (fun q=>absurd hl (bne_iff_ne.mp q)) eq_of_beq,fun n hn=>(fr n hn).1,fun n hn=>?_,of_decide_eq_true h8⟩
  obtain ⟨q,k,hk⟩:=fr n hn
  rcases ok.vis n k hk with ⟨z,_⟩ | ⟨_,c,hc,_⟩
  · rcases q with q | q <;> rw [z] at q <;> cases q
  · exact ⟨c,hc⟩
theorem lcCall {Z:Zx} {X:Sx} {f:Nat} {x:Expr} {k:List Expr→Bool} {C:Expr→Prop} (h:cCall Z X f x k=true) (h':∀ n q xs p,Z.fns.lookup n=some f→glob X.sc n=true→(X.hm=true→Z.safe f=true)→k xs=true→C (.Call (.Name n q) xs [] p)):C x:=
  lCall (by unfold cCall at h; exact h) fun u xs ks p h=>lName (C:=fun u=>C (.Call u xs ks p)) h fun n q h=>by
    obtain ⟨h1,h⟩:=a2 h
    obtain ⟨h2,h⟩:=a2 h
    obtain ⟨h3,h⟩:=a2 h
    exact ln (C:=fun ks=>C (.Call (.Name n q) xs ks p)) (a2 h).1 (h' n q xs p (eq_of_beq h1) h2 (fun e=>by rw [e] at h3; exact h3) (a2 h).2)
section
variable (Z:Zx) (o:Op) (k:List Kid→Bool) (X:Sx)
end
structure GOk (g:Gl) (Z:Zx):Prop where
  fns:g.fns=Z.fns
  cons:g.cons=Z.cons
  flds:g.flds=Z.flds
  clss:g.clss=Z.clss
  nc:g.nc=Z.nc
  sup:g.P.sup=Z.sup
  safe:g.safe=Z.safe
  newf:g.newf=Z.newf
  cf:g.fn Z.cf=g.C
  keep:∀ x f,Z.fns.lookup x=some f→keepIn g.K (.ref (g.fn f))=true
  meths:∀ x f,Z.meths.lookup x=some f→x∉g.flds∧findIn g.K (.ref g.C) x=some (some (.ref (g.fn f)))∧typeIn g.K (.ref (g.fn f))=some (.type "function")∧keepIn g.K (.ref (g.fn f))=true
section
variable {g:Gl} {n:Nat} {Z:Zx} {o:Op} {k:List Kid→Bool} {ds:List D} {fx:Fx} {x:Expr}
theorem hm_of {b:Bool} (e:fx.hm=b) (h:(!b)=true):Hm fx:=⟨by rw [e]; cases b with | false=>rfl | true=>(injection h; done)⟩
theorem a2e {a b:Bool} {C:Prop} (h:(a&&b)=true) (k:a=true→b=true→C):C:=k (a2 h).1 (a2 h).2
theorem okK_map {α β:Type} {o:Option α} {f:α→β} {K:β→Prop}:okK (o.map f) K=okK o fun a=>K (f a):=by cases o <;> rfl
theorem ev_ok {Φ:Ct} {t:Sem Value} {d:DV} (h:FxOk Φ.fx→Ev Φ t d):Ev Φ t d:=fun K s hd I=>h I.ok K s hd I
theorem kids_tests {ts:List D} {ifs:List Expr} (h:Kids fx.g fx.d (ifs.map fun x=>(sxOf fx,.test,x)) ts):∀ oa G,EvT ⟨fx,oa,G⟩ (testsT ifs fx.env) (boolsD true ts G):=fun oa G=>by
  obtain ⟨qs,h1,h2⟩:=h.tests rfl rfl
  have q:=tests_ok (Φ:=⟨fx,oa,G⟩) (h2 oa G)
  rw [(h1 G).1,(h1 G).2,← boolsD_eq] at q
  exact q
theorem evalEach_map {env:Env}:∀ xs:List Expr,evalEach xs env=xs.map fun x=>eval x env
  | []=>rfl
  | x :: r=>congrArg (eval x env :: ·) (evalEach_map r)
theorem bools_val {b:Bool} {xs:List Expr} {p:Pos} (hne:(!xs.isEmpty)=true) (h:Kids fx.g fx.d (xs.map fun x=>(sxOf fx,.val,x)) ds):∀ oa G,Ev ⟨fx,oa,G⟩ (eval (.BoolOp (bop b) xs p) fx.env) (fun K=>boolsD b ds G fun c=>K (.bool c)):=fun oa G=>by
  obtain ⟨qs,h1,h2⟩:=h.vals rfl rfl
  have q:=ev_bools (Φ:=⟨fx,oa,G⟩) (b:=b) (pos:=p) (fun q m=>(h2 oa G q m).2) fun e=>by have:=(h1 G).1; rw [e] at this; rw [← this] at hne; (injection hne; done)
  rw [show (qs G).map (fun q=>eval q.1 fx.env)=xs.map fun x=>eval x fx.env by rw [← (h1 G).1,List.map_map]; rfl,(h1 G).2,← boolsD_eq] at q
  have e:eval (.BoolOp (bop b) xs p) fx.env=boolOp p (bop b) (xs.map fun x=>eval x fx.env):=by
    rw [arm_eval_BoolOp,evalEach_map]
  rw [e]
  exact q
theorem exb_ok {t:Sem Flow} {Y:B} (h:FxOk fx→ExB fx t Y):ExB fx t Y:=fun oa G K s hd I=>h I.ok oa G K s hd I
theorem bools_test {b:Bool} {xs:List Expr} {p:Pos} {w:Sem Value} (h:Kids fx.g fx.d (xs.map fun x=>(sxOf fx,.test,x)) ds):∀ oa G,EvT ⟨fx,oa,G⟩ (isTrue (.BoolOp (bop b) xs p) fx.env w) (boolsD b ds G):=fun oa G=>by
  obtain ⟨qs,h1,h2⟩:=h.tests rfl rfl
  have q:=tests_of (Φ:=⟨fx,oa,G⟩) (b:=b) (h2 oa G)
  rw [(h1 G).1,(h1 G).2,← boolsD_eq] at q
  exact q
noncomputable def Vt (p:Pz):Prop:=p=.val∨p=.test
theorem gp {p:Pz} {d:D} (hp:Vt p) (h:GoodP fx .val x d) (e:isTrue x fx.env (eval x fx.env)=(do let v ← eval x fx.env; standAt x.pos; holding [v] (truthy v))):GoodP fx p x d:=by
  rcases hp with rfl | rfl
  · exact h
  · exact fun oa G=>ev_test (h oa G) e
noncomputable def CompG (fx:Fx) (b:Gs→V→Option Gs) (e:Expr) (ds:List D):Prop:=(∀ oa G,Ev ⟨fx,oa,G⟩ (eval e fx.env) (compD b ds G))∧∀ y py sp k,TgtOk fx.ρ fx.env y k→ExB fx (exec (.Assign [.Name y py] e sp) fx.env) (fun G K=>compD b ds G fun v=>K none (G.set k (.v v)))
theorem comp_go {b:Gs→V→Option Gs} {elt it T:Expr} {ifs:List Expr} {scope:Scope} {p:Pos} {m m':Str} [Hm fx] (hT:FxOk fx→∀ oa G,CompT ⟨fx,oa,G⟩ scope T m m' b) (h1:compChk (sxOf fx) scope m m'=true) (h3:notSet it=true) (hk:Kids fx.g fx.d ((sxOf fx,.src false T,it) :: ((sxOf fx).comp scope m m',.val,elt) :: ifs.map fun x=>((sxOf fx).comp scope m m',.test,x)) ds) :
    CompG fx b (.ListComp elt [⟨T,it,ifs,0⟩] scope p) ds:=by
  refine hk.nc (C:=fun ds=>CompG fx b (.ListComp elt [⟨T,it,ifs,0⟩] scope p) ds) fun ds1 dr a b'=>b'.nc (C:=fun dr=>CompG fx b (.ListComp elt [⟨T,it,ifs,0⟩] scope p) (ds1 :: dr)) fun de ts b' c=>?_
  have he:FxOk fx→∀ C Y oa G,Ev ⟨compFx fx scope C m m' Y,oa,G⟩ (eval elt (compFx fx scope C m m' Y).env) (de G):=fun ok C Y oa G=>b' (compFx fx scope C m m' Y) rfl rfl (sx_comp ok.kind) oa G
  have ht:FxOk fx→∀ C Y oa G,EvT ⟨compFx fx scope C m m' Y,oa,G⟩ (testsT ifs (compFx fx scope C m m' Y).env) (boolsD true ts G):=fun ok C Y oa G=>kids_tests (fx:=compFx fx scope C m m' Y) (by rw [sx_comp ok.kind]; exact c) oa G
  exact ⟨fun oa G=>ev_ok fun ok=>ev_comp (Φ:=⟨fx,oa,G⟩) (compOk_of ok h1) (hT ok oa G) h3 (a fx rfl rfl rfl oa G) (he ok) (ht ok),fun y py sp k hy=>exb_ok fun ok=>ex_assign_comp (py:=py) (compOk_of ok h1) (hT ok) h3 (a fx rfl rfl rfl) (he ok) (ht ok) hy⟩
theorem comp_ok {j:Nat} (hk:∀ ts,k ts=true→Kids fx.g fx.d ts ds) (h:chkV Z (.comp j) k (sxOf fx) .val x=true):(GoodP fx .val x (evOp (callN fx.g.P fx.d) (.comp j) ds)∧isTrue x fx.env (eval x fx.env)=(do let v ← eval x fx.env; standAt x.pos; holding [v] (truthy v)))∧∀ y py sp,GoodP fx (.asg y py sp) x (evOp (callN fx.g.P fx.d) (.comp j) ds):=by
  refine a2e h fun hh h=>?_
  have:Hm fx:=hm_of rfl hh
  refine lComp (C:=fun x=>(GoodP fx .val x _∧isTrue x fx.env (eval x fx.env)=(do let v ← eval x fx.env; standAt x.pos; holding [v] (truthy v)))∧∀ y py sp,GoodP fx (.asg y py sp) x _) h fun elt gs scope p h=>l1 (C:=fun gs=>(GoodP fx .val (.ListComp elt gs scope p) _∧isTrue (.ListComp elt gs scope p) fx.env _=_)∧∀ y py sp,GoodP fx (.asg y py sp) (.ListComp elt gs scope p) _) h fun c h=>?_
  obtain ⟨T,it,ifs,asy⟩:=c
  refine a2e h fun e h=>?_
  obtain rfl:asy=0:=eq_of_beq e
  refine lName (C:=fun T=>(GoodP fx .val (.ListComp elt [⟨T,it,ifs,0⟩] scope p) _∧_=_)∧∀ y py sp,GoodP fx (.asg y py sp) (.ListComp elt [⟨T,it,ifs,0⟩] scope p) _) h fun m pm h=>a2e h fun h1 h=>a2e h fun e h=>a2e h fun h3 hh=>?_
  obtain rfl:=eq_of_beq e
  have q:=comp_go (b:=setOne fx.nf) (p:=p) (fun ok oa G=>compT1 (Φ:=⟨fx,oa,G⟩) (compOk_of ok h1)) h1 h3 (hk _ hh)
  exact ⟨⟨q.1,rfl⟩,q.2⟩
theorem compM_ok {js:List Nat} (hk:∀ ts,k ts=true→Kids fx.g fx.d ts ds) (h:chkV Z (.compM js) k (sxOf fx) .val x=true):GoodP fx .val x (evOp (callN fx.g.P fx.d) (.compM js) ds)∧isTrue x fx.env (eval x fx.env)=(do let v ← eval x fx.env; standAt x.pos; holding [v] (truthy v)):=by
  refine a2e h fun hh h=>?_
  have:Hm fx:=hm_of rfl hh
  refine lComp (C:=fun x=>GoodP fx .val x _∧isTrue x fx.env (eval x fx.env)=(do let v ← eval x fx.env; standAt x.pos; holding [v] (truthy v))) h fun elt gs scope p h=>l1 (C:=fun gs=>GoodP fx .val (.ListComp elt gs scope p) _∧isTrue (.ListComp elt gs scope p) fx.env _=_) h fun c h=>?_
  obtain ⟨T,it,ifs,asy⟩:=c
  refine a2e h fun e h=>?_
  obtain rfl:asy=0:=eq_of_beq e
  refine lTup (C:=fun T=>GoodP fx .val (.ListComp elt [⟨T,it,ifs,0⟩] scope p) _∧_=_) h fun ts tk tp h=>l2 (C:=fun ts=>GoodP fx .val (.ListComp elt [⟨.Tuple ts tk tp,it,ifs,0⟩] scope p) _∧_=_) h fun y z h=>lName (C:=fun y=>GoodP fx .val (.ListComp elt [⟨.Tuple [y,z] tk tp,it,ifs,0⟩] scope p) _∧_=_) h fun m pm h=>lName (C:=fun z=>GoodP fx .val (.ListComp elt [⟨.Tuple [.Name m pm,z] tk tp,it,ifs,0⟩] scope p) _∧_=_) h fun m' pm' h=>a2e h fun h1 h=>a2e h fun hne h=>a2e h fun e h=>a2e h fun h3 hh=>?_
  obtain rfl:=eq_of_beq e
  have q:=comp_go (b:=setMany [fx.nf,fx.nf+1]) (p:=p) (fun ok oa G=>compT2 (Φ:=⟨fx,oa,G⟩) (compOk_of ok h1) (fun e=>by rw [e,beq_self_eq_true] at hne; (injection hne; done)) ok.offs) h1 h3 (hk _ hh)
  exact ⟨q.1,rfl⟩
noncomputable def isNw (o:Op):Bool:=match o with
  | .tuple=>true
  | .listOf=>true
  | .sorted=>true
  | .sortedL=>true
  | .sortedSet=>true
  | .call _=>true
  | .meth _=>true
  | _=>false
noncomputable def GoodC (fx:Fx) (b:Bool) (x:Expr) (d:D):Prop:=∀ oa G,EvC ⟨fx,oa,G⟩ b (eval x fx.env) (d G)
noncomputable def Nw (fx:Fx) (b:Bool) (x:Expr) (d:D):Prop:=GoodC fx b x d∧isTrue x fx.env (eval x fx.env)=(do let v ← eval x fx.env; standAt x.pos; holding [v] (truthy v))
theorem nw_ok (H:GOk fx.g Z) (hk:∀ ts,k ts=true→Kids fx.g fx.d ts ds) (hn:isNw o=true) (h:chkV Z o k (sxOf fx) .val x=true) :
    Nw fx (newB Z o) x (evOp (callN fx.g.P fx.d) o ds):=by
  cases o with
  | tuple=>exact lTup (C:=fun x=>Nw fx true x _) h fun xs j q h=>a2e h fun hl h=>⟨(hk _ h).node (f:=fun xs=>.Tuple xs j q) (op:=fun xs K=>okK (opN .tuple xs) K) rfl rfl hl fun oa G qs hq=>ev_tuple hq,rfl⟩
  | listOf=>exact lnCall1 (C:=fun x=>Nw fx true x _) h fun q y r hx h=>⟨(hk _ (a2 h).2).n1 (C:=fun ds=>GoodC fx true _ (evOp _ .listOf ds)) fun d a oa G=>(ev_listOf (d:=d G) hx (a2 h).1 (a fx rfl rfl rfl oa G)).evC,rfl⟩
  | sorted=>exact lnCall1 (C:=fun x=>Nw fx true x _) h fun q y r hx h=>⟨(hk _ (a2 h).2).n1 (C:=fun ds=>GoodC fx true _ (evOp _ .sorted ds)) fun d a oa G=>(ev_sorted (d:=d G) hx (a2 h).1 (a fx rfl rfl rfl oa G)).evC,rfl⟩
  | sortedL=>
    refine a2e h fun hh h=>?_
    have:Hm fx:=hm_of rfl hh
    exact lnCall1 (C:=fun x=>Nw fx true x _) h fun q y r hx h=>⟨(hk _ (a2 h).2).n1 (C:=fun ds=>GoodC fx true _ (evOp _ .sortedL ds)) fun d a oa G=>(ev_sortedL (Φ:=⟨fx,oa,G⟩) (d:=d G) hx (a2 h).1 (a fx rfl rfl rfl oa G)).evC,rfl⟩
  | sortedSet=>
    refine a2e h fun hh h=>?_
    have:Hm fx:=hm_of rfl hh
    exact lnCall1 (C:=fun x=>Nw fx true x _) h fun q y r hx h=>⟨lnCall1 (C:=fun y=>GoodC fx true (.Call _ [y] [] r) _) h fun p1 z p2 hs h=>(hk _ (a2 h).2).n1 (C:=fun ds=>GoodC fx true _ (evOp _ .sortedSet ds)) fun d a oa G=>(ev_sortedSet (Φ:=⟨fx,oa,G⟩) (d:=d G) hx hs (a2 h).1 (a fx rfl rfl rfl oa G)).evC,rfl⟩
  | call f=>
    refine lcCall (C:=fun x=>Nw fx (Z.newf f) x _) h fun n q xs r hf hx hs h=>⟨?_,rfl⟩
    have q:=(hk _ (a2 h).2).node (nb:=fx.g.newf f) (f:=fun xs=>.Call (.Name n q) xs [] r) (op:=fun xs K=>callN fx.g.P fx.d f xs fun y=>noX y=true∧K y) rfl rfl (a2 h).1 fun oa G qs hq=>ev_call (Φ:=⟨fx,oa,G⟩) hx (H.fns▸hf) (H.keep _ _ hf) (fun e=>by rw [H.safe]; exact hs e) hq
    rw [H.newf] at q
    exact q
  | meth f=>
    refine lmCall (C:=fun x=>Nw fx (Z.newf f) x _) h fun y nm q xs r hl h=>a2e h fun hs h=>a2e h fun e h=>a2e h fun hsf h=>a2e h fun hm h=>?_
    obtain ⟨m1,m2,m3,m4⟩:=H.meths _ _ (eq_of_beq hm)
    refine ln (C:=fun xs=>Nw fx (Z.newf f) (.Call _ xs [] r) _) e ⟨(hk _ h).n1 (C:=fun ds=>GoodC fx (Z.newf f) _ (evOp _ (.meth f) ds)) fun d a oa G=>?_,rfl⟩
    have q:=ev_meth (Φ:=⟨fx,oa,G⟩) (d:=d G) hs hl m1 m2 m3 m4 (fun e=>by rw [H.safe]; have e:fx.hm=true:=e; have hsf:(!fx.hm||Z.safe f)=true:=hsf; rw [e] at hsf; exact hsf) (a fx rfl rfl rfl oa G)
    rw [H.newf] at q
    exact q
  | _=>(injection hn; done)
theorem vt_ok {p:Pz} (H:GOk fx.g Z) (hp:Vt p) (hk:∀ ts,k ts=true→Kids fx.g fx.d ts ds) (h:chkV Z o k (sxOf fx) p x=true):GoodP fx p x (evOp (callN fx.g.P fx.d) o ds):=by
  cases o with
  | lit v=>
    refine ((Bool.or_eq_true _ _).mp h).elim (fun h=>lConst (C:=fun x=>GoodP fx p x _) h fun c j q h=>gp hp (fun oa G=>ev_lit (a2 h).1) rfl) fun h=>lName (C:=fun x=>GoodP fx p x _) h fun m q h=>a2e h fun hx h=>a2e h fun e h=>?_
    obtain ⟨y,e1,e2⟩:=any_get e
    obtain rfl:=litEq_of e2
    exact gp hp (fun oa G=>ev_const hx (H.cons▸e1)) rfl
  | lend j=>
    refine (hk _ h).n1 (C:=fun ds=>GoodP fx p x (evOp _ (.lend j) ds)) fun d a=>?_
    rcases hp with rfl | rfl
    · exact fun oa G K s hd I E=>okK_elim hd fun l e hk=>wpAny_mono (a fx rfl rfl rfl _ _ _ s hk (Inv.freeze (Φ:=⟨fx,oa,G⟩) I (own_some e)).1 E) (fun v s' ⟨B,k,y,hy,r⟩=>by cases y with
      | bool b=>exact ⟨B,k,_,hy,scal_ok rfl r⟩
      | _=>exact hy.elim) fun _ _ z=>z
    · exact fun oa G K s hd I E=>okK_elim hd fun l e hk=>wpAny_mono (a fx rfl rfl rfl _ _ K s hk (Inv.freeze (Φ:=⟨fx,oa,G⟩) I (own_some e)).1 E) (fun _ _ ⟨B,k,y,hy,r⟩=>⟨B,k,y,hy,r⟩) fun _ _ z=>z
  | var j=>exact lName (C:=fun x=>GoodP fx p x _) h fun m q h=>a2e h fun e h=>gp hp (fun oa G=>ev_var (eq_of_beq e) (a2 h).1) rfl
  | bin op=>
    refine lBin (C:=fun x=>GoodP fx p x _) h fun l op' r q h=>a2e h fun e hh=>?_
    obtain rfl:=of_decide_eq_true e
    exact gp hp ((hk _ hh).n2 (C:=fun ds=>GoodP fx .val _ (evOp _ (.bin op) ds)) fun d e a b oa G=>ev_bin (d1:=d G) (d2:=e G) (a fx rfl rfl rfl oa G) (b fx rfl rfl rfl oa G)) rfl
  | cmp c=>
    refine lCmp (C:=fun x=>GoodP fx p x _) h fun l ops rs q h=>l1 (C:=fun ops=>GoodP fx p (.Compare l ops rs q) _) h fun c' h=>a2e h fun e hh=>?_
    obtain rfl:=of_decide_eq_true e
    refine l1 (C:=fun rs=>GoodP fx p (.Compare l _ rs q) _) hh fun r h=>a2e h fun hs h=>(hk _ h).n2 (C:=fun ds=>GoodP fx p _ (evOp _ (.cmp c) ds)) fun d e a b=>?_
    rcases hp with rfl | rfl
    · exact fun oa G=>ev_cmp (d1:=d G) (d2:=e G) hs (a fx rfl rfl rfl oa G) (b fx rfl rfl rfl oa G)
    · exact fun oa G=>test_cmp (d1:=d G) (d2:=e G) hs (a fx rfl rfl rfl oa G) (b fx rfl rfl rfl oa G)
  | chain=>
    refine lCmp (C:=fun x=>GoodP fx p x _) h fun l ops rs q h=>a2e h fun e h=>?_
    rcases hp with rfl | rfl
    · refine l2 (C:=fun ops=>GoodP fx .val (.Compare l ops rs q) _) h fun c c' h=>a2e h fun e h=>a2e h fun e' hh=>?_
      obtain rfl:=of_decide_eq_true e
      obtain rfl:=of_decide_eq_true e'
      exact l2 (C:=fun rs=>GoodP fx .val (.Compare l _ rs q) _) hh fun r r' h=>a2e h fun hs h=>(hk _ h).n3 (C:=fun ds=>GoodP fx .val _ (evOp _ .chain ds)) fun d e f a b c oa G=>ev_chain (d1:=d G) (d2:=e G) (d3:=f G) hs (a fx rfl rfl rfl oa G) (b fx rfl rfl rfl oa G) (c fx rfl rfl rfl oa G)
    · (injection e; done)
  | and=>
    refine lBool (C:=fun x=>GoodP fx p x _) h fun b xs q h=>a2e h fun e h=>a2e h fun hn hh=>?_
    obtain rfl:=of_decide_eq_true e
    rcases hp with rfl | rfl
    · exact bools_val (b:=true) hn (hk _ hh)
    · exact bools_test (b:=true) (hk _ hh)
  | or=>
    refine lBool (C:=fun x=>GoodP fx p x _) h fun b xs q h=>a2e h fun e h=>a2e h fun hn hh=>?_
    obtain rfl:=of_decide_eq_true e
    rcases hp with rfl | rfl
    · exact bools_val (b:=false) hn (hk _ hh)
    · exact bools_test (b:=false) (hk _ hh)
  | not=>
    refine lUn (C:=fun x=>GoodP fx p x _) h fun u y q h=>a2e h fun e hh=>?_
    obtain rfl:=of_decide_eq_true e
    refine (hk _ hh).n1 (C:=fun ds=>GoodP fx p _ (evOp _ .not ds)) fun d a=>?_
    rcases hp with rfl | rfl
    · exact fun oa G=>ev_not (d:=d G) (a fx rfl rfl rfl oa G)
    · exact fun oa G=>test_not (d:=d G) (a fx rfl rfl rfl oa G)
  | neg=>
    refine lUn (C:=fun x=>GoodP fx p x _) h fun u y q h=>a2e h fun e h=>a2e h fun i hh=>?_
    obtain rfl:=of_decide_eq_true e
    rcases hp with rfl | rfl
    · exact (hk _ hh).n1 (C:=fun ds=>GoodP fx .val _ (evOp _ .neg ds)) fun d a oa G=>ev_neg (d:=d G) (a fx rfl rfl rfl oa G)
    · (injection i; done)
  | ite=>
    refine lIf (C:=fun x=>GoodP fx p x _) h fun c a b q h=>(hk _ h).n3 (C:=fun ds=>GoodP fx p _ (evOp _ .ite ds)) fun d e f a b c=>?_
    rcases hp with rfl | rfl
    · exact fun oa G=>ev_ite (d1:=d G) (d2:=e G) (d3:=f G) (a fx rfl rfl rfl oa G) (b fx rfl rfl rfl oa G) (c fx rfl rfl rfl oa G)
    · exact fun oa G=>test_ite (d1:=d G) (d2:=e G) (d3:=f G) (a fx rfl rfl rfl oa G) (b fx rfl rfl rfl oa G) (c fx rfl rfl rfl oa G)
  | tuple=>exact (nw_ok (o:=.tuple) H hk rfl h).elim fun a b=>gp hp (fun oa G=>(a oa G).ev) b
  | list=>exact lLst (C:=fun x=>GoodP fx p x _) h fun xs q h=>a2e h fun hl h=>gp hp (fun oa G=>((hk _ h).node (nb:=false) (f:=fun xs=>.List xs q) (op:=fun xs K=>okK (opN .list xs) K) rfl rfl hl (fun oa G qs hq=>(ev_list hq).evC) oa G).ev) rfl
  | sub=>exact lSub (C:=fun x=>GoodP fx p x _) h fun v s q h=>gp hp ((hk _ h).n2 (C:=fun ds=>GoodP fx .val _ (evOp _ .sub ds)) fun d e a b oa G=>ev_sub (d1:=d G) (d2:=e G) (a fx rfl rfl rfl oa G) (b fx rfl rfl rfl oa G)) rfl
  | slice bl bh=>
    refine lSub (C:=fun x=>GoodP fx p x _) h fun v s q h=>lSlc (C:=fun s=>GoodP fx p (.Subscript v s q) _) h fun lo hi st q' h=>a2e h fun e0 h=>a2e h fun e1 h=>a2e h fun e2 hh=>?_
    obtain rfl:=eq_of_beq e1
    obtain rfl:=eq_of_beq e2
    obtain rfl:st=none:=Option.isNone_iff_eq_none.mp e0
    refine gp hp ?_ rfl
    cases lo with
    | none=>cases hi with
      | none=>exact (hk _ hh).n1 (C:=fun ds=>GoodP fx .val _ (evOp _ (.slice false false) ds)) fun d a oa G=>ev_slice (d1:=d G) (a fx rfl rfl rfl oa G) ev_none ev_none
      | some e'=>exact (hk _ hh).n2 (C:=fun ds=>GoodP fx .val _ (evOp _ (.slice false true) ds)) fun d e a b oa G=>ev_slice (d1:=d G) (a fx rfl rfl rfl oa G) ev_none (ev_some (d:=e G) (b fx rfl rfl rfl oa G))
    | some e'=>cases hi with
      | none=>exact (hk _ hh).n2 (C:=fun ds=>GoodP fx .val _ (evOp _ (.slice true false) ds)) fun d e a b oa G=>ev_slice (d1:=d G) (a fx rfl rfl rfl oa G) (ev_some (d:=e G) (b fx rfl rfl rfl oa G)) ev_none
      | some e'=>exact (hk _ hh).n3 (C:=fun ds=>GoodP fx .val _ (evOp _ (.slice true true) ds)) fun d e f a b c oa G=>ev_slice (d1:=d G) (a fx rfl rfl rfl oa G) (ev_some (d:=e G) (b fx rfl rfl rfl oa G)) (ev_some (d:=f G) (c fx rfl rfl rfl oa G))
  | attr j=>exact lAttr (C:=fun x=>GoodP fx p x _) h fun y nm q h=>a2e h fun hs h=>a2e h fun e h=>gp hp ((hk _ h).n1 (C:=fun ds=>GoodP fx .val _ (evOp _ (.attr j) ds)) fun d a oa G=>ev_attr (Φ:=⟨fx,oa,G⟩) (d:=d G) hs (by rw [H.flds]; exact eq_of_beq e) (a fx rfl rfl rfl oa G)) rfl
  | comp j=>exact (comp_ok (Z:=Z) hk h).1.elim fun a b=>gp hp a b
  | compM js=>exact (compM_ok (Z:=Z) hk h).elim fun a b=>gp hp a b
  | sortedL=>exact (nw_ok (o:=.sortedL) H hk rfl h).elim fun a b=>gp hp (fun oa G=>(a oa G).ev) b
  | isinst t=>
    refine lnCall (C:=fun x=>GoodP fx p x _) h fun q xs r hx h=>l2 (C:=fun xs=>GoodP fx p (.Call _ xs [] r) _) h fun y z h=>a2e h fun hl h=>lName (C:=fun z=>GoodP fx p (.Call _ [y,z] [] r) _) h fun T pT h=>a2e h fun hT h=>a2e h fun ht hh=>?_
    obtain ⟨T',e1,e2⟩:=any_get ht
    have e2:T=Str.ofString T':=eq_of_beq e2
    subst e2
    refine gp hp ((hk _ hh).n1 (C:=fun ds=>GoodP fx .val _ (evOp _ (.isinst t) ds)) fun d a oa G=>?_) rfl
    have z:=ev_isi (Φ:=⟨fx,oa,G⟩) (fp:=q) (pos:=r) (pT:=pT) (q:=(y,d G)) e1 hx hT hl (a fx rfl rfl rfl oa G)
    have e:(fun K=>d G fun x=>okK (isT x t) fun b=>K (.bool b))=evOp (callN fx.g.P fx.d) (.isinst t) [d] G:=funext fun K=>congrArg (d G) (funext fun x=>okK_map.symm)
    exact e▸z
  | len=>exact lnCall1 (C:=fun x=>GoodP fx p x _) h fun q y r hx h=>gp hp ((hk _ (a2 h).2).n1 (C:=fun ds=>GoodP fx .val _ (evOp _ .len ds)) fun d a oa G=>ev_len (q:=(y,d G)) hx ⟨(a2 h).1,a fx rfl rfl rfl oa G⟩) rfl
  | lenSet=>
    refine a2e h fun hh h=>?_
    have:Hm fx:=hm_of rfl hh
    exact lnCall1 (C:=fun x=>GoodP fx p x _) h fun q y r hx h=>gp hp (lnCall1 (C:=fun y=>GoodP fx .val (.Call _ [y] [] r) _) h fun p1 z p2 hs h=>(hk _ (a2 h).2).n1 (C:=fun ds=>GoodP fx .val _ (evOp _ .lenSet ds)) fun d a oa G=>ev_lenSet (Φ:=⟨fx,oa,G⟩) (d:=d G) hx hs (a2 h).1 (a fx rfl rfl rfl oa G)) rfl
  | isExc c tb=>
    refine lnCall (C:=fun x=>GoodP fx p x _) h fun q xs r hx h=>l2 (C:=fun xs=>GoodP fx p (.Call _ xs [] r) _) h fun y z h=>a2e h fun hl h=>lName (C:=fun z=>GoodP fx p (.Call _ [y,z] [] r) _) h fun T pT h=>a2e h fun hT h=>a2e h fun hc h=>a2e h fun ht hh=>?_
    have hc:fx.g.clss.lookup T=some c∨(T="ValueError"∧c=fx.g.nc):=by
      rw [H.clss,H.nc]
      exact ((Bool.or_eq_true _ _).mp hc).imp eq_of_beq fun q=>⟨eq_of_beq (a2 q).1,eq_of_beq (a2 q).2⟩
    have ht:∀ e,e < fx.g.nc→tb[e]?=some (fx.g.P.sup e c):=fun e q=>by
      rw [H.sup]
      exact eq_of_beq (List.all_eq_true.mp ht e (List.mem_range.mpr (H.nc▸q)))
    refine gp hp ((hk _ hh).n1 (C:=fun ds=>GoodP fx .val _ (evOp _ (.isExc c tb) ds)) fun d a oa G=>?_) rfl
    have z:=ev_isExc (Φ:=⟨fx,oa,G⟩) (fp:=q) (pos:=r) (pT:=pT) (q:=(y,d G)) hx hT hl hc ht (a fx rfl rfl rfl oa G)
    have e:(fun K=>d G fun x=>okK ((excO x).bind fun e=>tb[e]?) fun b=>K (.bool b))=evOp (callN fx.g.P fx.d) (.isExc c tb) [d] G:=funext fun K=>congrArg (d G) (funext fun x=>okK_map.symm)
    exact e▸z
  | isCls=>
    refine lnCall (C:=fun x=>GoodP fx p x _) h fun q xs r hx h=>l2 (C:=fun xs=>GoodP fx p (.Call _ xs [] r) _) h fun y z h=>a2e h fun hl h=>lName (C:=fun z=>GoodP fx p (.Call _ [y,z] [] r) _) h fun T pT h=>a2e h fun hT h=>a2e h fun hc hh=>?_
    exact gp hp ((hk _ hh).n1 (C:=fun ds=>GoodP fx .val _ (evOp _ .isCls ds)) fun d a oa G=>ev_isCls (Φ:=⟨fx,oa,G⟩) (q:=(y,d G)) hx hT hl (H.fns▸eq_of_beq hc) H.cf (a fx rfl rfl rfl oa G)) rfl
  | edict=>exact lDict (C:=fun x=>GoodP fx p x _) h fun ks vs q h=>a2e h fun h1 h=>a2e h fun h2 h=>ln (C:=fun ks=>GoodP fx p (.Dict ks vs q) _) h1 (ln (C:=fun vs=>GoodP fx p (.Dict [] vs q) _) h2 (gp hp ((hk _ h).n0 (C:=fun ds=>GoodP fx .val _ (evOp _ .edict ds)) fun oa G=>ev_edict) rfl))
  | rev=>
    refine lSub (C:=fun x=>GoodP fx p x _) h fun v s q h=>lSlc (C:=fun s=>GoodP fx p (.Subscript v s q) _) h fun lo hi st q' h=>a2e h fun e0 h=>a2e h fun e1 hh=>?_
    obtain rfl:lo=none:=Option.isNone_iff_eq_none.mp e0
    obtain rfl:hi=none:=Option.isNone_iff_eq_none.mp e1
    obtain ⟨st',rfl,hh⟩:=any_get hh
    exact gp hp ((hk _ hh).n2 (C:=fun ds=>GoodP fx .val _ (evOp _ .rev ds)) fun d e a b oa G=>ev_rev (d1:=d G) (d2:=e G) (a fx rfl rfl rfl oa G) (b fx rfl rfl rfl oa G)) rfl
  | tupleOf=>exact lnCall (C:=fun x=>GoodP fx p x _) h fun q xs r hx h=>gp hp (fun oa G=>((hk _ (a2 h).2).node (nb:=false) (f:=fun xs=>.Call (.Name "tuple" q) xs [] r) (op:=fun xs K=>okK (opN .tupleOf xs) K) rfl rfl (a2 h).1 (fun oa G qs hq=>(ev_tupleOf hx hq).evC) oa G).ev) rfl
  | allOf=>
    refine a2e h fun hh h=>?_
    have:Hm fx:=hm_of rfl hh
    exact lnCall (C:=fun x=>GoodP fx p x _) h fun q xs r hx h=>gp hp (fun oa G=>((hk _ (a2 h).2).node (nb:=false) (f:=fun xs=>.Call (.Name "all" q) xs [] r) (op:=fun xs K=>okK (opN .allOf xs) K) rfl rfl (a2 h).1 (fun oa G qs hq=>(ev_all (Φ:=⟨fx,oa,G⟩) hx hq).evC) oa G).ev) rfl
  | listOf=>exact (nw_ok (o:=.listOf) H hk rfl h).elim fun a b=>gp hp (fun oa G=>(a oa G).ev) b
  | sorted=>exact (nw_ok (o:=.sorted) H hk rfl h).elim fun a b=>gp hp (fun oa G=>(a oa G).ev) b
  | sortedSet=>exact (nw_ok (o:=.sortedSet) H hk rfl h).elim fun a b=>gp hp (fun oa G=>(a oa G).ev) b
  | call f=>exact (nw_ok (o:=.call f) H hk rfl h).elim fun a b=>gp hp (fun oa G=>(a oa G).ev) b
  | join=>exact lmCall1 (C:=fun x=>GoodP fx p x _) h fun y q e r hl hs he h=>gp hp ((hk _ h).n2 (C:=fun ds=>GoodP fx .val _ (evOp _ .join ds)) fun d e a b oa G=>ev_join (d1:=d G) (d2:=e G) hs he hl (a fx rfl rfl rfl oa G) (b fx rfl rfl rfl oa G)) rfl
  | count=>exact lmCall1 (C:=fun x=>GoodP fx p x _) h fun y q e r hl hs he h=>gp hp ((hk _ h).n2 (C:=fun ds=>GoodP fx .val _ (evOp _ .count ds)) fun d e a b oa G=>ev_count (d1:=d G) (d2:=e G) hs he hl (a fx rfl rfl rfl oa G) (b fx rfl rfl rfl oa G)) rfl
  | meth f=>exact (nw_ok (o:=.meth f) H hk rfl h).elim fun a b=>gp hp (fun oa G=>(a oa G).ev) b
  | _=>(injection h; done)
end
end Mine
end
noncomputable section
namespace Mine
open PySem PySem.Calls PyProof.Rows PySem.W
section
variable {g:Gl} {n:Nat} {Z:Zx} {o:Op} {k:List Kid→Bool} {ds:List D} {fx:Fx} {x:Expr}
theorem chkR_ok {f:Str} {st:Bool} {T:Expr} {op:List V→Option V} (h:chkR k (sxOf fx) f x=true) [Hm fx] (hk:∀ ts,k ts=true→Kids fx.g fx.d ts ds)
    (hs:∀ oa G fp pos (qs:List (Expr×DV)),glob fx.env.scope.names f=true→(∀ q∈qs,plainE q.1=true∧Good1 ⟨fx,oa,G⟩ q)→EvSrc ⟨fx,oa,G⟩ T st (.Call (.Name f fp) (qs.map Prod.fst) [] pos) (fun K=>manyV (qs.map Prod.snd) fun xs=>okK (op xs) fun z=>okK (seqV z) K)) :
    ∀ oa G,EvSrc ⟨fx,oa,G⟩ T st x (fun K=>manyD ds G fun xs=>okK (op xs) fun z=>okK (seqV z) K):=by
  refine lnCall (C:=fun x=>∀ oa G,EvSrc ⟨fx,oa,G⟩ T st x (fun K=>manyD ds G fun xs=>okK (op xs) fun z=>okK (seqV z) K)) h fun q xs p hg h oa G=>?_
  obtain ⟨qs,h1,h2⟩:=(hk _ (a2 h).2).items rfl rfl (a2 h).1
  have z:=hs oa G q p (qs G) hg (h2 oa G)
  rw [(h1 G).1,(h1 G).2,← manyD_eq] at z
  exact z
theorem asg_ok {y:Str} {py sp:Pos} (H:GOk fx.g Z) (hk:∀ ts,k ts=true→Kids fx.g fx.d ts ds) (h:chkA1 Z o k (sxOf fx) x=true):GoodP fx (.asg y py sp) x (evOp (callN fx.g.P fx.d) o ds):=by
  exact ((Bool.or_eq_true _ _).mp h).elim (fun h=>a2e h fun hn h k hT=>ex_assign (swaps_no hn) hT (vt_ok H (.inl rfl) hk h)) fun h=>a2e h fun hc h=>Op.comp.elim (motive:=fun o=>chkV Z o k (sxOf fx) .val x=true→GoodP fx (.asg y py sp) x (evOp (callN fx.g.P fx.d) o ds)) o (eq_of_beq hc) (fun j h=>(comp_ok hk h).2 y py sp) h
theorem src_ok {st:Bool} {T:Expr} (H:GOk fx.g Z) (hk:∀ ts,k ts=true→Kids fx.g fx.d ts ds) (h:chkX Z o k (sxOf fx) (.src st T) x=true):GoodP fx (.src st T) x (evOp (callN fx.g.P fx.d) o ds):=by
  obtain ⟨hh,h'⟩:=a2 h
  clear h
  have h:=h'
  clear h'
  have:Hm fx:=hm_of rfl hh
  have go:chkV Z o k (sxOf fx) .val x=true→GoodP fx (.src st T) x (evOp (callN fx.g.P fx.d) o ds):=fun h oa G=>src_e (Φ:=⟨fx,oa,G⟩) (vt_ok H (.inl rfl) hk h oa G)
  cases o with
  | own j=>
    replace h:=a2 h
    have hs:=h.1
    replace h:=h.2
    cases st with
    | true=>(injection hs; done)
    | false=>
      refine lName (C:=fun x=>GoodP fx (.src false T) x _) h fun m p h2=>?_
      clear h
      have h:=h2
      clear h2
      exact fun oa G=>src_own (Φ:=⟨fx,oa,G⟩) (eq_of_beq (a2 h).1) (a2 (a2 h).2).1
  | range=>exact chkR_ok (op:=opN .range) h hk fun oa G fp pos qs hg hq=>src_range (Φ:=⟨fx,oa,G⟩) hg hq
  | zip=>
    refine lTup (C:=fun T=>GoodP fx (.src st T) x _) h fun es j p h2=>?_
    clear h
    have h:=h2
    clear h2
    exact chkR_ok (op:=opN .zip) h hk fun oa G fp pos qs hg hq=>src_zip (Φ:=⟨fx,oa,G⟩) hg hq
  | _=>exact go h
theorem node_ok {t:Kid} (H:GOk g Z) (hk:∀ ts,k ts=true→Kids g n ts ds) (h:chkX Z o k t.1 t.2.1 t.2.2=true):KidOk g n t (evOp (callN g.P n) o ds):=fun fx hg hn hX=>by
  subst hg hn
  obtain ⟨X,p,x⟩:=t
  subst hX
  cases p with
  | val=>exact vt_ok H (.inl rfl) hk h
  | test=>exact vt_ok H (.inr rfl) hk h
  | new=>exact a2e h fun hn h oa G=>((nw_ok H hk (by cases o <;> first | rfl | (injection hn; done)) h).1 oa G).evN hn
  | src st T=>exact src_ok H hk h
  | asg y py sp=>exact asg_ok H hk h
noncomputable def AllOk (g:Gl) (n:Nat) (cs:List Ck) (ds:List D):Prop:=∀ ts,kidsB cs ts=true→Kids g n ts ds
theorem AllOk.nil:AllOk g n [] []:=fun ts h=>by
  cases ts with
  | nil=>exact .nil
  | cons=>(injection h; done)
theorem AllOk.cons {c:Ck} {d:D} {cs:List Ck} (h1:∀ t,c t=true→KidOk g n t d) (h2:AllOk g n cs ds):AllOk g n (c :: cs) (d :: ds):=fun ts h=>by
  cases ts with
  | nil=>(injection h; done)
  | cons t r=>exact .cons (h1 t (a2 h).1) (h2 r (a2 h).2)
theorem simE (H:GOk g Z) (e:E):∀ t,chkE Z e t=true→KidOk g n t (ev (callN g.P n) e):=
  E.rec (motive_1:=fun e=>∀ t,chkE Z e t=true→KidOk g n t (ev (callN g.P n) e)) (motive_2:=fun es=>AllOk g n (E.rec_1 (motive_1:=fun _=>Ck) (motive_2:=fun _=>List Ck) (fun o _ ih t=>chkX Z o (kidsB ih) t.1 t.2.1 t.2.2) [] (fun _ _ i is=>i :: is) es) (E.rec_1 (motive_1:=fun _=>D) (motive_2:=fun _=>List D) (fun o _ ih=>evOp (callN g.P n) o ih) [] (fun _ _ i is=>i :: is) es))
    (fun o es ih t h=>node_ok H ih h) .nil (fun e es i is=>.cons i is) e
theorem simEs (H:GOk g Z):∀ es:List E,AllOk g n (es.map (chkE Z)) (es.map (ev (callN g.P n)))
  | []=>.nil
  | e :: r=>.cons (simE H e) (simEs H r)
end
theorem tgt_of {fx:Fx} {m:Str} {j:Nat} (h:tgtOk (sxOf fx) m j=true):TgtOk fx.ρ fx.env m j:=
  ⟨eq_of_beq (a2 h).1,fun e=>by
    have h:=(a2 h).2
    have e:(sxOf fx).sc.lookup m=some .free:=e
    replace h:=e▸h; (injection h; done)⟩
theorem tgts_of {fx:Fx}:∀ {es:List Expr} {js:List Nat},tgtsOk (sxOf fx) es js=true→TgtsOk fx.ρ fx.env es js
  | [],js,h=>ln (C:=fun js=>TgtsOk fx.ρ fx.env [] js) h .nil
  | t :: r,js,h=>lName (C:=fun t=>TgtsOk fx.ρ fx.env (t :: r) js) h fun m p h=>by
    cases js with
    | nil=>(injection h; done)
    | cons j q=>exact .cons (tgt_of (a2 h).1) (tgts_of (a2 h).2)
theorem lAsg {x:Stmt} {f:Expr→Expr→Pos→Bool} {C:Stmt→Prop} (h:vAsg x f=true) (k:∀ t v p,f t v p=true→C (.Assign [t] v p)):C x:=
  if hi:x.ctorIdx=5 then Stmt.Assign.elim (motive_2:=fun x=>vAsg x f=true→C x) x hi (fun ts v p h=>l1 (C:=fun ts=>C (.Assign ts v p)) h fun t h=>k t v p h) h else by
    unfold vAsg at h; replace h:=(dif_neg hi)▸h; (injection h; done)
theorem lExS {x:Stmt} {f:Expr→Bool} {C:Stmt→Prop} (h:vExS x f=true) (k:∀ e p,f e=true→C (.Expr e p)):C x:=
  if hi:x.ctorIdx=24 then Stmt.Expr.elim (motive_2:=fun x=>vExS x f=true→C x) x hi (fun e p h=>k e p h) h else by
    unfold vExS at h; replace h:=(dif_neg hi)▸h; (injection h; done)
theorem lRet {x:Stmt} {f:Expr→Bool} {C:Stmt→Prop} (h:vRet x f=true) (k:∀ e p,f e=true→C (.Return (some e) p)):C x:=
  if hi:x.ctorIdx=3 then Stmt.Return.elim (motive_2:=fun x=>vRet x f=true→C x) x hi (fun e p h=>by
    cases e with
    | none=>(injection h; done)
    | some e=>exact k e p h) h else by
    unfold vRet at h; replace h:=(dif_neg hi)▸h; (injection h; done)
theorem lIfS {x:Stmt} {f:Expr→List Stmt→List Stmt→Bool} {C:Stmt→Prop} (h:vIfS x f=true) (k:∀ c a b p,f c a b=true→C (.If c a b p)):C x:=
  if hi:x.ctorIdx=12 then Stmt.If.elim (motive_2:=fun x=>vIfS x f=true→C x) x hi (fun c a b p h=>k c a b p h) h else by
    unfold vIfS at h; replace h:=(dif_neg hi)▸h; (injection h; done)
theorem lFor {x:Stmt} {f:Expr→Expr→List Stmt→Bool} {C:Stmt→Prop} (h:vFor x f=true) (k:∀ T it body p,f T it body=true→C (.For T it body [] p)):C x:=
  if hi:x.ctorIdx=9 then Stmt.For.elim (motive_2:=fun x=>vFor x f=true→C x) x hi (fun T it body el p h=>ln (C:=fun el=>C (.For T it body el p)) (a2 h).1 (k T it body p (a2 h).2)) h else by
    unfold vFor at h; replace h:=(dif_neg hi)▸h; (injection h; done)
theorem lRs {x:Stmt} {f:Expr→Bool} {C:Stmt→Prop} (h:vRs x f=true) (k:∀ e p,f e=true→C (.Raise (some e) none p)):C x:=
  if hi:x.ctorIdx=16 then Stmt.Raise.elim (motive_2:=fun x=>vRs x f=true→C x) x hi (fun e c p h=>by
    have h:(c.isNone&&e.any f)=true:=h
    obtain ⟨h1,h2⟩:=a2 h
    obtain rfl:c=none:=Option.isNone_iff_eq_none.mp h1
    obtain ⟨e',rfl,h3⟩:=any_get h2
    exact k e' p h3) h else by
    unfold vRs at h; replace h:=(dif_neg hi)▸h; (injection h; done)
theorem lTry {x:Stmt} {f:Stmt→Option Expr→Option Str→List Stmt→Bool} {C:Stmt→Prop} (h:vTry x f=true) (k:∀ b t n hb hp p,f b t n hb=true→C (.Try [b] [.ExceptHandler t n hb hp] [] [] p)):C x:=
  if hi:x.ctorIdx=17 then Stmt.Try.elim (motive_2:=fun x=>vTry x f=true→C x) x hi (fun bd hs el fi p h=>ln (C:=fun el=>C (.Try bd hs el fi p)) (a2 h).1 (ln (C:=fun fi=>C (.Try bd hs [] fi p)) (a2 (a2 h).2).1 (l1 (C:=fun bd=>C (.Try bd hs [] [] p)) (a2 (a2 h).2).2 fun b h=>l1 (C:=fun hs=>C (.Try [b] hs [] [] p)) h fun hd h=>by
    obtain ⟨t,n,hb,hp⟩:=hd
    exact k b t n hb hp p h))) h else by
    unfold vTry at h; replace h:=(dif_neg hi)▸h; (injection h; done)
theorem lLoop {X:Sx} {n:Str} {r:Nat} {x:Stmt} {C:Stmt→Prop} (h:chkLoop X n r x=true) (k:∀ m pm pn p1 ap kk cp cpos sp fpos,tgtOk X m r=true→okName m=true→(ap.endLine==cpos.line)=true→C (.For (.Name m pm) (.Name n pn) [.Expr (.Call (.Attribute (.Name m p1) "append" ap) [.Constant (.int 0) kk cp] [] cpos) sp] [] fpos)):C x:=by
  refine lFor (C:=C) h fun T it body p ha=>lName (C:=fun T=>C (.For T it body [] p)) ha fun m pm hb=>a2e hb fun h1 hc=>a2e hc fun h2 hd=>lName (C:=fun it=>C (.For _ it body [] p)) hd fun n' pn he=>a2e he fun e1 hf=>l1 (C:=fun body=>C (.For _ _ body [] p)) hf fun b hg=>lExS (C:=fun b=>C (.For _ _ [b] [] p)) hg fun e sp hh=>lmCall (C:=fun e=>C (.For _ _ [.Expr e sp] [] p)) hh fun y nm ap xs cpos hl hi=>a2e hi fun e2 hj=>a2e hj fun e3 hk=>lName (C:=fun y=>C (.For _ _ [.Expr (.Call (.Attribute y _ ap) xs [] cpos) sp] [] p)) e3 fun y' p1 e4=>l1 (C:=fun xs=>C (.For _ _ [.Expr (.Call _ xs [] cpos) sp] [] p)) hk fun z hm=>lConst (C:=fun z=>C (.For _ _ [.Expr (.Call _ [z] [] cpos) sp] [] p)) hm fun c kk cp e5=>?_
  have e1:n'=n:=eq_of_beq e1
  have e2:nm="append":=eq_of_beq e2
  have e4:y'=m:=eq_of_beq e4
  have e5:c=.int 0:=eq_of_beq e5
  exact e1.symm▸e2.symm▸e4.symm▸e5.symm▸k _ _ _ _ _ _ _ _ _ _ h1 h2 hl
section
variable (Z:Zx) (o:SOp) (k:List Kid→Bool) (ca cb:CkS) (X:Sx)
end
section
variable {g:Gl} {n:Nat} {Z:Zx} {o:SOp} {k:List Kid→Bool} {ds:List D} {fx:Fx} {ca cb:CkS} {YA YB:B}
noncomputable def SOk (g:Gl) (n:Nat) (c:CkS) (Y:B):Prop:=∀ fx sts,fx.g=g→fx.d=n→FxTop fx→c (sxOf fx) sts=true→ExB fx (execs sts fx.env) Y
noncomputable abbrev thenB (W Y:B):B:=fun G K=>W G fun fl G'=>match fl with | none=>Y G' K | some x=>K (some x) G'
noncomputable def MOk (g:Gl) (n:Nat) (c:CkM) (W:B):Prop:=∀ fx sts rest Y,fx.g=g→fx.d=n→FxTop fx→(∀ r,rest r=true→ExB fx (execs r fx.env) Y)→c (sxOf fx) sts rest=true→ExB fx (execs sts fx.env) (thenB W Y)
theorem args_of {xs:List Expr} (h:(plains xs&&k (xs.map fun x=>(sxOf fx,.val,x)))=true) (hk:∀ ts,k ts=true→Kids fx.g fx.d ts ds) {C:B→Prop} {W:List V→Gs→(Option V→Gs→Prop)→Prop}
    (f:∀ qs:Gs→List (Expr×DV),(∀ G,(qs G).map Prod.fst=xs)→(∀ oa G,∀ q∈qs G,plainE q.1=true∧Good1 ⟨fx,oa,G⟩ q)→C (fun G K=>manyV ((qs G).map Prod.snd) fun ys=>W ys G K)):C (fun G K=>manyD ds G fun ys=>W ys G K):=by
  obtain ⟨qs,e1,e2⟩:=(hk _ (a2 h).2).items rfl rfl (a2 h).1
  have z:=f qs (fun G=>(e1 G).1) e2
  rwa [show (fun (G:Gs) (K:Option V→Gs→Prop)=>manyV ((qs G).map Prod.snd) fun ys=>W ys G K)=fun G K=>manyD ds G fun ys=>W ys G K from funext fun G=>funext fun K=>by rw [(e1 G).2,manyD_eq]] at z
theorem news_of {xs:List Expr} (hp:plains xs=true) (hk:Kids fx.g fx.d (xs.map fun x=>(sxOf fx,.new,x)) ds) {C:B→Prop} {W:List V→Gs→(Option V→Gs→Prop)→Prop}
    (f:∀ qs:Gs→List (Expr×DV),(∀ G,(qs G).map Prod.fst=xs)→(∀ oa G,∀ q∈qs G,plainE q.1=true∧EvN ⟨fx,oa,G⟩ (eval q.1 fx.env) q.2)→C (fun G K=>manyV ((qs G).map Prod.snd) fun ys=>W ys G K)):C (fun G K=>manyD ds G fun ys=>W ys G K):=by
  obtain ⟨qs,e1,e2⟩:=hk.news rfl rfl hp
  have z:=f qs (fun G=>(e1 G).1) e2
  rwa [show (fun (G:Gs) (K:Option V→Gs→Prop)=>manyV ((qs G).map Prod.snd) fun ys=>W ys G K)=fun G K=>manyD ds G fun ys=>W ys G K from funext fun G=>funext fun K=>by rw [(e1 G).2,manyD_eq]] at z
theorem imp_of {a b:Bool} (h:(!a||b)=true) (e:a=true):b=true:=by rw [e] at h; exact h
theorem stmt_ok {x:Stmt} (H:GOk fx.g Z) (top:FxTop fx) (hk:∀ ts,k ts=true→Kids fx.g fx.d ts ds) (ha:SOk fx.g fx.d ca YA) (hb:SOk fx.g fx.d cb YB) (h:chkX1 Z o k ca cb (sxOf fx) x=true):ExB fx (exec x fx.env) (exOp fx.g.P.sup (callN fx.g.P fx.d) o ds YA YB):=by
  cases o with
  | assign j=>exact lAsg (C:=fun x=>ExB fx (exec x fx.env) _) h fun t v p h=>lName (C:=fun t=>ExB fx (exec (.Assign [t] v p) fx.env) _) h fun m q h=>(hk _ (a2 h).2).n1 (C:=fun ds=>ExB fx _ (exOp _ _ (.assign j) ds YA YB)) fun d a=>a fx rfl rfl rfl j (tgt_of (a2 h).1)
  | assignM js=>
    refine a2e h fun hh h=>?_
    have:Hm fx:=hm_of rfl hh
    exact lAsg (C:=fun x=>ExB fx (exec x fx.env) _) h fun t v p h=>lTup (C:=fun t=>ExB fx (exec (.Assign [t] v p) fx.env) _) h fun es j q h=>a2e h fun h1 h=>(hk _ (a2 h).2).n1 (C:=fun ds=>ExB fx _ (exOp _ _ (.assignM js) ds YA YB)) fun d a=>ex_assignM (a2 h).1 (tgts_of h1) (a fx rfl rfl rfl)
  | ownL j=>exact lAsg (C:=fun x=>ExB fx (exec x fx.env) _) h fun t v p h=>lName (C:=fun t=>ExB fx (exec (.Assign [t] v p) fx.env) _) h fun m q h=>a2e h fun h1 h=>lLst (C:=fun v=>ExB fx (exec (.Assign [_] v p) fx.env) _) h fun xs q' h=>args_of (C:=fun Y=>ExB fx _ Y) (W:=fun xs G K=>xs.length≤szLine∧K none (G.set j (.ownL xs))) h hk fun qs e1 e2=>ex_ownL (tgt_of h1) e1 e2
  | setAttr i j=>exact lAsg (C:=fun x=>ExB fx (exec x fx.env) _) h fun t v p h=>lAttr (C:=fun t=>ExB fx (exec (.Assign [t] v p) fx.env) _) h fun u nm q h=>lName (C:=fun u=>ExB fx (exec (.Assign [.Attribute u nm q] v p) fx.env) _) h fun m q' h=>a2e h fun h1 h=>a2e h fun h2 h=>a2e h fun h3 h=>a2e h fun h4 h=>(hk _ h).n1 (C:=fun ds=>ExB fx _ (exOp _ _ (.setAttr i j) ds YA YB)) fun d a=>ex_setAttr (eq_of_beq h1) h2 (by rw [H.flds]; exact eq_of_beq h3) h4 (a fx rfl rfl rfl)
  | setAttrN i j=>exact lAsg (C:=fun x=>ExB fx (exec x fx.env) _) h fun t v p h=>lAttr (C:=fun t=>ExB fx (exec (.Assign [t] v p) fx.env) _) h fun u nm q h=>lName (C:=fun u=>ExB fx (exec (.Assign [.Attribute u nm q] v p) fx.env) _) h fun m q' h=>a2e h fun h1 h=>a2e h fun h2 h=>a2e h fun h3 h=>a2e h fun h4 h=>(hk _ h).n1 (C:=fun ds=>ExB fx _ (exOp _ _ (.setAttrN i j) ds YA YB)) fun d a=>ex_setAttrN (eq_of_beq h1) h2 (by rw [H.flds]; exact eq_of_beq h3) h4 (a fx rfl rfl rfl)
  | call f=>exact lExS (C:=fun x=>ExB fx (exec x fx.env) _) h fun e p h=>lcCall (C:=fun e=>ExB fx (exec (.Expr e p) fx.env) _) h fun n q xs r hf hx hs h=>args_of (C:=fun Y=>ExB fx _ Y) (W:=fun xs G K=>callN fx.g.P fx.d f xs fun y=>if noX y=true then isNone y=true∧K none G else K (some y) G) h hk fun qs e1 e2=>ex_call e1 hx (H.fns▸hf) (H.keep _ _ hf) (fun e=>by rw [H.safe]; exact hs e) e2
  | append j=>
    refine lExS (C:=fun x=>ExB fx (exec x fx.env) _) h fun e p h=>lmCall (C:=fun e=>ExB fx (exec (.Expr e p) fx.env) _) h fun y nm q xs r hl h=>a2e h fun e h=>a2e h fun h1 hh=>?_
    have e:nm="append":=eq_of_beq e
    subst e
    exact lName (C:=fun y=>ExB fx (exec (.Expr (.Call (.Attribute y _ q) xs [] r) p) fx.env) _) hh fun m pm h2=>l1 (C:=fun xs=>ExB fx (exec (.Expr (.Call _ xs [] r) p) fx.env) _) h1 fun y h=>(hk _ (a2 h).2).n1 (C:=fun ds=>ExB fx _ (exOp _ _ (.append j) ds YA YB)) fun d a=>ex_append (eq_of_beq (a2 h2).1) (a2 h2).2 (a2 h).1 hl (a fx rfl rfl rfl)
  | ret=>
    refine lRet (C:=fun x=>ExB fx (exec x fx.env) _) h fun e p h=>?_
    cases hnw:fx.nw with
    | true=>rw [show (sxOf fx).nw=true from hnw] at h; exact (hk _ h).n1 (C:=fun ds=>ExB fx _ (exOp _ _ .ret ds YA YB)) fun d a=>ex_retN (a fx rfl rfl rfl)
    | false=>rw [show (sxOf fx).nw=false from hnw] at h; exact (hk _ h).n1 (C:=fun ds=>ExB fx _ (exOp _ _ .ret ds YA YB)) fun d a=>ex_ret hnw (a fx rfl rfl rfl)
  | retC f=>exact lRet (C:=fun x=>ExB fx (exec x fx.env) _) h fun e p h=>a2e h fun hnw h=>lcCall (C:=fun e=>ExB fx (exec (.Return (some e) p) fx.env) _) h fun n q xs r hf hx hs h=>args_of (C:=fun Y=>ExB fx _ Y) (W:=fun xs G K=>callN fx.g.P fx.d f xs fun y=>K (some y) G) h hk fun qs e1 e2=>ex_retC e1 hx (H.fns▸hf) (H.keep _ _ hf) (fun e=>by rw [H.safe]; exact hs e) (fun e=>by rw [H.newf]; exact imp_of hnw e) e2
  | tryC f c j=>
    refine lTry (C:=fun x=>ExB fx (exec x fx.env) _) h fun b t n hb' hp p h=>a2e h fun hh h=>?_
    have:Hm fx:=hm_of rfl hh
    obtain ⟨t,rfl,h⟩:=any_get h
    refine lName (C:=fun t=>ExB fx (exec (.Try [b] [.ExceptHandler (some t) n hb' hp] [] [] p) fx.env) _) h fun C pC h=>a2e h fun h1 h=>a2e h fun h2 h=>?_
    obtain ⟨n,rfl,h⟩:=any_get h
    refine a2e h fun h3 h=>a2e h fun h4 h=>a2e h fun h5 h=>a2e h fun h6 h=>?_
    refine lRet (C:=fun b=>ExB fx (exec (.Try [b] _ [] [] p) fx.env) _) h fun e rp h=>a2e h fun hnw h=>lcCall (C:=fun e=>ExB fx (exec (.Try [.Return (some e) rp] _ [] [] p) fx.env) _) h fun fnm q xs r hf hx hs h=>?_
    refine args_of (C:=fun Y=>ExB fx _ Y) (W:=fun xs G K=>callN fx.g.P fx.d f xs fun y=>match excO y with
      | none=>K (some y) G
      | some d=>fx.g.P.sup d c=true∧YA (G.set j (.v y)) fun fl G'=>(match fl with | some x=>noX x=true | none=>False)∧K fl (G'.set j .unset)) h hk fun qs e1 e2=>?_
    exact ex_tryC top e1 hx (H.fns▸hf) (H.keep _ _ hf) (fun e=>by rw [H.newf]; exact imp_of hnw e) h1 (by rw [H.clss]; exact eq_of_beq h2) (eq_of_beq h3) (eq_of_beq h4) (fun e=>by replace h5:=e▸h5; (injection h5; done)) e2 fun A ef ed eu=>ha { fx with A:=A,hm:=true } _ rfl rfl (by obtain ⟨o,L,a,b⟩:=top.top; exact ⟨o,L,ef.trans a,b⟩) h6
  | ite=>exact lIfS (C:=fun x=>ExB fx (exec x fx.env) _) h fun c a b p h=>a2e h fun h1 h=>(hk _ h1).n1 (C:=fun ds=>ExB fx _ (exOp _ _ .ite ds YA YB)) fun d q=>ex_if (q fx rfl rfl rfl) (ha fx _ rfl rfl top (a2 h).1) (hb fx _ rfl rfl top (a2 h).2)
  | forS j=>
    refine a2e h fun hh h=>?_
    have:Hm fx:=hm_of rfl hh
    exact lFor (C:=fun x=>ExB fx (exec x fx.env) _) h fun T it body p h=>a2e h fun h2 h=>a2e h fun h3 h=>lName (C:=fun T=>ExB fx (exec (.For T it body [] p) fx.env) _) h fun m q h=>(hk _ (a2 h).2).n1 (C:=fun ds=>ExB fx _ (exOp _ _ (.forS j) ds YA YB)) fun d a=>ex_for h2 (sim_tgt1 (tgt_of (a2 h).1)) (a fx rfl rfl rfl) fun X=>ha (fx.mo X) _ rfl rfl ⟨top.top⟩ h3
  | forM js=>
    refine a2e h fun hh h=>?_
    have:Hm fx:=hm_of rfl hh
    exact lFor (C:=fun x=>ExB fx (exec x fx.env) _) h fun T it body p h=>a2e h fun h2 h=>a2e h fun h3 h=>lTup (C:=fun T=>ExB fx (exec (.For T it body [] p) fx.env) _) h fun es j q h=>(hk _ (a2 h).2).n1 (C:=fun ds=>ExB fx _ (exOp _ _ (.forM js) ds YA YB)) fun d a=>ex_for h2 (sim_tgtM (tgts_of (a2 h).1)) (a fx rfl rfl rfl) fun X=>ha (fx.mo X) _ rfl rfl ⟨top.top⟩ h3
  | raise c=>
    refine a2e h fun hh h=>?_
    have:Hm fx:=hm_of rfl hh
    refine lRs (C:=fun x=>ExB fx (exec x fx.env) _) h fun e p h=>lCall (C:=fun e=>ExB fx (exec (.Raise (some e) none p) fx.env) _) h fun u xs ks r h=>lName (C:=fun u=>ExB fx (exec (.Raise (some (.Call u xs ks r)) none p) fx.env) _) h fun n q h=>a2e h fun h1 h=>a2e h fun h2 h=>a2e h fun h3 h=>ln (C:=fun ks=>ExB fx (exec (.Raise (some (.Call _ xs ks r)) none p) fx.env) _) h3 (l1 (C:=fun xs=>ExB fx (exec (.Raise (some (.Call _ xs [] r)) none p) fx.env) _) h fun z h=>lConst (C:=fun z=>ExB fx (exec (.Raise (some (.Call _ [z] [] r)) none p) fx.env) _) h fun c' kk cp e=>?_)
    cases c' with
    | str t=>exact ex_raise h1 (by rw [H.clss]; exact eq_of_beq h2)
    | _=>(injection e; done)
  | _=>(injection h; done)
theorem many_ok (H:GOk g Z) (hk:∀ ts,k ts=true→Kids g n ts ds) (ha:SOk g n ca YA) (hb:SOk g n cb YB):MOk g n (chkM1 Z o k ca cb) (exOp g.P.sup (callN g.P n) o ds YA YB):=fun fx sts rest Y hg hn top hr h=>by
  subst hg hn
  have go:∀ {o:SOp},oneC (chkX1 Z o k ca cb (sxOf fx)) rest sts=true→ExB fx (execs sts fx.env) (thenB (exOp fx.g.P.sup (callN fx.g.P fx.d) o ds YA YB) Y):=fun {o} h=>by
    cases sts with
    | nil=>(injection h; done)
    | cons x r=>exact ex_cons (stmt_ok H top hk ha hb (a2 h).1) (hr r (a2 h).2)
  cases o with
  | freeze j=>exact ex_freeze (hr sts h)
  | rows j r=>
    match sts,h with
    | s1 :: s2 :: q,h=>
      refine lAsg (C:=fun s1=>ExB fx (execs (s1 :: s2 :: q) fx.env) _) h fun t v p h=>lName (C:=fun t=>ExB fx (execs (.Assign [t] v p :: s2 :: q) fx.env) _) h fun m pm h=>a2e h fun h1 h=>a2e h fun h2 h=>a2e h fun h3 h=>lLst (C:=fun v=>ExB fx (execs (.Assign [_] v p :: s2 :: q) fx.env) _) h fun xs pl h=>a2e h fun h4 h=>a2e h fun h5 h=>a2e h fun h6 h=>a2e h fun h7 h=>?_
      have:Hm fx:=hm_of rfl h6
      refine lLoop (C:=fun s2=>ExB fx (execs (_ :: s2 :: q) fx.env) _) h7 fun m' pm pn p1 ap kk cp cpos sp fpos h8 h9 hl=>?_
      exact news_of (C:=fun Y=>ExB fx _ Y) (W:=fun xs G K=>okK (xs.mapM rowO) fun ls=>ls.length≤szLine∧isUnset G r=true∧Y ((G.set j (.v (rowsV (app0 ls)))).set r .junk) K) h4 (hk _ h5) fun qs e1 e2=>ex_rows e1 (tgt_of h1) h2 (tgt_of h8) h9 (bne_iff_ne.mp h3) hl e2 (hr q h)
    | [],h=>(injection h; done)
    | [_],h=>(injection h; done)
  | hand j i r=>
    match sts,h with
    | s1 :: s2 :: s3 :: s4 :: q,h=>
      refine lAsg (C:=fun s1=>ExB fx (execs (s1 :: s2 :: s3 :: s4 :: q) fx.env) _) h fun t v p h=>lName (C:=fun t=>ExB fx (execs (.Assign [t] v p :: s2 :: s3 :: s4 :: q) fx.env) _) h fun m pm h=>a2e h fun h1 h=>a2e h fun h2 h=>a2e h fun h3 h=>a2e h fun h3' h=>a2e h fun h3'' h=>a2e h fun h6 h=>lLst (C:=fun v=>ExB fx (execs (.Assign [_] v p :: s2 :: s3 :: s4 :: q) fx.env) _) h fun xs pl h=>a2e h fun h4 h=>?_
      have:Hm fx:=hm_of rfl h6
      refine lAsg (C:=fun s2=>ExB fx (execs (_ :: s2 :: s3 :: s4 :: q) fx.env) _) h fun t2 v2 p2 h=>lName (C:=fun t2=>ExB fx (execs (_ :: .Assign [t2] v2 p2 :: s3 :: s4 :: q) fx.env) _) h fun m2 pm2 h=>a2e h fun g1 h=>a2e h fun g2 h=>lIfS (C:=fun s3=>ExB fx (execs (_ :: _ :: s3 :: s4 :: q) fx.env) _) h fun c a b p3 h=>a2e h fun eb h=>ln (C:=fun b=>ExB fx (execs (_ :: _ :: .If c a b p3 :: s4 :: q) fx.env) _) eb (a2e h fun g3 h=>a2e h fun h5 h=>a2e h fun h7 h=>?_)
      refine lLoop (C:=fun s4=>ExB fx (execs (_ :: _ :: _ :: s4 :: q) fx.env) _) h7 fun m' pm pn p1 ap kk cp cpos sp fpos h8 h9 hl=>?_
      refine (hk _ h5).nc (C:=fun ds=>ExB fx _ (thenB (exOp _ _ (.hand j i r) ds YA YB) Y)) fun dc dr ac b'=>b'.nc (C:=fun dr=>ExB fx _ (thenB (exOp _ _ (.hand j i r) (dc :: dr) YA YB) Y)) fun dt dr at' b'=>?_
      exact news_of (C:=fun Y=>ExB fx _ Y) (W:=fun xs G K=>okK (xs.mapM rowO) fun ls=>ls.length≤szLine∧dc (G.set j (.v (rowsV ls))) fun y=>lendOk y=true∧dt ((G.set j (.v (rowsV ls))).set i (.v y)) fun x=>okK (boolO x some) fun t=>
        if t=true then YA ((G.set j (.v (rowsV ls))).set i (.v y)) (fun fl G'=>(match fl with | some z=>noX z=true | none=>False)∧(match fl with | none=>Y G' K | some x=>K (some x) G'))
        else isUnset G r=true∧Y (((G.set j (.v (rowsV (app0 ls)))).set i (.v y)).set r .junk) K) h4 b' fun qs e1 e2=>ex_hand e1 (tgt_of h1) h2 (tgt_of h8) h9 (bne_iff_ne.mp h3) (tgt_of g1) (bne_iff_ne.mp h3') (bne_iff_ne.mp h3'') hl e2 (ac fx rfl rfl rfl) g2 (at' fx rfl rfl rfl) (ha fx _ rfl rfl top g3) (hr q h)
    | [],h=>(injection h; done)
    | [_],h=>(injection h; done)
    | [_,_],h=>(injection h; done)
    | [_,_,_],h=>(injection h; done)
  | _=>exact go h
theorem nil_ok:SOk g n (fun _ sts=>sts.isEmpty) (fun G K=>K none G):=fun fx sts _ _ _ h=>ln (C:=fun sts=>ExB fx (execs sts fx.env) _) h ex_nil
theorem seq_ok {c:CkM} {W Y:B} {is:CkS} (h1:MOk g n c W) (h2:SOk g n is Y):SOk g n (fun X sts=>c X sts (is X)) (thenB W Y):=fun fx sts hg hn top h=>h1 fx sts (is (sxOf fx)) Y hg hn top (fun r q=>h2 fx r hg hn top q) h
theorem simS (H:GOk g Z) (s:S):MOk g n (chkS Z s) (ex g.P.sup (callN g.P n) s):=
  S.rec (motive_1:=fun s=>MOk g n (chkS Z s) (ex g.P.sup (callN g.P n) s))
    (motive_2:=fun l=>SOk g n (S.rec_1 (motive_1:=fun _=>CkM) (motive_2:=fun _=>CkS) (fun o es _ _ a b X sts rest=>chkM1 Z o (kidsB (es.map (chkE Z))) a b X sts rest) (fun _ sts=>sts.isEmpty) (fun _ _ i is X sts=>i X sts (is X)) l)
      (S.rec_1 (motive_1:=fun _=>B) (motive_2:=fun _=>B) (fun o es _ _ x y=>exOp g.P.sup (callN g.P n) o (es.map (ev (callN g.P n))) x y) (fun G K=>K none G) (fun _ _ i is G K=>i G fun fl G'=>match fl with | none=>is G' K | some x=>K (some x) G') l))
    (fun o es a b ha hb=>many_ok H (simEs H es) ha hb) nil_ok (fun s l i is=>seq_ok i is) s
theorem simSs (H:GOk g Z):∀ l:List S,SOk g n (chkSs Z l) (exs g.P.sup (callN g.P n) l)
  | []=>nil_ok
  | s :: r=>seq_ok (simS H s) (simSs H r)
end
end Mine
end
noncomputable section
namespace Mine
open PySem PySem.Calls PyProof.Rows PySem.W
section
variable {prog:Program} {w:World} {A:Around} {E:Value→Shared→Prop} {s:Shared} {K:Frag} {x C D:Addr} {ox:Obj} {name:Str}
structure XCls (K:Frag) (D:Addr):Prop where
  ga:findIn K (.ref D) "__getattribute__"=some (some (.builtin "BaseException.__getattribute__"))
  gh:findIn K (.ref D) "__getattr__"=some none
  exc:mroIn K D (.type "BaseException")=some true
  dct:hasDictIn K D=true
  att:findIn K (.ref D) "__class__"=some (some (.builtin "object.__class__"))
  obj:mroIn K D (.type "object")=some true
set_option tactic.hygienic true in
theorem cls_type {K:Frag} {h:Heap} {M:Model} (X:K.In h) (hdct:hasDictIn K D=true):Looks M h (isType (.ref D)) true:=by
  obtain ⟨cdD,hcD,_⟩:=any_some hdct
  unfold clsIn at hcD
  split at hcD
  · rename_i c' d' cd' sl' ho
    intro A' Q' E' s' k q
    skip
    exact wpAny_bind (wpAny_loadPart (k _ _ (X _ _ ho)) (wpAny_pure q))
  · (injection hcD; done)
theorem my_class {Q:Option Value→Shared→Prop} (X:K.In s.heap) (I:InstAt s.heap x ox D none) (c:XCls K D) (hn:specialIn K (.builtin "object.__class__") "__get__"=some (some (.builtin "getset_descriptor.__get__"))) (htk:takesIn K (.builtin "object.__class__")=some true)
    (h:Q (some (.ref D)) { s with toks:=s.toks+1 }):wpAny (model prog w) A (getAttr? (.ref x) "__class__") Q E s:=by
  have hf:findObj K D none "__class__"=some (.bind (.builtin "getset_descriptor.__get__") (.builtin "object.__class__")):=by
    obtain ⟨cd,hc,_⟩:=any_some c.dct
    unfold findObj
    rw [hc,Option.bind_some,c.att,Option.bind_some]
    refine (?_:(specialIn K (.builtin "object.__class__") "__get__").bind _=_)
    rw [hn,Option.bind_some]
    refine (?_:(takesIn K (.builtin "object.__class__")).bind _=_)
    rw [htk]; rfl
  have call_ga:∀ (tk:Tok) (R:Result→Shared→Prop) (A:Around) (s:Shared),K.In s.heap→InstAt s.heap x ox D none→R (.ok (.ret (.ref D))) s→codeAny (model prog w) A (.call (.builtin "BaseException.__getattribute__") ⟨[.ref x,.str "__class__" tk],[]⟩) R s:=fun tk R A s X I hR=>by
    have hk:builtinKind "BaseException.__getattribute__"=some .slot:=by decide +kernel
    have hsplit:splitId "BaseException.__getattribute__"=some ("BaseException", "__getattribute__"):=by decide +kernel
    have ha:=F.args_bexc_ga (.ref x) (.str "__class__" tk)
    obtain ⟨hh,g,dr,t,os⟩:=s
    have L0:=I.type (M:=model prog w)
    have L1:=looks_mroIn (M:=model prog w) X c.exc
    have L2:=looks_find (M:=model prog w) X I hf
    have LI:Looks (model prog w) hh (isInstance (.ref x) (.type "BaseException")) true:=L0.andThen L1
    refine codeAny_call_builtin F.attr_ValueError.ga.plain F.entry_bexc_ga ?_
    simp only [checkBuiltinCall,hk,hsplit]
    refine wpAny_bind (LI.at ?_)
    simp only [Bool.not_true,Bool.false_eq_true,if_false]
    unfold argsOk at ha
    have rest:wpAny (model prog w) A.in1 (Builtin.«object.__getattribute__» { pos:=[Value.ref x,Value.str (Str.ofString "__class__") tk] })
        (fun fin s'=>match fin with | .done f=>R (.ok f) s' | .again c'=>c'.quiet=true∧codeAny (model prog w) A c' R s') (fun e s'=>R (.error e) s') { heap:=hh,gens:=g,drawn:=dr,toks:=t,os:=os }:=by
      unfold Builtin.«object.__getattribute__»
      refine wpAny_bind (m:=slotArgs "__getattribute__" 1 _) (wpAny_pure ?_)
      refine wpAny_bind (m:=Builtin.ObjectAttr.attrName _) (wpAny_pure ?_)
      refine wpAny_bind (L0.at (wpAny_bind (L2.at ?_)))
      refine wpAny_bind (wpAny_holding (wpAny_call (class_get (ox:=ox) (od:=none) X I c.obj ?_)))
      exact wpAny_pure hR
    generalize Manifest.signature? "BaseException.__getattribute__"=sgn at ha ⊢
    cases sgn with
    | none=>exact wpAny_pure rest
    | some sig=>
      simp only at ha ⊢
      rw [ha]
      exact wpAny_pure rest
  obtain ⟨hh,g,dr,t,os⟩:=s
  have L0:=I.type (M:=model prog w)
  have L1:=looks_findIn (M:=model prog w) X c.ga
  have L2:=looks_findIn (M:=model prog w) X c.gh
  unfold getAttr? getAttrBy?
  refine wpAny_bind (wpAny_mkText (wpAny_bind (wpAny_attempt ?_)))
  skip
  refine wpAny_holding (wpAny_bind (L0.at (wpAny_bind (L1.at ?_))))
  have hx2:(onTheHeap (Value.ref D)&&Value.builtin "BaseException.__getattribute__"==Value.builtin "object.__getattribute__")=false:=by
    have:(Value.builtin "BaseException.__getattribute__"==Value.builtin "object.__getattribute__")=false:=by decide +kernel
    rw [this]; rfl
  simp only [hx2,Bool.false_eq_true,if_false]
  unfold getAttrByItsOwn hookBefore
  refine wpAny_bind ?_
  refine wp_then (rfl:onTheHeap (Value.ref D)=true) ?_
  refine L2.at ?_
  refine wpAny_bind (wpAny_attempt (wpAny_holding ?_))
  refine (?_:wpAny _ _ (boundAndCalled _ _ _) _ _ _)
  unfold boundAndCalled
  rw [F.attr_ValueError.ga.bind]
  simp only [pure_bind]
  refine wpAny_call (call_ga _ _ _ _ X I ?_)
  exact handed_on rfl (wpAny_pure h)
theorem my_not {c:Value} {Q:Value→Shared→Prop} (X:K.In s.heap) (I:InstAt s.heap x ox D none) (co:XCls K D) (hn:specialIn K (.builtin "object.__class__") "__get__"=some (some (.builtin "getset_descriptor.__get__"))) (htk:takesIn K (.builtin "object.__class__")=some true)
    (hty:∀ (M:Model) h',K.In h'→Looks M h' (typeOf c) (.type "type")) (his:∀ (M:Model) h',K.In h'→Looks M h' (isType c) true)
    (hne:(Value.ref D==c)=false) (hsub:∀ (M:Model) h',K.In h'→Looks M h' (isSubtype (.ref D) c) false) (h:Q (.bool false) { s with toks:=s.toks+1 }):wpAny (model prog w) A (call (.builtin "isinstance") [.ref x,c]) Q E s:=by
  refine call_isinstance (S:=fun _ R s=>(K.In s.heap∧InstAt s.heap x ox D none)∧R (.ok (.ret (.bool false))) { s with toks:=s.toks+1 }) (fun prog w A R s hs=>isinstance_outer ?_ (by intro q; (injection q; done))) ⟨⟨X,I⟩,h⟩
  obtain ⟨⟨X,I⟩,h⟩:=hs
  have hisD:=cls_type (M:=model prog w) X co.dct
  have L1:=hty (model prog w) _ X
  have L2:=his (model prog w) _ X
  have L3:=hsub (model prog w) _ X
  obtain ⟨h0,g,d,tt,os⟩:=s
  have L0:=I.type (M:=model prog w)
  have LI:Looks (model prog w) h0 (isInstance (.ref x) c) false:=L0.andThen L3
  skip
  refine wpAny_bind (L0.at ?_)
  refine wp_else (fun q=>by rw [hne] at q; exact Bool.noConfusion q) ?_
  refine wpAny_bind (L1.at ?_)
  refine wp_then (by decide) ?_
  k_delta "plainIsInstance"
  refine wpAny_bind (wpAny_bind (L2.at ?_))
  simp only [Bool.not_true,Bool.false_eq_true,if_false]
  refine wpAny_bind (LI.at ?_)
  simp only [Bool.false_eq_true,if_false]
  refine wpAny_bind (my_class X I co hn htk ?_)
  refine wpAny_bind (hisD.at ?_)
  simp only [Bool.not_true,Bool.false_eq_true,if_false]
  refine wpAny_bind (wpAny_rule ?_)
  refine L3.at ?_
  first
    | exact wpAny_pure h
    | exact wpAny_pure (wpAny_pure h)
    | exact wpAny_bind (wpAny_pure (wpAny_pure h))
theorem my_is {c:Value} {Q:Value→Shared→Prop} (X:K.In s.heap) (I:InstAt s.heap x ox D none)
    (hty:∀ (M:Model) h',K.In h'→Looks M h' (typeOf c) (.type "type")) (his:∀ (M:Model) h',K.In h'→Looks M h' (isType c) true)
    (hsub:∀ (M:Model) h',K.In h'→Looks M h' (isSubtype (.ref D) c) true) (h:Q (.bool true) s):wpAny (model prog w) A (call (.builtin "isinstance") [.ref x,c]) Q E s:=by
  refine call_isinstance (S:=fun _ R s=>(K.In s.heap∧InstAt s.heap x ox D none)∧R (.ok (.ret (.bool true))) s) (fun prog w A R s hs=>isinstance_outer ?_ (by intro q; (injection q; done))) ⟨⟨X,I⟩,h⟩
  refine gen_goal fun Z7 kZ7=>?_
  obtain ⟨⟨X,I⟩,h⟩:=hs
  refine kZ7 ?_
  have L1:=hty (model prog w) _ X
  have L2:=his (model prog w) _ X
  have L3:=hsub (model prog w) _ X
  refine gen_goal fun Z8 kZ8=>?_
  obtain ⟨h0,g,d,tt,os⟩:=s
  refine kZ8 ?_
  have L0:=I.type (M:=model prog w)
  have LI:Looks (model prog w) h0 (isInstance (.ref x) c) true:=L0.andThen L3
  unfold Builtin.«isinstance.nested»
  refine wpAny_bind (L0.at ?_)
  by_cases q:(Value.ref D==c)=true
  · rw [if_pos q]
    refine wpAny_bind (wpAny_rule ?_)
    first
      | exact wpAny_pure h
      | exact wpAny_pure (wpAny_pure h)
      | (refine wpAny_bind ?_; exact wpAny_pure (wpAny_pure h))
  · rw [if_neg q]
    refine wpAny_bind (L1.at ?_)
    refine wp_then (by decide) ?_
    k_delta "plainIsInstance"
    refine wpAny_bind (wpAny_bind (L2.at ?_))
    simp only [Bool.not_true,Bool.false_eq_true,if_false]
    refine wpAny_bind (LI.at ?_)
    refine wp_then rfl ?_
    exact wpAny_pure (wpAny_pure h)
theorem my_matches {e:Addr} {oe:Obj} {Q:Bool→Shared→Prop} (X:K.In s.heap) (he:s.heap.get? e=some oe) (hcls:oe.cls=.ref D)
    (hty:∀ (M:Model) h',K.In h'→Looks M h' (typeOf (.ref C)) (.type "type")) (hex:∀ (M:Model) h',K.In h'→Looks M h' (isExcClass (.ref C)) true) (hsub:∀ (M:Model) h',K.In h'→Looks M h' (isSubtype (.ref D) (.ref C)) true) (hq:Q true s) :
    wpAny (model prog w) A (excMatches (.ref e) (.ref C)) Q E s:=by
  have L1:=hty (model prog w) _ X
  have L2:=hex (model prog w) _ X
  have L3:=hsub (model prog w) _ X
  have LT:Looks (model prog w) s.heap (isInstance (.ref C) (.type "tuple")) false:=L1.andThen (.of_pure tc_notTuple)
  have L0:Looks (model prog w) s.heap (typeOf (.ref e)) (.ref D):=hcls▸(Looks.ld he).andThen .now
  unfold excMatches
  refine wpAny_bind (LT.here ?_)
  simp only [Bool.false_eq_true,if_false,pure_bind,List.forIn_cons,List.forIn_nil,bind_assoc]
  refine wpAny_bind (L2.here ?_)
  simp only [Bool.not_true,Bool.false_eq_true,if_false,pure_bind]
  refine wpAny_bind (L0.here ?_)
  refine wpAny_bind (L3.here ?_)
  simp only [if_true,pure_bind]
  exact wpAny_pure hq
end
structure XClss (g:Gl):Prop where
  raises:∀ c,c < g.nc→RaiseOk g c
  catches:∀ c c',c < g.nc→c' < g.nc→g.P.sup c c'=true→CatchOk g c c'
  isi:∀ c c',c < g.nc→c'≤g.nc→IsiOk g c (clsVal g c') (g.P.sup c c')
theorem ex_of {g:Gl} (X:g.K.In g.h0) (hn:specialIn g.K (.builtin "object.__class__") "__get__"=some (some (.builtin "getset_descriptor.__get__"))) (htk:takesIn g.K (.builtin "object.__class__")=some true)
    (hcls:∀ c,c < g.nc→xclsChk g.K g.P.sup g.nc g.cls c=true) (hr:∀ c,c < g.nc→RaiseOk g c):XClss g:=by
  have un:∀ c,c < g.nc→XCls g.K (g.cls c)∧mroIn g.K (g.cls c) (.type "BaseException")=some true∧typeIn g.K (.ref (g.cls c))=some (.type "type")∧mroIn g.K (g.cls c) (.type "ValueError")=some (g.P.sup c g.nc)∧g.P.sup c c=true∧∀ c',c' < g.nc→mroIn g.K (g.cls c) (.ref (g.cls c'))=some (g.P.sup c c'):=fun c hc=>by
    refine gen_goal fun Z9 kZ9=>?_
    obtain ⟨h1,e⟩:=a2 (hcls c hc)
    obtain ⟨h0,e⟩:=a2 e
    obtain ⟨h2,e⟩:=a2 e
    obtain ⟨h3,e⟩:=a2 e
    obtain ⟨h4,e⟩:=a2 e
    obtain ⟨h5,e⟩:=a2 e
    obtain ⟨h6,e⟩:=a2 e
    obtain ⟨h7,e⟩:=a2 e
    obtain ⟨h9,h8⟩:=a2 e
    refine kZ9 ?_
    exact ⟨⟨eq_of_beq h1,eq_of_beq h0,eq_of_beq h5,h2,eq_of_beq h3,eq_of_beq h4⟩,eq_of_beq h5,eq_of_beq h6,eq_of_beq h7,h9,fun c' q=>eq_of_beq (List.all_eq_true.mp h8 c' (List.mem_range.mpr q))⟩
  refine ⟨hr,fun c c' hc hc' hm=>?_,fun c c' hc hc'=>?_⟩
  · intro A E Q s e o st he hcl hq
    refine gen_goal fun Z12 kZ12=>?_
    obtain ⟨a1,a2,a3,a4,a6,a5⟩:=un c hc
    obtain ⟨b1,b2,b3,b4,b6,b5⟩:=un c' hc'
    refine kZ12 ?_
    refine my_matches (K:=g.K) (X.keeps st) he hcl (fun M h' X'=>looks_typeIn X' b3) (fun M h' X'=>?_) (fun M h' X'=>looks_mroIn X' (by rw [a5 c' hc',hm])) hq
    exact (cls_type X' b1.dct).andThen (looks_mroIn X' b2)
  · intro A E Q s e o st he hcl hdi hfl hq
    obtain ⟨a1,a2,a3,a4,a6,a5⟩:=un c hc
    have I:InstAt s.heap e o (g.cls c) none:=⟨he,hcl,by obtain ⟨vs,hv⟩:=hfl; unfold notCls; rw [hv],by rw [hdi]; trivial⟩
    unfold clsVal
    by_cases hv:c'=g.nc
    · rw [if_pos hv]
      have hty:∀ (M:Model) h',g.K.In h'→Looks M h' (typeOf (.type "ValueError")) (.type "type"):=fun M h' _=>.of_pure rfl
      have his:∀ (M:Model) h',g.K.In h'→Looks M h' (isType (.type "ValueError")) true:=fun M h' _=>.of_pure rfl
      cases hb:g.P.sup c c' with
      | true=>rw [hb] at hq; exact my_is (K:=g.K) (X.keeps st) I hty his (fun M h' X'=>looks_mroIn X' (by rw [a4,← hv,hb])) (hq s.toks)
      | false=>rw [hb] at hq; exact my_not (K:=g.K) (X.keeps st) I a1 hn htk hty his rfl (fun M h' X'=>looks_mroIn X' (by rw [a4,← hv,hb])) (hq _)
    · rw [if_neg hv]
      have hc'':c' < g.nc:=Nat.lt_of_le_of_ne hc' hv
      obtain ⟨b1,b2,b3,b4,b6,b5⟩:=un c' hc''
      cases hb:g.P.sup c c' with
      | true=>rw [hb] at hq; exact my_is (K:=g.K) (X.keeps st) I (fun M h' X'=>looks_typeIn X' b3) (fun M h' X'=>cls_type X' b1.dct) (fun M h' X'=>looks_mroIn X' (by rw [a5 c' hc'',hb])) (hq s.toks)
      | false=>
        rw [hb] at hq
        refine my_not (K:=g.K) (X.keeps st) I a1 hn htk (fun M h' X'=>looks_typeIn X' b3) (fun M h' X'=>cls_type X' b1.dct) ?_ (fun M h' X'=>looks_mroIn X' (by rw [a5 c' hc'',hb])) (hq _)
        cases hne:(Value.ref (g.cls c)==Value.ref (g.cls c')) with
        | false=>rfl
        | true=>
          have:=Value.ref.inj (eq_of_beq hne)
          have q':=a5 c' hc''
          replace q':=hb▸a6▸(a5 c hc)▸this.symm▸q'
          (injection q'; done)
theorem top_of {g:Gl} {A:Around} {fx:Fx} {h:Heap} (e:fx.A=A.deeper fx.env) (f:FrAt g fx.A h):FxTop fx:=by
  obtain ⟨l,hl,q⟩:=f
  replace hl:=e▸hl
  have hl':A.frames.map (fx.env :: ·)=some l:=hl
  cases ha:A.frames with
  | none=>replace hl':=ha▸hl'; (injection hl'; done)
  | some outer=>
    replace hl':=ha▸hl'
    (injection hl' with hl'; subst hl')
    obtain ⟨_,L,_,hf,_⟩:=q fx.env (.head _)
    exact ⟨outer,L,by rw [e]; exact hl,hf⟩
end Mine
end
noncomputable section
namespace Mine
open PySem PySem.Calls PyProof.Rows PySem.W
set_option tactic.hygienic true in
theorem nsIn_of {K:Frag} {h:Heap} {a:Addr} {m:Str→Option Value} {x:Str} {r:Option Value} (X:K.In h) (n:h.Ns a m) (e:nsIn K a x=some r):m x=r:=by
  unfold nsIn at e
  split at e
  · rename_i c d es p sl ho
    obtain ⟨o,es',ep,ho',hd,hs,hf⟩:=n
    rw [X _ _ ho] at ho'
    (injection ho' with ho'; subst ho')
    (injection hd with hd; subst hd)
    rw [← hf x]
    unfold nsFind findBy
    rw [← Array.find?_toList]
    split at e
    · rename_i en he; (injection e with e; subst e); rw [he]; rfl
    · rename_i he
      split at e
      · (injection e; done)
      · (injection e with e; subst e); rw [he]; rfl
  · (injection e; done)
theorem zip_lookup {ps:List Str}:∀ {vals:List Value},ps.length=vals.length→∀ n∈ps,((ps.zip vals).lookup n).isSome=true:=by
  induction ps with
  | nil=>intro vals _ n hn; cases hn
  | cons p ps ih=>
    intro vals h n hn
    cases vals with
    | nil=>(injection h; done)
    | cons v vals=>
      rw [List.zip_cons_cons,List.lookup_cons]
      cases hb:n==p with
      | true=>rfl
      | false=>
        rcases List.mem_cons.mp hn with rfl | hn
        · simp at hb
        · exact ih (Nat.succ.inj h) n hn
theorem fm_congr {α β:Type} {f g:α→Option β}:∀ {l:List α},(∀ x∈l,f x=g x)→l.filterMap f=l.filterMap g
  | [],_=>rfl
  | a :: l,h=>by rw [List.filterMap_cons,List.filterMap_cons,h a (.head _),fm_congr fun x hx=>h x (.tail _ hx)]
theorem zip_filter {ps:List Str}:∀ {vals:List Value},ps.Nodup→ps.length=vals.length→ps.filterMap (fun n=>((ps.zip vals).lookup n).map (n,·))=ps.zip vals:=by
  induction ps with
  | nil=>intro vals _ _; rfl
  | cons p ps ih=>
    intro vals hn h
    cases vals with
    | nil=>(injection h; done)
    | cons v vals=>
      obtain ⟨h1,h2⟩:=List.nodup_cons.mp hn
      rw [List.zip_cons_cons,List.filterMap_cons]
      simp only [List.lookup_cons,beq_self_eq_true,Option.map_some]
      congr 1
      refine Eq.trans (fm_congr fun n hnm=>?_) (ih h2 (Nat.succ.inj h))
      have:(n==p)=false:=beq_false_of_ne fun e=>h1 (e▸hnm)
      rw [this]
theorem bind_for {α β γ:Type} {l:List α} {b:β} {f:α→β→Sem (ForInStep β)} {g:β→Sem γ} {r:Sem γ} (h:l=[]) (k:g b=r):(forIn l b f >>= g)=r:=by subst h; exact k
theorem binds_plain {fd:FuncData} {ps:List Str} {vals:List Value} (h1:fd.params.posonlyargs=[]) (h2:fd.params.args.map (·.arg)=ps) (h3:fd.params.kwonlyargs=[]) (h4:fd.params.vararg=none) (h5:fd.params.kwarg=none)
    (h6:fd.defaults=.none) (hn:ps.Nodup) (hl:vals.length=ps.length):bindArgs fd ⟨vals,[]⟩=pure (ps.zip vals):=by
  have hm:(List.filter (fun n=>(List.lookup n (ps.zip vals)).isNone) ps)=[]:=by
    rw [List.filter_eq_nil_iff]
    intro n hn
    rw [Option.isNone_iff_eq_none]
    exact Option.isSome_iff_ne_none.mp (zip_lookup hl.symm n hn)
  obtain ⟨nm,qn,⟨po,as,va,ko,kd,kw,df⟩,body,sc,gl,cl,dfs,kdf,doc,pm,an,cd,ct,bl⟩:=fd
  obtain rfl:po=[]:=h1
  obtain rfl:ko=[]:=h3
  obtain rfl:va=none:=h4
  obtain rfl:kw=none:=h5
  obtain rfl:dfs=.none:=h6
  have h2:as.map Arg.arg=ps:=h2
  have e1:(decide (vals.length > ([]++as.map Arg.arg).length)&&true)=false:=by rw [List.nil_append,h2,hl,Bool.and_true]; exact decide_eq_false (Nat.lt_irrefl _)
  have e2:(!(List.filter (fun n=>(List.lookup n (([]++as.map Arg.arg).zip vals)).isNone) (([]++as.map Arg.arg).take (([]++as.map Arg.arg).length - (([]:List Value).drop (([]:List Value).length - ([]++as.map Arg.arg).length)).length))).isEmpty)=false:=by
    rw [List.nil_append,h2,List.drop_nil,List.length_nil,Nat.sub_zero,List.take_length,hm]; rfl
  have e4:(([]++as.map Arg.arg).drop (([]++as.map Arg.arg).length - (([]:List Value).drop (([]:List Value).length - ([]++as.map Arg.arg).length)).length)).zip (([]:List Value).drop (([]:List Value).length - ([]++as.map Arg.arg).length))=[]:=by rw [List.drop_nil,List.zip_nil_right]
  have e3:(([]++as.map Arg.arg)++[]).filterMap (fun n=>(List.lookup n (([]++as.map Arg.arg).zip vals)).map (n,·))=ps.zip vals:=by
    rw [List.append_nil,List.nil_append,h2,zip_filter hn hl.symm]
  exact (if_neg (Bool.eq_false_iff.mp e1)).trans ((if_neg (Bool.eq_false_iff.mp e2)).trans (bind_for e4 (bind_for rfl (congrArg pure e3))))
theorem code_of {K:Frag} {h:Heap} {cd:Value} {q:Str} (X:K.In h) (e:codeChk K cd q=true):h.CodeRec cd q:=by
  unfold codeChk at e
  split at e
  · split at e
    · rename_i ho
      split at e
      · rename_i hv
        have:=eq_of_beq e
        subst this
        exact ⟨_,_,_,_,rfl,X _ _ ho,rfl,hv⟩
      · (injection e; done)
    · (injection e; done)
  · (injection e; done)
theorem sim_of {g:Gl} {Z:Zx} {d:Nat} {a:Addr} {fn:Fn} {fd:FuncData} {body:List Stmt} {nms:List Str} {safe nw:Bool} (H:GOk g Z) (h1:chkSs Z fn.body ⟨fd.scope.names,nms.zipIdx,nms.length,fn.nslots,false,nw⟩ body=true) (h2:(!safe||chkSs Z fn.body ⟨fd.scope.names,nms.zipIdx,nms.length,fn.nslots,true,nw⟩ body)=true) :
    SimAll g d a fn fd body nms safe nw:=fun hm A L bad hs oa G K s hd I=>by
  have top:FxTop (fnFx g A fd nms fn.nslots a L bad d hm nw):=top_of (A:=A) rfl I.fr
  refine simSs (n:=d) H fn.body (fnFx g A fd nms fn.nslots a L bad d hm nw) body rfl rfl top ?_ oa G K s hd I
  cases hm with
  | false=>exact h1
  | true=>exact imp_of h2 (hs rfl)
set_option tactic.hygienic true in
theorem fnAt_of {g:Gl} {K:Frag} {Z:Zx} {a:Addr} {fn:Fn} {nms:List Str} {safe nw:Bool} (H:GOk g Z) (X:K.In g.h0) (e0:fnChk0 K a=true) (e:bodyChk Z fn nms safe nw (bodyAt K a)=true):∃ fd body nms,FnAt g a fn fd body nms∧∀ d,SimAll g d a fn fd body nms safe nw:=by
  unfold fnChk0 at e0
  unfold bodyAt at e
  split at e0
  · rename_i c d fd sl ho
    rw [ho] at e
    dsimp only at e
    split at e
    · rename_i body hb
      obtain ⟨h1,e0⟩:=a2 e0
      obtain ⟨h2,e0⟩:=a2 e0
      obtain ⟨h3,e0⟩:=a2 e0
      obtain ⟨h4,h13⟩:=a2 e0
      obtain ⟨h5,e⟩:=a2 e
      obtain ⟨h6,e⟩:=a2 e
      obtain ⟨h7,e⟩:=a2 e
      obtain ⟨h8,e⟩:=a2 e
      obtain ⟨h9,e⟩:=a2 e
      obtain ⟨h10,e⟩:=a2 e
      obtain ⟨h11,e⟩:=a2 e
      obtain ⟨h12,e⟩:=a2 e
      obtain ⟨h14,e⟩:=a2 e
      obtain ⟨h15,e⟩:=a2 e
      obtain ⟨h16,e⟩:=a2 e
      obtain ⟨h17,e⟩:=a2 e
      obtain ⟨h18,h19⟩:=a2 e
      have h14:=nodup_of h14
      have h15:=of_decide_eq_true h15
      refine ⟨fd,body,nms,⟨⟨_,X _ _ ho,rfl⟩,hb,code_of X h1,eq_of_beq h2,eq_of_beq h3,List.isEmpty_iff.mp h4,Bool.not_eq_true' _▸h5,Bool.not_eq_true' _▸h6,eq_of_beq h7,fun vals hv=>?_,h14,h15,of_decide_eq_true h16,fun x m=>((Bool.or_eq_true _ _).mp (List.all_eq_true.mp h17 x m)).imp eq_of_beq eq_of_beq⟩,fun d=>sim_of H h18 h19⟩
      refine binds_plain (List.isEmpty_iff.mp h8) (eq_of_beq h9) (List.isEmpty_iff.mp h10) (Option.isNone_iff_eq_none.mp h11) (Option.isNone_iff_eq_none.mp h12) ?_ (h14.sublist (List.take_sublist _ _)) (by rw [List.length_take,hv]; exact (Nat.min_eq_left h15).symm)
      cases hd:fd.defaults <;> rw [hd] at h13 <;> first | rfl | (injection h13; done)
    · (injection e; done)
  · (injection e0; done)
theorem const_of {g:Gl} {u:Value} {v:V} (e:constChk u v=true):∀ bad h,Rp g bad h u v:=fun bad h=>by
  cases v with
  | int j=>obtain ⟨t,rfl⟩:=Value.isInt_shape e; exact .int _ _
  | str l=>obtain ⟨t,rfl⟩:=Value.isStrOf_shape e; exact .str _ _
  | _=>(injection e; done)
theorem boots:bltNames.all (fun p=>bootBuiltins p.1==some p.2&&p.1 != ("__name__" : Str))=true:=by decide +kernel
theorem cls_of {g:Gl} (e:clsChk g.K g.C g.flds=true):ClsOk g:=by
  obtain ⟨h1,e⟩:=a2 e
  obtain ⟨h2,e⟩:=a2 e
  obtain ⟨h3,e⟩:=a2 e
  obtain ⟨h4,e⟩:=a2 e
  obtain ⟨h5,e⟩:=a2 e
  obtain ⟨h6,e⟩:=a2 e
  obtain ⟨h7,e⟩:=a2 e
  exact ⟨eq_of_beq h1,eq_of_beq h2,eq_of_beq h3,h4,h5,fun x m=>eq_of_beq (List.all_eq_true.mp h6 x m),h7,of_decide_eq_true (a2 e).1,of_decide_eq_true (a2 e).2⟩
theorem gok_of {g:Gl} {Z:Zx} (e1:g.fns=Z.fns) (e2:g.cons=Z.cons) (e3:g.flds=Z.flds) (e4:g.clss=Z.clss) (e5:g.nc=Z.nc) (e6:g.P.sup=Z.sup) (e7:g.safe=Z.safe) (e8:g.newf=Z.newf) (e9:g.fn Z.cf=g.C) (h1:Z.fns.all (fun p=>keepIn g.K (.ref (g.fn p.2)))=true) (h2:Z.meths.all (metChk g.K g.C g.flds g.fn)=true):GOk g Z:=
  ⟨e1,e2,e3,e4,e5,e6,e7,e8,e9,fun x f e=>List.all_eq_true.mp h1 _ (PySem.mem_of_lookup e),fun x f e=>by
    obtain ⟨q1,q⟩:=a2 (List.all_eq_true.mp h2 _ (PySem.mem_of_lookup e))
    obtain ⟨q2,q⟩:=a2 q
    exact ⟨fun m=>by rw [List.elem_iff.mpr m] at q1; exact (nomatch q1),eq_of_beq q2,eq_of_beq (a2 q).1,(a2 q).2⟩⟩
set_option tactic.hygienic true in
theorem ground_of {g:Gl} (X:g.K.In g.h0) (hm:g.h0.Ns mainGlobals g.mg) (hb:g.h0.Ns builtinsNs g.mb) (hl:g.h0.NoLimit) (hbt:∀ x:Str,x≠"__name__"→g.mb x=bootBuiltins x) (h0:(g.K.lookup sysModules).isSome=true) (hc:clsChk g.K g.C g.flds=true)
    (h1:g.fns.all (fun p=>nsIn g.K mainGlobals p.1==some (some (.ref (g.fn p.2))))=true) (h3:g.cons.all (conChk g.K)=true) (h4:bltNames.all (fun p=>nsIn g.K mainGlobals p.1==some none)=true)
    (h5:g.clss.all (fun p=>decide (p.2 < g.nc)&&nsIn g.K mainGlobals p.1==some (some (.ref (g.cls p.2))))=true) (hx:XClss g):Ground g where
  main:=hm
  blt:=hb
  nolim:=hl
  sysm:=(Option.isSome_iff_exists.mp h0).elim fun o e=>⟨o,X _ _ e⟩
  frag:=X
  cls:=cls_of hc
  fns:=fun x f e=>nsIn_of X hm (eq_of_beq (List.all_eq_true.mp h1 _ (PySem.mem_of_lookup e)))
  cons:=fun x v e=>by
    have q:=List.all_eq_true.mp h3 _ (PySem.mem_of_lookup e)
    unfold conChk at q
    split at q
    · rename_i u hu; exact ⟨u,nsIn_of X hm ((nsF_eq ..).symm.trans hu),const_of q⟩
    · (injection q; done)
  blts:=fun x v e=>by
    have q:=a2 (List.all_eq_true.mp boots _ (PySem.mem_of_lookup e))
    exact ⟨nsIn_of X hm (eq_of_beq (List.all_eq_true.mp h4 _ (PySem.mem_of_lookup e))),(hbt x (bne_iff_ne.mp q.2)).trans (eq_of_beq q.1)⟩
  clss:=fun x c e=>by
    have q:=a2 (List.all_eq_true.mp h5 _ (PySem.mem_of_lookup e))
    exact ⟨of_decide_eq_true q.1,nsIn_of X hm (eq_of_beq q.2)⟩
  raises:=hx.raises
  catches:=hx.catches
  isi:=hx.isi
theorem callOk_all {g:Gl} (gr:Ground g) (hfn:∀ f fn,g.P.fns[f]?=some fn→fn.init=false→∃ fd body nms,FnAt g (g.fn f) fn fd body nms∧∀ d,SimAll g d (g.fn f) fn fd body nms (g.safe f) (g.newf f)) (hin:∀ f fn,g.P.fns[f]?=some fn→fn.init=true→g.fn f=g.C∧g.safe f=false∧∀ d,InitAt g d fn):∀ d,CallOk g (callN g.P d) d
  | 0=>fun hm f args K A s bad vals hc=>hc.elim
  | d+1=>callOk_step gr (fun f fn h hi=>(hfn f fn h hi).elim fun fd q=>q.elim fun body q=>q.elim fun nms q=>⟨fd,body,nms,q.1,q.2 d⟩) (fun f fn h hi=>(hin f fn h hi).imp id fun q=>q.imp id fun q=>q d) (callOk_all gr hfn hin d)
end Mine
end
noncomputable section
namespace Mine
open PySem PySem.Calls PyProof.Rows PySem.W
theorem ints_items (xs:List WData):WShape.hasItems [] xs .int=true→∃ is:List Int,xs=is.map .int:=by
  induction xs with
  | nil=>exact fun _=>⟨[],rfl⟩
  | cons x xs ih=>
    intro h
    have h:=a2 (b:=WShape.hasItems [] xs .int) h
    have h1:=h.1
    cases x with
    | int i=>exact (ih h.2).elim fun is e=>⟨i :: is,congrArg _ e⟩
    | _=>(injection h1; done)
noncomputable def endsAs (v:Option WData):Bool:=match (match (match v with | some (.bool b)=>some (WData.bool (!b)) | _=>none) with | some (.bool false)=>some (WData.bool false) | some (.bool true)=>some (WData.bool true) | _=>none) with | some (.bool true)=>true | _=>false
noncomputable def endsT (b:Bool):Bool:=match some (WData.bool b) with | some (.bool true)=>true | _=>false
theorem same_true:same (.bool true) (.bool true)=true:=by simp only [same,beq_self_eq_true]
theorem len_of {xs:List WData} (h:(WTm.and (.not (.lt (.lit (.int (63:Nat))) (.len (.arg 0)))) (.lit (.bool true))).holds [] { args:=[.list xs] }=true):xs.length≤63:=by
  have h:endsAs (some (.bool (decide (((63:Nat):Int) < (xs.length:Int)))))=true:=h
  by_cases hq:((63:Nat):Int) < (xs.length:Int)
  · rw [decide_eq_true hq] at h; (injection h; done)
  · omega
theorem pre_eq {l:OpenLaw} (hm:l.most=some 63) (hb:l.bound=none):l.pre=.and (.not (.lt (.lit (.int (63:Nat))) (.len (.arg 0)))) (.lit (.bool true)):=by
  unfold OpenLaw.pre; rw [hm,hb]
theorem script_of {l:OpenLaw} (hm:l.most=some 63) (hb:l.bound=none) {args:List WData} (h:l.row.claim.pre args=true):∃ is:List Int,args=[.list (is.map .int)]∧is.length≤63:=by
  have h:=a2 (a:=WShape.hasAll [] args [.list .int]) (b:=l.pre.holds [] { args:=args }) h
  rw [pre_eq hm hb] at h
  cases args with
  | nil=>(injection h.1; done)
  | cons x r=>
    have h1:=a2 (a:=WShape.has [] x (.list .int)) h.1
    cases r with
    | cons y r=>(injection h1.2; done)
    | nil=>
      have h2:=h1.1
      cases x with
      | list xs=>
        have h2:(WShape.hasItems [] xs .int||false)=true:=h2
        rw [Bool.or_false] at h2
        refine (ints_items xs h2).elim fun is e=>⟨is,congrArg (fun xs=>[WData.list xs]) e,?_⟩
        have:=len_of h.2
        rw [e,List.length_map] at this
        exact this
      | _=>(injection h2; done)
set_option tactic.hygienic true in
theorem rp_script {g:Gl} {P:Params} (is:List Int):∀ vs:List Value,WellAll P g.h0 vs (is.map .int)→RpAll g (fun _=>False) g.h0 vs (is.map .int):=by
  induction is with
  | nil=>intro vs w; cases w; exact .nil
  | cons i is ih=>
    intro vs w
    cases w with
    | cons w ws=>cases w with
      | int _ t=>exact .cons (.int i t) (ih _ ws)
set_option tactic.hygienic true in
theorem law_ends {l:OpenLaw} (hm:l.most=some 63) (hb:l.bound=none) {g:Gl} {f d:Nat} {cl:Str→Option Addr} {mean:ExcName→Option Value} {s₁:Shared} {args:List WData} {vals:List Value} {Pm:Params}
    (call:CallOk g (callN g.P d) d) (hg:g.prog=l.row.prog) (h0:g.h0=s₁.heap) (ho:g.os=s₁.os) (hgn:s₁.gens=#[]) (hd:d≤40)
    (hpre:l.row.claim.pre args=true) (hwl:WellAll Pm s₁.heap vals args)
    (plain:∀ scr:List Int,scr.length≤63→callN g.P d f [.list (scr.map .int)] fun y=>y=.bool true) :
    wpAny (model l.row.prog g.w) callerA (PySem.call (.ref (g.fn f)) vals) (fun v s'=>GoodWG l.row.claim cl mean args s₁ (.ok (.ret v)) s') (fun e s'=>GoodWG l.row.claim cl mean args s₁ (.error e) s') s₁:=by
  obtain ⟨is,rfl,hlen⟩:=script_of hm hb hpre
  cases hwl with
  | cons w ws=>
  cases ws
  cases w with
  | list ha hws=>
  rename_i a vs
  have rp:RpAll g (fun _=>False) s₁.heap [.ref a] [.list (is.map .int)]:=by
    rw [← h0] at hws ha ⊢
    exact .cons (.list id ha ⟨rfl,rfl⟩ rfl (by rw [List.toList_toArray]; exact rp_script _ _ hws)) .nil
  have B:Base g s₁:=⟨by rw [h0]; exact fun b o e=>e,ho.symm,hgn⟩
  have w:=call false f [.list (is.map .int)] _ callerA s₁ (fun _=>False) [.ref a] (plain is hlen) (fun _=>rfl) nofun (by refine (?_:1+claimMargin+2 * d < 990); have:claimMargin=300:=rfl; omega)
    (by refine (?_:4+4 * d+100 < cLine); have:(1000:Nat)≤cLine:=by decide +kernel
        omega) B ⟨_,rfl,fun env m=>nomatch m⟩ (fun a q=>q.elim) rp
  rw [hg] at w
  refine wpAny_mono w (fun v s' p=>?_) fun _ _ ⟨_,_,c,e,_,_,q,_⟩=>nomatch q
  obtain ⟨B',_,y,rfl,_,r,_⟩:=p
  refine r.bool_elim ?_
  refine GoodW.toG ⟨.inl ⟨_,.bool true,[],rfl,fun cls=>rfl,ReadsW.bool true,(by
    refine (?_:(WShape.has [] (.bool true) .bool&&(WTm.eq .res (.lit (.bool true))).holds [] _)=true)
    refine (Bool.and_eq_true _ _).mpr ⟨rfl,?_⟩
    exact congrArg endsT same_true),fun _=>⟨List.nodup_nil,fun a ha=>(nomatch ha)⟩⟩,?_,B'.os.trans ho,B'.gens⟩
  have:=B'.stays
  rw [h0] at this
  exact fun b o e=>this b o e
end Mine
end
noncomputable section
namespace Mine.L02
open PySem PySem.Calls PyProof.Rows PySem.W
theorem bods_fast:@bodsChk fastStr 0 fns nms want=true:=by kernel_rfl
theorem bods:bodsChk 0 fns nms want=true:=fast_eq▸bods_fast
theorem fns_of {K:Frag}:∀ {i:Nat} {fns:List Fn} {n:List (List Str)} {A:List Addr} {b:List (Option FText)},bodsChk i fns n b=true→A.map (bodyAt K)=b→∀ {f:Nat} {fn:Fn},fns[f]?=some fn→A.getD f 0∈A∧∃ m,bodyChk Z fn m (safe (i+f)) (newf (i+f)&&!fn.init) (bodyAt K (A.getD f 0))=true
  | _,[],_,_,_,_,_,_,_,h=>nomatch h
  | _,_ :: _,[],_,_,e,_,_,_,_=>nomatch e
  | _,_ :: _,_ :: _,_,[],e,_,_,_,_=>nomatch e
  | _,_ :: _,_ :: _,[],_ :: _,_,q,_,_,_=>nomatch q
  | i,fn :: r,n :: m,a :: A,b :: B,e,q,0,_,h=>by
    (injection h with h; subst h)
    obtain ⟨q1,q2⟩:=List.cons.inj q
    refine ⟨.head _,n,?_⟩
    refine (?_:bodyChk Z fn n _ _ (bodyAt K a)=true)
    rw [q1]; exact (a2 e).1
  | i,fn :: r,n :: m,a :: A,b :: B,e,q,f+1,_,h=>by
    obtain ⟨q1,q2⟩:=List.cons.inj q
    rw [show i+(f+1)=i+1+f from (Nat.succ_add i f).symm]
    exact (fns_of (a2 e).2 q2 (f:=f) h).imp (.tail _) id
theorem clss_of {K:Frag}:∀ {n:Nat},clssChk K n=true→∀ {c:Nat},c < n→xclsChk K sup 8 (fun c=>clsA.getD c 0) c=true
  | n+1,e,c,h=>by
    by_cases q:c=n
    · subst q; exact (a2 e).1
    · exact clss_of (a2 e).2 (Nat.lt_of_le_of_ne (Nat.le_of_lt_succ h) q)
theorem init_ok:(List.range 31).all (fun f=>(fns[f]?).all fun fn=>if fn.init=true then f==8 else fnB.getD f 0==fnA.getD f 0)=true:=rfl
theorem init_at {f:Nat} {fn:Fn} (h:fns[f]?=some fn):(if fn.init=true then f==8 else fnB.getD f 0==fnA.getD f 0)=true:=by
  have:=List.all_eq_true.mp init_ok f (List.mem_range.mpr (List.getElem?_eq_some_iff.mp h).1)
  rw [h] at this
  exact this
noncomputable def ownOk (p:Program) (x:Str):Bool:=(ownsOf p).any fun o=>o.name==x&&(o.bm==[.type "ValueError",.type "Exception",.type "BaseException",.type "object"]&&o.newId=="ValueError.__new__")
theorem raise_of {g:Gl} {p:Program} {x:Str} {c:Nat} (own:∀ o∈ownsOf p,∃ C,OwnClsQ o.name C o.bm o.newId g.mg g.h0) (hx:ownOk p x=true) (hc:g.mg x=some (.ref (g.cls c))):RaiseOk g c:=by
  obtain ⟨o,ho,hq⟩:=List.any_eq_true.mp hx
  have h1:=eq_of_beq (a2 hq).1
  have h2:=eq_of_beq (a2 (a2 hq).2).1
  have h3:=eq_of_beq (a2 (a2 hq).2).2
  obtain ⟨C,O⟩:=own o ho
  have hb:=O.bound
  rw [h1,hc] at hb
  cases hb
  obtain ⟨bm,N,nm,q,bs,hdct,sn,sub,ab,col,dd,k0,k1,k2,k3,k5,mN,hC,hN,hqn,T⟩:=O.obj
  rw [h3] at hC
  rw [h2] at T
  exact ⟨nm,q,N,bs,bm,_,hdct,sn,sub,ab,col,dd,k0,k1,k2,k3,k5, "ValueError", "ValueError.__new__",_,mN,PySem.F.excBase_ValueError,T.tail.hasType PySem.F.excBase_ValueError.hasBase,hqn _ (.head _),hC,hN,T.tail⟩
theorem cls_back:∀ c,c < 8→clsN.any (fun p=>p.2==c&&clsN.lookup p.1==some c)=true:=by decide
theorem call_of {g:Gl} {q:Program} (KX:g.K.In g.h0) (e:chk g.K=true) (hbd:fnB.map (bodyAt g.K)=want) (hf:g.fn=fun f=>fnA.getD f 0) (hC:g.C=mchA) (hfl:g.flds=fldN) (hfn:g.fns=fnN) (hcn:g.cons=conN) (hP:g.P=prog) (hcl:g.clss=clsN) (hnc:g.nc=8) (hcs:g.cls=fun c=>clsA.getD c 0) (hsf:g.safe=safe) (hnw:g.newf=newf) (hm:g.h0.Ns mainGlobals g.mg) (hb:g.h0.Ns builtinsNs g.mb) (hl:g.h0.NoLimit) (hbt:∀ x:Str,x≠"__name__"→g.mb x=bootBuiltins x)
    (own:∀ o∈ownsOf q,∃ C,OwnClsQ o.name C o.bm o.newId g.mg g.h0) (hq:clsN.all (fun p=>ownOk q p.1)=true) (d:Nat):Ground g∧CallOk g (callN g.P d) d:=by
  obtain ⟨e1,e⟩:=a2 e
  obtain ⟨e2,e⟩:=a2 e
  obtain ⟨e3,e⟩:=a2 e
  obtain ⟨e4,e⟩:=a2 e
  obtain ⟨e5,e⟩:=a2 e
  obtain ⟨e6,e⟩:=a2 e
  obtain ⟨e7,e⟩:=a2 e
  obtain ⟨e8,e⟩:=a2 e
  obtain ⟨e9,e⟩:=a2 e
  obtain ⟨e10,e⟩:=a2 e
  obtain ⟨e11,e⟩:=a2 e
  obtain ⟨e12,e⟩:=a2 e
  obtain ⟨e13,e14⟩:=a2 e
  simp only [nsF_eq] at e3 e5 e11
  have hsup:g.P.sup=sup:=by rw [hP]; rfl
  have cn:∀ x c,clsN.lookup x=some c→g.mg x=some (.ref (g.cls c)):=fun x c h=>by
    rw [hcs]
    exact nsIn_of KX hm (eq_of_beq (a2 (List.all_eq_true.mp e11 _ (PySem.mem_of_lookup h))).2)
  have xc:XClss g:=ex_of KX (eq_of_beq e12) (eq_of_beq e13) (fun c h=>by rw [hsup,hnc,hcs]; exact clss_of e14 (hnc▸h)) fun c h=>by
    obtain ⟨p,mp,hp⟩:=List.any_eq_true.mp (cls_back c (hnc▸h))
    obtain ⟨h1,h2⟩:=a2 hp
    exact raise_of own (List.all_eq_true.mp hq _ mp) (cn _ _ (eq_of_beq h2))
  have gr:Mine.Ground g:=ground_of KX hm hb hl hbt e1 (by rw [hC,hfl]; exact e2) (by rw [hfn,hf]; exact e3) (by rw [hcn]; exact e4) e5 (by rw [hcl,hnc,hcs]; exact e11) xc
  have ok:GOk g Z:=gok_of hfn hcn hfl hcl hnc hsup hsf hnw (by rw [hf,hC]; rfl) (by rw [hf]; exact e6) (by rw [hC,hfl,hf]; exact e7)
  refine ⟨gr,callOk_all gr (fun f fn h hi=>?_) (fun f fn h hi=>?_) d⟩
  · rw [hP] at h
    obtain ⟨mb,m,q⟩:=fns_of bods hbd h
    have mb:=List.all_eq_true.mp e10 _ mb
    have i:=init_at h
    rw [hi,if_neg Bool.false_ne_true] at i
    rw [eq_of_beq i,hi,Nat.zero_add,Bool.not_false,Bool.and_true] at q
    rw [eq_of_beq i] at mb
    rw [hsf,hnw]
    exact fnAt_of ok KX (by rw [hf]; exact mb) (by rw [hf]; exact q)
  · rw [hP] at h
    obtain ⟨mb,m,q⟩:=fns_of bods hbd h
    have mb:=List.all_eq_true.mp e10 _ mb
    have i:=init_at h
    rw [hi,if_pos rfl] at i
    obtain rfl:=eq_of_beq i
    rw [hi,Nat.zero_add,Bool.not_true,Bool.and_false] at q
    obtain ⟨fd,body,nm,F,sm⟩:=fnAt_of (g:=g) ok KX mb q
    exact ⟨by rw [hf,hC]; rfl,by rw [hsf]; rfl,fun d=>⟨181,fd,body,nm,by rw [hC]; exact eq_of_beq e8,eq_of_beq e9,F,sm d⟩⟩
end Mine.L02
end
noncomputable section
namespace Mine
open PySem
noncomputable def evs (cf:CallF) (es:List E):List D:=E.rec_1 (motive_1:=fun _=>D) (motive_2:=fun _=>List D) (fun o _ ih=>evOp cf o ih) [] (fun _ _ i is=>i :: is) es
noncomputable def exi (sup:Nat→Nat→Bool) (cf:CallF) (l:List S):B:=S.rec_1 (motive_1:=fun _=>B) (motive_2:=fun _=>B) (fun o es _ _ x y=>exOp sup cf o (es.map (ev cf)) x y) (fun G K=>K none G) (fun _ _ i is G K=>i G fun fl G'=>match fl with | none=>is G' K | some x=>K (some x) G') l
section
variable {sup:Nat→Nat→Bool} {cf:CallF} {G:Gs} {K:Option V→Gs→Prop} {e a b c:E} {es:List E} {r:List S} {v x y z:V} {o:Op} {k:Nat} {t u:Bool}
noncomputable def Val (cf:CallF) (G:Gs) (e:E) (v:V):Prop:=∀ K,K v→ev cf e G K
noncomputable def Vals (cf:CallF) (G:Gs) (es:List E) (vs:List V):Prop:=∀ K,K vs→manyD (evs cf es) G K
noncomputable def Tests (cf:CallF) (b:Bool) (G:Gs) (es:List E) (t:Bool):Prop:=∀ K,K t→boolsD b (evs cf es) G K
theorem okK_some {α:Type} {o:Option α} {z:α} {K:α→Prop} (e:o=some z) (h:K z):okK o K:=by rw [e]; exact h
theorem Vals.nil:Vals cf G [] []:=fun _ h=>h
theorem Vals.cons {vs:List V} (h:Val cf G e v) (hs:Vals cf G es vs):Vals cf G (e :: es) (v :: vs):=fun K k=>h _ (hs _ k)
theorem Vals.one (h:Val cf G e v):Vals cf G [e] [v]:=.cons h .nil
theorem Vals.two (h:Val cf G a x) (h':Val cf G b y):Vals cf G [a,b] [x,y]:=.cons h (.cons h' .nil)
theorem val_op {vs:List V} (hv:Vals cf G es vs) (e:opN o vs=some z) (ho:∀ ds K,(manyD ds G fun xs=>okK (opN o xs) K)→evOp cf o ds G K:=by exact fun _ _ h=>h):Val cf G (.nd o es) z:=fun K k=>ho _ _ (hv _ (okK_some e k))
theorem val_cmp {o:CmpOp} (h:Val cf G a x) (h':Val cf G b y) (e:cmpOp o x y=some t):Val cf G (.nd (.cmp o) [a,b]) (.bool t):=fun K k=>h _ (h' _ (okK_some e k))
theorem val_call {f:Nat} {vs:List V} (hv:Vals cf G es vs) (h:∀ K,K v→cf f vs K) (hn:noX v=true:=by rfl):Val cf G (.nd (.call f) es) v:=fun K k=>hv _ (h _ ⟨hn,k⟩)
theorem val_meth {f:Nat} (hv:Val cf G e x) (hi:isInst x=true) (h:∀ K,K v→cf f [x] K) (hn:noX v=true:=by rfl):Val cf G (.nd (.meth f) [e]) v:=fun K k=>hv _ ⟨hi,h _ ⟨hn,k⟩⟩
theorem val_not (h:Val cf G a (.bool t)):Val cf G (.nd .not [a]) (.bool (!t)):=fun K k=>h _ k
theorem Tests.nil {b:Bool}:Tests cf b G [] b:=fun _ h=>h
theorem Tests.go {b:Bool} (h:Val cf G a (.bool b)) (hs:Tests cf b G es t):Tests cf b G (a :: es) t:=fun K k=>h _ (by refine (?_:if b=b then _ else _); rw [if_pos rfl]; exact hs _ k)
theorem Tests.stop {b:Bool} (h:Val cf G a (.bool (!b))):Tests cf b G (a :: es) (!b):=fun K k=>h _ (by refine (?_:if (!b)=b then _ else _); rw [if_neg (by cases b <;> decide)]; exact k)
theorem Tests.and {t u:Bool} (h:Val cf G a (.bool t)) (hs:t=true→Tests cf true G es u):Tests cf true G (a :: es) (t&&u):=by
  cases t
  · exact .stop (b:=true) h
  · exact .go h (hs rfl)
theorem Tests.or {t u:Bool} (h:Val cf G a (.bool t)) (hs:t=false→Tests cf false G es u):Tests cf false G (a :: es) (t||u):=by
  cases t
  · exact .go h (hs rfl)
  · exact .stop (b:=false) h
theorem Tests.one (h:Val cf G a (.bool t)):Tests cf true G [a] t:=by
  have:=Tests.and (es:=[]) h fun _=>.nil
  rwa [Bool.and_true] at this
theorem Tests.one' (h:Val cf G a (.bool t)):Tests cf false G [a] t:=by
  have:=Tests.or (es:=[]) h fun _=>.nil
  rwa [Bool.or_false] at this
theorem val_and (h:Tests cf true G es t):Val cf G (.nd .and es) (.bool t):=fun K k=>h _ k
theorem val_or (h:Tests cf false G es t):Val cf G (.nd .or es) (.bool t):=fun K k=>h _ k
theorem val_ite (h:Val cf G c (.bool t)) (h1:t=true→Val cf G a v) (h2:t=false→Val cf G b v):Val cf G (.nd .ite [c,a,b]) v:=fun K k=>h _ (by
  refine (?_:if t=true then _ else _)
  cases t
  · exact h2 rfl K k
  · exact h1 rfl K k)
theorem comp_ind {α:Type} {e:E} {ts:List E} {b:Gs→V→Option Gs} {g:α→V} {H:α→Gs} {p:α→Bool} {f:α→V} {ws:List α}:∀ (ys:List V),(∀ w∈ws,b G (g w)=some (H w))→(∀ w∈ws,Tests cf true (H w) ts (p w))→(∀ w∈ws,p w=true→Val cf (H w) e (f w))→∀ K:List V→Prop,K (ys++(ws.filter p).map f)→compL (ev cf e) (evs cf ts) b G (ws.map g) fun zs=>K (ys++zs):=by
  induction ws with
  | nil=>exact fun ys _ _ _ K h=>h
  | cons x xs ih=>
    intro ys hb ht he K h
    refine okK_some (hb x (.head _)) (ht x (.head _) _ ?_)
    have ih:=fun ys=>ih ys (fun x m=>hb x (.tail _ m)) (fun x m=>ht x (.tail _ m)) fun x m=>he x (.tail _ m)
    cases hp:p x with
    | false=>
      rw [List.filter_cons_of_neg (by rw [hp]; exact Bool.false_ne_true)] at h
      exact ih ys K h
    | true=>
      rw [List.filter_cons_of_pos hp] at h
      refine he x (.head _) hp _ ?_
      have e1:(fun zs=>K (ys++(f x :: zs)))=fun zs=>K ((ys++[f x])++zs):=funext fun zs=>by rw [List.append_assoc]; rfl
      refine (?_:compL (ev cf e) (evs cf ts) b G (xs.map g) fun zs=>K (ys++(f x :: zs)))
      rw [e1]
      exact ih (ys++[f x]) K (by rw [List.append_assoc]; exact h)
theorem val_comp {α:Type} {s e:E} {ts:List E} {g:α→V} {p:α→Bool} {f:α→V} {ws:List α} (hs:Val cf G s x) (hq:seqV x=some (ws.map g)) (ht:∀ w∈ws,Tests cf true (G.set k (.v (g w))) ts (p w)) (he:∀ w∈ws,p w=true→Val cf (G.set k (.v (g w))) e (f w)) :
    Val cf G (.nd (.comp k) (s :: e :: ts)) (.list ((ws.filter p).map f)):=fun K h=>hs _ (okK_some hq (comp_ind [] (fun _ _=>rfl) ht he (fun ys=>K (.list ys)) h))
theorem all_in {α:Type} (ws:List α):ws.filter (fun _=>true)=ws:=List.filter_eq_self.mpr fun _ _=>rfl
theorem val_comp0 {α:Type} {s e:E} {g f:α→V} {ws:List α} (hs:Val cf G s x) (hq:seqV x=some (ws.map g)) (he:∀ w∈ws,Val cf (G.set k (.v (g w))) e (f w)) :
    Val cf G (.nd (.comp k) [s,e]) (.list (ws.map f)):=by
  have q:=val_comp (ts:=[]) (p:=fun _=>true) (f:=f) hs hq (fun _ _=>.nil) fun x m _=>he x m
  rw [all_in] at q
  exact q
theorem val_compM {α:Type} {ks:List Nat} {s e:E} {g f:α→V} {H:α→Gs} {ws:List α} (hs:Val cf G s x) (hq:seqV x=some (ws.map g)) (hb:∀ w∈ws,setMany ks G (g w)=some (H w)) (he:∀ w∈ws,Val cf (H w) e (f w)) :
    Val cf G (.nd (.compM ks) [s,e]) (.list (ws.map f)):=fun K h=>hs _ (okK_some hq (comp_ind (ts:=[]) (p:=fun _=>true) (f:=f) [] hb (fun _ _=>.nil) (fun x m _=>he x m) (fun ys=>K (.list ys)) (by rw [all_in]; exact h)))
theorem exi_eq:∀ l:List S,exi sup cf l=exs sup cf l
  | []=>rfl
  | s :: r=>funext fun G=>funext fun K=>by
    refine (?_:ex sup cf s G (fun fl G'=>match fl with | none=>exi sup cf r G' K | some x=>K (some x) G')=_)
    rw [exi_eq r]; rfl
theorem exs_app {r:List S}:∀ l:List S,exs sup cf (l++r)=fun G K=>exs sup cf l G (fun fl G'=>match fl with | none=>exs sup cf r G' K | some x=>K (some x) G')
  | []=>rfl
  | s :: l=>by
    funext G K
    refine (?_:ex sup cf s G (fun fl G'=>match fl with | none=>exs sup cf (l++r) G' K | some x=>K (some x) G')=_)
    rw [exs_app l]; rfl
theorem x_nil (h:K none G):exs sup cf [] G K:=h
theorem x_assign (h:Val cf G e v) (n:exs sup cf r (G.set k (.v v)) K):exs sup cf (.mk (.assign k) [e] [] [] :: r) G K:=h _ n
theorem x_assignM {ks:List Nat} {G':Gs} (h:Val cf G e v) (hs:setMany ks G v=some G') (n:exs sup cf r G' K):exs sup cf (.mk (.assignM ks) [e] [] [] :: r) G K:=h _ (okK_some hs n)
theorem x_ret (h:Val cf G e v) (n:K (some v) G) (hn:noX v=true:=by rfl):exs sup cf (.mk .ret [e] [] [] :: r) G K:=h _ ⟨hn,n⟩
theorem x_if {A B:List S} (h:Val cf G c (.bool t)) (h1:t=true→exs sup cf (A++r) G K) (h2:t=false→exs sup cf (B++r) G K):exs sup cf (.mk .ite [c] A B :: r) G K:=h _ (by
  refine (?_:if t=true then exi sup cf A G _ else exi sup cf B G _)
  rw [exi_eq,exi_eq]
  cases t
  · have:=h2 rfl; rw [exs_app] at this; exact this
  · have:=h1 rfl; rw [exs_app] at this; exact this)
theorem x_ifT {A B:List S} (h:Val cf G c (.bool true)) (h1:exs sup cf (A++r) G K):exs sup cf (.mk .ite [c] A B :: r) G K:=x_if h (fun _=>h1) fun q=>nomatch q
theorem x_ifF {A:List S} (h:Val cf G c (.bool false)) (h1:exs sup cf r G K):exs sup cf (.mk .ite [c] A [] :: r) G K:=x_if h (fun q=>nomatch q) fun _=>h1
theorem x_own0 (n:exs sup cf r (G.set k (.ownL [])) K):exs sup cf (.mk (.ownL k) [] [] [] :: r) G K:=⟨Nat.zero_le _,n⟩
theorem x_append {l:List V} (hl:ownLO G k=some l) (h:Val cf G e v) (hz:l.length < szLine) (n:exs sup cf r (G.set k (.ownL (l++[v]))) K):exs sup cf (.mk (.append k) [e] [] [] :: r) G K:=okK_some hl (h _ ⟨hz,n⟩)
theorem x_freeze {l:List V} (hl:ownLO G k=some l) (n:exs sup cf r (G.set k (.v (.list l))) K):exs sup cf (.mk (.freeze k) [] [] [] :: r) G K:=okK_some hl n
theorem for_ind {b:Gs→V→Option Gs} {A:B} {P:List V→Gs→Prop} (done:∀ G,P [] G→K none G) (turn:∀ x l G,P (x :: l) G→(∀ G',P l G'→forL b A l G' K)→okK (b G x) fun G'=>A G' fun fl G''=>match fl with | none=>forL b A l G'' K | some y=>noX y=true∧K (some y) G''):∀ xs G,P xs G→forL b A xs G K
  | [],G,h=>done G h
  | x :: l,G,h=>turn x l G h (for_ind done turn l)
theorem x_forB {op:SOp} {b:Gs→V→Option Gs} {s:E} {body:List S} {xs:List V} {P:List V→Gs→Prop} (hop:∀ ds X Y G K,(oneD ds G fun x=>okK (seqV x) fun xs=>forL b X xs G K)→exOp sup cf op ds X Y G K) (hs:Val cf G s v) (hq:seqV v=some xs) (h0:P xs G) (done:∀ G,P [] G→exs sup cf r G K)
    (turn:∀ x l G Kt,P (x :: l) G→(∀ G',P l G'→Kt none G')→(∀ y G',noX y=true→K (some y) G'→Kt (some y) G')→okK (b G x) fun G'=>exs sup cf body G' Kt):exs sup cf (.mk op [s] body [] :: r) G K:=by
  have q:=hop [ev cf s] (exi sup cf body) (exi sup cf []) G (fun fl G'=>match fl with | none=>exs sup cf r G' K | some x=>K (some x) G') (hs _ (okK_some hq (by
    rw [exi_eq]
    exact for_ind (P:=P) (K:=fun fl G'=>match fl with | none=>exs sup cf r G' K | some x=>K (some x) G') done (fun x l G h n=>turn x l G (fun fl G''=>match fl with | none=>forL b (exs sup cf body) l G'' (fun fl G'=>match fl with | none=>exs sup cf r G' K | some x=>K (some x) G') | some y=>noX y=true∧K (some y) G'') h n fun _ _ h h'=>⟨h,h'⟩) xs G h0)))
  exact q
theorem x_for {s:E} {body:List S} {xs:List V} {P:List V→Gs→Prop} (hs:Val cf G s v) (hq:seqV v=some xs) (h0:P xs G) (done:∀ G,P [] G→exs sup cf r G K)
    (turn:∀ x l G Kt,P (x :: l) G→(∀ G',P l G'→Kt none G')→(∀ y G',noX y=true→K (some y) G'→Kt (some y) G')→exs sup cf body (G.set k (.v x)) Kt):exs sup cf (.mk (.forS k) [s] body [] :: r) G K:=x_forB (P:=P) (fun _ _ _ _ _ h=>h) hs hq h0 done turn
theorem x_forM {s:E} {body:List S} {xs:List V} {ks:List Nat} {P:List V→Gs→Prop} (hs:Val cf G s v) (hq:seqV v=some xs) (h0:P xs G) (done:∀ G,P [] G→exs sup cf r G K)
    (turn:∀ x l G Kt,P (x :: l) G→(∀ G',P l G'→Kt none G')→(∀ y G',noX y=true→K (some y) G'→Kt (some y) G')→okK (setMany ks G x) fun G'=>exs sup cf body G' Kt):exs sup cf (.mk (.forM ks) [s] body [] :: r) G K:=x_forB (P:=P) (fun _ _ _ _ _ h=>h) hs hq h0 done turn
theorem x_all {s:E} {xs:List V} {c:E} {p:V→Bool} {I:Gs→Prop} (hs:Val cf G s v) (hq:seqV v=some xs) (h0:I G) (hI:∀ G x,I G→I (G.set k (.v x))) (hc:∀ G x,I G→x∈xs→Val cf (G.set k (.v x)) c (.bool (!p x))) (hT:xs.all p=true→∀ G,I G→exs sup cf r G K) (hF:xs.all p=false→∀ G,I G→K (some (.bool false)) G) :
    exs sup cf (.mk (.forS k) [s] [.mk .ite [c] [.mk .ret [.nd (.lit (.bool false)) []] [] []] []] [] :: r) G K:=by
  refine x_for (P:=fun l G=>I G∧(∀ x∈l,x∈xs)∧l.all p=xs.all p) hs hq ⟨h0,fun _ m=>m,rfl⟩ (fun G ⟨i,_,e⟩=>hT e.symm G i) fun x l G Kt ⟨i,m,e⟩ nx rt=>?_
  have e:(p x&&l.all p)=xs.all p:=e
  refine x_if (hc G x i (m x (.head _))) (fun q=>x_ret (v:=.bool false) (fun _ h=>h) (rt _ _ rfl (hF ?_ _ (hI G x i)))) fun q=>x_nil (nx _ ⟨hI G x i,fun y z=>m y (.tail _ z),?_⟩)
  · rw [← e,show p x=false by cases h:p x with | false=>rfl | true=>rw [h] at q; (injection q; done)]; rfl
  · rw [← e,show p x=true by cases h:p x with | true=>rfl | false=>rw [h] at q; (injection q; done)]; rfl
end
end Mine
end
noncomputable section
namespace Mine.L02
open PySem
noncomputable def step (cf:CallF):CallF:=fun f args K=>okK (fns[f]?) fun fn=>args.length+(if fn.init=true then 1 else 0)=fn.npar∧exs sup cf fn.body (frame0 fn args) fun fl G=>
  if fn.init=true then (match fl with | none=>okK (ownIO G 0) fun l=>l.length=5∧K (instV l) | some y=>noX y=false∧K y) else K (fl.getD .none)
theorem run {cf:CallF} {f:Nat} {fn:Fn} {args:List V} {K:V→Prop} (hf:fns[f]?=some fn) (hi:fn.init=false) (hl:args.length=fn.npar) (h:exs sup cf fn.body (args.map .v++List.replicate (fn.nslots - fn.npar) .unset) fun fl _=>K (fl.getD .none)):step cf f args K:=by
  unfold step
  rw [hf]
  refine ⟨by rw [hi,if_neg Bool.false_ne_true]; exact hl,?_⟩
  rw [hi,show frame0 fn args=args.map .v++List.replicate (fn.nslots - fn.npar) .unset by unfold frame0; rw [hi]; rfl]
  exact h
theorem sz_of {n:Nat} (h:n≤5000):n≤szLine:=Nat.le_trans h (by decide)
theorem seq_list {l:List V} (h:l.length≤5000):seqV (.list l)=some l:=if_pos (sz_of h)
theorem seq_text {l:List Nat} (h:l.length≤5000):seqV (text l)=some (charsV l):=if_pos (sz_of h)
theorem n_len {l:List V} (h:l.length≤5000):opN .len [.list l]=some (.int l.length):=by
  refine (?_:(seqV (.list l)).map _=_); rw [seq_list h]; rfl
theorem n_lenT {l:List V} (h:l.length≤5000):opN .len [.tuple l]=some (.int l.length):=by
  refine (?_:(fitL l l).map _=_); rw [show fitL l l=some l from if_pos (sz_of h)]; rfl
theorem n_lenS {s:Str} (h:s.cps.toList.length≤5000):opN .len [.str s]=some (.int s.cps.toList.length):=by
  refine (?_:(fitL s.cps.toList (charsV s.cps.toList)).map _=_)
  rw [show fitL s.cps.toList (charsV s.cps.toList)=some (charsV s.cps.toList) from if_pos (sz_of h)]
  refine (?_:some (PyData.int ((s.cps.toList.map _).length:Nat))=_); rw [List.length_map]
theorem c_lt {a b:Int} (h:a < b):cmpOp .Lt (.int a) (.int b)=some true:=congrArg some (decide_eq_true h)
theorem c_nlt {a b:Int} (h:¬ a < b):cmpOp .Lt (.int a) (.int b)=some false:=congrArg some (decide_eq_false h)
theorem c_gt {a b:Int} (h:b < a):cmpOp .Gt (.int a) (.int b)=some true:=congrArg some (decide_eq_true h)
theorem c_ngt {a b:Int} (h:¬ b < a):cmpOp .Gt (.int a) (.int b)=some false:=congrArg some (decide_eq_false h)
theorem c_eq {a b:Int}:cmpOp .Eq (.int a) (.int b)=some (a==b):=rfl
theorem c_ne {a b:Int}:cmpOp .NotEq (.int a) (.int b)=some (!(a==b)):=rfl
theorem item_at {α:Type} {l:List α} {f:α→V} {i:Int} {x:α} (hz:l.length≤5000) (h0:0≤i) (e:l[i.toNat]?=some x):itemO l f (.int i)=some (f x):=by
  refine (?_:(if l.length≤szLine then _ else none)=_)
  rw [if_pos (sz_of hz),if_pos h0,e]; rfl
theorem n_subL {l:List V} {i:Int} {x:V} (hz:l.length≤5000) (h0:0≤i) (e:l[i.toNat]?=some x):opN .sub [.list l,.int i]=some x:=item_at hz h0 e
theorem n_subT {l:List V} {i:Int} {x:V} (hz:l.length≤5000) (h0:0≤i) (e:l[i.toNat]?=some x):opN .sub [.tuple l,.int i]=some x:=item_at hz h0 e
theorem n_subS {l:List Nat} {i:Int} {c:Nat} (hz:l.length≤5000) (h0:0≤i) (e:l[i.toNat]?=some c):opN .sub [text l,.int i]=some (text [c]):=item_at (f:=fun c=>text [c]) hz h0 e
theorem fmod_lo (a:Int) {b:Int} (h:0 < b):0≤a.fmod b:=Int.fmod_nonneg_of_pos a h
theorem fmod_hi (a:Int) {b:Int} (h:0 < b):a.fmod b < b:=Int.fmod_lt_of_pos a h
theorem n_mod {a b:Int} (h:0 < b):opN (.bin .Mod) [.int a,.int b]=some (.int (a.fmod b)):=if_neg (by omega)
theorem n_div {a b:Int} (h:0 < b) (h':b≤1000000):opN (.bin .FloorDiv) [.int a,.int b]=some (.int (a.fdiv b)):=if_neg (by grind)
theorem n_mul {a b:Int} (h:b.natAbs≤1000000∨a.natAbs≤1000000):opN (.bin .Mult) [.int a,.int b]=some (.int (a * b)):=if_pos h
noncomputable def scrV (scr:List Int):V:=.list (scr.map .int)
noncomputable def cellI (scr:List Int) (k:Int):Int:=if k < scr.length then scr.getD k.toNat 0 else 0
noncomputable def S14 (cf:CallF):Prop:=∀ scr k K,scr.length≤63→0≤k→K (.int (cellI scr k))→cf 14 [scrV scr,.int k] K
theorem p14 (cf:CallF):S14 (step cf):=fun scr k K hs h0 h=>by
  refine run (fn:=f14) rfl rfl rfl ?_
  have hl:(scr.map PyData.int).length≤5000:=by rw [List.length_map]; lia
  have hv:Val cf [.v (scrV scr),.v (.int k)] (.nd .len [vv 0]) (.int scr.length):=val_op (.one fun _ h=>h) (by rw [← List.length_map (f:=PyData.int) (as:=scr)]; exact n_len hl)
  by_cases hk:k < scr.length
  · refine x_ifT (val_cmp (fun _ h=>h) hv (c_lt hk)) (x_ret (val_op (.two (fun _ h=>h) fun _ h=>h) (n_subL (x:=.int (cellI scr k)) hl h0 ?_)) h)
    have hk':k.toNat < scr.length:=by lia
    rw [List.getElem?_map,List.getElem?_eq_getElem hk']
    unfold cellI
    rw [if_pos hk,List.getD_eq_getElem?_getD,List.getElem?_eq_getElem hk']; rfl
  · refine x_ifF (val_cmp (fun _ h=>h) hv (c_nlt hk)) (x_ret (v:=.int (cellI scr k)) ?_ h)
    unfold cellI
    rw [if_neg hk]
    exact fun _ h=>h
noncomputable def mixI (c k:Int):Int:=(c * 48271+7919 * k).fmod 1000003
noncomputable def S15 (cf:CallF):Prop:=∀ c k K,K (.int (mixI c k))→cf 15 [.int c,.int k] K
theorem p15 (cf:CallF):S15 (step cf):=fun c k K h=>run (fn:=f15) rfl rfl rfl (x_ret (val_op (.two (val_op (.two (val_op (.two (fun _ h=>h) fun _ h=>h) (n_mul (.inl (by decide)))) (val_op (.two (fun _ h=>h) fun _ h=>h) (n_mul (.inr (by decide))))) rfl) fun _ h=>h) (n_mod (by decide))) h)
noncomputable def vOk (x:V):Bool:=match x with
  | .str s=>PyData.strOk s&&decide (s.cps.toList.length≤1000)
  | .dict kvs=>kvs.isEmpty
  | _=>true
noncomputable def isB (x:V) (t:Nat):Bool:=(isT x t).getD false
theorem val_isi {cf:CallF} {G:Gs} {a:E} {x:V} {t:Nat} (h:Val cf G a x) (hx:vOk x=true):Val cf G (.nd (.isinst t) [a]) (.bool (isB x t)):=val_op (.one h) (by
  refine (?_:(isT x t).map PyData.bool=some (.bool ((isT x t).getD false)))
  cases x with
  | dict kvs=>rw [show isT (.dict kvs) t=some false from if_pos hx]; rfl
  | _=>rfl)
theorem val_isF {cf:CallF} {G:Gs} {a:E} {kvs:List (V×V)} {t:Nat} (h:Val cf G a (.dict kvs)) (hx:kvs.isEmpty=true):Val cf G (.nd (.isinst t) [a]) (.bool false):=val_op (.one h) (by refine (?_:(isT (.dict kvs) t).map _=_); rw [show isT (.dict kvs) t=some false from if_pos hx]; rfl)
noncomputable def low (c:Nat):Bool:=abc.cps.toList.elem c
noncomputable def strL (x:V):List Nat:=match x with
  | .str s=>s.cps.toList
  | _=>[]
noncomputable def alB (x:V):Bool:=match x with
  | .str s=>decide (s.cps.toList.length≤4)&&s.cps.toList.all low
  | _=>false
noncomputable def S0 (cf:CallF):Prop:=∀ x K,vOk x=true→K (.bool (alB x))→cf 0 [x] K
theorem p0 (cf:CallF):S0 (step cf):=fun x K hx h=>by
  refine run (fn:=f0) rfl rfl rfl ?_
  cases x with
  | str s=>
    have hl:s.cps.toList.length≤5000:=Nat.le_trans (of_decide_eq_true ((Bool.and_eq_true _ _).mp hx).2) (by decide)
    refine x_if (t:=decide ((4:Int) < s.cps.toList.length)) (val_or (.go (val_not (t:=true) fun _ h=>h) (.one' (val_cmp (val_op (.one fun _ h=>h) (n_lenS hl)) (fun _ h=>h) rfl)))) (fun q=>x_ret (v:=.bool false) (fun _ h=>h) ?_) fun q=>?_
    · rw [show alB (.str s)=false from (Bool.and_eq_false_iff).mpr (.inl (decide_eq_false (by have:=of_decide_eq_true q; lia)))] at h
      exact h
    · have hle:s.cps.toList.length≤4:=by have:=of_decide_eq_false q; lia
      have e:alB (.str s)=s.cps.toList.all low:=by show (decide _&&_)=_; rw [decide_eq_true hle]; rfl
      rw [e] at h
      have e2:(charsV s.cps.toList).all (fun v=>(strL v).all low)=s.cps.toList.all low:=by
        unfold charsV
        rw [List.all_map]
        exact congrArg (List.all _) (funext fun c=>Bool.and_true _)
      refine x_all (xs:=charsV s.cps.toList) (p:=fun v=>(strL v).all low) (I:=fun G=>∃ t,G=[.v (.str s),t]) (fun _ h=>h) (if_pos (sz_of hl)) ⟨_,rfl⟩ (fun G x ⟨t,e⟩=>⟨.v x,e▸rfl⟩) (fun G x ⟨t,e⟩ m=>?_) (fun q G _=>x_ret (v:=.bool true) (fun _ h=>h) ?_) fun q G _=>?_
      · subst e
        obtain ⟨c,_,rfl⟩:=List.mem_map.mp m
        exact val_cmp (fun _ h=>h) (fun _ h=>h) (congrArg (fun b=>some (!b)) (Bool.and_true _).symm)
      · rw [← e2,q] at h; exact h
      · rw [← e2,q] at h; exact h
  | dict kvs=>exact x_ifT (val_or (.stop (b:=false) (val_not (t:=false) (val_isF (fun _ h=>h) hx)))) (x_ret (v:=.bool false) (fun _ h=>h) h)
  | _=>exact x_ifT (val_or (.stop (b:=false) (val_not (t:=false) fun _ h=>h))) (x_ret (v:=.bool false) (fun _ h=>h) h)
noncomputable def wholeL (l:List V):List Nat:=strL (l.getD 0 .none)++strL (l.getD 1 .none)++strL (l.getD 2 .none)
noncomputable def asB (x:V):Bool:=match x with
  | .tuple l=>(l.length==3)&&(l.all alB&&((ded (wholeL l)).length==(wholeL l).length))
  | _=>false
noncomputable def tOk (x:V):Bool:=match x with
  | .tuple l=>l.all vOk&&decide (l.length≤1000)
  | x=>vOk x
theorem n_setS {s:Str} (hz:s.cps.toList.length≤1000):opN .lenSet [.str s]=some (.int (ded s.cps.toList).length):=by
  have e:setLen (.str s)=some (ded s.cps.toList).length:=if_pos (by rw [← Array.length_toList]; exact Nat.lt_of_le_of_lt hz (by decide))
  refine (?_:(setLen (.str s)).map _=_)
  rw [e]; rfl
theorem n_addS {a b:Str} (h:(a.cps.toList++b.cps.toList).length≤5000):opN (.bin .Add) [.str a,.str b]=some (text (a.cps.toList++b.cps.toList)):=if_pos (sz_of h)
theorem al_str {x:V} (h:alB x=true):∃ s,x=.str s∧s.cps.toList.length≤4:=by
  cases x with
  | str s=>exact ⟨s,rfl,of_decide_eq_true ((Bool.and_eq_true _ _).mp h).1⟩
  | _=>(injection h; done)
noncomputable def S1 (cf:CallF):Prop:=∀ x K,tOk x=true→K (.bool (asB x))→cf 1 [x] K
theorem p1 (cf:CallF) (h0:S0 cf):S1 (step cf):=fun x K hx h=>by
  refine run (fn:=f1) rfl rfl rfl ?_
  cases x with
  | tuple l=>
    obtain ⟨ho,hl⟩:=(Bool.and_eq_true _ _).mp hx
    have hl:l.length≤5000:=Nat.le_trans (of_decide_eq_true hl) (by decide)
    refine x_if (t:=!((l.length:Int)==3)) (val_or (.go (val_not (t:=true) fun _ h=>h) (.one' (val_cmp (val_op (.one fun _ h=>h) (n_lenT hl)) (fun _ h=>h) c_ne)))) (fun q=>x_ret (v:=.bool false) (fun _ h=>h) ?_) fun q=>?_
    · rw [show asB (.tuple l)=false from (Bool.and_eq_false_iff).mpr (.inl (beq_eq_false_iff_ne.mpr fun e=>by rw [e] at q; (injection q; done)))] at h
      exact h
    · obtain ⟨a,b,c,rfl⟩:∃ a b c,l=[a,b,c]:=by
        rcases l with _ | ⟨a,_ | ⟨b,_ | ⟨c,_ | ⟨d,l⟩⟩⟩⟩
        · (injection q; done)
        · (injection q; done)
        · (injection q; done)
        · exact ⟨a,b,c,rfl⟩
        · have:((a :: b :: c :: d :: l).length:Int)=3:=by simpa using q
          rw [List.length_cons,List.length_cons,List.length_cons,List.length_cons] at this
          lia
      refine x_all (xs:=[a,b,c]) (p:=alB) (I:=fun G=>∃ t,G=[.v (.tuple [a,b,c]),t,.unset]) (fun _ h=>h) rfl ⟨_,rfl⟩ (fun G x ⟨t,e⟩=>⟨.v x,e▸rfl⟩) (fun G x ⟨t,e⟩ m=>?_) (fun q G ⟨t,e⟩=>?_) fun q G _=>?_
      · subst e
        exact val_not (val_call (.one fun _ h=>h) fun K h=>h0 x K (List.all_eq_true.mp ho x m) h)
      · subst e
        have q':=List.all_eq_true.mp q
        obtain ⟨s,rfl,l1⟩:=al_str (q' a (.head _))
        obtain ⟨t,rfl,l2⟩:=al_str (q' b (.tail _ (.head _)))
        obtain ⟨u,rfl,l3⟩:=al_str (q' c (.tail _ (.tail _ (.head _))))
        have e1:(s.cps.toList++t.cps.toList).length≤8:=by rw [List.length_append]; lia
        have e2:(s.cps.toList++t.cps.toList++u.cps.toList).length≤12:=by rw [List.length_append]; lia
        have ea:(⟨(s.cps.toList++t.cps.toList).toArray⟩:Str).cps.toList=s.cps.toList++t.cps.toList:=rfl
        refine x_assign (v:=text (s.cps.toList++t.cps.toList++u.cps.toList)) (val_op (.two (val_op (.two (fun _ h=>h) fun _ h=>h) (n_addS (Nat.le_trans e1 (by decide)))) fun _ h=>h) (n_addS (a:=⟨(s.cps.toList++t.cps.toList).toArray⟩) (Nat.le_trans e2 (by decide)))) ?_
        refine x_ret (val_cmp (val_op (.one fun _ h=>h) (n_setS (s:=⟨(s.cps.toList++t.cps.toList++u.cps.toList).toArray⟩) (Nat.le_trans e2 (by decide)))) (val_op (.one fun _ h=>h) (n_lenS (s:=⟨(s.cps.toList++t.cps.toList++u.cps.toList).toArray⟩) (Nat.le_trans e2 (by decide)))) c_eq) ?_
        have e3:asB (.tuple [.str s,.str t,.str u])=(((ded (s.cps.toList++t.cps.toList++u.cps.toList)).length:Int)==((s.cps.toList++t.cps.toList++u.cps.toList).length:Int)):=by
          refine (?_:(true&&(List.all _ alB&&_))=_)
          rw [q,Bool.eq_iff_iff]
          simp [wholeL,strL]
          lia
        rw [e3] at h
        exact h
      · rw [show asB (.tuple [a,b,c])=false from by refine (?_:(true&&(List.all _ alB&&_))=_); rw [q]; rfl] at h
        exact h
  | dict kvs=>exact x_ifT (val_or (.stop (b:=false) (val_not (t:=false) (val_isF (fun _ h=>h) hx)))) (x_ret (v:=.bool false) (fun _ h=>h) h)
  | _=>exact x_ifT (val_or (.stop (b:=false) (val_not (t:=false) fun _ h=>h))) (x_ret (v:=.bool false) (fun _ h=>h) h)
theorem x_raise {cf:CallF} {G:Gs} {K:Option V→Gs→Prop} {c:Nat} {r:List S} (h:K (some (excV c)) G):exs sup cf (.mk (.raise c) [] [] [] :: r) G K:=h
noncomputable def S2 (cf:CallF):Prop:=∀ x K,tOk x=true→(asB x=true→K .none)→(asB x=false→K (excV 1))→cf 2 [x] K
theorem p2 (cf:CallF) (h1:S1 cf):S2 (step cf):=fun x K hx ht hf=>run (fn:=f2) rfl rfl rfl (x_if (val_not (val_call (.one fun _ h=>h) fun K h=>h1 x K hx h)) (fun q=>x_raise (hf (by cases e:asB x with | false=>rfl | true=>rw [e] at q; (injection q; done)))) fun q=>x_nil (ht (by cases e:asB x with | true=>rfl | false=>rw [e] at q; (injection q; done))))
end Mine.L02
end
noncomputable section
namespace Mine.L02
open PySem
theorem strOk_eq (x:Str):PyData.strOk x=x.cps.toList.all (· < 0x110000):=by unfold PyData.strOk; rw [Array.all_toList]
theorem okS {s:Str} (h:PyData.strOk s=true):okEq (.str s)=true:=by
  refine (?_:(PyData.strOk s&&_)=true)
  rw [h]; rfl
theorem c_eqS {s t:Str} (hs:PyData.strOk s=true) (ht:PyData.strOk t=true):cmpOp .Eq (.str s) (.str t)=some (s==t):=if_pos (by rw [okS hs,okS ht]; rfl)
theorem c_neS {s t:Str} (hs:PyData.strOk s=true) (ht:PyData.strOk t=true):cmpOp .NotEq (.str s) (.str t)=some (!(s==t)):=congrArg (Option.map (!·)) (c_eqS hs ht)
theorem ok_on:PyData.strOk kOn=true:=by rw [strOk_eq]; rfl
theorem ok_open:PyData.strOk kOpen=true:=by rw [strOk_eq]; rfl
theorem ok_close:PyData.strOk kClose=true:=by rw [strOk_eq]; rfl
theorem ok_0:PyData.strOk k0=true:=by rw [strOk_eq]; rfl
theorem low_lt {c:Nat} (h:low c=true):c < 0x110000:=by
  have:∀ x∈abc.cps.toList,x < 0x110000:=by decide
  exact this c (List.elem_iff.mp h)
theorem ok_text {l:List Nat} (h:∀ c∈l,low c=true):PyData.strOk ⟨l.toArray⟩=true:=by
  rw [strOk_eq]
  exact List.all_eq_true.mpr fun c m=>decide_eq_true (low_lt (h c m))
theorem not_t {b:Bool} (h:(!b)=true):b=false:=by cases b with | false=>rfl | true=>(injection h; done)
theorem not_f {b:Bool} (h:(!b)=false):b=true:=by cases b with | true=>rfl | false=>(injection h; done)
noncomputable def sg (a b c:List Nat):V:=.tuple [text a,text b,text c]
noncomputable def kindS (a b c:List Nat) (x:Nat):Str:=if a.elem x=true then kOpen else if b.elem x=true then kClose else if c.elem x=true then kOn else k0
noncomputable def kdV (a b c:List Nat) (x:V):Str:=match x with
  | .str t=>(match t.cps.toList with | [d]=>kindS a b c d | _=>k0)
  | _=>k0
theorem kind_ok (a b c:List Nat) (x:Nat):PyData.strOk (kindS a b c x)=true:=by
  unfold kindS
  split
  · exact ok_open
  split
  · exact ok_close
  split
  · exact ok_on
  · exact ok_0
theorem kd_ok (a b c:List Nat) (x:V):PyData.strOk (kdV a b c x)=true:=by
  unfold kdV
  split
  · split
    · exact kind_ok ..
    · exact ok_0
  · exact ok_0
theorem c_in {c:Nat} {l:List Nat}:cmpOp .In (text [c]) (text l)=some (l.elem c):=rfl
noncomputable def S3 (cf:CallF):Prop:=∀ a b c x K,vOk x=true→K (.str (kdV a b c x))→cf 3 [sg a b c,x] K
set_option tactic.hygienic true in
theorem p3 (cf:CallF):S3 (step cf):=fun a b c v K hv h=>by
  refine run (fn:=f3) rfl rfl rfl ?_
  cases v with
  | str t=>
    have hl:t.cps.toList.length≤5000:=Nat.le_trans (of_decide_eq_true ((Bool.and_eq_true _ _).mp hv).2) (by decide)
    refine x_if (t:=!((t.cps.toList.length:Int)==1)) (val_or (.go (val_not (t:=true) fun _ h=>h) (.one' (val_cmp (val_op (.one fun _ h=>h) (n_lenS hl)) (fun _ h=>h) c_ne)))) (fun q=>x_ret (v:=.str k0) (fun _ h=>h) ?_) fun q=>?_
    · rw [show kdV a b c (.str t)=k0 from by
        refine (?_:(match t.cps.toList with | [d]=>kindS a b c d | _=>k0)=k0)
        split
        · rename_i d e; replace q:=e▸q; (injection q; done)
        · rfl] at h
      exact h
    obtain ⟨x,rfl⟩:∃ x,t=⟨[x].toArray⟩:=by
      obtain ⟨⟨l⟩⟩:=t
      rcases l with _ | ⟨x,_ | ⟨y,l⟩⟩
      · (injection q; done)
      · exact ⟨x,rfl⟩
      · have:(((⟨⟨x :: y :: l⟩⟩:Str).cps.toList.length:Nat):Int)=1:=by simpa using q
        have:((x :: y :: l).length:Int)=1:=this
        rw [List.length_cons,List.length_cons] at this
        lia
    have h:K (.str (kindS a b c x)):=h
    refine x_forM (xs:=[.tuple [text a,.str kOpen],.tuple [text b,.str kClose],.tuple [text c,.str kOn]]) (v:=.list [.tuple [text a,.str kOpen],.tuple [text b,.str kClose],.tuple [text c,.str kOn]])
      (P:=fun xs G=>(xs=[.tuple [text a,.str kOpen],.tuple [text b,.str kClose],.tuple [text c,.str kOn]]∨(a.elem x=false∧xs=[.tuple [text b,.str kClose],.tuple [text c,.str kOn]])∨(a.elem x=false∧b.elem x=false∧xs=[.tuple [text c,.str kOn]])∨(a.elem x=false∧b.elem x=false∧c.elem x=false∧xs=[]))∧∃ s t,G=[.v (sg a b c),.v (text [x]),s,t])
      (fun _ h=>h) rfl ⟨.inl rfl,_,_,rfl⟩ (fun G ⟨q,s,t,e⟩=>?_) fun y l' G Kt ⟨q,s,t,e⟩ nx rt=>?_
    · subst e
      rcases q with q | ⟨_,q⟩ | ⟨_,_,q⟩ | ⟨h1,h2,h3,_⟩
      · (injection q; done)
      · (injection q; done)
      · (injection q; done)
      · refine x_ret (fun _ h=>h) ?_
        unfold kindS at h
        replace h:=h3▸h2▸h1▸h
        exact h
    · subst e
      have go:∀ (l:List Nat) (k:Str),(l.elem x=true→K (.str k))→(l.elem x=false→Kt none [.v (sg a b c),.v (text [x]),.v (text l),.v (.str k)])→exs sup cf f3c0 [.v (sg a b c),.v (text [x]),.v (text l),.v (.str k)] Kt:=fun l k h1 h2=>
        x_if (val_cmp (fun _ h=>h) (fun _ h=>h) c_in) (fun q=>x_ret (fun _ h=>h) (rt _ _ rfl (h1 q))) fun q=>x_nil (h2 q)
      unfold kindS at h
      rcases q with q | ⟨h1,q⟩ | ⟨h1,h2,q⟩ | ⟨_,_,_,q⟩
      · cases q
        exact go a kOpen (fun q=>by rw [if_pos q] at h; exact h) fun q=>nx _ ⟨.inr (.inl ⟨q,rfl⟩),_,_,rfl⟩
      · cases q
        exact go b kClose (fun q=>by rw [h1,if_neg Bool.false_ne_true,if_pos q] at h; exact h) fun q=>nx _ ⟨.inr (.inr (.inl ⟨h1,q,rfl⟩)),_,_,rfl⟩
      · cases q
        exact go c kOn (fun q=>by rw [h1,h2,if_neg Bool.false_ne_true,if_neg Bool.false_ne_true,if_pos q] at h; exact h) fun q=>nx _ ⟨.inr (.inr (.inr ⟨h1,h2,q,rfl⟩)),_,_,rfl⟩
      · (injection q; done)
  | dict kvs=>exact x_ifT (val_or (.stop (b:=false) (val_not (t:=false) (val_isF (fun _ h=>h) hv)))) (x_ret (v:=.str k0) (fun _ h=>h) h)
  | _=>exact x_ifT (val_or (.stop (b:=false) (val_not (t:=false) fun _ h=>h))) (x_ret (v:=.str k0) (fun _ h=>h) h)
noncomputable def rmB (R:Int) (x:V):Bool:=match x with
  | .int i=>decide (0≤i)&&decide (i < R)
  | _=>false
noncomputable def S4 (cf:CallF):Prop:=∀ x R K,vOk x=true→K (.bool (rmB R x))→cf 4 [x,.int R] K
theorem p4 (cf:CallF):S4 (step cf):=fun x R K hx h=>by
  refine run (fn:=f4) rfl rfl rfl ?_
  cases x with
  | int i=>
    refine x_ret (v:=.bool (rmB R (.int i))) (val_and (.go (fun _ h=>h) (.go (val_not (t:=false) fun _ h=>h) (.one fun K h=>?_)))) h
    refine (?_:if decide (0≤i)=true then K (.bool (decide (i < R))) else K (.bool false))
    have h:K (.bool (decide (0≤i)&&decide (i < R))):=h
    cases e:decide (0≤i) with
    | true=>rw [e] at h; exact h
    | false=>rw [e] at h; exact h
  | bool b=>exact x_ret (v:=.bool false) (val_and (.go (fun _ h=>h) (.stop (b:=true) (val_not (t:=true) fun _ h=>h)))) h
  | dict kvs=>exact x_ret (v:=.bool false) (val_and (.stop (b:=true) (val_isF (fun _ h=>h) hx))) h
  | _=>exact x_ret (v:=.bool false) (val_and (.stop (b:=true) fun _ h=>h)) h
theorem tv {x:V} (h:tOk x=true):vOk x=true:=by
  cases x with
  | tuple l=>rfl
  | _=>exact h
noncomputable def lOk (x:V):Bool:=match x with
  | .list l=>decide (l.length≤4001)&&l.all tOk
  | x=>vOk x
noncomputable def intV (x:V):Int:=match x with
  | .int i=>i
  | _=>0
theorem ints_rm {R:Int}:∀ {l:List V},l.all (rmB R)=true→intsL l=some (l.map intV)
  | [],_=>rfl
  | x :: r,h=>by
    obtain ⟨h1,h2⟩:=(Bool.and_eq_true _ _).mp h
    cases x with
    | int i=>unfold intsL; rw [List.mapM_cons]; refine (?_:(intsL r).bind _=_); rw [ints_rm h2]; rfl
    | _=>(injection h1; done)
noncomputable def arB (R:Int) (x:V):Bool:=match x with
  | .list l=>l.all (rmB R)&&((ded (l.map intV)).length==l.length)
  | _=>false
noncomputable def S5 (cf:CallF):Prop:=∀ x R K,lOk x=true→(∀ l,x=.list l→l.length≤1000)→K (.bool (arB R x))→cf 5 [x,.int R] K
theorem p5 (cf:CallF) (h4:S4 cf):S5 (step cf):=fun x R K hx hz h=>by
  refine run (fn:=f5) rfl rfl rfl ?_
  cases x with
  | list l=>
    have hl:=hz l rfl
    have hl':l.length≤5000:=Nat.le_trans hl (by decide)
    have ho:=List.all_eq_true.mp ((Bool.and_eq_true _ _).mp hx).2
    refine x_ifF (val_not (t:=true) fun _ h=>h) (x_all (xs:=l) (p:=rmB R) (I:=fun G=>∃ t,G=[.v (.list l),.v (.int R),t]) (fun _ h=>h) (seq_list hl') ⟨_,rfl⟩ (fun G x ⟨t,e⟩=>⟨.v x,e▸rfl⟩) (fun G x ⟨t,e⟩ m=>?_) (fun q G ⟨t,e⟩=>?_) fun q G _=>?_)
    · subst e
      exact val_not (val_call (.two (fun _ h=>h) fun _ h=>h) fun K h=>h4 x R K (tv (ho x m)) h)
    · subst e
      have e1:opN .lenSet [.list l]=some (.int (ded (l.map intV)).length):=by
        have e:setLen (.list l)=some (ded (l.map intV)).length:=by
          refine (?_:(intsL l).bind _=_)
          rw [ints_rm q]
          exact if_pos (by rw [List.length_map]; omega)
        refine (?_:(setLen (.list l)).map _=_)
        rw [e]; rfl
      refine x_ret (val_cmp (val_op (.one fun _ h=>h) e1) (val_op (.one fun _ h=>h) (n_len hl')) c_eq) ?_
      rw [show arB R (.list l)=(((ded (l.map intV)).length:Int)==(l.length:Int)) from by refine (?_:(l.all (rmB R)&&_)=_); rw [q,Bool.eq_iff_iff,Bool.true_and,beq_iff_eq,beq_iff_eq]; omega] at h
      exact h
    · rw [show arB R (.list l)=false from by refine (?_:(l.all (rmB R)&&_)=_); rw [q]; rfl] at h
      exact h
  | dict kvs=>exact x_ifT (val_not (t:=false) (val_isF (fun _ h=>h) hx)) (x_ret (v:=.bool false) (fun _ h=>h) h)
  | _=>exact x_ifT (val_not (t:=false) fun _ h=>h) (x_ret (v:=.bool false) (fun _ h=>h) h)
noncomputable def strB (k:Str) (x:V):Bool:=match x with
  | .str t=>t==k
  | _=>false
noncomputable def wyB (s0 s1 s2:List Nat) (R:Int) (x:V):Bool:=match x with
  | .tuple [a,b,c,d]=>rmB R b&&(strB kOn a&&((kdV s0 s1 s2 c==kOn)&&rmB R d))
  | .tuple [a,b,c,d,e]=>rmB R b&&(rmB R e&&((strB kOpen a&&((kdV s0 s1 s2 c==kOpen)&&rmB R d))||(strB kClose a&&(rmB R c&&(kdV s0 s1 s2 d==kClose)))))
  | _=>false
noncomputable def S6 (cf:CallF):Prop:=∀ s0 s1 s2 R x K,tOk x=true→K (.bool (wyB s0 s1 s2 R x))→cf 6 [x,sg s0 s1 s2,.int R] K
theorem isS {x:V} (h:isB x 0=true) (hx:vOk x=true):∃ t,x=.str t∧PyData.strOk t=true:=by
  cases x with
  | str t=>exact ⟨t,rfl,((Bool.and_eq_true _ _).mp hx).1⟩
  | dict kvs=>replace h:=((by unfold isB; rw [show isT (.dict kvs) 0=some false from if_pos hx]; rfl):isB (.dict kvs) 0=false)▸h; (injection h; done)
  | _=>(injection h; done)
theorem isS_no {x:V} {k:Str} (h:isB x 0=false):strB k x=false:=by
  cases x with
  | str t=>(injection h; done)
  | _=>rfl
theorem p6 (cf:CallF) (h3:S3 cf) (h4:S4 cf):S6 (step cf):=fun s0 s1 s2 R x K hx h=>by
  have r4:∀ {G a b x},Val cf G a x→Val cf G b (.int R)→vOk x=true→Val cf G (.nd (.call 4) [a,b]) (.bool (rmB R x)):=fun ha hb hx=>val_call (.two ha hb) fun K h=>h4 _ R K hx h
  have r3:∀ {G a b x k},Val cf G a (sg s0 s1 s2)→Val cf G b x→vOk x=true→PyData.strOk k=true→Val cf G (.nd (.cmp .Eq) [.nd (.call 3) [a,b],ss k]) (.bool (kdV s0 s1 s2 x==k)):=fun {G a b x k} ha hb hx hs=>val_cmp (val_call (.two ha hb) fun K h=>h3 s0 s1 s2 x K hx h) (fun _ h=>h) (c_eqS (kd_ok ..) hs)
  refine run (fn:=f6) rfl rfl rfl ?_
  cases x with
  | tuple l=>
    obtain ⟨ho,hl⟩:=(Bool.and_eq_true _ _).mp hx
    have ho:=List.all_eq_true.mp ho
    have hl:l.length≤5000:=Nat.le_trans (of_decide_eq_true hl) (by decide)
    rcases l with _ | ⟨a,_ | ⟨b,_ | ⟨c,_ | ⟨d,r⟩⟩⟩⟩
    · exact x_ifT (val_or (.go (val_not (t:=true) fun _ h=>h) (.stop (b:=false) fun _ h=>h))) (x_ret (v:=.bool false) (fun _ h=>h) h)
    · exact x_ifT (val_or (.go (val_not (t:=true) fun _ h=>h) (.stop (b:=false) fun _ h=>h))) (x_ret (v:=.bool false) (fun _ h=>h) h)
    · exact x_ifT (val_or (.go (val_not (t:=true) fun _ h=>h) (.stop (b:=false) fun _ h=>h))) (x_ret (v:=.bool false) (fun _ h=>h) h)
    · exact x_ifT (val_or (.go (val_not (t:=true) fun _ h=>h) (.stop (b:=false) fun _ h=>h))) (x_ret (v:=.bool false) (fun _ h=>h) h)
    have oa:=ho a (.head _)
    have ob:=ho b (.tail _ (.head _))
    have oc:=ho c (.tail _ (.tail _ (.head _)))
    have od:=ho d (.tail _ (.tail _ (.tail _ (.head _))))
    have i0:Val cf [.v (.tuple (a :: b :: c :: d :: r)),.v (sg s0 s1 s2),.v (.int R)] (.nd .sub [vv 0,ii 0]) a:=val_op (.two (fun _ h=>h) fun _ h=>h) (n_subT hl (by decide) rfl)
    have i1:Val cf [.v (.tuple (a :: b :: c :: d :: r)),.v (sg s0 s1 s2),.v (.int R)] (.nd .sub [vv 0,ii 1]) b:=val_op (.two (fun _ h=>h) fun _ h=>h) (n_subT hl (by decide) rfl)
    have i2:Val cf [.v (.tuple (a :: b :: c :: d :: r)),.v (sg s0 s1 s2),.v (.int R)] (.nd .sub [vv 0,ii 2]) c:=val_op (.two (fun _ h=>h) fun _ h=>h) (n_subT hl (by decide) rfl)
    have i3:Val cf [.v (.tuple (a :: b :: c :: d :: r)),.v (sg s0 s1 s2),.v (.int R)] (.nd .sub [vv 0,ii 3]) d:=val_op (.two (fun _ h=>h) fun _ h=>h) (n_subT hl (by decide) rfl)
    have ln:Val cf [.v (.tuple (a :: b :: c :: d :: r)),.v (sg s0 s1 s2),.v (.int R)] (.nd .len [vv 0]) (.int (a :: b :: c :: d :: r).length):=val_op (.one fun _ h=>h) (n_lenT hl)
    have no:∀ {q:Bool},(wyB s0 s1 s2 R (.tuple (a :: b :: c :: d :: r))=false)→K (.bool false):=fun e=>by rw [e] at h; exact h
    refine x_if (t:=!rmB R b) (val_or (.go (val_not (t:=true) fun _ h=>h) (.go (val_cmp ln (fun _ h=>h) (c_nlt (by rw [List.length_cons,List.length_cons,List.length_cons,List.length_cons]; lia))) (.one' (val_not (r4 i1 (fun _ h=>h) ob)))))) (fun q=>x_ret (v:=.bool false) (fun _ h=>h) (no (q:=true) ?_)) fun q=>?_
    · have q:=not_t q
      rcases r with _ | ⟨e,_ | ⟨f,r⟩⟩
      · refine (?_:(rmB R b&&_)=false); rw [q]; rfl
      · refine (?_:(rmB R b&&_)=false); rw [q]; rfl
      · rfl
    have hb:=not_f q
    refine x_if (t:=!isB a 0) (val_not (val_isi i0 oa)) (fun q=>x_ret (v:=.bool false) (fun _ h=>h) (no (q:=true) ?_)) fun q=>?_
    · have q:=not_t q
      rcases r with _ | ⟨e,_ | ⟨f,r⟩⟩
      · refine (?_:(rmB R b&&(strB kOn a&&_))=false); rw [isS_no q,Bool.false_and,Bool.and_false]
      · refine (?_:(rmB R b&&(_&&((strB kOpen a&&_)||(strB kClose a&&_))))=false); rw [isS_no q,isS_no q,Bool.false_and,Bool.false_and,Bool.or_false,Bool.and_false,Bool.and_false]
      · rfl
    obtain ⟨t,rfl,st⟩:=isS (not_f q) oa
    refine x_if (t:=t==kOn) (val_cmp i0 (fun _ h=>h) (c_eqS st ok_on)) (fun q=>?_) fun q=>?_
    · obtain rfl:=eq_of_beq q
      rcases r with _ | ⟨e,r⟩
      · refine x_ret (val_and (.go (fun _ h=>h) (.and (r3 (fun _ h=>h) i2 oc ok_on) fun _=>.one (r4 i3 (fun _ h=>h) od)))) ?_
        rw [show wyB s0 s1 s2 R (.tuple [.str kOn,b,c,d])=((kdV s0 s1 s2 c==kOn)&&rmB R d) from by refine (?_:(rmB R b&&(kOn==kOn&&_))=_); rw [hb,beq_self_eq_true]; rfl] at h
        exact h
      · refine x_ret (v:=.bool false) (val_and (.stop (b:=true) (val_cmp ln (fun _ h=>h) (c_eq.trans (congrArg some (beq_eq_false_iff_ne.mpr (by rw [List.length_cons,List.length_cons,List.length_cons,List.length_cons,List.length_cons]; lia))))))) (no (q:=true) ?_)
        rcases r with _ | ⟨f,r⟩
        · refine (?_:(rmB R b&&(_&&((kOn==kOpen&&_)||(kOn==kClose&&_))))=false); rw [show (kOn==kOpen)=false by decide,show (kOn==kClose)=false by decide,Bool.false_and,Bool.false_and,Bool.or_false,Bool.and_false,Bool.and_false]
        · rfl
    · rcases r with _ | ⟨e,_ | ⟨f,r⟩⟩
      · refine x_ifT (val_or (.stop (b:=false) fun _ h=>h)) (x_ret (v:=.bool false) (fun _ h=>h) (no (q:=true) ?_))
        refine (?_:(rmB R b&&((t==kOn)&&_))=false); rw [q,Bool.false_and,Bool.and_false]
      · have oe:=ho e (.tail _ (.tail _ (.tail _ (.tail _ (.head _)))))
        refine x_if (t:=!rmB R e) (val_or (.go (fun _ h=>h) (.one' (val_not (r4 (fun _ h=>h) (fun _ h=>h) oe))))) (fun q=>x_ret (v:=.bool false) (fun _ h=>h) (no (q:=true) ?_)) fun q=>?_
        · refine (?_:(rmB R b&&(rmB R e&&_))=false); rw [not_t q,Bool.false_and,Bool.and_false]
        have w:wyB s0 s1 s2 R (.tuple [.str t,b,c,d,e])=(((t==kOpen)&&((kdV s0 s1 s2 c==kOpen)&&rmB R d))||((t==kClose)&&(rmB R c&&(kdV s0 s1 s2 d==kClose)))):=by refine (?_:(rmB R b&&(rmB R e&&_))=_); rw [hb,not_f q,Bool.true_and,Bool.true_and]; rfl
        rw [w] at h
        refine x_if (t:=t==kOpen) (val_cmp i0 (fun _ h=>h) (c_eqS st ok_open)) (fun q=>x_ret (val_and (.and (r3 (fun _ h=>h) i2 oc ok_open) fun _=>.one (r4 i3 (fun _ h=>h) od))) ?_) fun q=>x_ret (val_and (.and (val_cmp i0 (fun _ h=>h) (c_eqS st ok_close)) fun _=>.and (r4 i2 (fun _ h=>h) oc) fun _=>.one (r3 (fun _ h=>h) i3 od ok_close))) ?_
        · rw [q,eq_of_beq q,show (kOpen==kClose)=false by decide,Bool.false_and,Bool.or_false,Bool.true_and] at h; exact h
        · rw [q,Bool.false_and,Bool.false_or] at h; exact h
      · refine x_ifT (val_or (.stop (b:=false) (val_cmp ln (fun _ h=>h) (c_ne.trans (congrArg (fun b=>some (!b)) (beq_eq_false_iff_ne.mpr (by rw [List.length_cons,List.length_cons,List.length_cons,List.length_cons,List.length_cons,List.length_cons]; lia))))))) (x_ret (v:=.bool false) (fun _ h=>h) (no (q:=true) rfl))
  | dict kvs=>exact x_ifT (val_or (.stop (b:=false) (val_not (t:=false) (val_isF (fun _ h=>h) hx)))) (x_ret (v:=.bool false) (fun _ h=>h) h)
  | _=>exact x_ifT (val_or (.stop (b:=false) (val_not (t:=false) fun _ h=>h))) (x_ret (v:=.bool false) (fun _ h=>h) h)
noncomputable def awB (s0 s1 s2:List Nat) (R:Int) (x:V):Bool:=match x with
  | .list l=>decide (l.length≤4000)&&l.all (wyB s0 s1 s2 R)
  | _=>false
noncomputable def S7 (cf:CallF):Prop:=∀ s0 s1 s2 R x K,lOk x=true→K (.bool (awB s0 s1 s2 R x))→cf 7 [x,sg s0 s1 s2,.int R] K
theorem p7 (cf:CallF) (h6:S6 cf):S7 (step cf):=fun s0 s1 s2 R x K hx h=>by
  refine run (fn:=f7) rfl rfl rfl ?_
  cases x with
  | list l=>
    obtain ⟨hl,ho⟩:=(Bool.and_eq_true _ _).mp hx
    have hl:l.length≤5000:=Nat.le_trans (of_decide_eq_true hl) (by decide)
    have ho:=List.all_eq_true.mp ho
    refine x_if (t:=decide ((4000:Int) < l.length)) (val_or (.go (val_not (t:=true) fun _ h=>h) (.one' (val_cmp (val_op (.one fun _ h=>h) (n_len hl)) (fun _ h=>h) rfl)))) (fun q=>x_ret (v:=.bool false) (fun _ h=>h) ?_) fun q=>?_
    · rw [show awB s0 s1 s2 R (.list l)=false from (Bool.and_eq_false_iff).mpr (.inl (decide_eq_false (by have:=of_decide_eq_true q; omega)))] at h
      exact h
    · have e:awB s0 s1 s2 R (.list l)=l.all (wyB s0 s1 s2 R):=by show (decide _&&_)=_; rw [decide_eq_true (by have:=of_decide_eq_false q; omega)]; rfl
      rw [e] at h
      refine x_all (xs:=l) (p:=wyB s0 s1 s2 R) (I:=fun G=>∃ t,G=[.v (.list l),.v (sg s0 s1 s2),.v (.int R),t]) (fun _ h=>h) (seq_list hl) ⟨_,rfl⟩ (fun G x ⟨t,e⟩=>⟨.v x,e▸rfl⟩) (fun G x ⟨t,e⟩ m=>?_) (fun q G _=>x_ret (v:=.bool true) (fun _ h=>h) (q▸h)) fun q G _=>q▸h
      subst e
      exact val_not (val_call (.cons (fun _ h=>h) (.two (fun _ h=>h) fun _ h=>h)) fun K h=>h6 s0 s1 s2 R x K (ho x m) h)
  | dict kvs=>exact x_ifT (val_or (.stop (b:=false) (val_not (t:=false) (val_isF (fun _ h=>h) hx)))) (x_ret (v:=.bool false) (fun _ h=>h) h)
  | _=>exact x_ifT (val_or (.stop (b:=false) (val_not (t:=false) fun _ h=>h))) (x_ret (v:=.bool false) (fun _ h=>h) h)
end Mine.L02
end
noncomputable section
namespace Mine.L02
open PySem
theorem ded_go {α:Type} [DecidableEq α]:∀ (l a:List α),(l.foldl (fun a x=>if x∈a then a else a++[x]) a).length≤a.length+l.length∧((l.foldl (fun a x=>if x∈a then a else a++[x]) a).length=a.length+l.length ↔ l.Nodup∧∀ x∈l,x∉a)
  | [],a=>⟨Nat.le_refl _,fun _=>⟨List.nodup_nil,fun _ m=>nomatch m⟩,fun _=>rfl⟩
  | x :: l,a=>by
    rw [List.foldl_cons,List.length_cons]
    by_cases h:x∈a
    · rw [if_pos h]
      obtain ⟨h1,_⟩:=ded_go l a
      exact ⟨by lia,fun e=>by lia,fun e=>absurd h (e.2 x (.head _))⟩
    · rw [if_neg h]
      obtain ⟨h1,h2⟩:=ded_go l (a++[x])
      rw [List.length_append,List.length_singleton] at h1 h2
      refine ⟨by lia,?_⟩
      rw [show a.length+(l.length+1)=a.length+1+l.length by lia,h2,List.nodup_cons]
      exact ⟨fun e=>⟨⟨fun m=>e.2 x m (List.mem_append_right _ (.head _)),e.1⟩,fun y m=>by
        rcases List.mem_cons.mp m with rfl | m
        · exact h
        · exact fun q=>e.2 y m (List.mem_append_left _ q)⟩,fun e=>⟨e.1.2,fun y m q=>by
        rcases List.mem_append.mp q with q | q
        · exact e.2 y (.tail _ m) q
        · exact e.1.1 (List.mem_singleton.mp q▸m)⟩⟩
theorem ded_len {α:Type} [DecidableEq α] (l:List α):((ded l).length==l.length)=decide l.Nodup:=by
  have h:=(ded_go l []).2
  rw [List.length_nil,Nat.zero_add] at h
  rw [Bool.eq_iff_iff,beq_iff_eq,decide_eq_true_iff]
  exact ⟨fun e=>(h.mp e).1,fun e=>h.mpr ⟨e,fun _ _ q=>nomatch q⟩⟩
structure SgOk (a b c:List Nat):Prop where
  la:a.length≤4
  lb:b.length≤4
  lc:c.length≤4
  lows:∀ x∈a++b++c,low x=true
  nodup:(a++b++c).Nodup
section
variable {a b c:List Nat} {x:Nat} (ok:SgOk a b c)
include ok
theorem SgOk.inC (h:x∈c):x∉a∧x∉b:=by
  have:=(List.nodup_append.mp ok.nodup).2.2
  exact ⟨fun q=>this x (List.mem_append_left _ q) x h rfl,fun q=>this x (List.mem_append_right _ q) x h rfl⟩
theorem SgOk.inB (h:x∈b):x∉a:=fun q=>(List.nodup_append.mp (List.nodup_append.mp ok.nodup).1).2.2 x q x h rfl
theorem kind_op (h:x∈a):kindS a b c x=kOpen:=if_pos (List.elem_iff.mpr h)
theorem kind_cl (h:x∈b):kindS a b c x=kClose:=(if_neg fun q=>ok.inB h (List.elem_iff.mp q)).trans (if_pos (List.elem_iff.mpr h))
theorem kind_on (h:x∈c):kindS a b c x=kOn:=(if_neg fun q=>(ok.inC h).1 (List.elem_iff.mp q)).trans ((if_neg fun q=>(ok.inC h).2 (List.elem_iff.mp q)).trans (if_pos (List.elem_iff.mpr h)))
theorem SgOk.lowA (h:x∈a):low x=true:=ok.lows x (List.mem_append_left _ (List.mem_append_left _ h))
theorem SgOk.lowB (h:x∈b):low x=true:=ok.lows x (List.mem_append_left _ (List.mem_append_right _ h))
theorem SgOk.lowC (h:x∈c):low x=true:=ok.lows x (List.mem_append_right _ h)
theorem text_al {l:List Nat} (hl:l.length≤4) (h:∀ x∈l,low x=true):alB (text l)=true∧vOk (text l)=true:=
  ⟨(Bool.and_eq_true _ _).mpr ⟨decide_eq_true hl,List.all_eq_true.mpr h⟩,(Bool.and_eq_true _ _).mpr ⟨ok_text h,decide_eq_true (Nat.le_trans hl (by decide))⟩⟩
theorem sg_as:asB (sg a b c)=true∧tOk (sg a b c)=true:=by
  have ea:=text_al ok ok.la fun x m=>ok.lowA m
  have eb:=text_al ok ok.lb fun x m=>ok.lowB m
  have ec:=text_al ok ok.lc fun x m=>ok.lowC m
  constructor
  · refine (?_:(true&&((alB (text a)&&(alB (text b)&&(alB (text c)&&true)))&&((ded (a++b++c)).length==(a++b++c).length)))=true)
    rw [ea.1,eb.1,ec.1,ded_len,decide_eq_true ok.nodup]; rfl
  · refine (?_:((vOk (text a)&&(vOk (text b)&&(vOk (text c)&&true)))&&true)=true)
    rw [ea.2,eb.2,ec.2]; rfl
end
noncomputable def In (R i:Int):Prop:=0≤i∧i < R
theorem rm_in {R i:Int} (h:In R i):rmB R (.int i)=true:=(Bool.and_eq_true _ _).mpr ⟨decide_eq_true h.1,decide_eq_true h.2⟩
inductive W where
  | on (a:Int) (c:Nat) (b:Int)
  | op (a:Int) (c:Nat) (b t:Int)
  | cl (a b:Int) (c:Nat) (t:Int)
noncomputable def W.l:W→List V
  | .on a c b=>[.str kOn,.int a,text [c],.int b]
  | .op a c b t=>[.str kOpen,.int a,text [c],.int b,.int t]
  | .cl a b c t=>[.str kClose,.int a,.int b,text [c],.int t]
noncomputable def W.v (w:W):V:=.tuple w.l
noncomputable def W.ok (s0 s1 s2:List Nat) (R:Int):W→Prop
  | .on a c b=>In R a∧c∈s2∧In R b
  | .op a c b t=>In R a∧c∈s0∧In R b∧In R t
  | .cl a b c t=>In R a∧In R b∧c∈s1∧In R t
section
variable {s0 s1 s2:List Nat} {R:Int} {w:W} (sk:SgOk s0 s1 s2) (ok:W.ok s0 s1 s2 R w)
include sk ok
theorem w_scalar:∀ x∈w.l,scalar x=true∧vOk x=true:=by
  have k:∀ {s:Str},PyData.strOk s=true→s.cps.toList.length≤1000→scalar (.str s)=true∧vOk (.str s)=true:=fun h h'=>⟨h,(Bool.and_eq_true _ _).mpr ⟨h,decide_eq_true h'⟩⟩
  have t:∀ {c:Nat},low c=true→scalar (text [c])=true∧vOk (text [c])=true:=fun {c} h=>k (ok_text (l:=[c]) fun x m=>by obtain rfl:=List.mem_singleton.mp m; exact h) (by refine (?_:1≤1000); decide)
  have i:∀ {i:Int},scalar (.int i)=true∧vOk (.int i)=true:=⟨rfl,rfl⟩
  have n:∀ x∈([]:List V),scalar x=true∧vOk x=true:=fun _ m=>nomatch m
  cases w with
  | on a c b=>exact List.forall_mem_cons.mpr ⟨k ok_on (by decide),List.forall_mem_cons.mpr ⟨i,List.forall_mem_cons.mpr ⟨t (sk.lowC ok.2.1),List.forall_mem_cons.mpr ⟨i,n⟩⟩⟩⟩
  | op a c b t'=>exact List.forall_mem_cons.mpr ⟨k ok_open (by decide),List.forall_mem_cons.mpr ⟨i,List.forall_mem_cons.mpr ⟨t (sk.lowA ok.2.1),List.forall_mem_cons.mpr ⟨i,List.forall_mem_cons.mpr ⟨i,n⟩⟩⟩⟩⟩
  | cl a b c t'=>exact List.forall_mem_cons.mpr ⟨k ok_close (by decide),List.forall_mem_cons.mpr ⟨i,List.forall_mem_cons.mpr ⟨i,List.forall_mem_cons.mpr ⟨t (sk.lowB ok.2.2.1),List.forall_mem_cons.mpr ⟨i,n⟩⟩⟩⟩⟩
theorem w_tOk:tOk w.v=true:=(Bool.and_eq_true _ _).mpr ⟨List.all_eq_true.mpr fun x m=>(w_scalar sk ok x m).2,by cases w <;> rfl⟩
theorem w_wy:wyB s0 s1 s2 R w.v=true:=by
  cases w with
  | on a c b=>
    refine (?_:(rmB R (.int a)&&(kOn==kOn&&((kindS s0 s1 s2 c==kOn)&&rmB R (.int b))))=true)
    rw [rm_in ok.1,rm_in ok.2.2,kind_on sk ok.2.1,beq_self_eq_true]; rfl
  | op a c b t=>
    refine (?_:(rmB R (.int a)&&(rmB R (.int t)&&((kOpen==kOpen&&((kindS s0 s1 s2 c==kOpen)&&rmB R (.int b)))||_)))=true)
    rw [rm_in ok.1,rm_in ok.2.2.1,rm_in ok.2.2.2,kind_op sk ok.2.1,beq_self_eq_true]; rfl
  | cl a b c t=>
    refine (?_:(rmB R (.int a)&&(rmB R (.int t)&&((kClose==kOpen&&_)||(kClose==kClose&&(rmB R (.int b)&&(kindS s0 s1 s2 c==kClose))))))=true)
    rw [rm_in ok.1,rm_in ok.2.1,rm_in ok.2.2.2,kind_cl sk ok.2.2.1,beq_self_eq_true,show (kClose==kOpen)=false by decide]; rfl
end
noncomputable def waysV (ws:List W):V:=.list (ws.map W.v)
theorem aw_true {s0 s1 s2:List Nat} {R:Int} {ws:List W} (sk:SgOk s0 s1 s2) (hl:ws.length≤4000) (ok:∀ w∈ws,W.ok s0 s1 s2 R w):awB s0 s1 s2 R (waysV ws)=true∧lOk (waysV ws)=true:=
  ⟨(Bool.and_eq_true _ _).mpr ⟨decide_eq_true (by rw [List.length_map]; exact hl),List.all_eq_true.mpr fun x m=>by
    obtain ⟨w,mw,rfl⟩:=List.mem_map.mp m
    exact w_wy sk (ok w mw)⟩,(Bool.and_eq_true _ _).mpr ⟨decide_eq_true (by rw [List.length_map]; lia),List.all_eq_true.mpr fun x m=>by
    obtain ⟨w,mw,rfl⟩:=List.mem_map.mp m
    exact w_tOk sk (ok w mw)⟩⟩
noncomputable def roomsV (is:List Int):V:=.list (is.map .int)
structure RoomsOk (R:Int) (is:List Int):Prop where
  len:is.length≤40
  nodup:is.Nodup
  rooms:∀ i∈is,In R i
theorem ints_map (is:List Int):(is.map PyData.int).map intV=is:=by
  rw [List.map_map]; exact List.map_id is
theorem ints_ok (is:List Int) (h:is.length≤4001):lOk (roomsV is)=true:=(Bool.and_eq_true _ _).mpr ⟨decide_eq_true (by rw [List.length_map]; exact h),List.all_eq_true.mpr fun x m=>by
  obtain ⟨i,_,rfl⟩:=List.mem_map.mp m; rfl⟩
theorem ar_true {R:Int} {is:List Int} (ok:RoomsOk R is):arB R (roomsV is)=true:=(Bool.and_eq_true _ _).mpr ⟨List.all_eq_true.mpr fun x m=>by
  obtain ⟨i,mi,rfl⟩:=List.mem_map.mp m
  exact rm_in (ok.rooms i mi),by rw [ints_map,List.length_map,ded_len]; exact decide_eq_true ok.nodup⟩
section
variable {cf:CallF} {G:Gs} {e:E} {k j:Nat} {l:List V} {r:List S} {K:Option V→Gs→Prop}
theorem x_setAttr {v:V} (hl:ownIO G k=some l) (h:Val cf G e v) (hv:isList v=false) (hj:l.length=j) (n:exs sup cf r (G.set k (.ownI (l++[v]))) K):exs sup cf (.mk (.setAttr k j) [e] [] [] :: r) G K:=h _ ⟨hv,okK_some hl ⟨hj,n⟩⟩
theorem x_setAttrN (hl:ownIO G k=some l) (h:ev cf e G fun v=>l.length=j∧exs sup cf r (G.set k (.ownI (l++[v]))) K):exs sup cf (.mk (.setAttrN k j) [e] [] [] :: r) G K:=by
  refine (?_:ev cf e G fun x=>okK (ownIO G k) fun l=>l.length=j∧exs sup cf r (G.set k (.ownI (l++[x]))) K)
  rw [hl]
  exact h
theorem x_callS {f:Nat} {es:List E} {vs:List V} (hv:Vals cf G es vs) (h:cf f vs fun y=>if noX y=true then isNone y=true∧exs sup cf r G K else K (some y) G):exs sup cf (.mk (.call f) es [] [] :: r) G K:=by
  have e:es.map (ev cf)=evs cf es:=by
    clear hv
    induction es with
    | nil=>rfl
    | cons a es ih=>exact congrArg (ev cf a :: ·) ih
  refine (?_:manyD (es.map (ev cf)) G fun xs=>cf f xs fun y=>if noX y=true then isNone y=true∧exs sup cf r G K else K (some y) G)
  rw [e]
  exact hv _ h
end
noncomputable def machV (sv:V) (R:Int) (st en:List Int) (r:List V):V:=instV [sv,.int R,roomsV st,roomsV en,.list r]
theorem ints_of:∀ is:List Int,intsL (is.map .int)=some is
  | []=>rfl
  | i :: r=>by unfold intsL; rw [List.map_cons,List.mapM_cons]; refine (?_:(intsL (r.map .int)).bind _=_); rw [ints_of r]; rfl
theorem ev_sort {cf:CallF} {G:Gs} {a:E} {is:List Int} {K:V→Prop} (h:Val cf G a (roomsV is)) (hz:is.length≤40) (k:∀ r:List Int,r.Perm is→r.Pairwise (·≤·)→K (roomsV r)):ev cf (.nd .sorted [a]) G K:=h _ (okK_some (z:=is) (ints_of is) ⟨by omega,k⟩)
theorem ev_sortSet {cf:CallF} {G:Gs} {a:E} {l:List V} {K:V→Prop} (h:Val cf G a (.list l)) (k:(l.all wayV&&decide (l.length≤szLine))=true∧(∀ x∈l,∀ y∈l,ltK (keysOf x) (keysOf y)=true)∧(∃ m:List V,m.length < 64∧∀ x∈l,x∈m)∧∀ r:List V,r.Nodup→(∀ y,y∈r ↔ y∈l)→Rises r→K (.list r)):ev cf (.nd .sortedSet [a]) G K:=h _ (okK_some rfl k)
theorem way_ok {s0 s1 s2:List Nat} {R:Int} {w:W} (sk:SgOk s0 s1 s2) (ok:W.ok s0 s1 s2 R w):wayV w.v=true:=by
  have h:=List.all_eq_true.mpr fun x m=>(w_scalar sk ok x m).1
  cases w <;> exact h
theorem lt_step {k m:Sc} {ks ms:List Sc} (h:k.isLeft=m.isLeft) (h':k=m→ltK ks ms=true):ltK (k :: ks) (m :: ms)=true:=by
  refine (?_:(if k=m then ltK ks ms else k.isLeft==m.isLeft)=true)
  by_cases e:k=m
  · rw [if_pos e]; exact h' e
  · rw [if_neg e,h]; exact beq_self_eq_true _
theorem way_lt (w u:W):ltK (keysOf w.v) (keysOf u.v)=true:=by
  have ne:∀ {s t:Str} {ks ms:List Sc},s≠t→ltK (.inr s :: ks) (.inr t :: ms)=true:=fun h=>lt_step rfl fun e=>absurd (Sum.inr.inj e) h
  cases w with
  | on a c b=>cases u with
    | on a' c' b'=>exact lt_step rfl fun _=>lt_step rfl fun _=>lt_step rfl fun _=>lt_step rfl fun _=>rfl
    | op a' c' b' t'=>exact ne (by decide)
    | cl a' b' c' t'=>exact ne (by decide)
  | op a c b t=>cases u with
    | on a' c' b'=>exact ne (by decide)
    | op a' c' b' t'=>exact lt_step rfl fun _=>lt_step rfl fun _=>lt_step rfl fun _=>lt_step rfl fun _=>lt_step rfl fun _=>rfl
    | cl a' b' c' t'=>exact ne (by decide)
  | cl a b c t=>cases u with
    | on a' c' b'=>exact ne (by decide)
    | op a' c' b' t'=>exact ne (by decide)
    | cl a' b' c' t'=>exact lt_step rfl fun _=>lt_step rfl fun _=>lt_step rfl fun _=>lt_step rfl fun _=>lt_step rfl fun _=>rfl
noncomputable def S8a (cf:CallF):Prop:=∀ sv a b c d K,tOk sv=true→asB sv=false→K (excV 1)→cf 8 [sv,a,b,c,d] K
theorem p8a (cf:CallF) (h2:S2 cf):S8a (step cf):=fun sv a b c d K ho hs h=>by
  refine (?_:_∧exs sup cf f8.body [.ownI [],.v sv,.v a,.v b,.v c,.v d] fun fl G=>(match fl with | none=>okK (ownIO G 0) fun l=>l.length=5∧K (instV l) | some y=>noX y=false∧K y))
  exact ⟨rfl,x_callS (.one fun _ h=>h) (h2 sv _ ho (fun e=>by rw [hs] at e; (injection e; done)) fun _=>⟨rfl,h⟩)⟩
noncomputable def mcB (s0 s1 s2:List Nat) (rv stv env wsv:V):Bool:=rmB 41 rv&&(decide (1≤intV rv)&&(arB (intV rv) stv&&(arB (intV rv) env&&awB s0 s1 s2 (intV rv) wsv)))
noncomputable def short (x:V):Prop:=∀ l,x=.list l→l.length≤1000
theorem p8c {cf:CallF} {s0 s1 s2:List Nat} {rv stv env wsv:V} {K:Option V→Gs→Prop} (h2:S2 cf) (h4:S4 cf) (h5:S5 cf) (h7:S7 cf) (sk:SgOk s0 s1 s2) (o1:vOk rv=true) (o2:lOk stv=true) (o3:short stv) (o4:lOk env=true) (o5:short env) (o6:lOk wsv=true)
    (hF:mcB s0 s1 s2 rv stv env wsv=false→∀ G,K (some (excV 3)) G) (hT:mcB s0 s1 s2 rv stv env wsv=true→∀ R,rv=.int R→exs sup cf (f8.body.drop 3) [.ownI [],.v (sg s0 s1 s2),.v (.int R),.v stv,.v env,.v wsv] K) :
    exs sup cf f8.body [.ownI [],.v (sg s0 s1 s2),.v rv,.v stv,.v env,.v wsv] K:=by
  obtain ⟨q1,q2⟩:=sg_as sk
  refine x_callS (.one fun _ h=>h) (h2 _ _ q2 (fun _=>⟨rfl,?_⟩) fun e=>by rw [q1] at e; (injection e; done))
  cases hr:rmB 41 rv with
  | false=>
    refine x_ifT (val_or (.stop (b:=false) (val_not (t:=false) (hr▸val_call (vs:=[rv,.int 41]) (.two (fun _ h=>h) fun _ h=>h) fun K h=>h4 rv 41 K o1 h)))) (x_raise (hF ?_ _))
    unfold mcB; rw [hr]; rfl
  | true=>
    obtain ⟨R,rfl⟩:∃ R,rv=.int R:=by
      cases rv with
      | int i=>exact ⟨i,rfl⟩
      | _=>(injection hr; done)
    refine x_if (t:=decide (R < 1)) (val_or (.go (val_not (t:=true) (hr▸val_call (vs:=[.int R,.int 41]) (.two (fun _ h=>h) fun _ h=>h) fun K h=>h4 (.int R) 41 K o1 h)) (.one' fun _ h=>h))) (fun q=>x_raise (hF ?_ _)) fun q=>?_
    · unfold mcB; rw [hr,show decide (1≤intV (.int R))=false from decide_eq_false (by have:=of_decide_eq_true q; refine (?_:¬ 1≤R); omega)]; rfl
    have e:mcB s0 s1 s2 (.int R) stv env wsv=(arB R stv&&(arB R env&&awB s0 s1 s2 R wsv)):=by
      unfold mcB; rw [hr,show decide (1≤intV (.int R))=true from decide_eq_true (by have:=of_decide_eq_false q; refine (?_:1≤R); omega)]; rfl
    rw [e] at hF hT
    refine x_if (t:=!(arB R stv&&(arB R env&&awB s0 s1 s2 R wsv))) ?_ (fun q=>x_raise (hF (not_t q) _)) fun q=>hT (not_f q) R rfl
    rw [Bool.not_and,Bool.not_and]
    exact val_or (.or (val_not (val_call (.two (fun _ h=>h) fun _ h=>h) fun K h=>h5 stv R K o2 o3 h)) fun _=>.or (val_not (val_call (.two (fun _ h=>h) fun _ h=>h) fun K h=>h5 env R K o4 o5 h)) fun _=>.one' (val_not (val_call (.cons (fun _ h=>h) (.two (fun _ h=>h) fun _ h=>h)) fun K h=>h7 s0 s1 s2 R wsv K o6 h)))
noncomputable def S8b (cf:CallF):Prop:=∀ s0 s1 s2 rv stv env wsv K,SgOk s0 s1 s2→vOk rv=true→lOk stv=true→short stv→lOk env=true→short env→lOk wsv=true→mcB s0 s1 s2 rv stv env wsv=false→K (excV 3)→cf 8 [sg s0 s1 s2,rv,stv,env,wsv] K
theorem p8b (cf:CallF) (h2:S2 cf) (h4:S4 cf) (h5:S5 cf) (h7:S7 cf):S8b (step cf):=fun s0 s1 s2 rv stv env wsv K sk o1 o2 o3 o4 o5 o6 hb h=>by
  refine (?_:_∧exs sup cf f8.body [.ownI [],.v (sg s0 s1 s2),.v rv,.v stv,.v env,.v wsv] fun fl G=>(match fl with | none=>okK (ownIO G 0) fun l=>l.length=5∧K (instV l) | some y=>noX y=false∧K y))
  exact ⟨rfl,p8c h2 h4 h5 h7 sk o1 o2 o3 o4 o5 o6 (fun _ G=>⟨rfl,h⟩) fun e=>by rw [hb] at e; (injection e; done)⟩
structure Held (st:List Int) (en:List Int) (ws:List V) (st' en':List Int) (r:List V):Prop where
  p1:st'.Perm st
  o1:st'.Pairwise (·≤·)
  p2:en'.Perm en
  o2:en'.Pairwise (·≤·)
  nd:r.Nodup
  mem:∀ y,y∈r ↔ y∈ws
  up:Rises r
structure GoodP (s0 s1 s2:List Nat) (R:Int) (st en:List Int) (ws:List W):Prop where
  sk:SgOk s0 s1 s2
  r1:1≤R
  r2:R≤40
  st:RoomsOk R st
  en:RoomsOk R en
  len:ws.length≤4000
  ok:∀ w∈ws,W.ok s0 s1 s2 R w
  few:(ws.map W.v).length < 64∨∀ x∈ws.map W.v,∀ y∈ws.map W.v,x=y
theorem few_of {l:List V} (h:l.length < 64∨∀ x∈l,∀ y∈l,x=y):∃ m:List V,m.length < 64∧∀ x∈l,x∈m:=by
  rcases h with h | h
  · exact ⟨l,h,fun _ m=>m⟩
  · cases l with
    | nil=>exact ⟨[],by decide,fun _ m=>m⟩
    | cons y l=>exact ⟨[y],(by refine (?_:1 < 64); decide),fun x m=>by rw [h x m y (.head _)]; exact .head _⟩
theorem rooms_short {is:List Int} (h:is.length≤40):short (roomsV is):=fun l e=>by
  rw [← PyData.list.inj e,List.length_map]; lia
noncomputable def S8 (cf:CallF):Prop:=∀ s0 s1 s2 R st en ws K,GoodP s0 s1 s2 R st en ws→(∀ st' en' r,Held st en (ws.map W.v) st' en' r→K (machV (sg s0 s1 s2) R st' en' r))→cf 8 [sg s0 s1 s2,.int R,roomsV st,roomsV en,waysV ws] K
theorem p8 (cf:CallF) (h2:S2 cf) (h4:S4 cf) (h5:S5 cf) (h7:S7 cf):S8 (step cf):=fun s0 s1 s2 R st en ws K g h=>by
  refine (?_:_∧exs sup cf f8.body [.ownI [],.v (sg s0 s1 s2),.v (.int R),.v (roomsV st),.v (roomsV en),.v (waysV ws)] fun fl G=>(match fl with | none=>okK (ownIO G 0) fun l=>l.length=5∧K (instV l) | some y=>noX y=false∧K y))
  have aw:=aw_true g.sk g.len g.ok
  have r1:=g.r1
  have r2:=g.r2
  have all:mcB s0 s1 s2 (.int R) (roomsV st) (roomsV en) (waysV ws)=true:=by
    unfold mcB
    rw [rm_in (⟨by lia,by lia⟩:In 41 R),show decide (1≤intV (.int R))=true from decide_eq_true r1]
    refine (?_:(true&&(true&&(arB R (roomsV st)&&(arB R (roomsV en)&&awB s0 s1 s2 R (waysV ws)))))=true)
    rw [ar_true g.st,ar_true g.en,aw.1]; rfl
  have l1:=g.st.len
  have l2:=g.en.len
  refine ⟨rfl,p8c h2 h4 h5 h7 g.sk rfl (ints_ok st (by lia)) (rooms_short l1) (ints_ok en (by lia)) (rooms_short l2) aw.2 (fun e=>by rw [all] at e; (injection e; done)) fun _ R' e=>?_⟩
  (injection e with e; subst e)
  refine x_setAttr (l:=[]) rfl (v:=sg s0 s1 s2) (fun _ h=>h) rfl rfl (x_setAttr (l:=[_]) rfl (v:=.int R) (fun _ h=>h) rfl rfl (x_setAttrN (l:=[_,_]) rfl ?_))
  refine ev_sort (show Val cf _ (vv 3) (roomsV st) from fun _ h=>h) l1 fun st' p3 o3=>⟨rfl,x_setAttrN (l:=[_,_,_]) rfl ?_⟩
  refine ev_sort (show Val cf _ (vv 4) (roomsV en) from fun _ h=>h) l2 fun en' p4 o4=>⟨rfl,x_setAttrN (l:=[_,_,_,_]) rfl ?_⟩
  have g3:=g.len
  refine ev_sortSet (l:=ws.map W.v) (fun _ h=>h) ⟨(Bool.and_eq_true _ _).mpr ⟨List.all_eq_true.mpr fun x m=>?_,decide_eq_true (sz_of (by rw [List.length_map]; lia))⟩,fun x mx y my=>?_,few_of g.few,fun r hn hm hr=>⟨rfl,rfl,h st' en' r ⟨p3,o3,p4,o4,hn,hm,hr⟩⟩⟩
  · obtain ⟨w,m',rfl⟩:=List.mem_map.mp m
    exact way_ok g.sk (g.ok w m')
  · obtain ⟨w,_,rfl⟩:=List.mem_map.mp mx
    obtain ⟨u,_,rfl⟩:=List.mem_map.mp my
    exact way_lt w u
section
variable {cf:CallF} {sv:V} {R:Int} {st en:List Int} {r:List V} {K:V→Prop}
theorem val_listOf {G:Gs} {e:E} {l:List V} (h:Val cf G e (.list l)) (hz:l.length≤5000):Val cf G (.nd .listOf [e]) (.list l):=val_op (.one h) (show (fitL l l).map _=_ by rw [show fitL l l=some l from if_pos (sz_of hz)]; rfl)
theorem p9 (hn:noX sv=true) (h:K sv):step cf 9 [machV sv R st en r] K:=run (fn:=f9) rfl rfl rfl (x_ret (fun _ h=>h) h hn)
theorem p10 (h:K (.int R)):step cf 10 [machV sv R st en r] K:=run (fn:=f10) rfl rfl rfl (x_ret (fun _ h=>h) h)
theorem p11 (hz:st.length≤5000) (h:K (roomsV st)):step cf 11 [machV sv R st en r] K:=run (fn:=f11) rfl rfl rfl (x_ret (v:=roomsV st) (val_listOf (fun _ h=>h) (by rw [List.length_map]; exact hz)) h)
theorem p12 (hz:en.length≤5000) (h:K (roomsV en)):step cf 12 [machV sv R st en r] K:=run (fn:=f12) rfl rfl rfl (x_ret (v:=roomsV en) (val_listOf (fun _ h=>h) (by rw [List.length_map]; exact hz)) h)
theorem p13 (hz:r.length≤5000) (h:K (.list r)):step cf 13 [machV sv R st en r] K:=run (fn:=f13) rfl rfl rfl (x_ret (v:=.list r) (val_listOf (fun _ h=>h) hz) h)
end
end Mine.L02
end
noncomputable section
namespace Mine.L02
open PySem
theorem c19 {cf:CallF} {c:Nat} {i:Int} {t:Bool} {K:V→Prop} (hl:∀ K:V→Prop,K (.int 1)→okK (opN .count [.list [.bool (sup c 1),.bool (sup c 2),.bool (sup c 3),.bool (sup c 4),.bool (sup c 5),.bool (sup c 6),.bool (sup c 7)],.bool true]) K)
    (h1:∀ K:V→Prop,K (.list [.bool (sup c 1),.bool (sup c 2),.bool (sup c 3),.bool (sup c 4)])→ev cf (.nd .list [xx 1 (vv 0),xx 2 (vv 0),xx 3 (vv 0),xx 4 (vv 0)]) [.v (excV c),.v (.int i),.unset] K)
    (h2:∀ K:V→Prop,K (.list [.bool (sup c 1),.bool (sup c 2),.bool (sup c 3),.bool (sup c 4),.bool (sup c 5),.bool (sup c 6),.bool (sup c 7)])→ev cf (.nd (.bin .Add) [vv 2,.nd .list [xx 5 (vv 0),xx 6 (vv 0),xx 7 (vv 0)]]) [.v (excV c),.v (.int i),.v (.list [.bool (sup c 1),.bool (sup c 2),.bool (sup c 3),.bool (sup c 4)])] K)
    (h3:Tests cf true [.v (excV c),.v (.int i),.v (.list [.bool (sup c 1),.bool (sup c 2),.bool (sup c 3),.bool (sup c 4),.bool (sup c 5),.bool (sup c 6),.bool (sup c 7)])] [.nd .sub [vv 2,vv 1],xx 0 (vv 0),xx 8 (vv 0)] t) (h:K (.bool t)):step cf 19 [excV c,.int i] K:=
  run (fn:=f19) rfl rfl rfl (x_assign h1 (x_assign h2 (x_ret (val_and (.go (val_cmp (x:=.int 1) (fun K h=>⟨rfl,hl K h⟩) (fun _ h=>h) rfl) h3)) h)))
noncomputable def S19 (cf:CallF):Prop:=∀ K:V→Prop,(K (.bool true)→cf 19 [excV 1,.int 0] K)∧(K (.bool false)→cf 19 [excV 1,.int 2] K)∧(K (.bool false)→cf 19 [excV 3,.int 0] K)∧(K (.bool true)→cf 19 [excV 3,.int 2] K)
theorem p19 (cf:CallF):S19 (step cf):=fun K=>
  ⟨c19 (fun _ h=>h) (fun _ h=>h) (fun _ h=>h) fun _ h=>h,c19 (fun _ h=>h) (fun _ h=>h) (fun _ h=>h) fun _ h=>h,c19 (fun _ h=>h) (fun _ h=>h) (fun _ h=>h) fun _ h=>h,c19 (fun _ h=>h) (fun _ h=>h) (fun _ h=>h) fun _ h=>h⟩
noncomputable def kRef:Str:=⟨#[114,101,102,117,115,101,100]⟩
noncomputable def refV (a b:Bool):V:=.tuple [.str kRef,.bool a,.bool b]
noncomputable def p5V (a b c d e:V):V:=.tuple [a,b,c,d,e]
theorem evs_map {cf:CallF}:∀ es:List E,es.map (ev cf)=evs cf es
  | []=>rfl
  | a :: es=>congrArg (ev cf a :: ·) (evs_map es)
theorem x_tryC {cf:CallF} {G:Gs} {f c k:Nat} {es:List E} {vs:List V} {X r:List S} {K:Option V→Gs→Prop} (hv:Vals cf G es vs) (h:cf f vs fun y=>match excO y with
    | none=>K (some y) G
    | some d=>sup d c=true∧exs sup cf X (G.set k (.v y)) fun fl G'=>(match fl with | some x=>noX x=true | none=>False)∧(match fl with | none=>exs sup cf r (G'.set k .unset) K | some x=>K (some x) (G'.set k .unset))):exs sup cf (.mk (.tryC f c k) es X [] :: r) G K:=by
  show manyD (es.map (ev cf)) G fun xs=>cf f xs fun y=>match excO y with
    | none=>K (some y) G
    | some d=>sup d c=true∧exi sup cf X (G.set k (.v y)) fun fl G'=>(match fl with | some x=>noX x=true | none=>False)∧(match fl with | none=>exs sup cf r (G'.set k .unset) K | some x=>K (some x) (G'.set k .unset))
  rw [evs_map,exi_eq]
  exact hv _ h
section
variable {cf:CallF} {sv a b c d:V} {K:V→Prop}
theorem p28_of (h:cf 8 [sv,a,b,c,d] fun y=>match excO y with
    | none=>K y
    | some e=>sup e 0=true∧exs sup cf [.mk .ret [.nd .tuple [ss kRef,.nd (.call 19) [vv 1,ii 0],.nd (.call 19) [vv 1,ii 2]]] [] []] [.v (p5V sv a b c d),.v y] fun fl G'=>(match fl with | some x=>noX x=true | none=>False)∧(match fl with | none=>K .none | some x=>K x)):step cf 28 [p5V sv a b c d] K:=
  run (fn:=f28) rfl rfl rfl (x_tryC (vs:=[sv,a,b,c,d]) (.cons (fun _ h=>h) (.cons (fun _ h=>h) (.cons (fun _ h=>h) (.two (fun _ h=>h) fun _ h=>h)))) h)
noncomputable def S28a (cf:CallF):Prop:=∀ sv a b c d K,tOk sv=true→asB sv=false→K (refV true false)→cf 28 [p5V sv a b c d] K
theorem p28a (cf:CallF) (h8:S8a cf) (h19:S19 cf):S28a (step cf):=fun sv a b c d K ho hs h=>p28_of (h8 sv a b c d _ ho hs ⟨rfl,x_ret (v:=refV true false) (val_op (.cons (fun _ h=>h) (.two (val_call (.two (fun _ h=>h) fun _ h=>h) fun K h=>(h19 K).1 h) (val_call (.two (fun _ h=>h) fun _ h=>h) fun K h=>(h19 K).2.1 h))) rfl) ⟨rfl,h⟩⟩)
noncomputable def S28b (cf:CallF):Prop:=∀ s0 s1 s2 rv stv env wsv K,SgOk s0 s1 s2→vOk rv=true→lOk stv=true→short stv→lOk env=true→short env→lOk wsv=true→mcB s0 s1 s2 rv stv env wsv=false→K (refV false true)→cf 28 [p5V (sg s0 s1 s2) rv stv env wsv] K
theorem p28b (cf:CallF) (h8:S8b cf) (h19:S19 cf):S28b (step cf):=fun s0 s1 s2 rv stv env wsv K sk o1 o2 o3 o4 o5 o6 hb h=>p28_of (h8 s0 s1 s2 rv stv env wsv _ sk o1 o2 o3 o4 o5 o6 hb ⟨rfl,x_ret (v:=refV false true) (val_op (.cons (fun _ h=>h) (.two (val_call (.two (fun _ h=>h) fun _ h=>h) fun K h=>(h19 K).2.2.1 h) (val_call (.two (fun _ h=>h) fun _ h=>h) fun K h=>(h19 K).2.2.2 h))) rfl) ⟨rfl,h⟩⟩)
noncomputable def partsV (sv:V) (R:Int) (st en:List Int) (ws:List W):V:=p5V sv (.int R) (roomsV st) (roomsV en) (waysV ws)
noncomputable def S28 (cf:CallF):Prop:=∀ s0 s1 s2 R st en ws K,GoodP s0 s1 s2 R st en ws→(∀ st' en' r,Held st en (ws.map W.v) st' en' r→K (machV (sg s0 s1 s2) R st' en' r))→cf 28 [partsV (sg s0 s1 s2) R st en ws] K
theorem p28 (cf:CallF) (h8:S8 cf):S28 (step cf):=fun s0 s1 s2 R st en ws K g h=>p28_of (h8 s0 s1 s2 R st en ws _ g h)
end
theorem ints_uniq {a b is:List Int} (ha:a.Perm is) (ha':a.Pairwise (·≤·)) (hb:b.Perm is) (hb':b.Pairwise (·≤·)):a=b:=
  List.Perm.eq_of_pairwise (le:=(·≤·)) (fun x y _ _ h h'=>Int.le_antisymm h h') ha' hb' (ha.trans hb.symm)
theorem val_sorted {cf:CallF} {G:Gs} {a:E} {is s:List Int} (h:Val cf G a (roomsV is)) (hz:is.length≤40) (hp:s.Perm is) (ho:s.Pairwise (·≤·)):Val cf G (.nd .sorted [a]) (roomsV s):=fun K k=>ev_sort h hz fun r p o=>by rw [ints_uniq p o hp ho]; exact k
noncomputable def S17 (cf:CallF):Prop:=∀ (is:List Int) K,is.length≤40→K (.bool true)→cf 17 [roomsV is,roomsV is] K
theorem zip_self {α:Type} (f:α→V):∀ l:List α,zipL (l.map f) (l.map f)=l.map fun x=>.tuple [f x,f x]
  | []=>rfl
  | x :: l=>congrArg (_ :: ·) (zip_self f l)
theorem val_zip {cf:CallF} {G:Gs} {a b:E} {α:Type} {f:α→V} {l:List α} (ha:Val cf G a (.list (l.map f))) (hb:Val cf G b (.list (l.map f))) (hz:l.length≤5000):Val cf G (.nd .zip [a,b]) (.list (l.map fun x=>.tuple [f x,f x])):=val_op (.two ha hb) (by
  refine (?_:(fitL (l.map f) (l.map f)).bind _=_)
  rw [show fitL (l.map f) (l.map f)=some (l.map f) from if_pos (sz_of (by rw [List.length_map]; exact hz))]
  refine (?_:(fitL (l.map f) (l.map f)).map _=_)
  rw [show fitL (l.map f) (l.map f)=some (l.map f) from if_pos (sz_of (by rw [List.length_map]; exact hz))]
  exact congrArg (fun l=>some (PyData.list l)) (zip_self f l))
theorem val_zipT {cf:CallF} {G:Gs} {a b:E} {l:List V} (ha:Val cf G a (.tuple l)) (hb:Val cf G b (.tuple l)) (hz:l.length≤5000):Val cf G (.nd .zip [a,b]) (.list (l.map fun x=>.tuple [x,x])):=val_op (.two ha hb) (by
  refine (?_:(fitL l l).bind _=_)
  rw [show fitL l l=some l from if_pos (sz_of hz)]
  refine (?_:(fitL l l).map _=_)
  rw [show fitL l l=some l from if_pos (sz_of hz)]
  have:=zip_self (fun x:V=>x) l
  rw [show l.map (fun x:V=>x)=l from List.map_id l] at this
  exact congrArg (fun l=>some (PyData.list l)) this)
theorem p16 {cf:CallF} {i:Int} {K:V→Prop} (h:K (.bool true)):step cf 16 [.int i] K:=run (fn:=f16) rfl rfl rfl (x_ret (v:=.bool true) (val_and (.go (fun _ h=>h) (.one (val_not (t:=false) fun _ h=>h)))) h)
theorem bools_true {α:Type}:∀ l:List α,boolsL (l.map fun _=>.bool true)=some (l.map fun _=>true)
  | []=>rfl
  | x :: l=>by unfold boolsL; rw [List.map_cons,List.mapM_cons]; refine (?_:(boolsL (l.map fun _=>.bool true)).bind _=_); rw [bools_true l]; rfl
theorem p17 (cf:CallF) (h16:∀ (i:Int) (K:V→Prop),K (.bool true)→cf 16 [.int i] K):S17 (step cf):=fun is K hl h=>by
  refine run (fn:=f17) rfl rfl rfl ?_
  have hz:(is.map PyData.int).length≤5000:=by rw [List.length_map]; lia
  refine x_ifF (val_or (.go (val_not (t:=true) fun _ h=>h) (.one' (val_cmp (val_op (.one fun _ h=>h) (n_len hz)) (val_op (.one fun _ h=>h) (n_len hz)) (c_ne.trans (by rw [beq_self_eq_true]; rfl)))))) ?_
  refine x_ret (v:=.bool true) (val_op (.one (v:=.list (is.map fun _=>.bool true)) (val_compM (g:=fun i:Int=>.tuple [.int i,.int i]) (H:=fun i=>[.v (roomsV is),.v (roomsV is),.v (.int i),.v (.int i)]) (val_zip (f:=PyData.int) (fun _ h=>h) (fun _ h=>h) (by lia)) (seq_list (by rw [List.length_map]; lia)) (fun i _=>rfl) fun i _=>?_)) ?_) h
  · exact val_and (.go (val_call (.one fun _ h=>h) (h16 i)) (.one (val_cmp (fun _ h=>h) (fun _ h=>h) (c_eq.trans (congrArg some (beq_self_eq_true i))))))
  · refine (?_:(if (is.map fun _=>PyData.bool true).length≤szLine then (boolsL (is.map fun _=>.bool true)).map _ else none)=_)
    rw [if_pos (sz_of (by rw [List.length_map]; lia)),bools_true]
    exact congrArg (fun b=>some (PyData.bool b)) (List.all_eq_true.mpr fun b m=>by obtain ⟨_,_,rfl⟩:=List.mem_map.mp m; rfl)
noncomputable def Flat (n:Nat) (x:V):Prop:=x.canLay0=true∧x.depth≤n
theorem flat_ok {n:Nat} {x:V} (h:Flat n x) (hn:n≤64):okEq x=true:=(Bool.and_eq_true _ _).mpr ⟨h.1,decide_eq_true (Nat.le_trans h.2 hn)⟩
theorem flats:∀ {n:Nat} {l:List V},(∀ x∈l,Flat n x)→PyData.canLayAll0 l=true∧PyData.depthAll l≤n
  | n,[],_=>⟨rfl,Nat.zero_le _⟩
  | n,x :: l,h=>⟨(Bool.and_eq_true _ _).mpr ⟨(h x (.head _)).1,(flats fun y m=>h y (.tail _ m)).1⟩,Nat.max_le.mpr ⟨(h x (.head _)).2,(flats fun y m=>h y (.tail _ m)).2⟩⟩
theorem flat_list {n:Nat} {l:List V} (h:∀ x∈l,Flat n x):Flat (n+1) (.list l):=⟨(flats h).1,Nat.succ_le_succ (flats h).2⟩
theorem flat_tuple {n:Nat} {l:List V} (h:∀ x∈l,Flat n x):Flat (n+1) (.tuple l):=⟨(flats h).1,Nat.succ_le_succ (flats h).2⟩
theorem flat_sc {x:V} (h:scalar x=true):Flat 0 x:=by
  cases x with
  | int i=>exact ⟨rfl,Nat.le_refl _⟩
  | str s=>exact ⟨h,Nat.le_refl _⟩
  | _=>(injection h; done)
theorem flat_way {s0 s1 s2:List Nat} {R:Int} {w:W} (sk:SgOk s0 s1 s2) (ok:W.ok s0 s1 s2 R w):Flat 1 w.v:=flat_tuple fun x m=>flat_sc (w_scalar sk ok x m).1
theorem c_neR {x:V} (h:okEq x=true):cmpOp .NotEq x x=some false:=by
  refine (?_:(eqO x x).map _=_)
  rw [show eqO x x=some (PyData.eqv x x) from if_pos (by rw [h]; rfl),PySem.SeqAt.eqv_refl x ((Bool.and_eq_true _ _).mp h).1]; rfl
end Mine.L02
end
noncomputable section
namespace Mine.L02
open PySem
noncomputable def S18 (cf:CallF):Prop:=∀ (l:List V) K,l.length≤4000→(∀ x∈l,∃ m:List V,x=.tuple m∧m.length≤5∧∀ y∈m,scalar y=true)→K (.bool true)→cf 18 [.list l,.list l] K
theorem id_map (l:List V):l.map (fun x:V=>x)=l:=List.map_id l
theorem sc_isi {cf:CallF} {G:Gs} {a:E} {x:V} {t:Nat} (h:Val cf G a x) (hx:scalar x=true):Val cf G (.nd (.isinst t) [a]) (.bool (isB x t)):=by
  cases x with
  | int i=>exact val_op (.one h) rfl
  | str s=>exact val_op (.one h) rfl
  | _=>(injection hx; done)
theorem p18 (cf:CallF):S18 (step cf):=fun l K hl hw h=>by
  refine run (fn:=f18) rfl rfl rfl ?_
  have hz:l.length≤5000:=Nat.le_trans hl (by decide)
  refine x_ifF (val_or (.go (val_not (t:=true) fun _ h=>h) (.one' (val_cmp (val_op (.one fun _ h=>h) (n_len hz)) (val_op (.one fun _ h=>h) (n_len hz)) (c_ne.trans (by rw [beq_self_eq_true]; rfl)))))) ?_
  refine x_forM (xs:=l.map fun x=>.tuple [x,x]) (P:=fun xs G=>(∀ z∈xs,∃ x∈l,z=.tuple [x,x])∧∃ a b c d,G=[.v (.list l),.v (.list l),a,b,c,d]) (by have:=val_zip (cf:=cf) (G:=[.v (.list l),.v (.list l),.unset,.unset,.unset,.unset]) (a:=vv 0) (b:=vv 1) (f:=fun x:V=>x) (l:=l) (by rw [id_map]; exact fun _ h=>h) (by rw [id_map]; exact fun _ h=>h) hz; exact this) (seq_list (by rw [List.length_map]; exact hz)) ⟨fun z m=>?_,_,_,_,_,rfl⟩ (fun G _=>x_ret (v:=.bool true) (fun _ h=>h) h) fun z xs G Kt ⟨hx,a,b,c,d,e⟩ nx _=>?_
  · obtain ⟨x,m',rfl⟩:=List.mem_map.mp m; exact ⟨x,m',rfl⟩
  obtain ⟨x,mx,rfl⟩:=hx z (.head _)
  subst e
  obtain ⟨m,rfl,ml,ms⟩:=hw x mx
  have mz:m.length≤5000:=Nat.le_trans ml (by decide)
  refine (?_:exs sup cf f18c1 [.v (.list l),.v (.list l),.v (.tuple m),.v (.tuple m),c,d] Kt)
  refine x_ifF (val_or (.go (val_not (t:=true) fun _ h=>h) (.one' (val_cmp (val_op (.one fun _ h=>h) (n_lenT mz)) (val_op (.one fun _ h=>h) (n_lenT mz)) (c_ne.trans (by rw [beq_self_eq_true]; rfl)))))) ?_
  refine x_forM (xs:=m.map fun x=>.tuple [x,x]) (P:=fun xs G=>(∀ z∈xs,∃ x∈m,z=.tuple [x,x])∧∃ c d,G=[.v (.list l),.v (.list l),.v (.tuple m),.v (.tuple m),c,d]) (val_zipT (fun _ h=>h) (fun _ h=>h) mz) (seq_list (by rw [List.length_map]; exact mz)) ⟨fun z q=>?_,_,_,rfl⟩ (fun G ⟨_,c,d,e⟩=>x_nil (nx G ⟨fun z q=>hx z (.tail _ q),_,_,_,_,e⟩)) fun z xs' G Kt' ⟨hx',c,d,e⟩ nx' _=>?_
  · obtain ⟨x,q',rfl⟩:=List.mem_map.mp q; exact ⟨x,q',rfl⟩
  obtain ⟨y,my,rfl⟩:=hx' z (.head _)
  subst e
  have sy:=ms y my
  refine (?_:exs sup cf f18c0 [.v (.list l),.v (.list l),.v (.tuple m),.v (.tuple m),.v y,.v y] Kt')
  refine x_ifF (val_or (.go (val_cmp (sc_isi (x:=y) (fun _ h=>h) sy) (sc_isi (x:=y) (fun _ h=>h) sy) (c_neR rfl)) (.go ?_ (.one' (val_cmp (x:=y) (y:=y) (fun _ h=>h) (fun _ h=>h) (c_neR (flat_ok (flat_sc sy) (by decide)))))))) (x_nil (nx' _ ⟨fun z q=>hx' z (.tail _ q),_,_,rfl⟩))
  have:=sc_isi (cf:=cf) (G:=[.v (.list l),.v (.list l),.v (.tuple m),.v (.tuple m),.v y,.v y]) (a:=vv 4) (x:=y) (t:=4) (fun _ h=>h) sy
  rwa [show isB y 4=false by cases y with | int i=>rfl | str s=>rfl | _=>(injection sy; done)] at this
theorem sc_anti {k m:Sc} (h:scLt k m=false) (h':scLt m k=false):k=m:=by
  cases k with
  | inl a=>cases m with
    | inl b=>have h:=of_decide_eq_false h; have h':=of_decide_eq_false h'; exact congrArg _ (by lia)
    | inr y=>(injection h; done)
  | inr x=>cases m with
    | inl b=>(injection h'; done)
    | inr y=>
      have h:=of_decide_eq_false h
      have h':=of_decide_eq_false h'
      have e:x.cps.toList=y.cps.toList:=List.le_antisymm h' h
      cases x; cases y
      exact congrArg _ (congrArg Str.mk (Array.toList_inj.mp e))
theorem lex_anti:∀ {a b:List Sc},lexLt a b=false→lexLt b a=false→a=b
  | [],[],_,_=>rfl
  | [],_ :: _,h,_=>nomatch h
  | _ :: _,[],_,h=>nomatch h
  | k :: ks,m :: ms,h,h'=>by
    have h:(if k=m then lexLt ks ms else scLt k m)=false:=h
    have h':(if m=k then lexLt ms ks else scLt m k)=false:=h'
    by_cases e:k=m
    · subst e
      rw [if_pos rfl] at h h'
      rw [lex_anti h h']
    · rw [if_neg e] at h
      rw [if_neg fun q=>e q.symm] at h'
      exact absurd (sc_anti h h') e
theorem kOf_inj {x y:V} (hx:scalar x=true) (hy:scalar y=true) (e:kOf x=kOf y):x=y:=by
  cases x with
  | int i=>cases y with
    | int j=>rw [Sum.inl.inj e]
    | str t=>exact nomatch (show (Sum.inl i:Sc)=.inr t from e)
    | _=>(injection hy; done)
  | str s=>cases y with
    | int j=>exact nomatch (show (Sum.inr s:Sc)=.inl j from e)
    | str t=>rw [Sum.inr.inj e]
    | _=>(injection hy; done)
  | _=>(injection hx; done)
theorem keys_inj:∀ {l m:List V},(∀ x∈l,scalar x=true)→(∀ x∈m,scalar x=true)→l.map kOf=m.map kOf→l=m
  | [],[],_,_,_=>rfl
  | [],_ :: _,_,_,e=>nomatch e
  | _ :: _,[],_,_,e=>nomatch e
  | x :: l,y :: m,h,h',e=>by
    have e:=List.cons.inj e
    rw [kOf_inj (h x (.head _)) (h' y (.head _)) e.1,keys_inj (fun x q=>h x (.tail _ q)) (fun x q=>h' x (.tail _ q)) e.2]
theorem eqvs_sc:∀ {l m:List V},(∀ x∈l,scalar x=true)→(∀ x∈m,scalar x=true)→PyData.eqvAll l m=true→l=m
  | [],[],_,_,_=>rfl
  | [],_ :: _,_,_,e=>nomatch e
  | _ :: _,[],_,_,e=>nomatch e
  | x :: l,y :: m,h,h',e=>by
    obtain ⟨e1,e2⟩:=(Bool.and_eq_true _ _).mp e
    have e1:x=y:=by
      have hx:=h x (.head _)
      have hy:=h' y (.head _)
      cases x with
      | int i=>cases y with
        | int j=>rw [beq_iff_eq.mp (e1:(i==j)=true)]
        | str t=>exact nomatch e1
        | _=>(injection hy; done)
      | str s=>cases y with
        | int j=>exact nomatch e1
        | str t=>rw [beq_iff_eq.mp (e1:(s==t)=true)]
        | _=>(injection hy; done)
      | _=>(injection hx; done)
    rw [e1,eqvs_sc (fun x q=>h x (.tail _ q)) (fun x q=>h' x (.tail _ q)) e2]
section
variable {s0 s1 s2:List Nat} {R:Int} {ws:List W} (sk:SgOk s0 s1 s2) (ok:∀ w∈ws,W.ok s0 s1 s2 R w)
include sk ok
theorem way_anti {x y:V} (hx:x∈ws.map W.v) (hy:y∈ws.map W.v) (h:lexLt (keysOf y) (keysOf x)=false) (h':lexLt (keysOf x) (keysOf y)=false):x=y:=by
  obtain ⟨w,mw,rfl⟩:=List.mem_map.mp hx
  obtain ⟨u,mu,rfl⟩:=List.mem_map.mp hy
  exact congrArg PyData.tuple (keys_inj (fun x m=>(w_scalar sk (ok w mw) x m).1) (fun x m=>(w_scalar sk (ok u mu) x m).1) (lex_anti h' h))
theorem rows_uniq {r r':List V} (hn:r.Nodup) (hm:∀ y,y∈r ↔ y∈ws.map W.v) (hr:Rises r) (hn':r'.Nodup) (hm':∀ y,y∈r' ↔ y∈ws.map W.v) (hr':Rises r'):r=r':=
  List.Perm.eq_of_pairwise (le:=fun x y=>lexLt (keysOf y) (keysOf x)=false) (fun x y mx my h h'=>way_anti sk ok ((hm x).mp mx) ((hm' y).mp my) h h') hr hr' ((List.perm_ext_iff_of_nodup hn hn').mpr fun y=>(hm y).trans (hm' y).symm)
theorem eqv_way {x y:V} (hx:x∈ws.map W.v) (hy:y∈ws.map W.v) (h:PyData.eqv x y=true):x=y:=by
  obtain ⟨w,mw,rfl⟩:=List.mem_map.mp hx
  obtain ⟨u,mu,rfl⟩:=List.mem_map.mp hy
  exact congrArg PyData.tuple (eqvs_sc (fun x m=>(w_scalar sk (ok w mw) x m).1) (fun x m=>(w_scalar sk (ok u mu) x m).1) h)
theorem flat_ways {l:List V} (h:∀ x∈l,x∈ws.map W.v):∀ x∈l,Flat 1 x:=fun x m=>by
  obtain ⟨w,mw,rfl⟩:=List.mem_map.mp (h x m)
  exact flat_way sk (ok w mw)
end
theorem val_lend {cf:CallF} {G:Gs} {k:Nat} {l:List V} {e:E} {t:Bool} (hl:ownLO G k=some l) (h:Val cf (G.set k (.v (.list l))) e (.bool t)):Val cf G (.nd (.lend k) [e]) (.bool t):=fun K kk=>okK_some hl (h _ kk)
theorem c_notinL {l:List V} {x:V} (hx:okEq x=true) (hl:okEq (.list l)=true):cmpOp .NotIn x (.list l)=some (!(l.any fun z=>PyData.eqv z x)):=congrArg (Option.map (!·)) (if_pos (by rw [hx,hl]; rfl))
theorem flat_sg {s0 s1 s2:List Nat} (sk:SgOk s0 s1 s2):Flat 1 (sg s0 s1 s2):=flat_tuple fun x m=>by
  have t:∀ {l:List Nat},(∀ c∈l,low c=true)→Flat 0 (text l):=fun h=>flat_sc (x:=text _) (ok_text h)
  rcases List.mem_cons.mp m with rfl | m
  · exact t fun c q=>sk.lowA q
  rcases List.mem_cons.mp m with rfl | m
  · exact t fun c q=>sk.lowB q
  · obtain rfl:=List.mem_singleton.mp m; exact t fun c q=>sk.lowC q
structure MethOk (cf:CallF):Prop where
  m9:∀ sv R st en r (K:V→Prop),noX sv=true→K sv→cf 9 [machV sv R st en r] K
  m10:∀ sv R st en r (K:V→Prop),K (.int R)→cf 10 [machV sv R st en r] K
  m11:∀ sv R st en r (K:V→Prop),st.length≤5000→K (roomsV st)→cf 11 [machV sv R st en r] K
  m12:∀ sv R st en r (K:V→Prop),en.length≤5000→K (roomsV en)→cf 12 [machV sv R st en r] K
  m13:∀ sv R st en (r:List V) (K:V→Prop),r.length≤5000→K (.list r)→cf 13 [machV sv R st en r] K
open Classical in
theorem nodup_le:∀ {l m:List V},l.Nodup→(∀ x∈l,x∈m)→l.length≤m.length
  | [],_,_,_=>Nat.zero_le _
  | x :: l,m,nd,h=>by
    have nd:=List.nodup_cons.mp nd
    have mx:=h x (.head _)
    have q:=nodup_le (m:=m.erase x) nd.2 fun y my=>(List.mem_erase_of_ne (a:=y) (b:=x) fun e=>nd.1 (by rw [← e]; exact my)).mpr (h y (.tail _ my))
    rw [List.length_erase_of_mem mx] at q
    have:=List.length_pos_of_mem mx
    rw [List.length_cons]; omega
theorem x_forE {cf:CallF} {G:Gs} {k:Nat} {s:E} {body r:List S} {K:Option V→Gs→Prop} (h:ev cf s G fun v=>exs sup cf (.mk (.forS k) [.nd (.lit v) []] body [] :: r) G K):exs sup cf (.mk (.forS k) [s] body [] :: r) G K:=h
theorem ev_sortL {cf:CallF} {G:Gs} {a:E} {l:List V} {K:V→Prop} (h:Val cf G a (.list l)) (k:(l.all wayV&&decide (l.length≤szLine))=true∧(∀ x∈l,∀ y∈l,ltK (keysOf x) (keysOf y)=true)∧(l.length < 64∨∀ x∈l,∀ y∈l,x=y)∧∀ r:List V,r.Perm l→Rises r→K (.list r)):ev cf (.nd .sortedL [a]) G K:=h _ (okK_some rfl k)
theorem held_len {s0 s1 s2:List Nat} {R:Int} {st en:List Int} {ws:List W} {st' en':List Int} {r:List V} (g:GoodP s0 s1 s2 R st en ws) (hd:Held st en (ws.map W.v) st' en' r):st'.length≤40∧en'.length≤40∧r.length≤4000:=by
  refine ⟨hd.p1.length_eq▸g.st.len,hd.p2.length_eq▸g.en.len,?_⟩
  have h:=nodup_le hd.nd fun y m=>(hd.mem y).mp m
  rw [List.length_map] at h
  exact Nat.le_trans h g.len
noncomputable def S29 (cf:CallF):Prop:=∀ s0 s1 s2 R st en ws st' en' r K,GoodP s0 s1 s2 R st en ws→Held st en (ws.map W.v) st' en' r→K (.bool true)→cf 29 [machV (sg s0 s1 s2) R st' en' r,partsV (sg s0 s1 s2) R st en ws] K
theorem p29 (cf:CallF) (hm:MethOk cf) (h16:∀ (i:Int) (K:V→Prop),K (.bool true)→cf 16 [.int i] K) (h17:S17 cf) (h18:S18 cf):S29 (step cf):=fun s0 s1 s2 R st en ws st' en' r K g hd h=>by
  obtain ⟨l1,l2,l3⟩:=held_len g hd
  have l3':r.length≤5000:=Nat.le_trans l3 (by decide)
  have lw:(ws.map W.v).length≤5000:=by rw [List.length_map]; exact Nat.le_trans g.len (by decide)
  refine run (fn:=f29) rfl rfl rfl ?_
  generalize hmv:machV (sg s0 s1 s2) R st' en' r=mv
  have hi:isInst mv=true:=by rw [← hmv]; rfl
  have m:∀ {f:Nat} {v:V} {G:Gs},Val cf G (vv 0) mv→noX v=true→(∀ K:V→Prop,K v→cf f [machV (sg s0 s1 s2) R st' en' r] K)→Val cf G (.nd (.meth f) [vv 0]) v:=fun hv hn hf=>val_meth hv hi (fun K h=>by rw [← hmv]; exact hf K h) hn
  refine x_ifF (val_or (.go (val_not (t:=true) fun K h=>⟨hi,h⟩) (.go (val_cmp (x:=sg s0 s1 s2) (y:=sg s0 s1 s2) (m (fun _ h=>h) rfl fun K h=>hm.m9 _ _ _ _ _ K rfl h) (fun _ h=>h) (c_neR (flat_ok (flat_sg g.sk) (by decide)))) (.one' (val_not (t:=true) (val_call (vs:=[.int R]) (.one (m (fun _ h=>h) rfl fun K h=>hm.m10 _ _ _ _ _ K h)) (h16 R))))))) ?_
  refine x_ifF (val_or (.go (val_cmp (x:=.int R) (m (fun _ h=>h) rfl fun K h=>hm.m10 _ _ _ _ _ K h) (fun _ h=>h) (c_ne.trans (by rw [beq_self_eq_true]; rfl))) (.one' (val_not (t:=true) (val_call (vs:=[roomsV st',roomsV st']) (.two (m (fun _ h=>h) rfl fun K h=>hm.m11 _ _ _ _ _ K (by lia) h) (val_sorted (is:=st) (fun _ h=>h) g.st.len hd.p1 hd.o1)) fun K h=>h17 st' K l1 h))))) ?_
  refine x_own0 ?_
  refine x_forE (ev_sortL (l:=ws.map W.v) (fun _ h=>h) ⟨(Bool.and_eq_true _ _).mpr ⟨List.all_eq_true.mpr fun x q=>?_,decide_eq_true (sz_of lw)⟩,fun x mx y my=>?_,g.few,fun r2 hp hr=>?_⟩)
  · obtain ⟨w,q',rfl⟩:=List.mem_map.mp q
    exact way_ok g.sk (g.ok w q')
  · obtain ⟨w,_,rfl⟩:=List.mem_map.mp mx
    obtain ⟨u,_,rfl⟩:=List.mem_map.mp my
    exact way_lt w u
  have lr:r2.length≤5000:=by rw [hp.length_eq]; exact lw
  have inw:∀ x∈r2,x∈ws.map W.v:=fun x q=>hp.mem_iff.mp q
  refine x_for (xs:=r2) (P:=fun xs G=>∃ dn ds a,r2=dn++xs∧ds.Sublist dn∧ds.Nodup∧(∀ y,y∈dn→y∈ds)∧G=[.v mv,.v (partsV (sg s0 s1 s2) R st en ws),.ownL ds,a]) (fun _ h=>h) (seq_list lr) ⟨[],[],_,rfl,.slnil,List.nodup_nil,fun _ q=>(nomatch q),rfl⟩ (fun G hP=>?_) fun x xs G Kt hP nx _=>?_
  · obtain ⟨dn,ds,a,e,sl,nd,mem,rfl⟩:=hP
    rw [List.append_nil] at e
    subst e
    have e:r=ds:=rows_uniq g.sk g.ok hd.nd hd.mem hd.up nd (fun y=>⟨fun q=>inw y (sl.subset q),fun q=>mem y (hp.mem_iff.mpr q)⟩) (hr.sublist sl)
    subst e
    refine x_freeze (l:=r) rfl (x_ret (v:=.bool true) (val_and (.go (val_call (vs:=[roomsV en',roomsV en']) (.two (m (fun _ h=>h) rfl fun K h=>hm.m12 _ _ _ _ _ K (by lia) h) (val_sorted (is:=en) (fun _ h=>h) g.en.len hd.p2 hd.o2)) fun K h=>h17 en' K l2 h) (.one (val_call (vs:=[.list r,.list r]) (.two (m (fun _ h=>h) rfl fun K h=>hm.m13 _ _ _ _ _ K l3' h) fun _ h=>h) fun K h=>h18 r K l3 (fun x q=>?_) h)))) h)
    obtain ⟨w,mw,rfl⟩:=List.mem_map.mp ((hd.mem x).mp q)
    exact ⟨w.l,rfl,by cases w <;> exact Nat.le_of_ble_eq_true rfl,fun y q=>(w_scalar g.sk (g.ok w mw) y q).1⟩
  · obtain ⟨dn,ds,a,e,sl,nd,mem,rfl⟩:=hP
    have hx:x∈ws.map W.v:=inw x (by rw [e]; exact List.mem_append_right _ (.head _))
    have hds:∀ y∈ds,y∈ws.map W.v:=fun y q=>inw y (by rw [e]; exact List.mem_append_left _ (sl.subset q))
    have ld:ds.length < szLine:=Nat.lt_of_le_of_lt (Nat.le_trans sl.length_le (by rw [e,List.length_append] at lr; lia:dn.length≤5000)) (by decide)
    have e':r2=(dn++[x])++xs:=by rw [e,List.append_assoc]; rfl
    refine x_if (val_lend (l:=ds) rfl (val_cmp (x:=x) (y:=.list ds) (fun _ h=>h) (fun _ h=>h) (c_notinL (flat_ok (flat_ways g.sk g.ok (l:=[x]) (fun y q=>by obtain rfl:=List.mem_singleton.mp q; exact hx) x (.head _)) (by decide)) (flat_ok (flat_list (flat_ways g.sk g.ok hds)) (by decide))))) (fun q=>x_append (l:=ds) rfl (v:=x) (fun _ h=>h) ld (x_nil (nx _ ⟨dn++[x],ds++[x],_,e',sl.append (.refl _),?_,?_,rfl⟩))) fun q=>x_nil (nx _ ⟨dn++[x],ds,_,e',sl.trans (List.sublist_append_left _ _),nd,?_,rfl⟩)
    · refine List.nodup_append.mpr ⟨nd,List.pairwise_singleton _ _,fun y my z mz q'=>?_⟩
      obtain rfl:=List.mem_singleton.mp mz
      subst q'
      rw [show (ds.any fun z=>PyData.eqv z y)=true from List.any_eq_true.mpr ⟨y,my,PySem.SeqAt.eqv_refl y (flat_ways g.sk g.ok hds y my).1⟩] at q
      (injection q; done)
    · intro y my
      rcases List.mem_append.mp my with my | my
      · exact List.mem_append_left _ (mem y my)
      · exact List.mem_append_right _ my
    · intro y my
      rcases List.mem_append.mp my with my | my
      · exact mem y my
      · obtain rfl:=List.mem_singleton.mp my
        obtain ⟨z,mz,ez⟩:=List.any_eq_true.mp (not_f q)
        exact eqv_way g.sk g.ok (hds z mz) hx ez▸mz
end Mine.L02
end
noncomputable section
namespace Mine.L02
open PySem
noncomputable def mOf (c s:Int) (i:Nat):Nat:=((c+s * (0+(i:Int))).fmod 26).toNat
noncomputable def rowL (c s:Int) (n:Nat):List Nat:=(List.range n).map fun i=>97+mOf c s i
theorem mOf_lt (c s:Int) (i:Nat):mOf c s i < 26:=by
  have h1:=fmod_lo (c+s * (0+(i:Int))) (b:=26) (by decide)
  have h2:=fmod_hi (c+s * (0+(i:Int))) (b:=26) (by decide)
  unfold mOf; omega
theorem abc_at:∀ m,m < 26→abc.cps.toList[m]?=some (97+m)∧low (97+m)=true:=by decide
noncomputable def stepI (c:Int):Int:=1+2 * ((c.fdiv 26).fmod 5)
theorem step_ne:∀ q,q < 5→∀ d,d < 12→d≠0→((1+2 * q) * d) % 26≠0:=by decide
theorem step_sub (c:Int) (q i d:Nat):(c+(1+2 * (q:Int)) * (0+((i+d:Nat):Int))) - (c+(1+2 * (q:Int)) * (0+(i:Int)))=(((1+2 * q) * d:Nat):Int):=by
  rw [Int.zero_add,Int.zero_add,Int.natCast_add,Int.mul_add,Int.natCast_mul,Int.natCast_add,Int.natCast_mul]
  refine (?_:_=(1+2 * (q:Int)) * (d:Int))
  generalize (1+2 * (q:Int)) * (i:Int)=x
  generalize (1+2 * (q:Int)) * (d:Int)=y
  lia
theorem row_nodup (c:Int) {n:Nat} (hn:n≤12):(rowL c (stepI c) n).Nodup:=by
  obtain ⟨q,hq⟩:=Int.eq_ofNat_of_zero_le (fmod_lo (c.fdiv 26) (b:=5) (by decide))
  have h2:=fmod_hi (c.fdiv 26) (b:=5) (by decide)
  unfold rowL
  refine List.pairwise_map.mpr (List.Pairwise.imp_of_mem (fun {i j} mi mj hlt e=>?_) (List.pairwise_lt_range (n:=n)))
  obtain ⟨d,rfl⟩:=Nat.exists_eq_add_of_lt hlt
  have hj:=List.mem_range.mp mj
  have e:mOf c (stepI c) i=mOf c (stepI c) (i+(d+1)):=Nat.add_left_cancel e
  unfold mOf stepI at e
  rw [hq] at e h2
  have e:(c+(1+2 * (q:Int)) * (0+((i+(d+1):Nat):Int))).fmod 26=(c+(1+2 * (q:Int)) * (0+(i:Int))).fmod 26:=by
    rw [← Int.toNat_of_nonneg (fmod_lo (c+(1+2 * (q:Int)) * (0+((i+(d+1):Nat):Int))) (b:=26) (by decide)),← e,Int.toNat_of_nonneg (fmod_lo _ (by decide))]
  rw [Int.fmod_eq_emod_of_nonneg _ (by decide),Int.fmod_eq_emod_of_nonneg _ (by decide),Int.emod_eq_emod_iff_emod_sub_eq_zero,step_sub] at e
  exact step_ne q (by grind) (d+1) (by clear e hq; grind) (Nat.succ_ne_zero d) (by exact_mod_cast e)
theorem row_low (c s:Int) (n:Nat):∀ x∈rowL c s n,low x=true:=fun x m=>by
  obtain ⟨i,_,rfl⟩:=List.mem_map.mp m
  exact (abc_at _ (mOf_lt c s i)).2
theorem sg_cut {l:List Nat} {i j k:Nat} (hn:l.Nodup) (hl:∀ x∈l,low x=true) (h1:i≤4) (h2:i≤j) (h3:j≤k) (h4:j - i≤4) (h5:k - j≤4):SgOk (l.take i) ((l.drop i).take (j - i)) ((l.drop j).take (k - j)):=by
  have e:l.take i++(l.drop i).take (j - i)++(l.drop j).take (k - j)=l.take k:=by
    rw [← List.take_add,show i+(j - i)=j by grind,← List.take_add,show j+(k - j)=k by grind]
  refine ⟨Nat.le_trans (List.length_take_le _ _) h1,Nat.le_trans (List.length_take_le _ _) h4,Nat.le_trans (List.length_take_le _ _) h5,?_,?_⟩
  · rw [e]; exact fun x m=>hl x (List.mem_of_mem_take m)
  · rw [e]; exact hn.sublist (List.take_sublist _ _)
theorem strs_of:∀ l:List Nat,strsL (l.map fun c=>text [c])=some (l.map fun c=>[c])
  | []=>rfl
  | c :: r=>by unfold strsL; rw [List.map_cons,List.mapM_cons]; refine (?_:(strsL (r.map fun c=>text [c])).bind _=_); rw [strs_of r]; rfl
theorem join_ones:∀ l:List Nat,joinL [] (l.map fun c=>[c])=l
  | []=>rfl
  | [c]=>rfl
  | c :: d :: r=>congrArg (c :: ·) (join_ones (d :: r))
theorem sum_ones:∀ l:List Nat,((l.map fun c=>[c]).map List.length).sum=l.length
  | []=>rfl
  | c :: r=>by rw [List.map_cons,List.map_cons,List.sum_cons,sum_ones r,List.length_cons]; exact Nat.add_comm _ _
theorem val_join {cf:CallF} {G:Gs} {a:E} {l:List Nat} (ha:Val cf G a (.list (l.map fun c=>text [c]))) (hz:l.length≤5000):Val cf G (.nd .join [ss k0,a]) (text l):=fun K h=>by
  refine ⟨rfl,ha _ (okK_some (z:=text l) ?_ h)⟩
  refine (?_:(strsL (l.map fun c=>text [c])).bind _=_)
  rw [strs_of]
  show (if _ then some (text (joinL [] (l.map fun c=>[c]))) else none)=_
  rw [join_ones]
  exact if_pos (by rw [sum_ones]; exact sz_of (by refine (?_:l.length+_ * 0≤5000); rw [Nat.mul_zero]; exact hz))
theorem end_at {d n:Nat} {i:Int} (h0:0≤i) (h1:i.toNat≤n):endO d n (some (.int i))=some i.toNat:=by
  refine (?_:some (if 0≤i then min i.toNat n else _)=_)
  rw [if_pos h0,Nat.min_eq_left h1]
theorem cut_at {α:Type} {l:List α} {f:List α→V} {lo hi:Option V} {i j:Nat} (hz:l.length≤5000) (h1:endO 0 l.length lo=some i) (h2:endO l.length l.length hi=some j) (h:i≤j):cutO f l lo hi=some (f ((l.drop i).take (j - i))):=by
  unfold cutO
  rw [if_pos (sz_of hz),h1,h2]
  exact if_pos h
theorem n_cutS {l:List Nat} {i j:Nat} (hz:l.length≤5000) (h:i≤j) (h1:j≤l.length):opN (.slice true true) [text l,.int i,.int j]=some (text ((l.drop i).take (j - i))):=cut_at (l:=l) (f:=text) hz (end_at (i:=i) (Int.natCast_nonneg i) (Nat.le_trans h h1)) (end_at (i:=j) (Int.natCast_nonneg j) h1) h
theorem n_cutS0 {l:List Nat} {j:Nat} (hz:l.length≤5000) (h1:j≤l.length):opN (.slice false true) [text l,.int j]=some (text (l.take j)):=cut_at (l:=l) (f:=text) (lo:=none) hz rfl (end_at (i:=j) (Int.natCast_nonneg j) h1) (Nat.zero_le _)
theorem cut3 {l:List Nat} {i j k:Int} (hl:l.length≤12) (hn:l.Nodup) (lo:∀ x∈l,low x=true) (h0:0≤i) (h1:i≤4) (h2:0≤j) (h3:j≤4) (h4:0≤k) (h5:k≤4) (h6:i+j+k≤l.length):∃ a b c,SgOk a b c∧opN (.slice false true) [text l,.int i]=some (text a)∧opN (.slice true true) [text l,.int i,.int (i+j)]=some (text b)∧opN (.slice true true) [text l,.int (i+j),.int (i+j+k)]=some (text c):=by
  obtain ⟨i,rfl⟩:=Int.eq_ofNat_of_zero_le h0
  obtain ⟨j,rfl⟩:=Int.eq_ofNat_of_zero_le h2
  obtain ⟨k,rfl⟩:=Int.eq_ofNat_of_zero_le h4
  have h6:i+j+k≤l.length:=by lia
  have hz:l.length≤5000:=Nat.le_trans hl (by decide)
  have hj:i+j≤l.length:=Nat.le_trans (Nat.le_add_right _ _) h6
  refine ⟨_,_,_,sg_cut (i:=i) (j:=i+j) (k:=i+j+k) hn lo (Int.ofNat_le.mp h1) (Nat.le_add_right _ _) (Nat.le_add_right _ _) (by rw [Nat.add_sub_cancel_left]; exact Int.ofNat_le.mp h3) (by rw [Nat.add_sub_cancel_left]; exact Int.ofNat_le.mp h5),n_cutS0 hz (Nat.le_trans (Nat.le_add_right _ _) hj),?_,?_⟩
  · exact n_cutS (i:=i) (j:=i+j) hz (Nat.le_add_right _ _) hj
  · exact n_cutS (i:=i+j) (j:=i+j+k) hz (Nat.le_add_right _ _) h6
theorem val_row {cf:CallF} {G:Gs} {e:E} {c s:Int} {n:Nat} (hn:n≤12) (hr:seqV (.list (rangeL 0 n))=some ((List.range n).map fun i:Nat=>.int (0+(i:Int)))) (h0:∀ i:Nat,Val cf (G.set 6 (.v (.int (0+(i:Int))))) (vv 0) (.int c)) (h1:∀ i:Nat,Val cf (G.set 6 (.v (.int (0+(i:Int))))) (vv 1) (.str abc)) (h2:∀ i:Nat,Val cf (G.set 6 (.v (.int (0+(i:Int))))) (vv 2) (.int s)) (h6:∀ i:Nat,Val cf (G.set 6 (.v (.int (0+(i:Int))))) (vv 6) (.int (0+(i:Int))))
    (hs:s.natAbs≤1000000) (hsrc:Val cf G e (.list (rangeL 0 n))):Val cf G (.nd .join [ss k0,.nd (.comp 6) [e,f20c0]]) (text (rowL c s n)):=by
  refine val_join ?_ (by unfold rowL; rw [List.length_map,List.length_range]; lia)
  have q:=val_comp0 (k:=6) (f:=fun i:Nat=>text [97+mOf c s i]) hsrc hr (e:=f20c0) fun i m=>val_op (.two (h1 i) (val_op (.two (val_op (.two (h0 i) (val_op (.two (h2 i) (h6 i)) (n_mul (.inr hs)))) rfl) fun _ h=>h) (n_mod (by decide)))) (item_at (f:=fun c=>text [c]) (by decide) (fmod_lo _ (by decide)) (abc_at _ (mOf_lt c s i)).1)
  unfold rowL
  rw [List.map_map]
  exact q
noncomputable def SgS (n:Nat) (cf:CallF):Prop:=∀ c:Int,∃ s0 s1 s2,SgOk s0 s1 s2∧∀ K,K (sg s0 s1 s2)→cf n [.int c] K
theorem pick_at {l:List Int} {i:Int} (h0:0≤i) (h1:i < l.length):(l.map PyData.int)[i.toNat]?=some (.int (l.getD i.toNat 0)):=by
  have:i.toNat < l.length:=by omega
  rw [List.getElem?_map,List.getD_eq_getElem?_getD,List.getElem?_eq_getElem this]; rfl
theorem pick_le:(∀ i,i < 4→([1,1,2,0]:List Int).getD i 0≤2∧0≤([1,1,2,0]:List Int).getD i 0)∧∀ i,i < 5→([1,2,1,1,0]:List Int).getD i 0≤2∧0≤([1,2,1,1,0]:List Int).getD i 0:=by decide
theorem step_le (c:Int):(stepI c).natAbs≤1000000:=by
  have h1:=fmod_lo (c.fdiv 26) (b:=5) (by decide)
  have h2:=fmod_hi (c.fdiv 26) (b:=5) (by decide)
  unfold stepI; lia
theorem row_len (c s:Int) (n:Nat):(rowL c s n).length=n:=by unfold rowL; rw [List.length_map,List.length_range]
theorem p20 (cf:CallF):SgS 20 (step cf):=fun c=>by
  have a1:=fmod_lo (c.fdiv 130) (b:=4) (by decide)
  have a2:=fmod_hi (c.fdiv 130) (b:=4) (by decide)
  have b1:=fmod_lo (c.fdiv 520) (b:=5) (by decide)
  have b2:=fmod_hi (c.fdiv 520) (b:=5) (by decide)
  have o1:=pick_le.1 _ ((Int.toNat_lt a1).mpr a2)
  have o2:=pick_le.2 _ ((Int.toNat_lt b1).mpr b2)
  have e1:=n_subL (l:=[.int 1,.int 1,.int 2,.int 0]) (by decide) a1 (pick_at (l:=[1,1,2,0]) a1 a2)
  have e2:=n_subL (l:=[.int 1,.int 2,.int 1,.int 1,.int 0]) (by decide) b1 (pick_at (l:=[1,2,1,1,0]) b1 b2)
  clear a1 a2 b1 b2
  generalize ([1,1,2,0]:List Int).getD ((c.fdiv 130).fmod 4).toNat 0=one at o1 e1
  generalize ([1,2,1,1,0]:List Int).getD ((c.fdiv 520).fmod 5).toNat 0=two at o2 e2
  have c2:=Int.le_of_lt_add_one (fmod_hi (c.fdiv 2600) (b:=2+1) (by decide))
  obtain ⟨x,y,z,ok,q1,q2,q3⟩:=cut3 (l:=rowL c (stepI c) 6) (i:=one) (j:=two) (k:=(c.fdiv 2600).fmod 3) (by rw [row_len]; decide) (row_nodup c (by decide)) (row_low c _ 6) o1.2 (Int.le_trans o1.1 (by decide)) o2.2 (Int.le_trans o2.1 (by decide)) (fmod_lo _ (by decide)) (Int.le_trans c2 (by decide)) (by rw [row_len]; exact Int.add_le_add (Int.add_le_add o1.1 o2.1) c2)
  refine ⟨x,y,z,ok,fun K h=>run (fn:=f20) rfl rfl rfl ?_⟩
  refine x_assign (v:=.str abc) (fun _ h=>h) (x_assign (v:=.int (stepI c)) (val_op (.two (fun _ h=>h) (val_op (.two (fun _ h=>h) fun _ h=>h) (n_mul (.inr (by decide))))) rfl) ?_)
  refine x_assign (val_row (c:=c) (s:=stepI c) (n:=6) (by decide) rfl (fun i=>fun _ h=>h) (fun i=>fun _ h=>h) (fun i=>fun _ h=>h) (fun i=>fun _ h=>h) (step_le c) fun _ h=>h) ?_
  refine x_assign (v:=.int one) (val_op (.two (fun _ h=>h) fun _ h=>h) e1) (x_assign (v:=.int (one+two)) (val_op (.two (fun _ h=>h) (val_op (.two (fun _ h=>h) fun _ h=>h) e2)) rfl) ?_)
  exact x_ret (v:=sg x y z) (val_op (.cons (val_op (.two (fun _ h=>h) fun _ h=>h) q1) (.two (val_op (.cons (fun _ h=>h) (.two (fun _ h=>h) fun _ h=>h)) q2) (val_op (.cons (fun _ h=>h) (.two (fun _ h=>h) (val_op (.two (fun _ h=>h) fun _ h=>h) rfl))) q3))) rfl) h
theorem one_le (c:Int):0≤1+c.fmod 4∧1+c.fmod 4≤4:=by
  have a1:=fmod_lo c (b:=4) (by decide)
  have a2:=fmod_hi c (b:=4) (by decide)
  lia
theorem p21 (cf:CallF) (h20:SgS 20 cf):SgS 21 (step cf):=fun c=>by
  by_cases h3:(c.fdiv 7800).fmod 8=3
  · have a:=one_le (c.fdiv 130)
    have b:=one_le (c.fdiv 520)
    have d:=one_le (c.fdiv 2600)
    obtain ⟨x,y,z,ok,q1,q2,q3⟩:=cut3 (l:=rowL c (stepI c) 12) (by rw [row_len]; decide) (row_nodup c (by decide)) (row_low c _ 12) a.1 a.2 b.1 b.2 d.1 d.2 (by rw [row_len]; exact Int.add_le_add (Int.add_le_add a.2 b.2) d.2)
    rw [← Int.add_assoc] at q2 q3
    rw [← Int.add_assoc] at q3
    refine ⟨x,y,z,ok,fun K h=>run (fn:=f21) rfl rfl rfl ?_⟩
    refine x_ifF (val_cmp (x:=.int ((c.fdiv 7800).fmod 8)) (fun _ h=>h) (fun _ h=>h) (c_ne.trans (by rw [h3]; rfl))) ?_
    refine x_assign (v:=.str abc) (fun _ h=>h) (x_assign (v:=.int (stepI c)) (val_op (.two (fun _ h=>h) (val_op (.two (fun _ h=>h) fun _ h=>h) (n_mul (.inr (by decide))))) rfl) ?_)
    refine x_assign (val_row (c:=c) (s:=stepI c) (n:=12) (by decide) rfl (fun i=>fun _ h=>h) (fun i=>fun _ h=>h) (fun i=>fun _ h=>h) (fun i=>fun _ h=>h) (step_le c) fun _ h=>h) ?_
    refine x_assign (v:=.int (1+(c.fdiv 130).fmod 4)) (fun _ h=>h) (x_assign (v:=.int (1+(c.fdiv 130).fmod 4+1+(c.fdiv 520).fmod 4)) (fun _ h=>h) ?_)
    exact x_ret (v:=sg x y z) (val_op (.cons (val_op (.two (fun _ h=>h) fun _ h=>h) q1) (.two (val_op (.cons (fun _ h=>h) (.two (fun _ h=>h) fun _ h=>h)) q2) (val_op (.cons (fun _ h=>h) (.two (fun _ h=>h) fun _ h=>h)) q3))) rfl) h
  · obtain ⟨s0,s1,s2,ok,h⟩:=h20 c
    refine ⟨s0,s1,s2,ok,fun K hk=>run (fn:=f21) rfl rfl rfl (x_ifT (val_cmp (x:=.int ((c.fdiv 7800).fmod 8)) (fun _ h=>h) (fun _ h=>h) (c_ne.trans (congrArg some ?_))) (x_ret (val_call (.one fun _ h=>h) h) hk))⟩
    rw [beq_eq_false_iff_ne.mpr h3]; rfl
end Mine.L02
end
noncomputable section
namespace Mine.L02
open PySem
theorem n_lenX {l:List Nat} (h:l.length≤5000):opN .len [text l]=some (.int l.length):=n_lenS (s:=⟨l.toArray⟩) h
theorem c_eq0 {l:List V} (hl:okEq (.list l)=true):cmpOp .Eq (.list l) (.list [])=some l.isEmpty:=(if_pos (by rw [hl]; rfl)).trans (congrArg some (by cases l <;> rfl))
noncomputable def pickN (cell:Int) (s:List Nat):Nat:=s.getD ((cell.fdiv 256).fmod s.length).toNat 0
theorem pick_lt {cell:Int} {n:Nat} (h:0 < n):(cell.fmod n).toNat < n:=by
  have h1:=fmod_lo cell (b:=n) (by omega)
  have h2:=fmod_hi cell (b:=n) (by omega)
  omega
theorem pickN_at {cell:Int} {s:List Nat} (h:s≠[]):s[((cell.fdiv 256).fmod s.length).toNat]?=some (pickN cell s):=by
  have:=pick_lt (cell:=cell.fdiv 256) (List.length_pos_iff.mpr h)
  unfold pickN
  rw [List.getD_eq_getElem?_getD,List.getElem?_eq_getElem this]; rfl
theorem pickN_mem {cell:Int} {s:List Nat} (h:s≠[]):pickN cell s∈s:=List.mem_of_getElem? (pickN_at h)
theorem val_pick {cf:CallF} {G:Gs} {e:E} {cell:Int} {s:List Nat} (he:Val cf G e (text s)) (h0:Val cf G (vv 0) (.int cell)) (hs:s≠[]) (hl:s.length≤4):Val cf G (.nd .sub [e,.nd (.bin .Mod) [.nd (.bin .FloorDiv) [vv 0,ii 256],.nd .len [e]]]) (text [pickN cell s]):=
  have hp:=List.length_pos_iff.mpr hs
  have hz:s.length≤5000:=Nat.le_trans hl (by decide)
  val_op (.two he (val_op (.two (val_op (.two h0 fun _ h=>h) (n_div (by decide) (by decide))) (val_op (.one he) (n_lenX hz))) (n_mod (by lia)))) (n_subS hz (fmod_lo _ (by lia)) (pickN_at hs))
theorem text_ne {l:List Nat} (h:PyData.strOk ⟨l.toArray⟩=true):cmpOp .NotEq (text l) (.str k0)=some (!l.isEmpty):=(c_neS h ok_0).trans (congrArg (fun b=>some (!b)) (by
  cases l with
  | nil=>rfl
  | cons c r=>exact beq_eq_false_iff_ne.mpr fun e=>nomatch congrArg (fun s:Str=>s.cps.toList) e))
theorem list_ne {l:List V} (h:∀ x∈l,Flat 1 x):cmpOp .NotEq (.list l) (.list [])=some (!l.isEmpty):=congrArg (Option.map (!·)) (c_eq0 (flat_ok (n:=2) (flat_list h) (by decide)):eqO (.list l) (.list [])=some l.isEmpty)
noncomputable def wayO (s0 s1 s2:List Nat) (R:Int) (v:V):Prop:=v=.none∨∃ w,W.ok s0 s1 s2 R w∧v=w.v
noncomputable def isOp:W→Prop
  | .op _ _ _ _=>True
  | _=>False
noncomputable def S22 (cf:CallF):Prop:=∀ cell s0 s1 s2 R (os:List W) (most:Int),SgOk s0 s1 s2→1≤R→os.length≤100→(∀ w∈os,isOp w∧W.ok s0 s1 s2 R w)→∃ v,wayO s0 s1 s2 R v∧∀ K,K v→cf 22 [.int cell,sg s0 s1 s2,.int R,waysV os,.int most] K
section
variable {cf:CallF} {cell R most:Int} {s0 s1 s2:List Nat} {os:List W}
noncomputable def g22 (cell:Int) (s0 s1 s2:List Nat) (R:Int) (os:List W) (most a b t:Int):Gs:=[.v (.int cell),.v (sg s0 s1 s2),.v (.int R),.v (waysV os),.v (.int most),.v (.int a),.v (.int b),.v (.int t)]
theorem not_nil {K:Option V→Gs→Prop} (a b t:Int) (fl:∀ x∈os.map W.v,Flat 1 x):Val cf (g22 cell s0 s1 s2 R os most a b t) (.nd (.cmp .NotEq) [vv 3,.nd .list []]) (.bool (!(os.map W.v).isEmpty)):=val_cmp (x:=.list (os.map W.v)) (fun _ h=>h) (fun _ h=>h) (list_ne fl)
theorem p22_open (sk:SgOk s0 s1 s2) (ok:∀ w∈os,isOp w∧W.ok s0 s1 s2 R w) (hl:os.length≤100) (fl:∀ x∈os.map W.v,Flat 1 x) (h0:s0≠[]) {a b t:Int} (ha:In R a) (hb:In R b) (ht:In R t):∃ v,wayO s0 s1 s2 R v∧∀ (r:List S) (K:Option V→Gs→Prop),(∀ G,K (some v) G)→exs sup cf (f22c1++r) (g22 cell s0 s1 s2 R os most a b t) K:=by
  have q0:∀ {k:Int},Val cf (g22 cell s0 s1 s2 R os most a b t) (.nd (.cmp .Eq) [.nd (.bin .Mod) [.nd (.bin .FloorDiv) [vv 0,ii 1024],ii 3],ii k]) (.bool ((cell.fdiv 1024).fmod 3==k)):=fun K h=>h
  have last:∀ (r:List S) (K:Option V→Gs→Prop),(∀ G,K (some (W.v (.op a (pickN cell s0) b t))) G)→exs sup cf (.mk .ret [.nd .tuple [ss kOpen,vv 5,.nd .sub [.nd .sub [vv 1,ii 0],.nd (.bin .Mod) [.nd (.bin .FloorDiv) [vv 0,ii 256],.nd .len [.nd .sub [vv 1,ii 0]]]],vv 6,vv 7]] [] [] :: r) (g22 cell s0 s1 s2 R os most a b t) K:=fun r K h=>
    x_ret (val_op (.cons (fun _ h=>h) (.cons (fun _ h=>h) (.cons (val_pick (fun _ h=>h) (fun _ h=>h) h0 sk.la) (.two (fun _ h=>h) fun _ h=>h)))) rfl) (h _)
  cases os with
  | nil=>
    refine ⟨_,.inr ⟨.op a (pickN cell s0) b t,⟨ha,pickN_mem h0,hb,ht⟩,rfl⟩,fun r K h=>?_⟩
    exact x_ifF (val_and (.stop (b:=true) (not_nil (K:=K) a b t fl))) (x_ifF (val_and (.stop (b:=true) (not_nil (K:=K) a b t fl))) (last r K h))
  | cons w os=>
    obtain ⟨io,wo⟩:=ok w (.head _)
    cases w with
    | on=>cases io
    | cl=>cases io
    | op a' c' b' t'=>
      have hz:((W.op a' c' b' t' :: os).map W.v).length≤5000:=by rw [List.length_map]; lia
      have w0:Val cf (g22 cell s0 s1 s2 R (.op a' c' b' t' :: os) most a b t) (.nd .sub [vv 3,ii 0]) (W.v (.op a' c' b' t')):=val_op (.two (x:=.list ((W.op a' c' b' t' :: os).map W.v)) (fun _ h=>h) fun _ h=>h) (n_subL hz (Int.le_refl _) rfl)
      by_cases c0:(cell.fdiv 1024).fmod 3=0
      · refine ⟨_,.inr ⟨.op a' c' b t,⟨wo.1,wo.2.1,hb,ht⟩,rfl⟩,fun r K h=>?_⟩
        exact x_ifT (val_and (.go (not_nil (K:=K) a b t fl) (.go (by have:=q0 (k:=0); rw [c0] at this; exact this) .nil))) (x_ret (val_op (.two (x:=.tuple [.str kOpen,.int a',text [c']]) (val_op (.two w0 fun _ h=>h) rfl) fun _ h=>h) rfl) (h _))
      · have n0:=q0 (k:=0)
        rw [beq_eq_false_iff_ne.mpr c0] at n0
        have s1:∀ {X:List S} {r K},exs sup cf r (g22 cell s0 s1 s2 R (.op a' c' b' t' :: os) most a b t) K→exs sup cf (.mk .ite [.nd .and [.nd (.cmp .NotEq) [vv 3,.nd .list []],.nd (.cmp .Eq) [.nd (.bin .Mod) [.nd (.bin .FloorDiv) [vv 0,ii 1024],ii 3],ii 0]]] X [] :: r) (g22 cell s0 s1 s2 R (.op a' c' b' t' :: os) most a b t) K:=fun {X r K} h=>x_ifF (val_and (.go (not_nil (K:=K) a b t fl) (.stop (b:=true) n0))) h
        by_cases c1:(cell.fdiv 1024).fmod 3=1
        · refine ⟨_,.inr ⟨.op (R - 1 - a') c' b t,⟨⟨by have:=wo.1.2; lia,by have:=wo.1.1; lia⟩,wo.2.1,hb,ht⟩,rfl⟩,fun r K h=>s1 ?_⟩
          refine x_ifT (val_and (.go (not_nil (K:=K) a b t fl) (.go (by have:=q0 (k:=1); rw [c1] at this; exact this) .nil))) (x_ret (val_op (.cons (fun _ h=>h) (.cons (val_op (.two (x:=.int (R - 1)) (fun _ h=>h) (val_op (.two w0 fun _ h=>h) rfl)) rfl) (.cons (val_op (.two w0 fun _ h=>h) rfl) (.two (fun _ h=>h) fun _ h=>h)))) rfl) (h _))
        · refine ⟨_,.inr ⟨.op a (pickN cell s0) b t,⟨ha,pickN_mem h0,hb,ht⟩,rfl⟩,fun r K h=>s1 ?_⟩
          have n1:=q0 (k:=1)
          rw [beq_eq_false_iff_ne.mpr c1] at n1
          exact x_ifF (val_and (.go (not_nil (K:=K) a b t fl) (.stop (b:=true) n1))) (last r K h)
theorem p22_close (sk:SgOk s0 s1 s2) (ok:∀ w∈os,isOp w∧W.ok s0 s1 s2 R w) (hl:os.length≤100) (fl:∀ x∈os.map W.v,Flat 1 x) (h1:s1≠[]) {a b t:Int} (ha:In R a) (hb:In R b) (ht:In R t):∃ v,wayO s0 s1 s2 R v∧∀ (r:List S) (K:Option V→Gs→Prop),(∀ G,K (some v) G)→exs sup cf (f22c2++r) (g22 cell s0 s1 s2 R os most a b t) K:=by
  have last:∀ (a b:Int) (r:List S) (K:Option V→Gs→Prop),(∀ G,K (some (W.v (.cl a b (pickN cell s1) t))) G)→exs sup cf (.mk .ret [.nd .tuple [ss kClose,vv 5,vv 6,.nd .sub [.nd .sub [vv 1,ii 1],.nd (.bin .Mod) [.nd (.bin .FloorDiv) [vv 0,ii 256],.nd .len [.nd .sub [vv 1,ii 1]]]],vv 7]] [] [] :: r) (g22 cell s0 s1 s2 R os most a b t) K:=fun a b r K h=>
    x_ret (val_op (.cons (fun _ h=>h) (.cons (fun _ h=>h) (.cons (fun _ h=>h) (.two (val_pick (fun _ h=>h) (fun _ h=>h) h1 sk.lb) fun _ h=>h)))) rfl) (h _)
  have nn:=fun K=>not_nil (cf:=cf) (cell:=cell) (s0:=s0) (s1:=s1) (s2:=s2) (R:=R) (most:=most) (K:=K) a b t fl
  by_cases he:os=[]
  · refine ⟨_,.inr ⟨.cl a b (pickN cell s1) t,⟨ha,hb,pickN_mem h1,ht⟩,rfl⟩,fun r K h=>?_⟩
    subst he
    exact x_ifF (val_and (.stop (b:=true) (nn K))) (last a b r K h)
  · have ne:(!(os.map W.v).isEmpty)=true:=by cases os with | nil=>exact absurd rfl he | cons=>rfl
    by_cases c0:0 < (cell.fdiv 1024).fmod 4
    · have hlt:=pick_lt (cell:=cell.fdiv 16) (List.length_pos_iff.mpr he)
      obtain ⟨io,wo⟩:=ok _ (List.getElem_mem hlt)
      have hw:(os.map W.v)[((cell.fdiv 16).fmod os.length).toNat]?=some (W.v os[((cell.fdiv 16).fmod os.length).toNat]):=by rw [List.getElem?_map,List.getElem?_eq_getElem hlt]; rfl
      generalize os[((cell.fdiv 16).fmod os.length).toNat]=w at io wo hw
      cases w with
      | on=>cases io
      | cl=>cases io
      | op a' c' b' t'=>
        refine ⟨_,.inr ⟨.cl b' t' (pickN cell s1) t,⟨wo.2.2.1,wo.2.2.2,pickN_mem h1,ht⟩,rfl⟩,fun r K h=>?_⟩
        have hz:(os.map W.v).length≤5000:=by rw [List.length_map]; grind
        refine x_ifT (val_and (.go (ne▸nn K) (.go (val_cmp (x:=.int ((cell.fdiv 1024).fmod 4)) (fun _ h=>h) (fun _ h=>h) (c_gt c0)) .nil))) ?_
        refine x_assignM (v:=.tuple [.int b',.int t']) (val_op (.two (val_op (.two (x:=.list (os.map W.v)) (fun _ h=>h) (val_op (.two (x:=.int (cell.fdiv 16)) (fun _ h=>h) (val_op (.one (v:=.list (os.map W.v)) fun _ h=>h) (n_len hz))) (n_mod (by rw [List.length_map]; have:=List.length_pos_iff.mpr he; grind)))) (n_subL hz (by rw [List.length_map]; exact fmod_lo _ (by have:=List.length_pos_iff.mpr he; grind)) (by rw [List.length_map]; exact hw))) fun _ h=>h) rfl) rfl (last b' t' r K h)
    · refine ⟨_,.inr ⟨.cl a b (pickN cell s1) t,⟨ha,hb,pickN_mem h1,ht⟩,rfl⟩,fun r K h=>?_⟩
      exact x_ifF (val_and (.go (ne▸nn K) (.stop (b:=true) (val_cmp (x:=.int ((cell.fdiv 1024).fmod 4)) (fun _ h=>h) (fun _ h=>h) (c_ngt c0))))) (last a b r K h)
end
theorem p22 (cf:CallF):S22 (step cf):=fun cell s0 s1 s2 R os most sk hR hl ok=>by
  have in':∀ x:Int,In R (x.fmod R):=fun x=>⟨fmod_lo x (by lia),fmod_hi x (by lia)⟩
  have fl:∀ x∈os.map W.v,Flat 1 x:=fun x m=>by
    obtain ⟨w,mw,rfl⟩:=List.mem_map.mp m
    exact flat_way sk (ok w mw).2
  have hz:(os.map W.v).length≤5000:=by rw [List.length_map]; lia
  have start:∀ (K:V→Prop),(exs sup cf (f22.body.drop 3) (g22 cell s0 s1 s2 R os most ((cell.fdiv 4).fmod R) ((cell.fdiv 16).fmod R) ((cell.fdiv 64).fmod R)) fun fl _=>K (fl.getD .none))→step cf 22 [.int cell,sg s0 s1 s2,.int R,waysV os,.int most] K:=fun K h=>
    run (fn:=f22) rfl rfl rfl (x_assign (val_op (.two (fun _ h=>h) fun _ h=>h) (n_mod (by lia))) (x_assign (val_op (.two (fun _ h=>h) fun _ h=>h) (n_mod (by lia))) (x_assign (val_op (.two (fun _ h=>h) fun _ h=>h) (n_mod (by lia))) h)))
  have c1:Val cf (g22 cell s0 s1 s2 R os most ((cell.fdiv 4).fmod R) ((cell.fdiv 16).fmod R) ((cell.fdiv 64).fmod R)) (.nd .and [.nd (.cmp .Eq) [.nd (.bin .Mod) [vv 0,ii 4],ii 0],.nd (.cmp .Lt) [.nd .len [vv 3],vv 4],.nd (.cmp .NotEq) [.nd .sub [vv 1,ii 0],ss k0]]) (.bool ((cell.fmod 4==0)&&(decide (((os.map W.v).length:Int) < most)&&(!s0.isEmpty&&true)))):=
    val_and (.and (fun _ h=>h) fun _=>.and (val_cmp (val_op (.one (v:=.list (os.map W.v)) fun _ h=>h) (n_len hz)) (fun _ h=>h) rfl) fun _=>.and (val_cmp (x:=text s0) (fun _ h=>h) (fun _ h=>h) (text_ne (ok_text fun c m=>sk.lowA m))) fun _=>.nil)
  have c2:Val cf (g22 cell s0 s1 s2 R os most ((cell.fdiv 4).fmod R) ((cell.fdiv 16).fmod R) ((cell.fdiv 64).fmod R)) (.nd .and [.nd (.cmp .Lt) [.nd (.bin .Mod) [vv 0,ii 4],ii 2],.nd (.cmp .NotEq) [.nd .sub [vv 1,ii 1],ss k0]]) (.bool (decide (cell.fmod 4 < 2)&&(!s1.isEmpty&&true))):=
    val_and (.and (fun _ h=>h) fun _=>.and (val_cmp (x:=text s1) (fun _ h=>h) (fun _ h=>h) (text_ne (ok_text fun c m=>sk.lowB m))) fun _=>.nil)
  have c3:Val cf (g22 cell s0 s1 s2 R os most ((cell.fdiv 4).fmod R) ((cell.fdiv 16).fmod R) ((cell.fdiv 64).fmod R)) (.nd (.cmp .NotEq) [.nd .sub [vv 1,ii 2],ss k0]) (.bool (!s2.isEmpty)):=val_cmp (x:=text s2) (fun _ h=>h) (fun _ h=>h) (text_ne (ok_text fun c m=>sk.lowC m))
  have ne:∀ {s:List Nat},(!s.isEmpty)=true→s≠[]:=fun h e=>by rw [e] at h; (injection h; done)
  cases t1:(cell.fmod 4==0)&&(decide (((os.map W.v).length:Int) < most)&&(!s0.isEmpty&&true)) with
  | true=>
    rw [t1] at c1
    have z:=(Bool.and_eq_true _ _).mp ((Bool.and_eq_true _ _).mp ((Bool.and_eq_true _ _).mp t1).2).2
    obtain ⟨v,hv,h⟩:=p22_open (cf:=cf) (cell:=cell) (most:=most) sk ok hl fl (ne z.1) (in' (cell.fdiv 4)) (in' (cell.fdiv 16)) (in' (cell.fdiv 64))
    exact ⟨v,hv,fun K k=>start K (x_ifT c1 (h _ _ fun _=>k))⟩
  | false=>
    rw [t1] at c1
    cases t2:decide (cell.fmod 4 < 2)&&(!s1.isEmpty&&true) with
    | true=>
      rw [t2] at c2
      have z:=(Bool.and_eq_true _ _).mp ((Bool.and_eq_true _ _).mp t2).2
      obtain ⟨v,hv,h⟩:=p22_close (cf:=cf) (cell:=cell) (most:=most) sk ok hl fl (ne z.1) (in' (cell.fdiv 4)) (in' (cell.fdiv 16)) (in' (cell.fdiv 64))
      exact ⟨v,hv,fun K k=>start K (x_ifF c1 (x_ifT c2 (h _ _ fun _=>k)))⟩
    | false=>
      rw [t2] at c2
      cases t3:s2.isEmpty with
      | true=>
        rw [t3] at c3
        exact ⟨.none,.inl rfl,fun K k=>start K (x_ifF c1 (x_ifF c2 (x_ifF c3 (x_ret (fun _ h=>h) k))))⟩
      | false=>
        rw [t3] at c3
        have h2:s2≠[]:=ne (by rw [t3]; rfl)
        exact ⟨_,.inr ⟨.on ((cell.fdiv 4).fmod R) (pickN cell s2) ((cell.fdiv 16).fmod R),⟨in' _,pickN_mem h2,in' _⟩,rfl⟩,fun K k=>start K (x_ifF c1 (x_ifF c2 (x_ifT c3 (x_ret (val_op (.cons (fun _ h=>h) (.cons (fun _ h=>h) (.two (val_pick (fun _ h=>h) (fun _ h=>h) h2 sk.lc) fun _ h=>h))) rfl) k))))⟩
end Mine.L02
end
noncomputable section
namespace Mine.L02
open PySem
theorem rOk_of {n:Int} (h0:0≤n) (h:n≤1000):rOk n=true:=Nat.ble_eq_true_of_le (by lia)
theorem range_len {n:Int}:(rangeL 0 n).length=n.toNat:=by unfold rangeL; rw [List.length_map,List.length_range,Int.sub_zero]
theorem n_range {n:Int} (h0:0≤n) (h:n≤1000):opN .range [.int n]=some (.list (rangeL 0 n)):=(if_pos ⟨rfl,rOk_of h0 h⟩).trans (if_pos (sz_of (by rw [range_len]; lia)))
theorem seq_range {n:Int} (h:n≤1000):seqV (.list (rangeL 0 n))=some (rangeL 0 n):=seq_list (by rw [range_len]; lia)
theorem range_eq (n:Int):rangeL 0 n=(List.range n.toNat).map fun i:Nat=>.int (0+(i:Int)):=by unfold rangeL; rw [Int.sub_zero]
theorem val_range {cf:CallF} {G:Gs} {e:E} {n:Int} (h:Val cf G e (.int n)) (h0:0≤n) (hz:n≤1000):Val cf G (.nd .range [e]) (.list (rangeL 0 n)):=val_op (.one h) (n_range h0 hz)
noncomputable def pickR (n:Nat) (p:Nat→Bool):List Int:=((List.range n).filter p).map fun i:Nat=>0+(i:Int)
theorem pickR_ok {R:Int} {p:Nat→Bool} (h:R≤4):RoomsOk R (pickR R.toNat p) where
  len:=by
    unfold pickR
    rw [List.length_map]
    have:=List.length_filter_le p (List.range R.toNat)
    rw [List.length_range] at this
    lia
  nodup:=List.pairwise_map.mpr ((List.nodup_range.filter p).imp fun h e=>h (by lia))
  rooms:=fun i m=>by
    obtain ⟨j,mj,rfl⟩:=List.mem_map.mp m
    have:=List.mem_range.mp (List.mem_filter.mp mj).1
    exact ⟨by lia,by lia⟩
theorem val_rooms {cf:CallF} {G:Gs} {e t:E} {R:Int} {k:Nat} {p:Nat→Bool} (h:Val cf G e (.int R)) (h0:0≤R) (h1:R≤4) (ht:∀ i:Nat,(i:Int) < R→Val cf (G.set k (.v (.int (0+(i:Int))))) t (.bool (p i))) (hv:∀ i:Nat,Val cf (G.set k (.v (.int (0+(i:Int))))) (vv k) (.int (0+(i:Int)))) :
    Val cf G (.nd (.comp k) [.nd .range [e],vv k,t]) (roomsV (pickR R.toNat p)):=by
  have q:=val_comp (k:=k) (e:=vv k) (ts:=[t]) (p:=p) (f:=fun i:Nat=>.int (0+(i:Int))) (val_range h h0 (by lia)) ((seq_range (by lia)).trans (congrArg some (range_eq R))) (fun i m=>Tests.one (ht i (by have:=List.mem_range.mp m; lia))) fun i m _=>hv i
  unfold roomsV pickR
  rw [List.map_map]
  exact q
theorem div1 {i:Nat} {R:Int} (h:(i:Int) < R) (h4:R≤4):0 < 4 * (0+(i:Int))+1∧4 * (0+(i:Int))+1≤1000000:=by lia
theorem div2 {i:Nat} {R:Int} (h:(i:Int) < R) (h4:R≤4):0 < 5 * (0+(i:Int))+7∧5 * (0+(i:Int))+7≤1000000:=by lia
structure PartsOk (s0 s1 s2:List Nat) (R:Int) (st en:List Int) (ws:List W):Prop where
  r1:1≤R
  r4:R≤4
  st:RoomsOk R st
  en:RoomsOk R en
  len:ws.length≤10
  ok:∀ w∈ws,W.ok s0 s1 s2 R w
noncomputable def S23 (cf:CallF):Prop:=∀ scr s0 s1 s2 K,scr.length≤63→SgOk s0 s1 s2→(∀ R st en ws,PartsOk s0 s1 s2 R st en ws→K (partsV (sg s0 s1 s2) R st en ws))→cf 23 [scrV scr,.int 3,sg s0 s1 s2,.int 4] K
noncomputable def opB:W→Bool
  | .op _ _ _ _=>true
  | _=>false
theorem p23 (cf:CallF) (hA:S14 cf) (hB:S15 cf) (hC:S22 cf):S23 (step cf):=fun scr s0 s1 s2 K hs sk h=>by
  have mR:=one_le (cellI scr 3)
  have mR1:1≤1+(cellI scr 3).fmod 4:=Int.add_le_add_left (fmod_lo (cellI scr 3) (b:=4) (by decide)) 1
  have n1:0≤2+((cellI scr 3).fdiv 4).fmod 9:=Int.add_le_add (show 0≤(2:Int) by decide) (fmod_lo _ (by decide))
  have n2:2+((cellI scr 3).fdiv 4).fmod 9≤10:=Int.add_le_add_left (Int.le_of_lt_add_one (fmod_hi _ (b:=8+1) (by decide))) 2
  have cA:∀ {G a b} {i:Int},Val cf G a (scrV scr)→Val cf G b (.int i)→0≤i→Val cf G (.nd (.call 14) [a,b]) (.int (cellI scr i)):=fun ha hb hi=>val_call (.two ha hb) fun K h=>hA scr _ K hs hi h
  have e1:=pick_at (l:=[4,2,1,1]) (i:=1+(cellI scr 3).fmod 4 - 1) (Int.sub_nonneg_of_le mR1) (Int.sub_lt_iff.mpr (Int.lt_add_one_of_le mR.2))
  refine run (fn:=f23) rfl rfl rfl ?_
  have mR2:=mR.2
  have mR0:=mR.1
  clear mR
  generalize hR:1+(cellI scr 3).fmod 4=R at e1 mR0 mR1 mR2
  refine x_assign (v:=.int R) (hR▸val_op (.two (fun _ h=>h) (val_op (.two (cA (fun _ h=>h) (fun _ h=>h) (by decide)) fun _ h=>h) (n_mod (by decide)))) rfl) ?_
  refine x_assign (val_op (.two (x:=.list [.int 4,.int 2,.int 1,.int 1]) (fun _ h=>h) fun _ h=>h) (n_subL (by decide) (Int.sub_nonneg_of_le mR1) e1)) ?_
  generalize ([4,2,1,1]:List Int).getD (R - 1).toNat 0=many
  refine x_assign (val_rooms (p:=fun i=>decide (0 < ((cellI scr 4).fdiv (4 * (0+(i:Int))+1)).fmod 3)) (fun _ h=>h) mR0 mR2 (fun i hi=>val_cmp (val_op (.two (val_op (.two (cA (i:=4) (fun _ h=>h) (fun _ h=>h) (by decide)) (val_op (.two (val_op (.two (fun _ h=>h) fun _ h=>h) (n_mul (.inr (by decide)))) fun _ h=>h) rfl)) (n_div (div1 hi mR2).1 (div1 hi mR2).2)) fun _ h=>h) (n_mod (by decide))) (fun _ h=>h) rfl) fun i=>fun _ h=>h) ?_
  refine x_assign (val_rooms (p:=fun i=>((cellI scr 4).fdiv (5 * (0+(i:Int))+7)).fmod 2==0) (fun _ h=>h) mR0 mR2 (fun i hi=>val_cmp (val_op (.two (val_op (.two (cA (i:=4) (fun _ h=>h) (fun _ h=>h) (by decide)) (val_op (.two (val_op (.two (fun _ h=>h) fun _ h=>h) (n_mul (.inr (by decide)))) fun _ h=>h) rfl)) (n_div (div2 hi mR2).1 (div2 hi mR2).2)) fun _ h=>h) (n_mod (by decide))) (fun _ h=>h) rfl) fun i=>fun _ h=>h) (x_own0 ?_)
  have ost:=pickR_ok (R:=R) (p:=fun i=>decide (0 < ((cellI scr 4).fdiv (4 * (0+(i:Int))+1)).fmod 3)) mR2
  have oen:=pickR_ok (R:=R) (p:=fun i=>((cellI scr 4).fdiv (5 * (0+(i:Int))+7)).fmod 2==0) mR2
  generalize pickR R.toNat (fun i=>decide (0 < ((cellI scr 4).fdiv (4 * (0+(i:Int))+1)).fmod 3))=st at ost
  generalize pickR R.toNat (fun i=>((cellI scr 4).fdiv (5 * (0+(i:Int))+7)).fmod 2==0)=en at oen
  refine x_for (xs:=rangeL 0 (2+((cellI scr 3).fdiv 4).fmod 9)) (P:=fun xs G=>∃ ws s9 s10 s11,(∀ x∈xs,∃ i:Int,0≤i∧x=.int i)∧ws.length+xs.length≤10∧(∀ w∈ws,W.ok s0 s1 s2 R w)∧G=[.v (scrV scr),.v (.int 3),.v (sg s0 s1 s2),.v (.int 4),.v (.int R),.v (.int many),.v (roomsV st),.v (roomsV en),.ownL (ws.map W.v),s9,s10,s11,.unset,.unset])
    (val_range (val_op (.two (fun _ h=>h) (val_op (.two (val_op (.two (cA (fun _ h=>h) (fun _ h=>h) (by decide)) fun _ h=>h) (n_div (by decide) (by decide))) fun _ h=>h) (n_mod (by decide)))) rfl) n1 (Int.le_trans n2 (by decide))) (seq_range (Int.le_trans n2 (by decide))) ⟨[],_,_,_,fun x m=>?_,by rw [range_len,List.length_nil,Nat.zero_add]; exact Int.toNat_le.mpr n2,fun w m=>(nomatch m),rfl⟩ (fun G hP=>?_) fun x xs' G Kt hP nx _=>?_
  · rw [range_eq] at m
    obtain ⟨i,_,rfl⟩:=List.mem_map.mp m
    exact ⟨_,Int.add_nonneg (by decide) (Int.natCast_nonneg i),rfl⟩
  · obtain ⟨ws,s9,s10,s11,_,hl,hw,rfl⟩:=hP
    rw [List.length_nil] at hl
    exact x_freeze (l:=ws.map W.v) rfl (x_ret (fun _ h=>h) (h R st en ws ⟨mR1,mR2,ost,oen,Nat.le_trans hl (by decide),hw⟩))
  · obtain ⟨ws,s9,s10,s11,hx,hl,hw,rfl⟩:=hP
    rw [List.length_cons,← Nat.add_assoc] at hl
    have hl':=Nat.le_of_succ_le hl
    have hw10:ws.length≤10:=Nat.le_trans (Nat.le_add_right _ _) hl'
    obtain ⟨i,hi,rfl⟩:=hx x (.head _)
    have hz:(ws.map W.v).length≤5000:=by rw [List.length_map]; exact Nat.le_trans hw10 (by decide)
    refine x_assign (v:=waysV (ws.filter opB)) (val_comp (g:=W.v) (p:=opB) (f:=W.v) (x:=.list (ws.map W.v)) (fun _ h=>h) (seq_list hz) (fun w m=>Tests.one ?_) fun w m _=>fun _ h=>h) ?_
    · cases w with
      | on a c b=>exact val_cmp (x:=.str kOn) (fun _ h=>h) (fun _ h=>h) ((c_eqS ok_on ok_open).trans (congrArg some (by rfl)))
      | op a c b t=>exact val_cmp (x:=.str kOpen) (fun _ h=>h) (fun _ h=>h) ((c_eqS ok_open ok_open).trans (congrArg some (by rfl)))
      | cl a b c t=>exact val_cmp (x:=.str kClose) (fun _ h=>h) (fun _ h=>h) ((c_eqS ok_close ok_open).trans (congrArg some (by rfl)))
    obtain ⟨v,hv,hC⟩:=hC (mixI (cellI scr (3+2+i)) i) s0 s1 s2 R (ws.filter opB) many sk mR1 (Nat.le_trans (List.length_filter_le opB ws) (Nat.le_trans hw10 (by decide))) fun w m=>by
      have m:=List.mem_filter.mp m
      exact ⟨(by cases w with | op=>trivial | _=>(injection m.2; done)),hw w m.1⟩
    refine x_assign (v:=v) (val_call (vs:=[.int (mixI (cellI scr (3+2+i)) i),sg s0 s1 s2,.int R,waysV (ws.filter opB),.int many]) (.cons (val_call (.two (cA (i:=3+2+i) (fun _ h=>h) (fun _ h=>h) (Int.add_nonneg (by decide) hi)) fun _ h=>h) fun K h=>hB _ _ K h) (.cons (fun _ h=>h) (.cons (fun _ h=>h) (.two (fun _ h=>h) fun _ h=>h)))) hC (by rcases hv with rfl | ⟨w,_,rfl⟩ <;> rfl)) ?_
    have hx':∀ x∈xs',∃ i:Int,0≤i∧x=.int i:=fun x m=>hx x (.tail _ m)
    rcases hv with rfl | ⟨w,ow,rfl⟩
    · exact x_ifF (fun _ h=>h) (x_nil (nx _ ⟨ws,_,_,_,hx',hl',hw,rfl⟩))
    · refine x_ifT (by cases w <;> exact fun _ h=>h) (x_append (l:=ws.map W.v) rfl (v:=w.v) (fun _ h=>h) (Nat.lt_of_le_of_lt hz (by decide)) (x_nil (nx _ ⟨ws++[w],_,_,_,hx',by rw [List.length_append,List.length_singleton,Nat.add_right_comm]; exact hl,fun u m=>?_,by rw [List.map_append]; rfl⟩)))
      rcases List.mem_append.mp m with m | m
      · exact hw u m
      · obtain rfl:=List.mem_singleton.mp m; exact ow
end Mine.L02
end
noncomputable section
namespace Mine.L02
open PySem
section
variable {cf:CallF} {G:Gs} {a b e:E} {l m:List V} {i:Int} {x:V}
theorem n_cutL0 (hz:l.length≤5000) (h0:0≤i) (h1:i≤l.length):opN (.slice false true) [.list l,.int i]=some (.list (l.take i.toNat)):=cut_at (l:=l) (f:=.list) (lo:=none) hz rfl (end_at h0 (by lia)) (Nat.zero_le _)
theorem n_cutL1 (hz:l.length≤5000) (h0:0≤i) (h1:i≤l.length):opN (.slice true false) [.list l,.int i]=some (.list (l.drop i.toNat)):=(cut_at (l:=l) (f:=.list) (hi:=none) hz (end_at h0 (by lia)) rfl (by lia)).trans (by rw [List.take_of_length_le (by rw [List.length_drop]; lia)])
theorem n_cutT0 (hz:l.length≤5000) (h0:0≤i) (h1:i≤l.length):opN (.slice false true) [.tuple l,.int i]=some (.tuple (l.take i.toNat)):=cut_at (l:=l) (f:=.tuple) (lo:=none) hz rfl (end_at h0 (by omega)) (Nat.zero_le _)
theorem n_cutT1 (hz:l.length≤5000) (h0:0≤i) (h1:i≤l.length):opN (.slice true false) [.tuple l,.int i]=some (.tuple (l.drop i.toNat)):=(cut_at (l:=l) (f:=.tuple) (hi:=none) hz (end_at h0 (by lia)) rfl (by lia)).trans (by rw [List.take_of_length_le (by rw [List.length_drop]; lia)])
theorem n_addL (h:(l++m).length≤5000):opN (.bin .Add) [.list l,.list m]=some (.list (l++m)):=if_pos (sz_of h)
theorem n_addT (h:(l++m).length≤5000):opN (.bin .Add) [.tuple l,.tuple m]=some (.tuple (l++m)):=if_pos (sz_of h)
noncomputable def ins (l:List V) (k:Nat) (x:V):List V:=l.take k++[x]++l.drop k
theorem ins_len {k:Nat} (hk:k≤l.length):(ins l k x).length=l.length+1:=by unfold ins; rw [List.length_append,List.length_append,List.length_take,List.length_drop,List.length_singleton]; grind
theorem val_ins (ha:Val cf G a (.list l)) (hb:Val cf G b (.int i)) (he:Val cf G e x) (hz:l.length≤4000) (h0:0≤i) (h1:i≤l.length):Val cf G (.nd (.bin .Add) [.nd (.bin .Add) [.nd (.slice false true) [a,b],.nd .list [e]],.nd (.slice true false) [a,b]]) (.list (ins l i.toNat x)):=by
  have hk:i.toNat≤l.length:=by lia
  have:=ins_len (x:=x) hk
  refine val_op (.two (val_op (.two (val_op (.two ha hb) (n_cutL0 (by lia) h0 h1)) (val_op (.one he) rfl)) (n_addL ?_)) (val_op (.two ha hb) (n_cutL1 (by lia) h0 h1))) (n_addL ?_)
  · rw [List.length_append,List.length_take,List.length_singleton]; lia
  · refine (?_:(ins l i.toNat x).length≤5000); lia
theorem ins_mem {k:Nat} {y:V} (h:y∈ins l k x):y=x∨y∈l:=by
  rcases List.mem_append.mp h with h | h
  · rcases List.mem_append.mp h with h | h
    · exact .inr (List.mem_of_mem_take h)
    · exact .inl (List.mem_singleton.mp h)
  · exact .inr (List.mem_of_mem_drop h)
theorem ins_in {k:Nat}:x∈ins l k x:=List.mem_append_left _ (List.mem_append_right _ (.head _))
theorem ins_no {k:Nat} {p:V→Bool} (h:p x=false):(ins l k x).all p=false:=by
  cases e:(ins l k x).all p with
  | false=>rfl
  | true=>rw [List.all_eq_true.mp e x ins_in] at h; (injection h; done)
theorem ins_lOk {k:Nat} (hz:l.length≤4000) (hk:k≤l.length) (hl:∀ y∈l,tOk y=true) (hx:tOk x=true):lOk (.list (ins l k x))=true:=(Bool.and_eq_true _ _).mpr ⟨decide_eq_true (by rw [ins_len hk]; lia),List.all_eq_true.mpr fun y m=>(ins_mem m).elim (fun e=>e▸hx) (hl y)⟩
theorem pick_of {n c:Int} (hl:l≠[]) (hz:l.length≤5000) (hn:(l.length:Int)=n):∃ x∈l,opN .sub [.list l,.int (c.fmod n)]=some x:=by
  subst hn
  have hp:=List.length_pos_iff.mpr hl
  have h0:=fmod_lo c (b:=l.length) (by omega)
  have h1:=fmod_hi c (b:=l.length) (by omega)
  have hlt:(c.fmod l.length).toNat < l.length:=by omega
  exact ⟨l[(c.fmod l.length).toNat],List.getElem_mem hlt,n_subL hz h0 (List.getElem?_eq_getElem hlt)⟩
theorem pick_r {n:Int} (c:Int) (hn:0≤n):0≤c.fmod (n+1)∧c.fmod (n+1)≤n:=by
  have:=fmod_lo c (b:=n+1) (by omega)
  have:=fmod_hi c (b:=n+1) (by omega)
  omega
end
noncomputable def noSigns:List V:=[.tuple [text [97],text [97],text [98]],.tuple [text [97,97],.str k0,.str k0],.tuple [.str k0,text [98,99,98],.str k0],.tuple [text [97,98,99,100,101],.str k0,.str k0],.tuple [text [65],.str k0,.str k0],.tuple [.str k0,text [97,49],.str k0],
  .tuple [.none,.str k0,.str k0],.tuple [text [97,98],.str k0],.tuple [text [97],text [98],text [99],.str k0],.list [text [97],text [98],text [99]],text [97,98,99],.none,.int 5,.tuple [text [97],.int 5,text [98]],.tuple [.dict [],.str k0,.str k0],.tuple [.str k0,.str k0,.list [text [99]]]]
theorem no_signs:(noSigns.all fun x=>tOk x&&(!asB x&&noX x))=true:=by decide +kernel
theorem p26 (cf:CallF) (c:Int):∃ x,tOk x=true∧asB x=false∧∀ K:V→Prop,K x→step cf 26 [.int c] K:=by
  obtain ⟨x,mx,e⟩:=pick_of (l:=noSigns) (n:=16) (c:=c) nofun (by decide) rfl
  obtain ⟨h1,h⟩:=(Bool.and_eq_true _ _).mp (List.all_eq_true.mp no_signs x mx)
  obtain ⟨h2,h3⟩:=(Bool.and_eq_true _ _).mp h
  exact ⟨x,h1,not_t h2,fun K h=>run (fn:=f26) rfl rfl rfl (x_assign (fun _ h=>h) (x_assign (fun _ h=>h) (x_assign (v:=.list noSigns) (fun _ h=>h) (x_ret (val_op (.two (fun _ h=>h) fun _ h=>h) e) h h3))))⟩
noncomputable def big:Int:=10 ^ 20
noncomputable def oddR (R:Int):List V:=[.int R,.int (-1),.bool true,.none,text [48],.list [.int 0],.int (R+big),.bool false]
theorem odd_r {R:Int} (h:1≤R):∀ x∈oddR R,tOk x=true∧rmB R x=false∧noX x=true:=by
  have n:∀ x∈([]:List V),tOk x=true∧rmB R x=false∧noX x=true:=fun _ m=>nomatch m
  have i:∀ {i:Int},¬ (0≤i∧i < R)→tOk (.int i)=true∧rmB R (.int i)=false∧noX (.int i)=true:=fun {i} h=>⟨rfl,by refine (?_:(decide (0≤i)&&decide (i < R))=false); rw [← Bool.decide_and]; exact decide_eq_false h,rfl⟩
  exact List.forall_mem_cons.mpr ⟨i (by lia),List.forall_mem_cons.mpr ⟨i (by lia),List.forall_mem_cons.mpr ⟨⟨rfl,rfl,rfl⟩,List.forall_mem_cons.mpr ⟨⟨rfl,rfl,rfl⟩,List.forall_mem_cons.mpr ⟨⟨by refine (?_:(PyData.strOk _&&_)=true); rw [strOk_eq]; rfl,rfl,rfl⟩,List.forall_mem_cons.mpr ⟨⟨rfl,rfl,rfl⟩,List.forall_mem_cons.mpr ⟨i (by unfold big; lia),List.forall_mem_cons.mpr ⟨⟨rfl,rfl,rfl⟩,n⟩⟩⟩⟩⟩⟩⟩⟩
structure BadR (R:Int) (x:V):Prop where
  ok:lOk x=true
  sh:short x
  bad:arB R x=false
  nx:noX x=true
theorem p24 (cf:CallF) {R:Int} {is:List Int} (hR:1≤R) (ok:RoomsOk R is) (c:Int):∃ x,BadR R x∧∀ K:V→Prop,K x→step cf 24 [roomsV is,.int R,.int c] K:=by
  have hl:=ok.len
  have hm:(is.map PyData.int).length=is.length:=List.length_map ..
  have hz:(is.map PyData.int).length≤5000:=by grind
  have hat:=pick_r (c.fdiv 9) (n:=(is.map PyData.int).length) (by grind)
  generalize hA:(c.fdiv 9).fmod ((is.map PyData.int).length+1)=at' at hat
  obtain ⟨od,mod,eod⟩:=pick_of (l:=oddR R) (n:=8) (c:=c.fdiv 99) nofun (Nat.le_of_ble_eq_true rfl) rfl
  obtain ⟨ot,orm,onx⟩:=odd_r hR od mod
  have start:∀ (K:V→Prop),(exs sup cf (f24.body.drop 2) [.v (roomsV is),.v (.int R),.v (.int c),.v (.int at'),.v od] fun fl _=>K (fl.getD .none))→step cf 24 [roomsV is,.int R,.int c] K:=fun K h=>
    run (fn:=f24) rfl rfl rfl (x_assign (v:=.int at') (hA▸val_op (.two (x:=.int (c.fdiv 9)) (fun _ h=>h) (val_op (.two (val_op (.one (v:=.list (is.map .int)) fun _ h=>h) (n_len hz)) fun _ h=>h) rfl)) (n_mod (by grind))) (x_assign (val_op (.two (x:=.list (oddR R)) (fun _ h=>h) fun _ h=>h) eod) h))
  have hk:at'.toNat≤(is.map PyData.int).length:=by grind
  have li:∀ y∈is.map PyData.int,tOk y=true:=fun y m=>by obtain ⟨i,_,rfl⟩:=List.mem_map.mp m; rfl
  have sh:∀ x,short (.list (ins (is.map PyData.int) at'.toNat x)):=fun x l e=>by rw [← PyData.list.inj e,ins_len hk]; grind
  by_cases c0:c.fmod 9=0
  · obtain ⟨x,mx,ex⟩:=pick_of (l:=[.none,.tuple (is.map .int),text [48],.int 0,.dict []]) (n:=5) (c:=c.fdiv 9) nofun (Nat.le_of_ble_eq_true rfl) rfl
    have ft:opN .tupleOf [.list (is.map PyData.int)]=some (.tuple (is.map .int)):=by
      refine (?_:(fitL (is.map PyData.int) (is.map PyData.int)).map _=_)
      rw [show fitL (is.map PyData.int) (is.map PyData.int)=some (is.map .int) from if_pos (sz_of hz)]; rfl
    have bd:BadR R x:=by
      have n:∀ y∈([]:List V),BadR R y:=fun _ m=>nomatch m
      have b:∀ {y:V},lOk y=true→isList y=false→arB R y=false→noX y=true→BadR R y:=fun h1 h2 h3 h4=>⟨h1,fun l e=>(by rw [e] at h2; (injection h2; done)),h3,h4⟩
      exact (List.forall_mem_cons.mpr ⟨b rfl rfl rfl rfl,List.forall_mem_cons.mpr ⟨b rfl rfl rfl rfl,List.forall_mem_cons.mpr ⟨b (by refine (?_:(PyData.strOk _&&_)=true); rw [strOk_eq]; rfl) rfl rfl rfl,List.forall_mem_cons.mpr ⟨b rfl rfl rfl rfl,List.forall_mem_cons.mpr ⟨b rfl rfl rfl rfl,n⟩⟩⟩⟩⟩) x mx
    refine ⟨x,bd,fun K h=>start K (x_ifT (val_cmp (x:=.int (c.fmod 9)) (fun _ h=>h) (fun _ h=>h) (c_eq.trans (by rw [c0]; rfl))) (x_ret (val_op (.two (val_op (.cons (fun _ h=>h) (.cons (val_op (.one (v:=.list (is.map .int)) fun _ h=>h) ft) (.cons (fun _ h=>h) (.two (fun _ h=>h) fun _ h=>h)))) rfl) fun _ h=>h) ex) h bd.nx))⟩
  have n0:Val cf [.v (roomsV is),.v (.int R),.v (.int c),.v (.int at'),.v od] (.nd (.cmp .Eq) [.nd (.bin .Mod) [vv 2,ii 9],ii 0]) (.bool false):=val_cmp (x:=.int (c.fmod 9)) (fun _ h=>h) (fun _ h=>h) (c_eq.trans (congrArg some (beq_eq_false_iff_ne.mpr c0)))
  have fl:∀ x∈is.map PyData.int,Flat 1 x:=fun x m=>by obtain ⟨i,_,rfl⟩:=List.mem_map.mp m; exact ⟨rfl,Nat.zero_le _⟩
  have c1:Val cf [.v (roomsV is),.v (.int R),.v (.int c),.v (.int at'),.v od] (.nd .and [.nd (.cmp .Lt) [.nd (.bin .Mod) [vv 2,ii 9],ii 3],.nd (.cmp .NotEq) [vv 0,.nd .list []]]) (.bool (decide (c.fmod 9 < 3)&&(!(is.map PyData.int).isEmpty))):=
    val_and (.and (fun _ h=>h) fun _=>.one (val_cmp (x:=.list (is.map .int)) (fun _ h=>h) (fun _ h=>h) (list_ne fl)))
  cases t1:decide (c.fmod 9 < 3)&&(!(is.map PyData.int).isEmpty) with
  | true=>
    rw [t1] at c1
    have ne:is.map PyData.int≠[]:=fun e=>by rw [e,Bool.and_comm] at t1; (injection t1; done)
    obtain ⟨x,mx,ex⟩:=pick_of (l:=is.map PyData.int) (c:=c.fdiv 99) ne hz rfl
    have hp:=List.length_pos_iff.mpr ne
    obtain ⟨i,mi,rfl⟩:=List.mem_map.mp mx
    refine ⟨.list (ins (is.map .int) at'.toNat (.int i)),⟨ins_lOk (by grind) hk li rfl,sh _,?_,rfl⟩,fun K h=>start K (x_ifF n0 (x_ifT c1 (x_ret (val_ins (x:=.int i) (fun _ h=>h) (fun _ h=>h) (val_op (.two (x:=.list (is.map .int)) (fun _ h=>h) (val_op (.two (x:=.int (c.fdiv 99)) (fun _ h=>h) (val_op (.one (v:=.list (is.map .int)) fun _ h=>h) (n_len hz))) (n_mod (by grind)))) ex) (by grind) hat.1 hat.2) h)))⟩
    refine (Bool.and_eq_false_iff).mpr (.inr ?_)
    rw [← List.length_map (f:=intV),ded_len,decide_eq_false_iff_not]
    intro nd
    unfold ins at nd
    rw [List.map_append,List.map_append,← List.map_take,← List.map_drop,ints_map,ints_map] at nd
    have nd:=List.nodup_append.mp nd
    have mi':i∈is.take at'.toNat++is.drop at'.toNat:=by rw [List.take_append_drop]; exact mi
    rcases List.mem_append.mp mi' with q | q
    · exact (List.nodup_append.mp nd.1).2.2 i q i (.head _) rfl
    · exact nd.2.2 i (List.mem_append_right _ (.head _)) i q rfl
  | false=>
    rw [t1] at c1
    exact ⟨.list (ins (is.map .int) at'.toNat od),⟨ins_lOk (by grind) hk li ot,sh _,(Bool.and_eq_false_iff).mpr (.inl (ins_no orm)),rfl⟩,fun K h=>start K (x_ifF n0 (x_ifF c1 (x_ret (val_ins (x:=od) (fun _ h=>h) (fun _ h=>h) (fun _ h=>h) (by grind) hat.1 hat.2) h)))⟩
end Mine.L02
end
noncomputable section
namespace Mine.L02
open PySem
structure BadW (s0 s1 s2:List Nat) (R:Int) (x:V):Prop where
  ok:tOk x=true
  bad:wyB s0 s1 s2 R x=false
  nx:noX x=true
theorem strV {s:Str} (h:PyData.strOk s=true) (h':s.cps.toList.length≤1000):vOk (.str s)=true:=(Bool.and_eq_true _ _).mpr ⟨h,decide_eq_true h'⟩
noncomputable def oddW:List V:=[.none,.int 5,.str kOn,.tuple [],.tuple [.str kOn],.list [.str kOn,.int 0,text [97],.int 0],.tuple [.str kOn,.int 0,.str k0,.int 0],.tuple [.str kOn,.int 0,text [97,98],.int 0],.tuple [.str (⟨#[79,110]⟩:Str),.int 0,text [97],.int 0],
  .tuple [.int 0,.int 0,text [97],.int 0],.tuple [.none,.int 0,text [97],.int 0],.tuple [.str kOn,.int 0,.int 0,.int 0],.tuple [.str kOn,.int 0,.none,.int 0],.tuple [.list [.str kOn],.int 0,text [97],.int 0]]
section
variable {s0 s1 s2:List Nat} {R:Int}
theorem odd_tok:(oddW.all fun x=>tOk x&&noX x)=true:=by decide +kernel
theorem odd_w:∀ x∈oddW,BadW s0 s1 s2 R x:=by
  have key:∀ x∈oddW,wyB s0 s1 s2 R x=false:=by
    have n:∀ x∈([]:List V),wyB s0 s1 s2 R x=false:=fun _ m=>nomatch m
    have a:∀ {x:V},wyB s0 s1 s2 R x=(rmB R (.int 0)&&false)→wyB s0 s1 s2 R x=false:=fun h=>h.trans (Bool.and_false _)
    exact List.forall_mem_cons.mpr ⟨rfl,List.forall_mem_cons.mpr ⟨rfl,List.forall_mem_cons.mpr ⟨rfl,List.forall_mem_cons.mpr ⟨rfl,List.forall_mem_cons.mpr ⟨rfl,List.forall_mem_cons.mpr ⟨rfl,List.forall_mem_cons.mpr ⟨a rfl,List.forall_mem_cons.mpr ⟨a rfl,List.forall_mem_cons.mpr ⟨a rfl,List.forall_mem_cons.mpr ⟨a rfl,List.forall_mem_cons.mpr ⟨a rfl,List.forall_mem_cons.mpr ⟨a rfl,List.forall_mem_cons.mpr ⟨a rfl,List.forall_mem_cons.mpr ⟨a rfl,n⟩⟩⟩⟩⟩⟩⟩⟩⟩⟩⟩⟩⟩⟩
  exact fun x m=>have h:=(Bool.and_eq_true _ _).mp (List.all_eq_true.mp odd_tok x m); ⟨h.1,key x m,h.2⟩
noncomputable def rep (l:List V) (k:Nat) (x:V):List V:=l.take k++[x]++l.drop (k+1)
noncomputable def W.lk:W→Nat
  | .cl _ _ _ _=>3
  | _=>2
noncomputable def W.kd:W→Str
  | .on _ _ _=>kOn
  | .op _ _ _ _=>kOpen
  | .cl _ _ _ _=>kClose
theorem rep_bad {w:W} (sk:SgOk s0 s1 s2) (ok:W.ok s0 s1 s2 R w) {k:Nat} {x:V} (h1:1≤k) (h2:k < w.l.length) (hx:vOk x=true) (hb:if k=w.lk then (kdV s0 s1 s2 x==w.kd)=false else rmB R x=false):BadW s0 s1 s2 R (.tuple (rep w.l k x)):=by
  have hs:=w_scalar sk ok
  refine ⟨(Bool.and_eq_true _ _).mpr ⟨List.all_eq_true.mpr fun y m=>?_,decide_eq_true ?_⟩,?_,rfl⟩
  · rcases List.mem_append.mp m with m | m
    · rcases List.mem_append.mp m with m | m
      · exact (hs y (List.mem_of_mem_take m)).2
      · obtain rfl:=List.mem_singleton.mp m; exact hx
    · exact (hs y (List.mem_of_mem_drop m)).2
  · unfold rep
    rw [List.length_append,List.length_append,List.length_take,List.length_drop,List.length_singleton]
    cases w <;> (simp only [W.l,List.length_cons,List.length_nil] at h2 ⊢; grind)
  cases w with
  | on a c b=>
    have h2:k < 4:=h2
    obtain rfl | rfl | rfl:k=1∨k=2∨k=3:=by grind
    · refine (?_:(rmB R x&&_)=false); rw [show rmB R x=false from hb]; rfl
    · refine (?_:(rmB R (.int a)&&(_&&((kdV s0 s1 s2 x==kOn)&&_)))=false); rw [show (kdV s0 s1 s2 x==kOn)=false from hb,Bool.false_and,Bool.and_false,Bool.and_false]
    · refine (?_:(rmB R (.int a)&&(_&&(_&&rmB R x)))=false); rw [show rmB R x=false from hb,Bool.and_false,Bool.and_false,Bool.and_false]
  | op a c b t=>
    have h2:k < 5:=h2
    have nc:strB kClose (.str kOpen)=false:=by refine (?_:(kOpen==kClose)=false); decide
    obtain rfl | rfl | rfl | rfl:k=1∨k=2∨k=3∨k=4:=by grind
    · refine (?_:(rmB R x&&_)=false); rw [show rmB R x=false from hb]; rfl
    · refine (?_:(rmB R (.int a)&&(_&&((_&&((kdV s0 s1 s2 x==kOpen)&&_))||(strB kClose (.str kOpen)&&_))))=false); rw [nc,show (kdV s0 s1 s2 x==kOpen)=false from hb,Bool.false_and,Bool.false_and,Bool.and_false,Bool.or_false,Bool.and_false,Bool.and_false]
    · refine (?_:(rmB R (.int a)&&(_&&((_&&(_&&rmB R x))||(strB kClose (.str kOpen)&&_))))=false); rw [nc,show rmB R x=false from hb,Bool.and_false,Bool.and_false,Bool.false_and,Bool.or_false,Bool.and_false,Bool.and_false]
    · refine (?_:(rmB R (.int a)&&(rmB R x&&_))=false); rw [show rmB R x=false from hb,Bool.false_and,Bool.and_false]
  | cl a b c t=>
    have h2:k < 5:=h2
    have nc:strB kOpen (.str kClose)=false:=by refine (?_:(kClose==kOpen)=false); decide
    obtain rfl | rfl | rfl | rfl:k=1∨k=2∨k=3∨k=4:=by grind
    · refine (?_:(rmB R x&&_)=false); rw [show rmB R x=false from hb]; rfl
    · refine (?_:(rmB R (.int a)&&(_&&((strB kOpen (.str kClose)&&_)||(_&&(rmB R x&&_)))))=false); rw [nc,show rmB R x=false from hb,Bool.false_and,Bool.false_and,Bool.and_false,Bool.or_false,Bool.and_false,Bool.and_false]
    · refine (?_:(rmB R (.int a)&&(_&&((strB kOpen (.str kClose)&&_)||(_&&(_&&(kdV s0 s1 s2 x==kClose))))))=false); rw [nc,show (kdV s0 s1 s2 x==kClose)=false from hb,Bool.false_and,Bool.and_false,Bool.and_false,Bool.or_false,Bool.and_false,Bool.and_false]
    · refine (?_:(rmB R (.int a)&&(rmB R x&&_))=false); rw [show rmB R x=false from hb,Bool.false_and,Bool.and_false]
structure Far (s0 s1 s2:List Nat) (R:Int) (x:V):Prop where
  ok:vOk x=true
  rm:rmB R x=false
  kd:kdV s0 s1 s2 x=k0
theorem kd0 {w:W} {x:V} (h:kdV s0 s1 s2 x=k0):(kdV s0 s1 s2 x==w.kd)=false:=by rw [h]; cases w <;> rfl
theorem far_bad {w:W} (sk:SgOk s0 s1 s2) (ok:W.ok s0 s1 s2 R w) {k:Nat} {x:V} (h1:1≤k) (h2:k < w.l.length) (f:Far s0 s1 s2 R x):BadW s0 s1 s2 R (.tuple (rep w.l k x)):=rep_bad sk ok h1 h2 f.ok (by
  by_cases e:k=w.lk
  · rw [if_pos e]; exact kd0 f.kd
  · rw [if_neg e]; exact f.rm)
theorem kind_no (sk:SgOk s0 s1 s2) {c:Nat} (h:low c=false):kindS s0 s1 s2 c=k0:=by
  have n:∀ {l:List Nat},(∀ x∈l,low x=true)→l.elem c≠true:=fun hl q=>by rw [hl c (List.elem_iff.mp q)] at h; (injection h; done)
  exact (if_neg (n fun x=>sk.lowA)).trans ((if_neg (n fun x=>sk.lowB)).trans (if_neg (n fun x=>sk.lowC)))
noncomputable def farL (R:Int):List V:=[.int R,.int (-1),.bool true,.none,text [48],.list [.int 0],.int (R+big),.dict [],text [65]]
theorem far_all (sk:SgOk s0 s1 s2) (hR:1≤R):∀ x∈farL R,Far s0 s1 s2 R x:=by
  have n:∀ x∈([]:List V),Far s0 s1 s2 R x:=fun _ m=>nomatch m
  have i:∀ {i:Int},¬ (0≤i∧i < R)→Far s0 s1 s2 R (.int i):=fun {i} h=>⟨rfl,by refine (?_:(decide (0≤i)&&decide (i < R))=false); rw [← Bool.decide_and]; exact decide_eq_false h,rfl⟩
  have s:∀ {c:Nat},c < 1000→low c=false→Far s0 s1 s2 R (text [c]):=fun {c} hc h=>⟨strV (by rw [strOk_eq]; exact List.all_eq_true.mpr fun x m=>by obtain rfl:=List.mem_singleton.mp m; exact decide_eq_true (by lia)) (by refine (?_:1≤1000); decide),rfl,kind_no sk h⟩
  exact List.forall_mem_cons.mpr ⟨i (by lia),List.forall_mem_cons.mpr ⟨i (by lia),List.forall_mem_cons.mpr ⟨⟨rfl,rfl,rfl⟩,List.forall_mem_cons.mpr ⟨⟨rfl,rfl,rfl⟩,List.forall_mem_cons.mpr ⟨s (by decide) (by decide),List.forall_mem_cons.mpr ⟨⟨rfl,rfl,rfl⟩,List.forall_mem_cons.mpr ⟨i (by unfold big; lia),List.forall_mem_cons.mpr ⟨⟨rfl,rfl,rfl⟩,List.forall_mem_cons.mpr ⟨s (by decide) (by decide),n⟩⟩⟩⟩⟩⟩⟩⟩⟩
end
section
variable {cf:CallF} {G:Gs} {a b c e:E} {l:List V} {i:Int} {x:V}
theorem val_rep (ha:Val cf G a (.tuple l)) (hb:Val cf G b (.int i)) (he:Val cf G e x) (hz:l.length≤1000) (h0:0≤i) (h1:i < l.length):Val cf G (.nd (.bin .Add) [.nd (.bin .Add) [.nd (.slice false true) [a,b],.nd .tuple [e]],.nd (.slice true false) [a,.nd (.bin .Add) [b,ii 1]]]) (.tuple (rep l i.toNat x)):=by
  have hk:i.toNat < l.length:=by grind
  have e1:(i+1).toNat=i.toNat+1:=by grind
  refine val_op (.two (val_op (.two (val_op (.two ha hb) (n_cutT0 (by grind) h0 (by grind))) (val_op (.one he) rfl)) (n_addT ?_)) (val_op (.two ha (val_op (.two hb fun _ h=>h) rfl)) (n_cutT1 (by grind) (by grind) (by grind)))) ((n_addT ?_).trans (by rw [e1]; rfl))
  · rw [List.length_append,List.length_take,List.length_singleton]; grind
  · rw [List.length_append,List.length_append,List.length_take,List.length_drop,List.length_singleton]; grind
theorem strs_ls:∀ ls:List (List Nat),strsL (ls.map text)=some ls
  | []=>rfl
  | l :: r=>by unfold strsL; rw [List.map_cons,List.mapM_cons]; refine (?_:(strsL (r.map text)).bind _=_); rw [strs_ls r]; rfl
theorem join_ls:∀ ls:List (List Nat),joinL [] ls=ls.flatten
  | []=>rfl
  | [x]=>(List.append_nil x).symm
  | x :: y :: r=>by
    refine (?_:x++[]++joinL [] (y :: r)=_)
    rw [join_ls (y :: r),List.append_nil]; rfl
theorem val_joinL {ls:List (List Nat)} (ha:Val cf G a (.list (ls.map text))) (hz:(ls.map List.length).sum≤1000):Val cf G (.nd .join [ss k0,a]) (text ls.flatten):=fun K h=>by
  refine ⟨rfl,ha _ (okK_some (z:=text ls.flatten) ?_ h)⟩
  refine (?_:(strsL (ls.map text)).bind _=_)
  rw [strs_ls]
  show (if _ then some (text (joinL [] ls)) else none)=_
  rw [join_ls]
  exact if_pos (sz_of (by refine (?_:_+_ * 0≤5000); rw [Nat.mul_zero]; lia))
end
end Mine.L02
end
noncomputable section
namespace Mine.L02
open PySem
section
variable {cf:CallF} {s0 s1 s2:List Nat} {R c:Int} {pv sv stv env wsv:V} {w:W}
noncomputable def g25 (pv:V) (c:Int) (s0 s1 s2:List Nat) (R:Int) (stv env wsv:V) (w:W) (at':Int) (far:V):Gs:=[.v pv,.v (.int c),.v (sg s0 s1 s2),.v (.int R),.v stv,.v env,.v wsv,.v (.list oddW),.v w.v,.v (.int at'),.v far,.unset,.unset,.unset]
theorem w_len:4≤w.l.length∧w.l.length≤5:=by cases w <;> exact ⟨Nat.le_of_ble_eq_true rfl,Nat.le_of_ble_eq_true rfl⟩
noncomputable def one1 (b:Bool) (x:List Nat):List (List Nat):=match b with
  | true=>[x]
  | false=>[]
theorem filt3 {p:List Nat→Bool} {x y z:List Nat} {a b c:Bool} (h1:p x=a) (h2:p y=b) (h3:p z=c):[x,y,z].filter p=one1 a x++(one1 b y++one1 c z):=by
  rw [List.filter_cons,List.filter_cons,List.filter_cons,List.filter_nil,h1,h2,h3]
  cases a <;> cases b <;> cases c <;> rfl
theorem p25_c1 (sk:SgOk s0 s1 s2) (ok:W.ok s0 s1 s2 R w) {at':Int} {far:V}:∃ x,BadW s0 s1 s2 R x∧∀ (r:List S) (K:Option V→Gs→Prop),(∀ G,K (some x) G)→exs sup cf (f25c1++r) (g25 pv c s0 s1 s2 R stv env wsv w at' far) K:=by
  have la:=sk.la
  have lb:=sk.lb
  have lc:=sk.lc
  have go:∀ (k:Int) (d:Nat) (ls:List (List Nat)),(k.toNat=w.lk∧0≤k∧k < w.l.length)→w.l[k.toNat]?=some (text [d])→[s0,s1,s2].filter (fun s=>!s.elem d)=ls→(ls.map List.length).sum≤12→(∀ e∈ls.flatten++[65],vOk (text [e])=true∧(kindS s0 s1 s2 e==w.kd)=false) →
      Val cf (g25 pv c s0 s1 s2 R stv env wsv w at' far) (.nd .ite [.nd (.cmp .Eq) [.nd .sub [vv 8,ii 0],ss kClose],ii 3,ii 2]) (.int k)→∃ x,BadW s0 s1 s2 R x∧∀ (r:List S) (K:Option V→Gs→Prop),(∀ G,K (some x) G)→exs sup cf (f25c1++r) (g25 pv c s0 s1 s2 R stv env wsv w at' far) K:=fun k d ls hk hd hf hz hb hv=>by
    have wl:=w_len (w:=w)
    have hev:ls.flatten++[65]≠[]:=List.append_ne_nil_of_right_ne_nil _ nofun
    have hp:=List.length_pos_iff.mpr hev
    have hfl:ls.flatten.length≤12:=by rw [List.length_flatten]; exact hz
    have hle:(ls.flatten++[65]).length≤13:=by rw [List.length_append,List.length_singleton]; lia
    have i0:=fmod_lo (c.fdiv 231) (b:=(ls.flatten++[65]).length) (by lia)
    have i1:=fmod_hi (c.fdiv 231) (b:=(ls.flatten++[65]).length) (by lia)
    have hlt:((c.fdiv 231).fmod (ls.flatten++[65]).length).toNat < (ls.flatten++[65]).length:=by lia
    have me:=List.getElem_mem hlt
    have ge:=List.getElem?_eq_getElem hlt
    generalize (ls.flatten++[65])[((c.fdiv 231).fmod (ls.flatten++[65]).length).toNat]=e at me ge
    obtain ⟨b1,b2⟩:=hb e me
    refine ⟨_,rep_bad (k:=k.toNat) (x:=text [e]) sk ok (by have:=hk.1; cases w <;> (simp only [W.lk] at this; lia)) (by lia) b1 (by rw [if_pos hk.1]; exact b2),fun r K h=>?_⟩
    refine x_assign hv (x_assign (v:=text (ls.flatten++[65])) (val_op (.two (val_joinL (ls:=ls) (hf▸val_comp (g:=text) (p:=fun s=>!s.elem d) (f:=text) (ws:=[s0,s1,s2]) (x:=sg s0 s1 s2) (fun _ h=>h) rfl (fun s m=>.one (val_cmp (x:=text [d]) (y:=text s) (val_op (.two (x:=.tuple w.l) (fun _ h=>h) fun _ h=>h) (n_subT (by lia) hk.2.1 hd)) (fun _ h=>h) rfl)) fun s m _=>fun _ h=>h) (by lia)) fun _ h=>h) (n_addS (a:=⟨ls.flatten.toArray⟩) (b:=⟨#[65]⟩) (show (ls.flatten++[65]).length≤5000 by lia))) ?_)
    exact x_ret (val_rep (l:=w.l) (fun _ h=>h) (fun _ h=>h) (val_op (.two (x:=text (ls.flatten++[65])) (fun _ h=>h) (val_op (.two (x:=.int (c.fdiv 231)) (fun _ h=>h) (val_op (.one (v:=text (ls.flatten++[65])) fun _ h=>h) (n_lenX (by lia)))) (n_mod (by lia)))) (n_subS (by lia) i0 ge)) (by lia) hk.2.1 hk.2.2) (h _)
  have n65:vOk (text [65])=true∧kindS s0 s1 s2 65=k0:=⟨strV (by rw [strOk_eq]; rfl) (by decide),kind_no sk rfl⟩
  have lw:∀ {e:Nat},low e=true→vOk (text [e])=true:=fun {e} h=>(text_al sk (l:=[e]) (by refine (?_:1≤4); decide) fun x m=>by obtain rfl:=List.mem_singleton.mp m; exact h).2
  have el:∀ {l:List Nat} {d:Nat},d∈l→(!l.elem d)=false:=fun h=>by rw [List.elem_iff.mpr h]; rfl
  have nl:∀ {l:List Nat} {d:Nat},d∉l→(!l.elem d)=true:=fun {l d} h=>by cases e:l.elem d with | false=>rfl | true=>exact absurd (List.elem_iff.mp e) h
  have fl2:∀ {x y:List Nat} {e:Nat} {P:Prop},e∈[x,y].flatten++[65]→(e∈x→P)→(e∈y→P)→(e=65→P)→P:=fun {x y e P} m h1 h2 h3=>by
    rcases List.mem_append.mp m with m | m
    · rcases List.mem_append.mp m with m | m
      · exact h1 m
      · rw [show [y].flatten=y from List.append_nil y] at m; exact h2 m
    · exact h3 (List.mem_singleton.mp m)
  cases w with
  | on a d b=>
    refine go 2 d [s0,s1] ⟨rfl,by decide,by refine (?_:(2:Int) < 4); decide⟩ rfl (filt3 (p:=fun s=>!s.elem d) (nl (sk.inC ok.2.1).1) (nl (sk.inC ok.2.1).2) (el ok.2.1)) (by refine (?_:s0.length+(s1.length+0)≤12); lia) (fun e m=>fl2 m (fun q=>⟨lw (sk.lowA q),by rw [kind_op sk q]; rfl⟩) (fun q=>⟨lw (sk.lowB q),by rw [kind_cl sk q]; rfl⟩) fun q=>by subst q; exact ⟨n65.1,by rw [n65.2]; rfl⟩) ?_
    exact val_ite (t:=false) (val_cmp (x:=.str kOn) (fun _ h=>h) (fun _ h=>h) ((c_eqS ok_on ok_close).trans (congrArg some (by decide)))) (fun q=>nomatch q) fun _=>fun _ h=>h
  | op a d b t=>
    refine go 2 d [s1,s2] ⟨rfl,by decide,by refine (?_:(2:Int) < 5); decide⟩ rfl (filt3 (p:=fun s=>!s.elem d) (el ok.2.1) (nl fun q=>sk.inB q ok.2.1) (nl fun q=>(sk.inC q).1 ok.2.1)) (by refine (?_:s1.length+(s2.length+0)≤12); lia) (fun e m=>fl2 m (fun q=>⟨lw (sk.lowB q),by rw [kind_cl sk q]; rfl⟩) (fun q=>⟨lw (sk.lowC q),by rw [kind_on sk q]; rfl⟩) fun q=>by subst q; exact ⟨n65.1,by rw [n65.2]; rfl⟩) ?_
    exact val_ite (t:=false) (val_cmp (x:=.str kOpen) (fun _ h=>h) (fun _ h=>h) ((c_eqS ok_open ok_close).trans (congrArg some (by decide)))) (fun q=>nomatch q) fun _=>fun _ h=>h
  | cl a b d t=>
    refine go 3 d [s0,s2] ⟨rfl,by decide,by refine (?_:(3:Int) < 5); decide⟩ rfl (filt3 (p:=fun s=>!s.elem d) (nl (sk.inB ok.2.2.1)) (el ok.2.2.1) (nl fun q=>(sk.inC q).2 ok.2.2.1)) (by refine (?_:s0.length+(s2.length+0)≤12); lia) (fun e m=>fl2 m (fun q=>⟨lw (sk.lowA q),by rw [kind_op sk q]; rfl⟩) (fun q=>⟨lw (sk.lowC q),by rw [kind_on sk q]; rfl⟩) fun q=>by subst q; exact ⟨n65.1,by rw [n65.2]; rfl⟩) ?_
    exact val_ite (t:=true) (val_cmp (x:=.str kClose) (fun _ h=>h) (fun _ h=>h) ((c_eqS ok_close ok_close).trans (congrArg some (by decide)))) (fun _=>fun _ h=>h) fun q=>nomatch q
theorem p25_c2 (sk:SgOk s0 s1 s2) (ok:W.ok s0 s1 s2 R w) {at':Int} {far:V}:∃ x,BadW s0 s1 s2 R x∧∀ (r:List S) (K:Option V→Gs→Prop),(∀ G,K (some x) G)→exs sup cf (f25c2++r) (g25 pv c s0 s1 s2 R stv env wsv w at' far) K:=by
  have hs:=fun x m=>(w_scalar sk ok x m).2
  have go:∀ (k:Str),(PyData.strOk k=true∧k.cps.toList.length≤1000)→(∀ x∈[.tuple w.l.dropLast,.tuple (w.l++[.int 0]),.tuple (.str k :: w.l.tail),.list w.l],wyB s0 s1 s2 R x=false)→Val cf (g25 pv c s0 s1 s2 R stv env wsv w at' far) (.nd .list [.nd (.slice false true) [vv 8,.nd .neg [ii 1]],.nd (.bin .Add) [vv 8,.nd .tuple [ii 0]],.nd (.bin .Add) [.nd .tuple [.nd (.bin .Add) [.nd .sub [vv 8,ii 0],ss (⟨#[115]⟩)]],.nd (.slice true false) [vv 8,ii 1]],.nd .listOf [vv 8]]) (.list [.tuple w.l.dropLast,.tuple (w.l++[.int 0]),.tuple (.str k :: w.l.tail),.list w.l]) →
      ∃ x,BadW s0 s1 s2 R x∧∀ (r:List S) (K:Option V→Gs→Prop),(∀ G,K (some x) G)→exs sup cf (f25c2++r) (g25 pv c s0 s1 s2 R stv env wsv w at' far) K:=fun k hk hb hv=>by
    have wl:=w_len (w:=w)
    obtain ⟨x,mx,ex⟩:=pick_of (l:=[.tuple w.l.dropLast,.tuple (w.l++[.int 0]),.tuple (.str k :: w.l.tail),.list w.l]) (n:=4) (c:=c.fdiv 231) nofun (Nat.le_of_ble_eq_true rfl) rfl
    have tk:∀ {l:List V},(∀ y∈l,vOk y=true)→l.length≤1000→tOk (.tuple l)=true∧noX (.tuple l)=true:=fun h h'=>⟨(Bool.and_eq_true _ _).mpr ⟨List.all_eq_true.mpr h,decide_eq_true h'⟩,rfl⟩
    have all:∀ x∈([.tuple w.l.dropLast,.tuple (w.l++[.int 0]),.tuple (.str k :: w.l.tail),.list w.l]:List V),tOk x=true∧noX x=true:=by
      have d1:tOk (.tuple w.l.dropLast)=true∧noX (.tuple w.l.dropLast)=true:=tk (fun y m=>hs y (List.dropLast_subset _ m)) (by rw [List.length_dropLast]; grind)
      have d2:tOk (.tuple (w.l++[.int 0]))=true∧noX (.tuple (w.l++[.int 0]))=true:=tk (fun y m=>(List.mem_append.mp m).elim (hs y) fun m=>by obtain rfl:=List.mem_singleton.mp m; rfl) (by rw [List.length_append,List.length_singleton]; grind)
      have d3:tOk (.tuple (.str k :: w.l.tail))=true∧noX (.tuple (.str k :: w.l.tail))=true:=tk (fun y m=>(List.mem_cons.mp m).elim (fun e=>by rw [e]; exact strV hk.1 hk.2) fun m=>hs y (List.mem_of_mem_tail m)) (by rw [List.length_cons,List.length_tail]; grind)
      exact List.forall_mem_cons.mpr ⟨d1,List.forall_mem_cons.mpr ⟨d2,List.forall_mem_cons.mpr ⟨d3,List.forall_mem_cons.mpr ⟨⟨rfl,rfl⟩,fun _ m=>nomatch m⟩⟩⟩⟩
    have key:=all x mx
    exact ⟨x,⟨key.1,hb x mx,key.2⟩,fun r K h=>x_ret (val_op (.two hv fun _ h=>h) ex) (h _) key.2⟩
  have n:∀ x∈([]:List V),wyB s0 s1 s2 R x=false:=fun _ m=>nomatch m
  have a3:∀ {x y:Bool},(x&&(y&&false))=false:=fun {x y}=>by rw [Bool.and_false,Bool.and_false]
  have ad:∀ {a:List V},wyB s0 s1 s2 R (.list a)=false:=rfl
  cases w with
  | on a d b=>exact go (⟨#[111,110,115]⟩) ⟨by rw [strOk_eq]; rfl,by decide⟩ (List.forall_mem_cons.mpr ⟨rfl,List.forall_mem_cons.mpr ⟨a3,List.forall_mem_cons.mpr ⟨Bool.and_false _,List.forall_mem_cons.mpr ⟨rfl,n⟩⟩⟩⟩) fun _ h=>h
  | op a d b t=>exact go (⟨#[111,112,101,110,115]⟩) ⟨by rw [strOk_eq]; rfl,by decide⟩ (List.forall_mem_cons.mpr ⟨Bool.and_false _,List.forall_mem_cons.mpr ⟨rfl,List.forall_mem_cons.mpr ⟨a3,List.forall_mem_cons.mpr ⟨rfl,n⟩⟩⟩⟩) fun _ h=>h
  | cl a b d t=>exact go (⟨#[99,108,111,115,101,115]⟩) ⟨by rw [strOk_eq]; rfl,by decide⟩ (List.forall_mem_cons.mpr ⟨Bool.and_false _,List.forall_mem_cons.mpr ⟨rfl,List.forall_mem_cons.mpr ⟨a3,List.forall_mem_cons.mpr ⟨rfl,n⟩⟩⟩⟩) fun _ h=>h
end
end Mine.L02
end
noncomputable section
namespace Mine.L02
open PySem
theorem far_eq {R:Int} {c:Nat} (hc:okEq (text [c])=true):∀ x∈farL R,∃ b,cmpOp .Eq x (text [c])=some b:=by
  have n:∀ x∈([]:List V),∃ b,cmpOp .Eq x (text [c])=some b:=fun _ m=>nomatch m
  have a:∀ {x:V},cmpOp .Eq x (text [c])=eqO x (text [c])→okEq x=true→∃ b,cmpOp .Eq x (text [c])=some b:=fun e h=>⟨_,e.trans (if_pos (by rw [h,hc]; rfl))⟩
  have t:∀ {d:Nat},d < 1000→okEq (text [d])=true:=fun {d} h=>okS (by rw [strOk_eq]; exact List.all_eq_true.mpr fun x m=>by obtain rfl:=List.mem_singleton.mp m; exact decide_eq_true (by lia))
  exact List.forall_mem_cons.mpr ⟨a rfl rfl,List.forall_mem_cons.mpr ⟨a rfl rfl,List.forall_mem_cons.mpr ⟨a rfl rfl,List.forall_mem_cons.mpr ⟨a rfl rfl,List.forall_mem_cons.mpr ⟨a rfl (t (by decide)),List.forall_mem_cons.mpr ⟨a rfl rfl,List.forall_mem_cons.mpr ⟨a rfl rfl,List.forall_mem_cons.mpr ⟨⟨false,rfl⟩,List.forall_mem_cons.mpr ⟨a rfl (t (by decide)),n⟩⟩⟩⟩⟩⟩⟩⟩⟩
theorem let_at {w:W} {k:Nat} {y:V} (h1:1≤k) (e:w.l[k]?=some y) (h:isB y 0=true):k=w.lk:=by
  cases w with
  | on a c b=>
    match k,h1,e with
    | 1,_,e=>(injection e with e; subst e); (injection h; done)
    | 2,_,_=>rfl
    | 3,_,e=>(injection e with e; subst e); (injection h; done)
  | op a c b t=>
    match k,h1,e with
    | 1,_,e=>(injection e with e; subst e); (injection h; done)
    | 2,_,_=>rfl
    | 3,_,e=>(injection e with e; subst e); (injection h; done)
    | 4,_,e=>(injection e with e; subst e); (injection h; done)
  | cl a b c t=>
    match k,h1,e with
    | 1,_,e=>(injection e with e; subst e); (injection h; done)
    | 2,_,e=>(injection e with e; subst e); (injection h; done)
    | 3,_,_=>rfl
    | 4,_,e=>(injection e with e; subst e); (injection h; done)
section
variable {s0 s1 s2:List Nat} {R:Int} {st en:List Int} {ws:List W}
theorem p25 (cf:CallF) (sk:SgOk s0 s1 s2) (hR:1≤R) (hl:ws.length≤4000) (ok:∀ w∈ws,W.ok s0 s1 s2 R w) (c:Int):∃ x,BadW s0 s1 s2 R x∧∀ K:V→Prop,K x→step cf 25 [partsV (sg s0 s1 s2) R st en ws,.int c] K:=by
  have hz:(ws.map W.v).length≤5000:=by rw [List.length_map]; lia
  have fl:∀ x∈ws.map W.v,Flat 1 x:=flat_ways sk ok fun _ m=>m
  generalize hpv:partsV (sg s0 s1 s2) R st en ws=pv
  have pre:∀ (K:V→Prop),(exs sup cf (f25.body.drop 3) [.v pv,.v (.int c),.v (sg s0 s1 s2),.v (.int R),.v (roomsV st),.v (roomsV en),.v (waysV ws),.v (.list oddW),.unset,.unset,.unset,.unset,.unset,.unset] fun fl _=>K (fl.getD .none))→step cf 25 [pv,.int c] K:=fun K h=>
    run (fn:=f25) rfl rfl rfl (x_assignM (v:=pv) (G':=[.v pv,.v (.int c),.v (sg s0 s1 s2),.v (.int R),.v (roomsV st),.v (roomsV en),.v (waysV ws),.unset,.unset,.unset,.unset,.unset,.unset,.unset]) (fun _ h=>h) (by rw [← hpv]; rfl) (x_assign (fun _ h=>h) (x_assign (v:=.list oddW) (fun _ h=>h) h)))
  have c1:Val cf [.v pv,.v (.int c),.v (sg s0 s1 s2),.v (.int R),.v (roomsV st),.v (roomsV en),.v (waysV ws),.v (.list oddW),.unset,.unset,.unset,.unset,.unset,.unset] (.nd .or [.nd (.cmp .Eq) [.nd (.bin .Mod) [vv 1,ii 4],ii 0],.nd (.cmp .Eq) [vv 6,.nd .list []]]) (.bool ((c.fmod 4==0)||(ws.map W.v).isEmpty)):=
    val_or (.or (fun _ h=>h) fun _=>.one' (val_cmp (x:=.list (ws.map W.v)) (fun _ h=>h) (fun _ h=>h) (c_eq0 (flat_ok (n:=2) (flat_list fl) (by decide)))))
  cases t1:(c.fmod 4==0)||(ws.map W.v).isEmpty with
  | true=>
    rw [t1] at c1
    obtain ⟨x,mx,ex⟩:=pick_of (l:=oddW) (n:=14) (c:=c.fdiv 4) nofun (Nat.le_of_ble_eq_true rfl) rfl
    have bd:=odd_w (s0:=s0) (s1:=s1) (s2:=s2) (R:=R) x mx
    exact ⟨x,bd,fun K h=>pre K (x_ifT c1 (x_ret (val_op (.two (x:=.list oddW) (fun _ h=>h) fun _ h=>h) ex) h bd.nx))⟩
  | false=>
    rw [t1] at c1
    have ne:ws.map W.v≠[]:=fun e=>by rw [e,Bool.or_comm] at t1; (injection t1; done)
    have hp:=List.length_pos_iff.mpr ne
    obtain ⟨v,mv,ev⟩:=pick_of (l:=ws.map W.v) (c:=c.fdiv 4) ne hz rfl
    obtain ⟨w,mw,rfl⟩:=List.mem_map.mp mv
    have wo:=ok w mw
    have wl:=w_len (w:=w)
    have a0:=fmod_lo (c.fdiv 33) (b:=w.l.length) (by lia)
    have a1:=fmod_hi (c.fdiv 33) (b:=w.l.length) (by lia)
    obtain ⟨far,mf,ef⟩:=pick_of (l:=farL R) (n:=9) (c:=c.fdiv 231) nofun (Nat.le_of_ble_eq_true rfl) rfl
    have ff:=far_all sk hR far mf
    have start:∀ (K:V→Prop),(exs sup cf (f25.body.drop 7) (g25 pv c s0 s1 s2 R (roomsV st) (roomsV en) (waysV ws) w ((c.fdiv 33).fmod w.l.length) far) fun fl _=>K (fl.getD .none))→step cf 25 [pv,.int c] K:=fun K h=>
      pre K (x_ifF c1 (x_assign (val_op (.two (x:=.list (ws.map W.v)) (fun _ h=>h) (val_op (.two (x:=.int (c.fdiv 4)) (fun _ h=>h) (val_op (.one (v:=.list (ws.map W.v)) fun _ h=>h) (n_len hz))) (n_mod (by lia)))) ev) (x_assign (val_op (.two (x:=.int (c.fdiv 33)) (fun _ h=>h) (val_op (.one (v:=.tuple w.l) fun _ h=>h) (n_lenT (by lia)))) (n_mod (by lia))) (x_assign (val_op (.two (x:=.list (farL R)) (fun _ h=>h) fun _ h=>h) ef) h))))
    generalize (c.fdiv 33).fmod w.l.length=at' at a0 a1 start
    have q:∀ {k:Int},Val cf (g25 pv c s0 s1 s2 R (roomsV st) (roomsV en) (waysV ws) w at' far) (.nd (.cmp .Eq) [.nd (.bin .Mod) [vv 1,ii 4],ii k]) (.bool (c.fmod 4==k)):=fun K h=>h
    by_cases e1:c.fmod 4=1
    · obtain ⟨x,bd,h⟩:=p25_c1 (cf:=cf) (pv:=pv) (c:=c) (stv:=roomsV st) (env:=roomsV en) (wsv:=waysV ws) (at':=at') (far:=far) sk wo
      have q1:=q (k:=1)
      rw [beq_iff_eq.mpr e1] at q1
      exact ⟨x,bd,fun K k=>start K (x_ifT q1 (h _ _ fun _=>k))⟩
    have q1:=q (k:=1)
    rw [beq_eq_false_iff_ne.mpr e1] at q1
    by_cases e2:c.fmod 4=2
    · obtain ⟨x,bd,h⟩:=p25_c2 (cf:=cf) (pv:=pv) (c:=c) (stv:=roomsV st) (env:=roomsV en) (wsv:=waysV ws) (at':=at') (far:=far) sk wo
      have q2:=q (k:=2)
      rw [beq_iff_eq.mpr e2] at q2
      exact ⟨x,bd,fun K k=>start K (x_ifF q1 (x_ifT q2 (h _ _ fun _=>k)))⟩
    have q2:=q (k:=2)
    rw [beq_eq_false_iff_ne.mpr e2] at q2
    obtain ⟨b1,o1⟩:=far_eq (R:=R) (c:=48) (okS (by rw [strOk_eq]; rfl)) far mf
    obtain ⟨b2,o2⟩:=far_eq (R:=R) (c:=65) (okS (by rw [strOk_eq]; rfl)) far mf
    have last:∀ k:Int,1≤k→k < w.l.length→∃ x,BadW s0 s1 s2 R x∧∀ (K:Option V→Gs→Prop),(∀ G,K (some x) G)→exs sup cf (f25.body.drop 10) (g25 pv c s0 s1 s2 R (roomsV st) (roomsV en) (waysV ws) w k far) K:=fun k h1 h2=>by
      have hlt:k.toNat < w.l.length:=by lia
      have gy:=List.getElem?_eq_getElem hlt
      have my:=(w_scalar sk wo _ (List.getElem_mem hlt)).1
      generalize w.l[k.toNat]=y at gy my
      have c3:Val cf (g25 pv c s0 s1 s2 R (roomsV st) (roomsV en) (waysV ws) w k far) (.nd .or [.nd (.cmp .Eq) [vv 10,ss (⟨#[48]⟩)],.nd (.cmp .Eq) [vv 10,ss (⟨#[65]⟩)],.nd .not [.nd (.isinst 0) [.nd .sub [vv 8,vv 9]]]]) (.bool (b1||(b2||!isB y 0))):=
        val_or (.or (val_cmp (x:=far) (fun _ h=>h) (fun _ h=>h) o1) fun _=>.or (val_cmp (x:=far) (fun _ h=>h) (fun _ h=>h) o2) fun _=>.one' (val_not (sc_isi (val_op (.two (x:=.tuple w.l) (fun _ h=>h) fun _ h=>h) (n_subT (by lia) (by lia) gy)) my)))
      cases t3:b1||(b2||!isB y 0) with
      | true=>
        rw [t3] at c3
        have bd:=far_bad (k:=k.toNat) sk wo (by lia) hlt ff
        exact ⟨_,bd,fun K h=>x_ifT c3 (x_ret (val_rep (l:=w.l) (x:=far) (fun _ h=>h) (fun _ h=>h) (fun _ h=>h) (by lia) (by lia) (by lia)) (h _))⟩
      | false=>
        rw [t3] at c3
        have hy:isB y 0=true:=by cases e:isB y 0 with | true=>rfl | false=>rw [e] at t3; cases b1 <;> cases b2 <;> (injection t3; done)
        have hk:=let_at (by lia) gy hy
        have bd:=rep_bad (x:=.int 0) (k:=k.toNat) sk wo (by lia) hlt rfl (by rw [if_pos hk]; exact kd0 rfl)
        exact ⟨_,bd,fun K h=>x_ifF c3 (x_ret (val_rep (l:=w.l) (x:=.int 0) (fun _ h=>h) (fun _ h=>h) (fun _ h=>h) (by lia) (by lia) (by lia)) (h _))⟩
    by_cases e3:at'=0
    · obtain ⟨x,bd,h⟩:=last 1 (by lia) (by lia)
      exact ⟨x,bd,fun K k=>start K (x_ifF q1 (x_ifF q2 (x_ifT (val_cmp (x:=.int at') (fun _ h=>h) (fun _ h=>h) (c_eq.trans (by rw [e3]; rfl))) (x_assign (v:=.int 1) (fun _ h=>h) (h _ fun _=>k)))))⟩
    · obtain ⟨x,bd,h⟩:=last at' (by lia) a1
      exact ⟨x,bd,fun K k=>start K (x_ifF q1 (x_ifF q2 (x_ifF (val_cmp (x:=.int at') (fun _ h=>h) (fun _ h=>h) (c_eq.trans (congrArg some (beq_eq_false_iff_ne.mpr e3)))) (h _ fun _=>k))))⟩
end
end Mine.L02
end
noncomputable section
namespace Mine.L02
open PySem
structure Spoilt (s0 s1 s2:List Nat) (rv stv env wsv:V):Prop where
  o1:vOk rv=true
  o2:lOk stv=true
  o3:short stv
  o4:lOk env=true
  o5:short env
  o6:lOk wsv=true
  bad:mcB s0 s1 s2 rv stv env wsv=false
noncomputable def badRm (m:Int):List V:=[.int 0,.int 41,.int (-1),.bool true,.none,text [50],.list [.int 1],.int (41+m)]
theorem bad_rm {m:Int} (h:0≤m):∀ x∈badRm m,vOk x=true∧(rmB 41 x&&decide (1≤intV x))=false:=by
  have n:∀ x∈([]:List V),vOk x=true∧(rmB 41 x&&decide (1≤intV x))=false:=fun _ m=>nomatch m
  have l:vOk (.int (41+m))=true∧(rmB 41 (.int (41+m))&&decide (1≤intV (.int (41+m))))=false:=⟨rfl,by refine (?_:((decide (0≤41+m)&&decide (41+m < 41))&&_)=false); rw [show decide (41+m < 41)=false from decide_eq_false (by lia),Bool.and_false,Bool.false_and]⟩
  exact List.forall_mem_cons.mpr ⟨⟨rfl,by decide⟩,List.forall_mem_cons.mpr ⟨⟨rfl,by decide⟩,List.forall_mem_cons.mpr ⟨⟨rfl,by decide⟩,List.forall_mem_cons.mpr ⟨⟨rfl,rfl⟩,List.forall_mem_cons.mpr ⟨⟨rfl,rfl⟩,List.forall_mem_cons.mpr ⟨⟨strV (by rw [strOk_eq]; rfl) (by decide),rfl⟩,List.forall_mem_cons.mpr ⟨⟨rfl,rfl⟩,List.forall_mem_cons.mpr ⟨l,n⟩⟩⟩⟩⟩⟩⟩⟩
theorem mul_at (a:Int) (l:List V) (h:0≤a∧a < 2 ^ 62∧l.length * a.toNat≤szLine):opN (.bin .Mult) [.list l,.int a]=some (.list (List.replicate a.toNat l).flatten):=if_pos h
theorem mul_list {x0:V} {n:Nat} (h1:n≤4001) (h2:4000 < n) (tx:tOk x0=true):∃ b,(lOk b=true∧∀ s0 s1 s2 R,awB s0 s1 s2 R b=false)∧opN (.bin .Mult) [.list [x0],.int (n:Int)]=some b:=by
  have e:((n:Int)).toNat=n:=Int.toNat_natCast n
  have hl:(List.replicate (n:Int).toNat [x0]).flatten.length=n:=by rw [e,List.flatten_replicate_singleton,List.length_replicate]
  have hi:(n:Int) < 2 ^ 62:=by lia
  have h0:0≤(n:Int):=Int.natCast_nonneg n
  have hs:[x0].length * (n:Int).toNat≤szLine:=by rw [e,List.length_singleton,Nat.one_mul]; exact sz_of (by lia)
  have ha:∀ y∈(List.replicate (n:Int).toNat [x0]).flatten,tOk y=true:=fun y m=>by
    rw [List.flatten_replicate_singleton] at m
    rw [(List.mem_replicate.mp m).2]; exact tx
  have hm:opN (.bin .Mult) [.list [x0],.int (n:Int)]=some (.list (List.replicate (n:Int).toNat [x0]).flatten):=mul_at _ _ ⟨h0,hi,hs⟩
  generalize (List.replicate (n:Int).toNat [x0]).flatten=l at hl ha hm
  exact ⟨.list l,⟨(Bool.and_eq_true _ _).mpr ⟨decide_eq_true (hl.symm▸h1),List.all_eq_true.mpr ha⟩,fun s0 s1 s2 R=>(Bool.and_eq_false_iff).mpr (.inl (decide_eq_false (Nat.not_le.mpr (hl.symm▸h2))))⟩,hm⟩
section
variable {s0 s1 s2:List Nat} {R:Int} {st en:List Int} {ws:List W}
theorem p27 (cf:CallF) (h15:S15 cf) (h24:∀ (R:Int) (is:List Int) (c:Int),1≤R→RoomsOk R is→∃ x,BadR R x∧∀ K:V→Prop,K x→cf 24 [roomsV is,.int R,.int c] K)
    (h25:∀ c:Int,∃ x,BadW s0 s1 s2 R x∧∀ K:V→Prop,K x→cf 25 [partsV (sg s0 s1 s2) R st en ws,.int c] K) (g:GoodP s0 s1 s2 R st en ws) (hw:ws.length≤1000) (c:Int) (hc:0≤c) :
    ∃ rv stv env wsv,Spoilt s0 s1 s2 rv stv env wsv∧∀ K:V→Prop,K (p5V (sg s0 s1 s2) rv stv env wsv)→step cf 27 [partsV (sg s0 s1 s2) R st en ws,.int c] K:=by
  have hz:(ws.map W.v).length≤1000:=by rw [List.length_map]; exact hw
  have o2:=ints_ok st (Nat.le_trans g.st.len (by decide))
  have o4:=ints_ok en (Nat.le_trans g.en.len (by decide))
  have o3:=rooms_short g.st.len
  have o5:=rooms_short g.en.len
  have o6:=(aw_true g.sk g.len g.ok).2
  have tw:∀ y∈ws.map W.v,tOk y=true:=fun y m=>by obtain ⟨w,mw,rfl⟩:=List.mem_map.mp m; exact w_tOk g.sk (g.ok w mw)
  have hm:0≤c.fdiv 6:=Int.fdiv_nonneg hc (by decide)
  have b1:∀ {stv env wsv:V},arB R stv=false→mcB s0 s1 s2 (.int R) stv env wsv=false:=fun {stv env wsv} h=>by
    refine (?_:(rmB 41 (.int R)&&(decide (1≤R)&&(arB R stv&&_)))=false); rw [h,Bool.false_and,Bool.and_false,Bool.and_false]
  have b2:∀ {stv env wsv:V},arB R env=false→mcB s0 s1 s2 (.int R) stv env wsv=false:=fun {stv env wsv} h=>by
    refine (?_:(rmB 41 (.int R)&&(decide (1≤R)&&(arB R stv&&(arB R env&&_))))=false); rw [h,Bool.false_and,Bool.and_false,Bool.and_false,Bool.and_false]
  have b3:∀ {stv env wsv:V},awB s0 s1 s2 R wsv=false→mcB s0 s1 s2 (.int R) stv env wsv=false:=fun {stv env wsv} h=>by
    refine (?_:(rmB 41 (.int R)&&(decide (1≤R)&&(arB R stv&&(arB R env&&awB s0 s1 s2 R wsv))))=false); rw [h,Bool.and_false,Bool.and_false,Bool.and_false,Bool.and_false]
  generalize hpv:partsV (sg s0 s1 s2) R st en ws=pv at h25
  generalize hmo:c.fdiv 6=mo at hm
  have start:∀ (K:V→Prop),(exs sup cf (f27.body.drop 2) [.v pv,.v (.int c),.v (sg s0 s1 s2),.v (.int R),.v (roomsV st),.v (roomsV en),.v (waysV ws),.v (.int mo),.unset] fun fl _=>K (fl.getD .none))→step cf 27 [pv,.int c] K:=fun K h=>
    run (fn:=f27) rfl rfl rfl (x_assignM (v:=pv) (G':=[.v pv,.v (.int c),.v (sg s0 s1 s2),.v (.int R),.v (roomsV st),.v (roomsV en),.v (waysV ws),.unset,.unset]) (fun _ h=>h) (by rw [← hpv]; rfl) (x_assign (v:=.int mo) (hmo▸fun _ h=>h) h))
  have q:∀ {k:Int} {z:Slot},Val cf [.v pv,.v (.int c),.v (sg s0 s1 s2),.v (.int R),.v (roomsV st),.v (roomsV en),.v (waysV ws),.v (.int mo),z] (.nd (.cmp .Eq) [.nd (.bin .Mod) [vv 1,ii 6],ii k]) (.bool (c.fmod 6==k)):=fun K h=>h
  by_cases c0:c.fmod 6=0
  · obtain ⟨x,mx,ex⟩:=pick_of (l:=badRm mo) (n:=8) (c:=mo) nofun (Nat.le_of_ble_eq_true rfl) rfl
    obtain ⟨v1,v2⟩:=bad_rm hm x mx
    have q0:=q (k:=0) (z:=.unset)
    rw [beq_iff_eq.mpr c0] at q0
    exact ⟨x,roomsV st,roomsV en,waysV ws,⟨v1,o2,o3,o4,o5,o6,by unfold mcB; rw [← Bool.and_assoc,v2]; rfl⟩,fun K h=>start K (x_ifT q0 (x_ret (v:=p5V (sg s0 s1 s2) x (roomsV st) (roomsV en) (waysV ws)) (val_op (.cons (fun _ h=>h) (.cons (val_op (.two (x:=.list (badRm mo)) (fun _ h=>h) fun _ h=>h) ex) (.cons (fun _ h=>h) (.two (fun _ h=>h) fun _ h=>h)))) rfl) h))⟩
  have q0:=q (k:=0) (z:=.unset)
  rw [beq_eq_false_iff_ne.mpr c0] at q0
  by_cases c1:c.fmod 6=1
  · obtain ⟨x,bx,hx⟩:=h24 R st mo g.r1 g.st
    have q1:=q (k:=1) (z:=.unset)
    rw [beq_iff_eq.mpr c1] at q1
    exact ⟨.int R,x,roomsV en,waysV ws,⟨rfl,bx.ok,bx.sh,o4,o5,o6,b1 bx.bad⟩,fun K h=>start K (x_ifF q0 (x_ifT q1 (x_ret (v:=p5V (sg s0 s1 s2) (.int R) x (roomsV en) (waysV ws)) (val_op (.cons (fun _ h=>h) (.cons (fun _ h=>h) (.cons (val_call (.cons (fun _ h=>h) (.two (fun _ h=>h) fun _ h=>h)) hx bx.nx) (.two (fun _ h=>h) fun _ h=>h)))) rfl) h)))⟩
  have q1:=q (k:=1) (z:=.unset)
  rw [beq_eq_false_iff_ne.mpr c1] at q1
  by_cases c2:c.fmod 6=2
  · obtain ⟨x,bx,hx⟩:=h24 R en mo g.r1 g.en
    have q2:=q (k:=2) (z:=.unset)
    rw [beq_iff_eq.mpr c2] at q2
    exact ⟨.int R,roomsV st,x,waysV ws,⟨rfl,o2,o3,bx.ok,bx.sh,o6,b2 bx.bad⟩,fun K h=>start K (x_ifF q0 (x_ifF q1 (x_ifT q2 (x_ret (v:=p5V (sg s0 s1 s2) (.int R) (roomsV st) x (waysV ws)) (val_op (.cons (fun _ h=>h) (.cons (fun _ h=>h) (.cons (fun _ h=>h) (.two (val_call (.cons (fun _ h=>h) (.two (fun _ h=>h) fun _ h=>h)) hx bx.nx) fun _ h=>h)))) rfl) h))))⟩
  have q2:=q (k:=2) (z:=.unset)
  rw [beq_eq_false_iff_ne.mpr c2] at q2
  have c3:Val cf [.v pv,.v (.int c),.v (sg s0 s1 s2),.v (.int R),.v (roomsV st),.v (roomsV en),.v (waysV ws),.v (.int mo),.unset] (.nd .and [.nd (.cmp .Eq) [.nd (.bin .Mod) [vv 1,ii 6],ii 3],.nd (.cmp .Eq) [.nd (.bin .Mod) [vv 7,ii 5],ii 0]]) (.bool ((c.fmod 6==3)&&(mo.fmod 5==0))):=val_and (.and q fun _=>.one fun _ h=>h)
  cases t3:(c.fmod 6==3)&&(mo.fmod 5==0) with
  | true=>
    rw [t3] at c3
    obtain ⟨x0,hx0,tx0⟩:∃ x0,(ws.map W.v++[PyData.int 5]).take 1=[x0]∧tOk x0=true:=by
      cases hws:ws.map W.v with
      | nil=>exact ⟨_,rfl,rfl⟩
      | cons y l=>exact ⟨y,rfl,tw y (by rw [hws]; exact .head _)⟩
    obtain ⟨bv,big,fm⟩:=mul_list (n:=4001) (Nat.le_refl _) (Nat.le_refl _) tx0
    obtain ⟨x,mx,ex⟩:=pick_of (l:=[.tuple (ws.map W.v),.none,.str k0,.int 5,.dict [],bv]) (n:=6) (c:=mo.fdiv 5) nofun (Nat.le_of_ble_eq_true rfl) rfl
    have all:∀ x∈([.tuple (ws.map W.v),.none,.str k0,.int 5,.dict [],bv]:List V),lOk x=true∧awB s0 s1 s2 R x=false:=List.forall_mem_cons.mpr ⟨⟨rfl,rfl⟩,List.forall_mem_cons.mpr ⟨⟨rfl,rfl⟩,List.forall_mem_cons.mpr ⟨⟨strV ok_0 (by decide),rfl⟩,List.forall_mem_cons.mpr ⟨⟨rfl,rfl⟩,List.forall_mem_cons.mpr ⟨⟨rfl,rfl⟩,List.forall_mem_cons.mpr ⟨⟨big.1,big.2 s0 s1 s2 R⟩,fun _ m=>nomatch m⟩⟩⟩⟩⟩⟩
    obtain ⟨v1,v2⟩:=all x mx
    have ft:opN .tupleOf [.list (ws.map W.v)]=some (.tuple (ws.map W.v)):=by
      refine (?_:(fitL (ws.map W.v) (ws.map W.v)).map _=_)
      rw [show fitL (ws.map W.v) (ws.map W.v)=some (ws.map W.v) from if_pos (sz_of (by omega))]; rfl
    have la:(ws.map W.v++[PyData.int 5]).length=(ws.map W.v).length+1:=by rw [List.length_append,List.length_singleton]
    have fs:opN (.slice false true) [.list (ws.map W.v++[.int 5]),.int 1]=some (.list [x0]):=(n_cutL0 (by omega) (by decide) (by omega)).trans (by rw [show (1:Int).toNat=1 from rfl,hx0])
    exact ⟨.int R,roomsV st,roomsV en,x,⟨rfl,o2,o3,o4,o5,v1,b3 v2⟩,fun K h=>start K (x_ifF q0 (x_ifF q1 (x_ifF q2 (x_ifT c3 (x_ret (v:=p5V (sg s0 s1 s2) (.int R) (roomsV st) (roomsV en) x) (val_op (.cons (fun _ h=>h) (.cons (fun _ h=>h) (.cons (fun _ h=>h) (.two (fun _ h=>h) (val_op (.two (val_op (.cons (val_op (.one (v:=.list (ws.map W.v)) fun _ h=>h) ft) (.cons (fun _ h=>h) (.cons (fun _ h=>h) (.cons (fun _ h=>h) (.two (fun _ h=>h) (val_op (.two (val_op (.two (val_op (.two (x:=.list (ws.map W.v)) (fun _ h=>h) fun _ h=>h) (n_addL (m:=[.int 5]) (by omega))) fun _ h=>h) fs) fun _ h=>h) fm)))))) rfl) fun _ h=>h) ex))))) rfl) h)))))⟩
  | false=>
    rw [t3] at c3
    obtain ⟨x,bx,hx⟩:=h25 (mixI mo 2)
    have hat:=pick_r (mo.fdiv 5) (n:=(ws.map W.v).length) (by omega)
    have hk:((mo.fdiv 5).fmod ((ws.map W.v).length+1)).toNat≤(ws.map W.v).length:=by omega
    refine ⟨.int R,roomsV st,roomsV en,.list (ins (ws.map W.v) ((mo.fdiv 5).fmod ((ws.map W.v).length+1)).toNat x),⟨rfl,o2,o3,o4,o5,ins_lOk (by omega) hk tw bx.ok,b3 ((Bool.and_eq_false_iff).mpr (.inr (ins_no bx.bad)))⟩,fun K h=>start K (x_ifF q0 (x_ifF q1 (x_ifF q2 (x_ifF c3 ?_))))⟩
    refine x_assign (v:=.int ((mo.fdiv 5).fmod ((ws.map W.v).length+1))) (val_op (.two (x:=.int (mo.fdiv 5)) (fun _ h=>h) (val_op (.two (val_op (.one (v:=.list (ws.map W.v)) fun _ h=>h) (n_len (by omega))) fun _ h=>h) rfl)) (n_mod (by omega))) ?_
    generalize (mo.fdiv 5).fmod ((ws.map W.v).length+1)=at' at hat hk h
    exact x_ret (v:=p5V (sg s0 s1 s2) (.int R) (roomsV st) (roomsV en) (.list (ins (ws.map W.v) at'.toNat x))) (val_op (.cons (fun _ h=>h) (.cons (fun _ h=>h) (.cons (fun _ h=>h) (.two (fun _ h=>h) (val_ins (l:=ws.map W.v) (x:=x) (fun _ h=>h) (fun _ h=>h) (val_call (vs:=[pv,.int (mixI mo 2)]) (.two (fun _ h=>h) (val_call (.two (fun _ h=>h) fun _ h=>h) fun K h=>h15 mo 2 K h)) hx bx.nx) (by omega) hat.1 hat.2))))) rfl) h
end
end Mine.L02
end
noncomputable section
namespace Mine.L02
open PySem
section
variable {cf:CallF} {G:Gs} {k j r:Nat} {es rs:List E} {e ec et:E} {vs:List V} {ls:List (List V)} {X rest:List S} {K:Option V→Gs→Prop}
theorem ev_callK {f:Nat} {K:V→Prop} (hv:Vals cf G es vs) (h:cf f vs fun y=>noX y=true∧K y):ev cf (.nd (.call f) es) G K:=hv _ h
theorem x_assignE (h:ev cf e G fun v=>exs sup cf rest (G.set k (.v v)) K):exs sup cf (.mk (.assign k) [e] [] [] :: rest) G K:=h
theorem x_rows (hv:Vals cf G es vs) (hr:vs.mapM rowO=some ls) (hz:ls.length≤szLine) (hu:isUnset G r=true) (n:exs sup cf rest ((G.set k (.v (rowsV (app0 ls)))).set r .junk) K):exs sup cf (.mk (.rows k r) es [] [] :: rest) G K:=by
  refine (?_:manyD (es.map (ev cf)) G fun xs=>okK (xs.mapM rowO) fun ls=>ls.length≤szLine∧isUnset G r=true∧exs sup cf rest ((G.set k (.v (rowsV (app0 ls)))).set r .junk) K)
  rw [evs_map]
  exact hv _ (okK_some hr ⟨hz,hu,n⟩)
theorem x_hand (hv:Vals cf G rs vs) (hr:vs.mapM rowO=some ls) (hz:ls.length≤szLine) (h:ev cf ec (G.set k (.v (rowsV ls))) fun y=>lendOk y=true∧ev cf et ((G.set k (.v (rowsV ls))).set j (.v y)) fun x=>okK (boolO x some) fun t=>
      if t=true then exi sup cf X ((G.set k (.v (rowsV ls))).set j (.v y)) (fun fl G'=>(match fl with | some z=>noX z=true | none=>False)∧(match fl with | none=>exs sup cf rest G' K | some x=>K (some x) G'))
      else isUnset G r=true∧exs sup cf rest (((G.set k (.v (rowsV (app0 ls)))).set j (.v y)).set r .junk) K):exs sup cf (.mk (.hand k j r) (ec :: et :: rs) X [] :: rest) G K:=by
  show manyD (rs.map (ev cf)) G fun xs=>okK (xs.mapM rowO) fun ls=>ls.length≤szLine∧ev cf ec (G.set k (.v (rowsV ls))) fun y=>lendOk y=true∧ev cf et ((G.set k (.v (rowsV ls))).set j (.v y)) fun x=>okK (boolO x some) fun t=>
      if t=true then exi sup cf X ((G.set k (.v (rowsV ls))).set j (.v y)) (fun fl G'=>(match fl with | some z=>noX z=true | none=>False)∧(match fl with | none=>exs sup cf rest G' K | some x=>K (some x) G'))
      else isUnset G r=true∧exs sup cf rest (((G.set k (.v (rowsV (app0 ls)))).set j (.v y)).set r .junk) K
  rw [evs_map]
  exact hv _ (okK_some hr ⟨hz,h⟩)
end
theorem at_false {A B:Prop} (h:B):okK (boolO (.bool false) some) fun t=>if t=true then A else B:=by
  refine (?_:if false=true then A else B)
  rw [if_neg Bool.false_ne_true]; exact h
theorem row_at {l:List V} (h:l.all noL=true) (h':l.length≤5000):rowO (.list l)=some l:=if_pos ⟨h,Nat.lt_of_le_of_lt h' (by decide)⟩
theorem rows3 {a b c:List V} (ha:a.all noL=true) (la:a.length≤5000) (hb:b.all noL=true) (lb:b.length≤5000) (hc:c.all noL=true) (lc:c.length≤5000):[PyData.list a,.list b,.list c].mapM rowO=some [a,b,c]:=by
  rw [List.mapM_cons,List.mapM_cons,List.mapM_cons,row_at ha la,row_at hb lb,row_at hc lc]; rfl
theorem ints_noL (is:List Int):(is.map PyData.int).all noL=true:=List.all_eq_true.mpr fun x m=>by obtain ⟨i,_,rfl⟩:=List.mem_map.mp m; rfl
theorem way_noL (w:W):noL w.v=true:=by cases w <;> rfl
theorem ways_noL {l:List V} {ws:List W} (h:∀ x∈l,x∈ws.map W.v):l.all noL=true:=List.all_eq_true.mpr fun x m=>by obtain ⟨w,_,rfl⟩:=List.mem_map.mp (h x m); exact way_noL w
theorem c_neF {x:V} {n:Nat} (h:Flat n x) (hn:n≤64):cmpOp .NotEq x x=some false:=c_neR (flat_ok h hn)
theorem ints_flat (is:List Int):Flat 1 (roomsV is):=flat_list fun x m=>by obtain ⟨i,_,rfl⟩:=List.mem_map.mp m; exact ⟨rfl,Nat.le_refl _⟩
theorem flat_up {n m:Nat} {x:V} (h:Flat n x) (hn:n≤m):Flat m x:=⟨h.1,Nat.le_trans h.2 hn⟩
theorem tail30 {cf:CallF} {s0 s1 s2:List Nat} {R:Int} {st en:List Int} {ws:List W} {a b s:V} {K:V→Prop} (h28:S28 cf) (h29:S29 cf) (hm:MethOk cf) (g:GoodP s0 s1 s2 R st en ws) (h:K (.bool true)) :
    exs sup cf (f30.body.drop 7) [.v a,.v b,.v (partsV (sg s0 s1 s2) R st en ws),.v s,.unset,.unset,.unset,.unset,.unset,.unset,.unset,.unset,.unset,.unset,.unset] fun fl _=>K (fl.getD .none):=by
  have l1:=g.st.len
  have l2:=g.en.len
  have l3:=g.len
  have z1:(st.map PyData.int).length≤5000:=by rw [List.length_map]; lia
  have z2:(en.map PyData.int).length≤5000:=by rw [List.length_map]; lia
  have z3:(ws.map W.v).length≤5000:=by rw [List.length_map]; lia
  have flw:Flat 2 (waysV ws):=flat_list (flat_ways g.sk g.ok fun _ m=>m)
  have fh:Flat 3 (rowsV [st.map .int,en.map .int,ws.map W.v]):=flat_list (n:=2) (List.forall_mem_cons.mpr ⟨flat_up (ints_flat st) (by decide),List.forall_mem_cons.mpr ⟨flat_up (ints_flat en) (by decide),List.forall_mem_cons.mpr ⟨flw,fun _ m=>nomatch m⟩⟩⟩)
  refine x_hand (vs:=[roomsV st,roomsV en,waysV ws]) (.cons (val_listOf (l:=st.map .int) (fun _ h=>h) z1) (.two (val_listOf (l:=en.map .int) (fun _ h=>h) z2) (val_listOf (l:=ws.map W.v) (fun _ h=>h) z3))) (rows3 (ints_noL st) z1 (ints_noL en) z2 (ways_noL fun _ m=>m) z3) (by show 3≤szLine; decide) ?_
  refine ev_callK (vs:=[partsV (sg s0 s1 s2) R st en ws]) (.one fun _ h=>h) (h28 s0 s1 s2 R st en ws _ g fun st' en' r hd=>?_)
  obtain ⟨m1,m2,m3⟩:=held_len g hd
  have y1:(st'.map PyData.int).length≤5000:=by rw [List.length_map]; lia
  have y2:(en'.map PyData.int).length≤5000:=by rw [List.length_map]; lia
  have y3:r.length≤5000:=by lia
  have inr:=fun x m=>(hd.mem x).mp m
  have lend:lendOk (machV (sg s0 s1 s2) R st' en' r)=true:=by
    show (true&&(true&&(true&&((st'.map PyData.int).all noL&&((en'.map PyData.int).all noL&&(r.all noL&&true))))))=true
    rw [ints_noL,ints_noL,ways_noL inr]; rfl
  generalize hmv:machV (sg s0 s1 s2) R st' en' r=mv at lend
  have hi:isInst mv=true:=by rw [← hmv]; rfl
  have t29:∀ {G:Gs},Val cf G (vv 8) mv→Val cf G (vv 2) (partsV (sg s0 s1 s2) R st en ws)→Val cf G (.nd .not [.nd (.call 29) [vv 8,vv 2]]) (.bool false):=fun h1 h2=>val_not (t:=true) (val_call (.two h1 h2) fun K h=>by rw [← hmv]; exact h29 s0 s1 s2 R st en ws st' en' r K g hd h)
  have vt:Val cf [.v a,.v b,.v (partsV (sg s0 s1 s2) R st en ws),.v s,.unset,.unset,.unset,.v (rowsV [st.map .int,en.map .int,ws.map W.v]),.v mv,.unset,.unset,.unset,.unset,.unset,.unset] (.nd .or [.nd (.cmp .NotEq) [vv 7,.nd .list [.nd .sub [vv 2,ii 2],.nd .sub [vv 2,ii 3],.nd .sub [vv 2,ii 4]]],.nd .not [.nd (.call 29) [vv 8,vv 2]]]) (.bool false):=
    val_or (.go (val_cmp (x:=rowsV [st.map .int,en.map .int,ws.map W.v]) (y:=rowsV [st.map .int,en.map .int,ws.map W.v]) (fun _ h=>h) (fun _ h=>h) (c_neF fh (by decide))) (.one' (t29 (fun _ h=>h) fun _ h=>h)))
  refine ⟨by rw [← hmv]; rfl,lend,vt _ (at_false ⟨rfl,?_⟩)⟩
  have mt:∀ {f:Nat} {v:V} {G:Gs},Val cf G (vv 8) mv→noX v=true→(∀ K:V→Prop,K v→cf f [machV (sg s0 s1 s2) R st' en' r] K)→Val cf G (.nd (.meth f) [vv 8]) v:=fun hv hn hf=>val_meth hv hi (fun K h=>by rw [← hmv]; exact hf K h) hn
  refine x_rows (vs:=[roomsV st',roomsV en',.list r]) (.cons (mt (fun _ h=>h) rfl fun K h=>hm.m11 _ _ _ _ _ K (by lia) h) (.two (mt (fun _ h=>h) rfl fun K h=>hm.m12 _ _ _ _ _ K (by lia) h) (mt (fun _ h=>h) rfl fun K h=>hm.m13 _ _ _ _ _ K y3 h))) (rows3 (ints_noL st') y1 (ints_noL en') y2 (ways_noL inr) y3) (by show 3≤szLine; decide) rfl ?_
  have ls:∀ l∈app0 [st'.map .int,en'.map .int,r],l.length≤5000:=fun l q=>by
    obtain ⟨l',q',rfl⟩:=List.mem_map.mp q
    rw [List.length_append,List.length_singleton]
    rcases List.mem_cons.mp q' with rfl | q'
    · rw [List.length_map]; lia
    rcases List.mem_cons.mp q' with rfl | q'
    · rw [List.length_map]; lia
    · cases List.mem_singleton.mp q'; lia
  refine x_assign (v:=rowsV (app0 [st'.map .int,en'.map .int,r])) (val_comp0 (g:=PyData.list) (f:=PyData.list) (ws:=app0 [st'.map .int,en'.map .int,r]) (x:=rowsV (app0 [st'.map .int,en'.map .int,r])) (fun _ h=>h) (seq_list (by show 3≤5000; decide)) fun l q=>val_listOf (fun _ h=>h) (ls l q)) ?_
  have f0:∀ {l:List V},(∀ x∈l,Flat 1 x)→Flat 2 (.list (l++[.int 0])):=fun h=>flat_list fun x q=>(List.mem_append.mp q).elim (h x) fun q=>by cases List.mem_singleton.mp q; exact ⟨rfl,Nat.zero_le _⟩
  have i1:∀ (is:List Int),∀ x∈is.map PyData.int,Flat 1 x:=fun is x m=>by obtain ⟨i,_,rfl⟩:=List.mem_map.mp m; exact ⟨rfl,Nat.zero_le _⟩
  have fc:Flat 3 (rowsV (app0 [st'.map .int,en'.map .int,r])):=flat_list (n:=2) (List.forall_mem_cons.mpr ⟨f0 (i1 st'),List.forall_mem_cons.mpr ⟨f0 (i1 en'),List.forall_mem_cons.mpr ⟨f0 (flat_ways g.sk g.ok inr),fun _ m=>nomatch m⟩⟩⟩)
  refine x_ifF (val_or (.go (t29 (fun _ h=>h) fun _ h=>h) (.go (t29 (fun _ h=>h) fun _ h=>h) (.one' (val_cmp (x:=rowsV (app0 [st'.map .int,en'.map .int,r])) (y:=rowsV (app0 [st'.map .int,en'.map .int,r])) (fun _ h=>h) (fun _ h=>h) (c_neF fc (by decide))))))) (x_ret (v:=.bool true) (fun _ h=>h) h)
theorem wrong30 {cf:CallF} {s0 s1 s2:List Nat} {R c1 c2:Int} {st en:List Int} {ws:List W} {a s:V} {K:V→Prop} (h14:∀ {G:Gs} {i:Int},Val cf G (vv 0) a→i=1∨i=2→Val cf G (.nd (.call 14) [vv 0,ii i]) (.int (if i=1 then c1 else c2))) (h15:S15 cf) (h28a:S28a cf) (h28b:S28b cf)
    (h26:∀ c:Int,∃ x,tOk x=true∧asB x=false∧∀ K:V→Prop,K x→cf 26 [.int c] K)
    (h27:∀ c:Int,0≤c→∃ rv stv env wsv,Spoilt s0 s1 s2 rv stv env wsv∧∀ K:V→Prop,K (p5V (sg s0 s1 s2) rv stv env wsv)→cf 27 [partsV (sg s0 s1 s2) R st en ws,.int c] K) (g:GoodP s0 s1 s2 R st en ws) (h:K (.bool true)) (r:List S) :
    exs sup cf (f30c2++r) [.v a,.v (sg s0 s1 s2),.v (partsV (sg s0 s1 s2) R st en ws),.v s,.unset,.unset,.unset,.unset,.unset,.unset,.unset,.unset,.unset,.unset,.unset] fun fl _=>K (fl.getD .none):=by
  obtain ⟨rv,stv,env,wsv,sp,hs⟩:=h27 (mixI c2 1) (fmod_lo _ (by decide))
  obtain ⟨x,tx,ax,hx⟩:=h26 (c1.fdiv 8)
  have nx:noX x=true:=by
    cases x with
    | dict kvs=>have:kvs.isEmpty=true:=tx; cases kvs with | nil=>rfl | cons=>(injection this; done)
    | _=>rfl
  refine x_assign (v:=p5V (sg s0 s1 s2) rv stv env wsv) (val_call (vs:=[partsV (sg s0 s1 s2) R st en ws,.int (mixI c2 1)]) (.two (fun _ h=>h) (val_call (vs:=[.int c2,.int 1]) (.two (h14 (i:=2) (fun _ h=>h) (.inr rfl)) fun _ h=>h) fun K h=>h15 c2 1 K h)) hs) ?_
  refine x_assign (v:=x) (val_call (vs:=[.int (c1.fdiv 8)]) (.one (val_op (.two (h14 (i:=1) (fun _ h=>h) (.inl rfl)) fun _ h=>h) (n_div (by decide) (by decide)))) hx nx) ?_
  have ref:∀ {b d:Bool},okEq (refV b d)=true:=flat_ok (n:=1) (flat_tuple (List.forall_mem_cons.mpr ⟨flat_sc (x:=.str kRef) (by refine (?_:PyData.strOk kRef=true); rw [strOk_eq]; rfl),List.forall_mem_cons.mpr ⟨⟨rfl,Nat.le_refl _⟩,List.forall_mem_cons.mpr ⟨⟨rfl,Nat.le_refl _⟩,fun _ m=>nomatch m⟩⟩⟩)) (by decide)
  refine x_for (xs:=[p5V x (.int R) (roomsV st) (roomsV en) (.list []),p5V x rv stv env wsv]) (P:=fun xs G=>(∀ z∈xs,∃ a b c d,z=p5V x a b c d)∧∃ z,G=[.v a,.v (sg s0 s1 s2),.v (partsV (sg s0 s1 s2) R st en ws),.v s,.v (p5V (sg s0 s1 s2) rv stv env wsv),.v x,z,.unset,.unset,.unset,.unset,.unset,.unset,.unset,.unset]) (v:=.list [p5V x (.int R) (roomsV st) (roomsV en) (.list []),p5V x rv stv env wsv]) (fun _ h=>h) rfl ⟨List.forall_mem_cons.mpr ⟨⟨_,_,_,_,rfl⟩,List.forall_mem_cons.mpr ⟨⟨_,_,_,_,rfl⟩,fun _ m=>nomatch m⟩⟩,_,rfl⟩ (fun G ⟨_,z,e⟩=>?_) fun y l G Kt ⟨hy,z,e⟩ nxt _=>?_
  · subst e
    refine x_ret (v:=.bool true) (val_cmp (x:=refV false true) (y:=refV false true) (val_call (vs:=[p5V (sg s0 s1 s2) rv stv env wsv]) (.one fun _ h=>h) fun K h=>h28b s0 s1 s2 rv stv env wsv K g.sk sp.o1 sp.o2 sp.o3 sp.o4 sp.o5 sp.o6 sp.bad h) (fun _ h=>h) ?_) h
    refine (?_:eqO (refV false true) (refV false true)=_)
    rw [show eqO (refV false true) (refV false true)=some (PyData.eqv (refV false true) (refV false true)) from if_pos (by rw [ref]; rfl),PySem.SeqAt.eqv_refl _ ((Bool.and_eq_true _ _).mp ref).1]
  · subst e
    obtain ⟨p,b,c,d,rfl⟩:=hy _ (.head _)
    exact x_ifF (val_cmp (x:=refV true false) (y:=refV true false) (val_call (vs:=[p5V x p b c d]) (.one fun _ h=>h) fun K h=>h28a x p b c d K tx ax h) (fun _ h=>h) (c_neR ref)) (x_nil (nxt _ ⟨fun z q=>hy z (.tail _ q),_,rfl⟩))
end Mine.L02
end
noncomputable section
namespace Mine.L02
open PySem
theorem mul_ways {ws:List W} {n:Nat} (hn:n≤4000):∃ us:List W,(∀ w∈us,w∈ws)∧us.length≤4000∧(∀ x∈us.map W.v,∀ y∈us.map W.v,x=y)∧opN (.bin .Mult) [.list ((ws.map W.v).take 1),.int (n:Int)]=some (waysV us):=by
  have e:((n:Int)).toNat=n:=Int.toNat_natCast n
  have hi:(n:Int) < 2 ^ 62:=by lia
  have h0:0≤(n:Int):=Int.natCast_nonneg n
  have hs:((ws.map W.v).take 1).length * (n:Int).toNat≤szLine:=by
    rw [e]
    have:((ws.map W.v).take 1).length≤1:=List.length_take_le _ _
    exact Nat.le_trans (Nat.mul_le_mul_right n this) (by rw [Nat.one_mul]; exact sz_of (by lia))
  have q:=mul_at _ _ ⟨h0,hi,hs⟩
  rw [e] at q
  cases ws with
  | nil=>exact ⟨[],fun _ m=>(nomatch m),Nat.zero_le _,fun _ m=>(nomatch m),q.trans (by rw [show ((([]:List W).map W.v).take 1)=[] from rfl,List.flatten_replicate_nil]; rfl)⟩
  | cons w ws=>
    have al:∀ x∈(List.replicate n w).map W.v,x=w.v:=fun x m=>by rw [List.map_replicate] at m; exact (List.mem_replicate.mp m).2
    exact ⟨List.replicate n w,fun u m=>(List.mem_replicate.mp m).2▸.head _,by rw [List.length_replicate]; exact hn,fun x mx y my=>(al x mx).trans (al y my).symm,q.trans (by rw [show (((w :: ws).map W.v).take 1)=[w.v] from rfl,List.flatten_replicate_singleton]; unfold waysV; rw [List.map_replicate])⟩
theorem n_cutLm {l:List V} {i:Int} (hz:l.length≤5000) (h0:0≤i):opN (.slice false true) [.list l,.int i]=some (.list (l.take i.toNat)):=by
  by_cases h:i≤l.length
  · exact n_cutL0 hz h0 h
  · refine (cut_at (l:=l) (f:=.list) (lo:=none) (i:=0) (j:=l.length) hz rfl ?_ (Nat.zero_le _)).trans ?_
    · refine (?_:some (if 0≤i then min i.toNat l.length else _)=_)
      rw [if_pos h0,Nat.min_eq_right (by lia)]
    · rw [List.drop_zero,Nat.sub_zero,List.take_length,List.take_of_length_le (by lia)]
theorem rooms_rev {R:Int} {is:List Int} (ok:RoomsOk R is):RoomsOk R is.reverse:=⟨by rw [List.length_reverse]; exact ok.len,(List.reverse_perm is).nodup_iff.mpr ok.nodup,fun i m=>ok.rooms i (List.mem_reverse.mp m)⟩
theorem in_up {R R' i:Int} (h:In R i) (hr:R≤R'):In R' i:=⟨h.1,Int.lt_of_lt_of_le h.2 hr⟩
theorem rooms_up {R R':Int} {is:List Int} (ok:RoomsOk R is) (hr:R≤R'):RoomsOk R' is:=⟨ok.len,ok.nodup,fun i m=>in_up (ok.rooms i m) hr⟩
theorem way_up {s0 s1 s2:List Nat} {R R':Int} {w:W} (ok:W.ok s0 s1 s2 R w) (hr:R≤R'):W.ok s0 s1 s2 R' w:=by
  cases w with
  | on a c b=>exact ⟨in_up ok.1 hr,ok.2.1,in_up ok.2.2 hr⟩
  | op a c b t=>exact ⟨in_up ok.1 hr,ok.2.1,in_up ok.2.2.1 hr,in_up ok.2.2.2 hr⟩
  | cl a b c t=>exact ⟨in_up ok.1 hr,in_up ok.2.1 hr,ok.2.2.1,in_up ok.2.2.2 hr⟩
structure All (cf:CallF):Prop where
  h14:S14 cf
  h15:S15 cf
  h21:SgS 21 cf
  h23:S23 cf
  h26:∀ c:Int,∃ x,tOk x=true∧asB x=false∧∀ K:V→Prop,K x→cf 26 [.int c] K
  h27:∀ (s0 s1 s2:List Nat) (R:Int) (st en:List Int) (ws:List W),GoodP s0 s1 s2 R st en ws→ws.length≤1000→∀ c:Int,0≤c→∃ rv stv env wsv,Spoilt s0 s1 s2 rv stv env wsv∧∀ K:V→Prop,K (p5V (sg s0 s1 s2) rv stv env wsv)→cf 27 [partsV (sg s0 s1 s2) R st en ws,.int c] K
  h28a:S28a cf
  h28b:S28b cf
  h28:S28 cf
  h29:S29 cf
  hm:MethOk cf
theorem mid30 {cf:CallF} (A:All cf) {scr:List Int} (hs:scr.length≤63) {s0 s1 s2:List Nat} {R:Int} {st en:List Int} {ws:List W} (sk:SgOk s0 s1 s2) (r1:1≤R) (r2:R≤40) (ok1:RoomsOk R st) (ok2:RoomsOk R en) (hl:ws.length≤10) (ok3:∀ w∈ws,W.ok s0 s1 s2 R w) {K:V→Prop} (h:K (.bool true)) :
    exs sup cf (f30.body.drop 3) [.v (scrV scr),.v (sg s0 s1 s2),.v (partsV (sg s0 s1 s2) R st en ws),.unset,.unset,.unset,.unset,.unset,.unset,.unset,.unset,.unset,.unset,.unset,.unset] fun fl _=>K (fl.getD .none):=by
  have cA:∀ {G:Gs} {b:E} {i:Int},Val cf G (vv 0) (scrV scr)→Val cf G b (.int i)→0≤i→Val cf G (.nd (.call 14) [vv 0,b]) (.int (cellI scr i)):=fun ha hb hi=>val_call (.two ha hb) fun K h=>A.h14 scr _ K hs hi h
  generalize hc1:cellI scr 1=c1
  generalize hc2:cellI scr 2=c2
  have k1:∀ {G:Gs},Val cf G (vv 0) (scrV scr)→Val cf G (.nd (.call 14) [vv 0,ii 1]) (.int c1):=fun hv=>hc1▸cA hv (fun _ h=>h) (by decide)
  have k2:∀ {G:Gs},Val cf G (vv 0) (scrV scr)→Val cf G (.nd (.call 14) [vv 0,ii 2]) (.int c2):=fun hv=>hc2▸cA hv (fun _ h=>h) (by decide)
  have zs:(st.map PyData.int).length≤5000:=by have:=ok1.len; rw [List.length_map]; lia
  have zw:(ws.map W.v).length≤5000:=by rw [List.length_map]; lia
  obtain ⟨st2,o2,v2⟩:∃ st2,RoomsOk R st2∧Val cf [.v (scrV scr),.v (sg s0 s1 s2),.v (partsV (sg s0 s1 s2) R st en ws),.unset,.unset,.unset,.unset,.unset,.unset,.unset,.unset,.unset,.unset,.unset,.unset] (.nd .ite [.nd (.cmp .Eq) [.nd (.bin .Mod) [.nd (.bin .FloorDiv) [.nd (.call 14) [vv 0,ii 1],ii 2],ii 2],ii 1],.nd .rev [.nd .sub [vv 2,ii 2],.nd .neg [ii 1]],.nd .sub [vv 2,ii 2]]) (roomsV st2):=by
    have ct:Val cf [.v (scrV scr),.v (sg s0 s1 s2),.v (partsV (sg s0 s1 s2) R st en ws),.unset,.unset,.unset,.unset,.unset,.unset,.unset,.unset,.unset,.unset,.unset,.unset] (.nd (.cmp .Eq) [.nd (.bin .Mod) [.nd (.bin .FloorDiv) [.nd (.call 14) [vv 0,ii 1],ii 2],ii 2],ii 1]) (.bool ((c1.fdiv 2).fmod 2==1)):=val_cmp (val_op (.two (val_op (.two (k1 fun _ h=>h) fun _ h=>h) (n_div (by decide) (by decide))) fun _ h=>h) (n_mod (by decide))) (fun _ h=>h) c_eq
    cases t:(c1.fdiv 2).fmod 2==1 with
    | true=>
      rw [t] at ct
      refine ⟨st.reverse,rooms_rev ok1,val_ite ct (fun _=>val_op (.two (x:=.list (st.map .int)) (y:=.int (-1)) (fun _ h=>h) fun _ h=>h) ?_) fun q=>nomatch q⟩
      refine (?_:(if (-1:Int) = -1∧(st.map PyData.int).length≤szLine then some (PyData.list (st.map PyData.int).reverse) else none)=_)
      rw [if_pos ⟨rfl,sz_of zs⟩,← List.map_reverse]; rfl
    | false=>
      rw [t] at ct
      exact ⟨st,ok1,val_ite ct (fun q=>nomatch q) fun _=>fun _ h=>h⟩
  refine x_assign v2 ?_
  have m0:=fmod_lo c1 (b:=4) (by decide)
  have m1:=fmod_hi c1 (b:=4) (by decide)
  generalize hws2:ws++ws.take (c1.fmod 4).toNat=ws2
  have l2:ws2.length≤13:=by
    rw [← hws2,List.length_append]
    have:=List.length_take_le (c1.fmod 4).toNat ws
    lia
  have ok2w:∀ w∈ws2,W.ok s0 s1 s2 R w:=fun w m=>by
    rw [← hws2] at m
    exact (List.mem_append.mp m).elim (ok3 w) fun m=>ok3 w (List.mem_of_mem_take m)
  have g:GoodP s0 s1 s2 R st2 en ws2:=⟨sk,r1,r2,o2,ok2,by lia,ok2w,.inl (by rw [List.length_map]; lia)⟩
  have zw2:(ws2.map W.v).length≤5000:=by rw [List.length_map]; lia
  have va:opN (.bin .Add) [.list (ws.map W.v),.list ((ws.map W.v).take (c1.fmod 4).toNat)]=some (waysV ws2):=by
    rw [n_addL (by rw [← List.map_take,← List.map_append,hws2]; exact zw2),← List.map_take,← List.map_append,hws2]; rfl
  refine x_assign (v:=partsV (sg s0 s1 s2) R st2 en ws2) (val_op (.cons (fun _ h=>h) (.cons (fun _ h=>h) (.cons (fun _ h=>h) (.two (fun _ h=>h) (val_op (.two (x:=.list (ws.map W.v)) (fun _ h=>h) (val_op (.two (x:=.list (ws.map W.v)) (fun _ h=>h) (val_op (.two (k1 fun _ h=>h) fun _ h=>h) (n_mod (by decide)))) (n_cutLm zw m0))) va))))) rfl) ?_
  have ct:∀ {z:V},Val cf [.v (scrV scr),.v (sg s0 s1 s2),.v z,.v (roomsV st2),.unset,.unset,.unset,.unset,.unset,.unset,.unset,.unset,.unset,.unset,.unset] (.nd (.cmp .Eq) [.nd (.bin .Mod) [.nd (.call 14) [vv 0,ii 2],ii 2],ii 1]) (.bool (c2.fmod 2==1)):=val_cmp (val_op (.two (k2 fun _ h=>h) fun _ h=>h) (n_mod (by decide))) (fun _ h=>h) c_eq
  refine x_if ct (fun _=>wrong30 (c1:=c1) (c2:=c2) (fun {G i} hv hi=>?_) A.h15 A.h28a A.h28b A.h26 (A.h27 s0 s1 s2 R st2 en ws2 g (by lia)) g h _) fun _=>?_
  · rcases hi with rfl | rfl
    · exact k1 hv
    · exact k2 hv
  have ct2:∀ {z:V},Val cf [.v (scrV scr),.v (sg s0 s1 s2),.v z,.v (roomsV st2),.unset,.unset,.unset,.unset,.unset,.unset,.unset,.unset,.unset,.unset,.unset] (.nd (.cmp .Eq) [.nd (.bin .Mod) [.nd (.bin .FloorDiv) [.nd (.call 14) [vv 0,ii 1],ii 4],ii 16],ii 10]) (.bool ((c1.fdiv 4).fmod 16==10)):=val_cmp (val_op (.two (val_op (.two (k1 fun _ h=>h) fun _ h=>h) (n_div (by decide) (by decide))) fun _ h=>h) (n_mod (by decide))) (fun _ h=>h) c_eq
  refine x_if ct2 (fun _=>?_) fun _=>tail30 A.h28 A.h29 A.hm g h
  obtain ⟨us,u1,u2,u3,u4⟩:=mul_ways (ws:=ws2) (n:=4000) (Nat.le_refl _)
  have g3:GoodP s0 s1 s2 R st2 en us:=⟨sk,r1,r2,o2,ok2,u2,fun w m=>ok2w w (u1 w m),.inr u3⟩
  exact x_assign (v:=partsV (sg s0 s1 s2) R st2 en us) (val_op (.cons (fun _ h=>h) (.cons (fun _ h=>h) (.cons (fun _ h=>h) (.two (fun _ h=>h) (y:=waysV us) (val_op (.two (x:=.list ((ws2.map W.v).take 1)) (val_op (.two (x:=.list (ws2.map W.v)) (fun _ h=>h) fun _ h=>h) (n_cutLm zw2 (by decide))) fun _ h=>h) u4))))) rfl) (tail30 A.h28 A.h29 A.hm g3 h)
theorem p30 (cf:CallF) (A:All cf) (scr:List Int) (hs:scr.length≤63) (K:V→Prop) (h:K (.bool true)):step cf 30 [scrV scr] K:=by
  have cA:∀ {G:Gs} {b:E} {i:Int},Val cf G (vv 0) (scrV scr)→Val cf G b (.int i)→0≤i→Val cf G (.nd (.call 14) [vv 0,b]) (.int (cellI scr i)):=fun ha hb hi=>val_call (.two ha hb) fun K h=>A.h14 scr _ K hs hi h
  obtain ⟨s0,s1,s2,sk,hsg⟩:=A.h21 (cellI scr 0)
  refine run (fn:=f30) rfl rfl rfl (x_assign (v:=sg s0 s1 s2) (val_call (vs:=[.int (cellI scr 0)]) (.one (cA (fun _ h=>h) (fun _ h=>h) (by decide))) hsg) ?_)
  refine x_assignE (ev_callK (vs:=[scrV scr,.int 3,sg s0 s1 s2,.int 4]) (.cons (fun _ h=>h) (.cons (fun _ h=>h) (.two (fun _ h=>h) fun _ h=>h))) (A.h23 scr s0 s1 s2 _ hs sk fun R st en ws po=>⟨rfl,?_⟩))
  have p4:=po.r4
  have ct:Val cf [.v (scrV scr),.v (sg s0 s1 s2),.v (partsV (sg s0 s1 s2) R st en ws),.unset,.unset,.unset,.unset,.unset,.unset,.unset,.unset,.unset,.unset,.unset,.unset] (.nd (.cmp .Eq) [.nd (.bin .Mod) [.nd (.bin .FloorDiv) [.nd (.call 14) [vv 0,ii 1],ii 4],ii 8],ii 1]) (.bool (((cellI scr 1).fdiv 4).fmod 8==1)):=val_cmp (val_op (.two (val_op (.two (cA (fun _ h=>h) (fun _ h=>h) (by decide)) fun _ h=>h) (n_div (by decide) (by decide))) fun _ h=>h) (n_mod (by decide))) (fun _ h=>h) c_eq
  refine x_if ct (fun _=>?_) fun _=>mid30 A hs sk po.r1 (by lia) po.st po.en po.len po.ok h
  have m0:=fmod_lo ((cellI scr 1).fdiv 32) (b:=3) (by decide)
  have m1:=fmod_hi ((cellI scr 1).fdiv 32) (b:=3) (by decide)
  have hv:Val cf [.v (scrV scr),.v (sg s0 s1 s2),.v (partsV (sg s0 s1 s2) R st en ws),.unset,.unset,.unset,.unset,.unset,.unset,.unset,.unset,.unset,.unset,.unset,.unset] (.nd (.bin .Add) [ii 38,.nd (.bin .Mod) [.nd (.bin .FloorDiv) [.nd (.call 14) [vv 0,ii 1],ii 32],ii 3]]) (.int (38+((cellI scr 1).fdiv 32).fmod 3)):=val_op (.two (fun _ h=>h) (val_op (.two (val_op (.two (cA (fun _ h=>h) (fun _ h=>h) (by decide)) fun _ h=>h) (n_div (by decide) (by decide))) fun _ h=>h) (n_mod (by decide)))) rfl
  generalize ((cellI scr 1).fdiv 32).fmod 3=m at m0 m1 hv
  exact x_assign (v:=partsV (sg s0 s1 s2) (38+m) st en ws) (val_op (.cons (fun _ h=>h) (.cons hv (.cons (fun _ h=>h) (.two (fun _ h=>h) fun _ h=>h)))) rfl) (mid30 A hs sk (by lia) (by lia) (rooms_up po.st (by lia)) (rooms_up po.en (by lia)) po.len (fun w m=>way_up (po.ok w m) (by lia)) h)
theorem meths (cf:CallF):MethOk (step cf):=⟨fun _ _ _ _ _ _ h h'=>p9 h h',fun _ _ _ _ _ _ h=>p10 h,fun _ _ _ _ _ _ h h'=>p11 h h',fun _ _ _ _ _ _ h h'=>p12 h h',fun _ _ _ _ _ _ h h'=>p13 h h'⟩
theorem call30 (scr:List Int) (hs:scr.length≤63):callN prog 6 30 [.list (scr.map .int)] fun y=>y=.bool true:=by
  have b2:S2 (callN prog 3):=p2 _ (p1 _ (p0 (callN prog 0)))
  have b4:S4 (callN prog 3):=p4 (callN prog 2)
  have b5:S5 (callN prog 3):=p5 _ (p4 (callN prog 1))
  have b7:S7 (callN prog 3):=p7 _ (p6 _ (p3 (callN prog 0)) (p4 (callN prog 0)))
  have c19:S19 (callN prog 4):=p19 (callN prog 3)
  have A:All (callN prog 5):={
    h14:=p14 (callN prog 4)
    h15:=p15 (callN prog 4)
    h21:=p21 _ (p20 (callN prog 3))
    h23:=p23 _ (p14 (callN prog 3)) (p15 (callN prog 3)) (p22 (callN prog 3))
    h26:=p26 (callN prog 4)
    h27:=fun s0 s1 s2 R st en ws g hw=>p27 _ (p15 (callN prog 3)) (fun R is c hR ok=>p24 (callN prog 3) hR ok c) (p25 (callN prog 3) g.sk g.r1 g.len g.ok) g hw
    h28a:=p28a _ (p8a _ b2) c19
    h28b:=p28b _ (p8b _ b2 b4 b5 b7) c19
    h28:=p28 _ (p8 _ b2 b4 b5 b7)
    h29:=p29 _ (meths (callN prog 3)) (fun i K h=>p16 (cf:=callN prog 3) h) (p17 _ fun i K h=>p16 (cf:=callN prog 2) h) (p18 (callN prog 3))
    hm:=meths (callN prog 4) }
  exact p30 _ A scr hs _ rfl
end Mine.L02
end
noncomputable section
open PySem PySem.W PyProof.Rows
namespace Mine.L02
theorem said:PySem.Challenge.rw_uf010006_02.wellSaid=true:=by kernel_rfl
theorem law02:PySem.Challenge.rw_uf010006_02.Holds:=by
  w_on
  refine holds_law said fun said=>?_
  refine holds_open (q:=vw) (loose:=[]) (Xt:=vwX) (XP:=XL vw []) (Yf:=Hook.obs hook) (Ya:=Hook.val hook) (YP:=Hook.says hook) (N:=5960) left02 (Hook.of hook) (Hook.keeps hook) (fun s e=>xl_of s (Bool.and_eq_true_iff.mp e).1) XL.keeps (by rfl) (by rfl) (by rfl) (fun s e=>recFacts_of (Bool.and_eq_true_iff.mp e).2) (by rfl) said (by decide +kernel) ⟨rfl,rfl,rfl,rfl,rfl,by decide +kernel⟩ ?hw ?hc
  case hw=>w_witness2
  intro w s₀ s₁ mg mb G Y fa o pm cd doc dV kV ho hd hcd hD hmg hg args vals as hpre hlay hrd hwl hlo
  obtain ⟨K,KX,e,hbd⟩:=Y
  have c:=call_of (g:=⟨PySem.Challenge.rw_uf010006_02.row.prog,w,s₁.heap,mg,mb,fun f=>fnA.getD f 0,mchA,K,fldN,s₁.os,prog,fun c=>clsA.getD c 0,8,safe,newf,fnN,clsN,conN⟩) KX e hbd rfl rfl rfl rfl rfl rfl rfl rfl rfl rfl rfl G.T.g G.T.b G.T.nolimit G.T.builtins (fun o ho=>let ⟨C,O,_⟩:=G.T.own o ho; ⟨C,O⟩) (by decide +kernel) 6
  have hm:some (Value.ref fa)=some (Value.ref 337):=hmg.symm.trans (c.1.fns "law" 30 rfl)
  cases hm
  exact law_ends (l:=PySem.Challenge.rw_uf010006_02) rfl rfl c.2 rfl rfl rfl hg (f:=30) (by decide) hpre hwl (fun scr hs=>call30 scr hs)
end Mine.L02
theorem PySem.Challenge.cw_uf010006_02_holds : PySem.Challenge.rw_uf010006_02.Holds :=
  Mine.L02.law02
end

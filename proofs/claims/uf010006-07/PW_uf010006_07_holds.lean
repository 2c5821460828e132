import PyProof.Rows.All
import PySem.SetTable
import PyProof.WalkLemmas
import PyProof.CollectWalk
import PyProof.DictIter
import PyProof.TupleKey
import PyProof.DictRoadsH
import PyProof.Rows.RowHeap
import PyProof.DictWalks
import PyProof.IsRules
import PyProof.EqKinds
import PyProof.P3Eq
import PyProof.ExcAttrAll.ValueError
import PyProof.ListNew
import PyProof.ListMulAny
import PyProof.SetKind
import PyProof.TupleOfSeq
import PyProof.Rows.SortRunsK
import PyProof.SetRoads
import PyProof.SetNew
import PyProof.Rows.SetFrom
import OpenK.KDescr
import OpenK.KCls
import Open.Line
import OpenK.KWalk
import OpenK.KMore
import Wide.FinOn
import Wide.All
import Lean
import PySem.Challenge.RW_uf010006_07
set_option Elab.async false
set_option linter.all false
set_option genSizeOf false
set_option tactic.hygienic false
set_option genSizeOfSpec false
set_option genInjectivity false
set_option maxRecDepth 100000
set_option linter.unusedVariables false
set_option maxHeartbeats 4000000
set_option maxHeartbeats 8000000
noncomputable section
namespace Mine
open PySem
theorem zA1 {α:Type _} {p:α→Prop} {a:α} {l:List α} (h:p a∧∀ x∈l,p x):∀ x∈a::l,p x:=List.forall_mem_cons.mpr h
theorem zA2 {a b:Bool} (h:(a&&b)=true):a=true∧b=true:=(Bool.and_eq_true _ _).mp h
theorem zA3 {a b:Bool} (h:a=true∧b=true):(a&&b)=true:=(Bool.and_eq_true _ _).mpr h
theorem zA4 {α:Type _} {β:Type _} {f:α→β} {l:List α}:(l.map f).length=l.length:=List.length_map _
theorem zA5 {α:Type _} {a b:α} {l m:List α} (h:a::l=b::m):a=b∧l=m:=List.cons.inj h
theorem zA6 {α:Type _} {a b:α} (h:a∈[b]):a=b:=List.mem_singleton.mp h
theorem zB1 {n m k:Nat} (a:n≤m) (b:m≤k):n≤k:=Nat.le_trans a b
theorem zB2 {n m:Nat} (a:n=m):n≤m:=Nat.le_of_eq a
theorem zB3 {α:Type _} {a:Array α}:a.toList.length=a.size:=Array.length_toList
theorem zB4 {α:Type _} {a:α} {l:List α}:(a::l).length=l.length+1:=rfl
theorem zB5 {α:Type _} {l m:List α}:(l++m).length=l.length+m.length:=List.length_append
theorem zC1 {α:Type _} {β:Type _} {M:Model} {A:Around} {m:Sem α} {f:α→Sem β} {Q:β→Shared→Prop} {E:Value→Shared→Prop} {s:Shared} (h:wpAny M A m (fun a s'=>wpAny M A (f a) Q E s') E s):wpAny M A (m>>=f) Q E s:=wpAny_bind h
theorem zC2 {α:Type _} {M:Model} {A:Around} {a:α} {Q:α→Shared→Prop} {E:Value→Shared→Prop} {s:Shared} (h:Q a s):wpAny M A (pure a) Q E s:=wpAny_pure h
theorem zA7 {α:Type _} {β:Type _} {f:α→β} {b:β} {l:List α} (h:b∈l.map f):∃ a,a∈l∧f a=b:=List.mem_map.mp h
theorem nB {C:Prop} (h:false=true):C:=absurd h Bool.false_ne_true
theorem nM {α:Type} {x:α} {C:Prop} (h:x∈([]:List α)):C:=absurd h List.not_mem_nil
theorem nN {α:Type} {x:α} {C:Prop} (h:some x=none):C:=absurd h (Option.some_ne_none x)
theorem ar {G:Prop} (h:∀ P:Prop,(G→P)→P):G:=h G id
theorem bw [Decidable c] (h:¬ c) (x:wpAny M A e Q E s):wpAny M A (if c then t else e) Q E s:=if_neg h▸x
theorem dH [Decidable c] (h:c) (x:wpAny M A t Q E s):wpAny M A (if c then t else e) Q E s:=if_pos h▸x
noncomputable abbrev V:=PyData
noncomputable abbrev Sc:=Int ⊕ Str
inductive Slot where
 | unset
 | v (x:V)
 | ownL (l:List V)
 | ownD (l:List (V×V))
 | ownI (l:List V)
noncomputable abbrev Gs:=List Slot
inductive Op where
 | lit (x:V)
 | var (k:Nat)
 | own (k:Nat)
 | bin (o:Operator)
 | cmp (o:CmpOp)
 | chain (lt:Bool)
 | and | or | not | neg | ite
 | tuple | list | sub
 | slice (lo hi:Bool)
 | call (f:Nat)
 | meth (f:Nat)
 | attr (j:Nat)
 | isinst (t:Nat)
 | len | listOf | sorted | sortedSet | lenSet
 | join | count
 | isExc (c:Nat) (tb:List Bool)
 | isCls | tupleOf
 | itemL (k:Nat)
 | lend (k:Nat)
 | comp (k:Nat)
 | compM (ks:List Nat)
 | range | zip
inductive E where
 | nd (o:Op) (es:List E)
inductive SOp where
 | assign (k:Nat)
 | assignM (ks:List Nat)
 | ownL (k:Nat)
 | ownD (k:Nat)
 | append (k:Nat)
 | setD (k:Nat)
 | setAttr (k j:Nat)
 | setAttrN (k j:Nat)
 | call (f:Nat)
 | ret
 | retC (f:Nat)
 | tryC (f c k:Nat)
 | setL (k:Nat)
 | popC (j k f:Nat)
 | ite
 | forS (k:Nat)
 | forM (ks:List Nat)
 | freeze (k:Nat)
 | freezeD (k:Nat)
 | raise (c:Nat)
inductive S where
 | mk (o:SOp) (es:List E) (a b:List S)
section
variable {α:Type}
noncomputable def am:Nat:=2 ^ 20
noncomputable def db (l:List α) (z:β):Option β:=if l.length≤am then some z else none
noncomputable def text (l:List Nat):V:=.str ⟨l.toArray⟩
noncomputable def dA (v:V):Bool:=v.canLay0&&decide (v.depth≤64)
noncomputable def cG (x:V) (f:Bool→Option α):Option α:=match x with
 | .bool b=>f b
 | _=>none
noncomputable def kX (x:V) (f:Int→Option α):Option α:=match x with
 | .int i=>f i
 | _=>none
noncomputable def vm (x:V) (f:List Nat→Option α):Option α:=match x with
 | .str s=>f s.cps.toList
 | _=>none
noncomputable def fV (x:V) (f:List V→Option α):Option α:=match x with
 | .list l=>f l
 | _=>none
noncomputable def B4 (x:V) (f:List V→Option α):Option α:=match x with
 | .tuple l=>f l
 | _=>none
noncomputable def oM (x y:V) (f:Int→Int→Option α):Option α:=kX x fun a=>kX y (f a)
end
noncomputable def Cr (x y:V):Option V:=match x with
 | .int a=>kX y fun b=>some (.int (a+b))
 | .str a=>vm y fun b=>db (a.cps.toList++b) (text (a.cps.toList++b))
 | .list a=>fV y fun b=>db (a++b) (.list (a++b))
 | .tuple a=>B4 y fun b=>db (a++b) (.tuple (a++b))
 | _=>none
noncomputable def tR (o:Operator) (x y:V):Option V:=match o with
 | .Add=>Cr x y
 | .Sub=>oM x y fun a b=>some (.int (a - b))
 | .Mult=>oM x y fun a b=>if b.natAbs≤1000000∨a.natAbs≤1000000 then some (.int (a * b)) else none
 | .FloorDiv=>oM x y fun a b=>if b=0∨1000000 < b.natAbs then none else some (.int (a.fdiv b))
 | .Mod=>oM x y fun a b=>if b=0 then none else some (.int (a.fmod b))
 | _=>none
noncomputable def eqO (a b:V):Option Bool:=if (dA a&&dA b)=true then some (PyData.eqv a b) else none
noncomputable def isNone:V→Bool
 | .none=>true
 | _=>false
noncomputable def inO (a b:V):Option Bool:=match b with
 | .str t=>vm a fun s=>match s with | [c]=>some (t.cps.toList.elem c) | _=>none
 | .list l=>if (dA a&&dA (.list l))=true then some (l.any fun x=>PyData.eqv x a) else none
 | .tuple l=>if (dA a&&dA (.tuple l))=true then some (l.any fun x=>PyData.eqv x a) else none
 | _=>none
noncomputable def aU (o:CmpOp) (x y:V):Option Bool:=match o with
 | .Eq=>eqO x y
 | .NotEq=>(eqO x y).map (!·)
 | .Lt=>oM x y fun a b=>some (decide (a < b))
 | .LtE=>oM x y fun a b=>some (decide (a≤b))
 | .Gt=>oM x y fun a b=>some (decide (b < a))
 | .GtE=>oM x y fun a b=>some (decide (b≤a))
 | .Is=>if isNone y=true then some (isNone x) else none
 | .IsNot=>if isNone y=true then some (!isNone x) else none
 | .In=>inO x y
 | .NotIn=>(inO x y).map (!·)
noncomputable def bj (s:List Nat):List V:=s.map fun c=>text [c]
noncomputable def aW (a b:Int):List V:=(List.range (b - a).toNat).map fun (i:Nat)=>.int (a+i)
noncomputable def rOk (i:Int):Bool:=Nat.ble i.natAbs 4611686018427387903
noncomputable def mS (a b:Int):Option V:=if rOk a=true∧rOk b=true then db (aW a b) (.list (aW a b)) else none
noncomputable def aN (x:V):Bool:=match x with
 | .int _=>true
 | .str s=>PyData.strOk s
 | _=>false
noncomputable def itV (x:V):Bool:=match x with
 | .none=>true
 | .tuple l=>l.all aN
 | x=>aN x
noncomputable def dC (x:V):Bool:=match x with
 | .tuple l=>l.all itV
 | _=>false
noncomputable def dkV (kvs:List (V×V)):Bool:=kvs.all fun p=>dC p.1
noncomputable def pN (kvs:List (V×V)) (y:V):Option V:=(kvs.find? fun p=>PyData.eqv p.1 y).map (·.2)
noncomputable def rm (kvs:List (V×V)) (y v:V):List (V×V):=if (kvs.any fun p=>PyData.eqv p.1 y)=true then kvs.map fun p=>if PyData.eqv p.1 y=true then (p.1,v) else p else kvs++[(y,v)]
noncomputable def i5 (l:List α) (f:α→V) (y:V):Option V:=kX y fun i=>if l.length≤am then (if 0≤i then l[i.toNat]? else if 0≤i+l.length then l[(i+l.length).toNat]? else none).map f else none
noncomputable def tG (x y:V):Option V:=match x with
 | .list l=>i5 l id y
 | .tuple l=>i5 l id y
 | .str s=>i5 s.cps.toList (fun c=>text [c]) y
 | .dict kvs=>if (dkV kvs&&dC y)=true then pN kvs y else none
 | _=>none
noncomputable def oY (d n:Nat) (y:Option V):Option Nat:=match y with
 | none=>some d
 | some x=>kX x fun i=>some (if 0≤i then min i.toNat n else (i+n).toNat)
noncomputable def l9 (f:List α→V) (l:List α) (lo hi:Option V):Option V:=
 if l.length≤am then (oY 0 l.length lo).bind fun i=>(oY l.length l.length hi).bind fun j=>if i≤j then some (f ((l.drop i).take (j - i))) else none else none
noncomputable def dJ (a:V) (lo hi:Option V):Option V:=match a with
 | .list l=>l9 .list l lo hi
 | .tuple l=>l9 .tuple l lo hi
 | .str s=>l9 text s.cps.toList lo hi
 | _=>none
noncomputable def iE:List String:=["str", "tuple", "list", "int", "bool"]
noncomputable def isT (x:V) (t:Nat):Option Bool:=match x with
 | .none=>some false
 | .bool _=>some (t==4||t==3)
 | .int _=>some (t==3)
 | .str _=>some (t==0)
 | .list _=>some (t==2)
 | .tuple _=>some (t==1)
 | .dict kvs=>if kvs.isEmpty=true then some false else none
noncomputable def wM (x:V):Option (List V):=match x with
 | .list l=>db l l
 | .tuple l=>db l l
 | .str s=>db s.cps.toList (bj s.cps.toList)
 | _=>none
noncomputable def bL (x:V):Option (List V):=match x with
 | .dict kvs=>if dkV kvs=true then db kvs (kvs.map (·.1)) else none
 | x=>wM x
noncomputable def fP (l:List V):Option (List (List Nat)):=l.mapM fun x=>vm x some
noncomputable def eI (l:List V):Option (List Int):=l.mapM fun x=>kX x some
noncomputable def gY (sep:List Nat):List (List Nat)→List Nat
 | []=>[]
 | [x]=>x
 | x :: r=>x++sep++gY sep r
def okK {α:Type} (o:Option α) (K:α→Prop):Prop:=match o with
 | some z=>K z
 | none=>False
noncomputable abbrev D:=Gs→(V→Prop)→Prop
noncomputable abbrev B:=Gs→(Option V→Gs→Prop)→Prop
noncomputable abbrev ai:=Nat→List V→(V→Prop)→Prop
noncomputable def getSlot (G:Gs) (k:Nat):Slot:=G.getD k .unset
noncomputable def xX (G:Gs) (k:Nat):Option V:=match getSlot G k with
 | .v x=>some x
 | _=>none
noncomputable def bI (G:Gs) (k:Nat):Option (List V):=match getSlot G k with
 | .ownL l=>some l
 | _=>none
noncomputable def iP (G:Gs) (k:Nat):Option (List (V×V)):=match getSlot G k with
 | .ownD l=>some l
 | _=>none
noncomputable def dQ (G:Gs) (k:Nat):Option (List V):=match getSlot G k with
 | .ownI l=>some l
 | _=>none
def bJ (ds:List D) (G:Gs):(List V→Prop)→Prop:=
 List.rec (motive:=fun _=>(List V→Prop)→Prop) (fun f=>f []) (fun d _ ih f=>d G fun x=>ih fun xs=>f (x :: xs)) ds
def fy (ds:List D) (G:Gs) (f:V→Prop):Prop:=match ds with
 | [d]=>d G f
 | _=>False
def cq (b:Bool) (ds:List D) (G:Gs):(Bool→Prop)→Prop:=
 List.rec (motive:=fun _=>(Bool→Prop)→Prop) (fun f=>f b) (fun d _ ih f=>d G fun x=>okK (cG x some) fun c=>if c=b then ih f else f c) ds
def Ax (lt:Bool) (ds:List D) (G:Gs) (K:V→Prop):Prop:=match ds with
 | [a,b,c]=>a G fun x=>b G fun y=>okK (aU .LtE x y) fun t=>if t=true then c G fun z=>okK (aU (if lt=true then .Lt else .LtE) y z) fun u=>K (.bool u) else K (.bool false)
 | _=>False
def CI (ds:List D) (G:Gs) (K:V→Prop):Prop:=match ds with
 | [c,a,b]=>c G fun x=>okK (cG x some) fun t=>if t=true then a G K else b G K
 | _=>False
noncomputable def jS (k:Nat) (G:Gs) (x:V):Option Gs:=some (G.set k (.v x))
noncomputable def aV (ks:List Nat) (G:Gs) (x:V):Option Gs:=match x with
 | .tuple xs=>if xs.length=ks.length then some ((ks.zip xs).foldl (fun G p=>G.set p.1 (.v p.2)) G) else none
 | _=>none
def jf (e:D) (ts:List D) (b:Gs→V→Option Gs) (G:Gs) (xs:List V):(List V→Prop)→Prop:=
 List.rec (motive:=fun _=>(List V→Prop)→Prop) (fun f=>f [])
  (fun x _ ih f=>okK (b G x) fun G'=>cq true ts G' fun c=>if c=true then e G' fun y=>ih fun ys=>f (y :: ys) else ih f) xs
def tO (b:Gs→V→Option Gs) (ds:List D) (G:Gs) (K:V→Prop):Prop:=match ds with
 | s :: e :: ts=>s G fun x=>okK (bL x) fun xs=>jf e ts b G xs fun ys=>K (.list ys)
 | _=>False
noncomputable def one {α:Type} (xs:List V) (f:V→Option α):Option α:=match xs with
 | [x]=>f x
 | _=>none
noncomputable def two {α:Type} (xs:List V) (f:V→V→Option α):Option α:=match xs with
 | [x,y]=>f x y
 | _=>none
noncomputable def zd (lo hi:Bool) (xs:List V):Option V:=match xs,lo,hi with
 | [x],false,false=>dJ x none none
 | [x,y],true,false=>dJ x (some y) none
 | [x,y],false,true=>dJ x none (some y)
 | [x,y,z],true,true=>dJ x (some y) (some z)
 | _,_,_=>none
noncomputable def vf (l r:List V):List V:=List.zipWith (fun a b=>.tuple [a,b]) l r
noncomputable def iO (x:V):Option (List V):=match x with
 | .list l=>db l l
 | .tuple l=>db l l
 | _=>none
noncomputable def kOf (x:V):Sc:=match x with
 | .int i=>.inl i
 | .str t=>.inr t
 | _=>.inl 0
noncomputable def eZ (x:V):Bool:=match x with
 | .tuple (.str s :: l)=>(aN (.str s)&&l.all aN)
 | _=>false
noncomputable def aP (x:V):List Sc:=match x with
 | .tuple l=>l.map kOf
 | _=>[]
noncomputable def ltK:List Sc→List Sc→Bool
 | k :: ks,m :: ms=>if k=m then ltK ks ms else k.isLeft==m.isLeft
 | _,_=>true
noncomputable def gO:Sc→Sc→Bool
 | .inl a,.inl b=>decide (a < b)
 | .inr x,.inr y=>decide (x.cps.toList < y.cps.toList)
 | .inl _,.inr _=>true
 | .inr _,.inl _=>false
noncomputable def bE:List Sc→List Sc→Bool
 | k :: ks,m :: ms=>if k=m then bE ks ms else gO k m
 | [],_ :: _=>true
 | _,[]=>false
theorem lex_cc (k m:Sc) (ks ms:List Sc):bE (k :: ks) (m :: ms)=if k=m then bE ks ms else gO k m:=rfl
theorem zM (k m:Sc) (ks ms:List Sc):ltK (k :: ks) (m :: ms)=if k=m then ltK ks ms else k.isLeft==m.isLeft:=rfl
def g8 (r:List V):Prop:=r.Pairwise fun x y=>bE (aP y) (aP x)=false
open Classical in
noncomputable def fF (x:V):Option Nat:=match x with
 | .str s=>if s.cps.toList.Nodup∧s.cps.size < 4000 then some s.cps.size else none
 | .list l=>if l.all eZ=true then (if l.Nodup∧l.length < 4500 then some l.length else none) else (eI l).bind fun is=>if is.Nodup∧is.length < 4000 then some is.length else none
 | _=>none
noncomputable def pY (kvs:List (V×V)):Bool:=match kvs with
 | (.none,_) :: _=>true
 | _=>false
noncomputable def fA (c:Nat):V:=.dict [(.int c,.none)]
noncomputable def lW (x:V):Option Nat:=match x with
 | .dict [(.int c,.none)]=>some c.toNat
 | _=>none
noncomputable def noX (x:V):Bool:=(lW x).isNone
noncomputable def opN (o:Op) (xs:List V):Option V:=match o with
 | .bin o=>two xs (tR o)
 | .neg=>one xs fun x=>kX x fun i=>some (.int (-i))
 | .tuple=>db xs (.tuple xs)
 | .list=>db xs (.list xs)
 | .sub=>two xs tG
 | .slice lo hi=>zd lo hi xs
 | .attr j=>one xs fun x=>match x with | .dict kvs=>if pY kvs=true then (kvs[j]?).map (·.2) else none | _=>none
 | .isinst t=>one xs fun x=>(isT x t).map .bool
 | .len=>one xs fun x=>(wM x).map fun l=>.int l.length
 | .listOf=>one xs fun x=>(iO x).map .list
 | .isExc _ tb=>one xs fun x=>((lW x).bind fun e=>tb[e]?).map .bool
 | .tupleOf=>one xs fun x=>fV x fun l=>db l (.tuple l)
 | .lenSet=>one xs fun x=>(fF x).map fun (n:Nat)=>PyData.int n
 | .join=>two xs fun x y=>vm x fun sep=>fV y fun l=>(fP l).bind fun ss=>if (ss.map List.length).sum+ss.length * sep.length≤am then some (text (gY sep ss)) else none
 | .count=>two xs fun x y=>fV x fun l=>if (dA y&&dA (.list l))=true then some (.int (l.countP fun z=>PyData.eqv z y)) else none
 | .range=>match xs with
  | [x]=>kX x fun b=>mS 0 b
  | [x,y]=>oM x y mS
  | _=>none
 | .zip=>two xs fun x y=>(iO x).bind fun l=>(iO y).map fun r=>.list (vf l r)
 | _=>none
noncomputable def isStr (x:V):Bool:=match x with
 | .str _=>true
 | _=>false
noncomputable def jZ (x:V):Bool:=match x with
 | .list _=>true
 | _=>false
def Cb (ok:V→Bool) (ds:List D) (G:Gs) (f:V→V→Prop):Prop:=match ds with
 | [a,b]=>a G fun x=>ok x=true∧b G fun y=>f x y
 | _=>False
noncomputable def qd (l:List V):V:=.dict (l.map fun x=>(.none,x))
noncomputable def ij (x:V):Bool:=match x with
 | .dict kvs=>pY kvs
 | _=>false
def bt (cf:ai) (o:Op) (ds:List D) (G:Gs) (K:V→Prop):Prop:=match o with
 | .lit x=>K x
 | .var k=>okK (xX G k) K
 | .own k=>okK (bI G k) fun l=>K (.list l)
 | .cmp o=>bJ ds G fun xs=>okK (two xs (aU o)) fun b=>K (.bool b)
 | .not=>fy ds G fun x=>okK (cG x some) fun b=>K (.bool (!b))
 | .chain lt=>Ax lt ds G K
 | .and=>cq true ds G fun b=>K (.bool b)
 | .or=>cq false ds G fun b=>K (.bool b)
 | .call f=>bJ ds G fun xs=>cf f xs fun y=>noX y=true∧K y
 | .meth f=>fy ds G fun x=>ij x=true∧cf f [x] fun y=>noX y=true∧K y
 | .sorted=>fy ds G fun x=>okK (fV x eI) fun is=>is.length < 64∧∀ r:List Int,r.Perm is→r.Pairwise (·≤·)→K (.list (r.map .int))
 | .sortedSet=>fy ds G fun x=>okK (fV x some) fun l=>(l.all eZ&&decide (l.length≤am))=true∧(∀ x∈l,∀ y∈l,ltK (aP x) (aP y)=true)∧(∃ m:List V,m.length < 4500∧∀ x∈l,x∈m)∧∀ r:List V,r.Nodup→(∀ y,y∈r ↔ y∈l)→((∃ m:List V,m.length < 64∧∀ x∈l,x∈m)→g8 r)→K (.list r)
 | .ite=>CI ds G K
 | .isCls=>fy ds G fun x=>ij x=true∧K (.bool true)
 | .itemL k=>okK (bI G k) fun l=>fy ds G fun y=>okK (i5 l id y) K
 | .lend k=>okK (bI G k) fun l=>fy ds (G.set k (.v (.list l))) fun x=>okK (cG x some) fun b=>K (.bool b)
 | .comp k=>tO (jS k) ds G K
 | .compM ks=>tO (aV ks) ds G K
 | .join=>Cb isStr ds G fun x y=>okK (opN .join [x,y]) K
 | .count=>Cb jZ ds G fun x y=>okK (opN .count [x,y]) K
 | o=>bJ ds G fun xs=>okK (opN o xs) K
noncomputable def ev (cf:ai) (e:E):D:=
 E.rec (motive_1:=fun _=>D) (motive_2:=fun _=>List D) (fun o _ ih=>bt cf o ih) [] (fun _ _ i is=>i :: is) e
noncomputable def i9 (b:Gs→V→Option Gs) (A:B) (xs:List V):B:=
 List.rec (motive:=fun _=>B) (fun G K=>K none G)
  (fun x _ ih G K=>okK (b G x) fun G'=>A G' fun fl G''=>match fl with | none=>ih G'' K | some y=>noX y=true∧K (some y) G'') xs
def A4 (cf:ai) (j k f:Nat) (ds:List D) (G:Gs) (K:Option V→Gs→Prop):Prop:=match ds with
 | [a,b,c]=>a G fun x=>okK (bI G k) fun l=>l.length≤am∧okK l.getLast? fun y=>b (G.set k (.ownL l.dropLast)) fun u=>c (G.set k (.ownL l.dropLast)) fun w=>cf f [x,y,u,w] fun z=>noX z=true∧K none ((G.set k (.ownL l.dropLast)).set j (.v z))
 | _=>False
def d7 (sup:Nat→Nat→Bool) (cf:ai) (o:SOp) (ds:List D) (X Y:B) (G:Gs) (K:Option V→Gs→Prop):Prop:=match o with
 | .assign k=>fy ds G fun x=>K none (G.set k (.v x))
 | .assignM ks=>fy ds G fun x=>okK (aV ks G x) (K none)
 | .ownL k=>bJ ds G fun xs=>xs.length≤am∧K none (G.set k (.ownL xs))
 | .ownD k=>K none (G.set k (.ownD []))
 | .append k=>okK (bI G k) fun l=>fy ds G fun x=>l.length < am∧K none (G.set k (.ownL (l++[x])))
 | .setD k=>okK (iP G k) fun l=>bJ ds G fun xs=>okK (two xs fun v x=>if (dC x&&decide (l.length < am))=true then some (rm l x v) else none) fun l'=>K none (G.set k (.ownD l'))
 | .setAttr k j=>fy ds G fun x=>jZ x=false∧okK (dQ G k) fun l=>l.length=j∧K none (G.set k (.ownI (l++[x])))
 | .setAttrN k j=>fy ds G fun x=>okK (dQ G k) fun l=>l.length=j∧K none (G.set k (.ownI (l++[x])))
 | .call f=>bJ ds G fun xs=>cf f xs fun y=>if noX y=true then isNone y=true∧K none G else K (some y) G
 | .ret=>fy ds G fun x=>noX x=true∧K (some x) G
 | .retC f=>bJ ds G fun xs=>cf f xs fun y=>K (some y) G
 | .tryC f c k=>bJ ds G fun xs=>cf f xs fun y=>match lW y with
  | none=>K (some y) G
  | some d=>sup d c=true∧X (G.set k (.v y)) fun fl G'=>(match fl with | some x=>noX x=true | none=>False)∧K fl (G'.set k .unset)
 | .popC j k f=>A4 cf j k f ds G K
 | .setL k=>okK (bI G k) fun l=>bJ ds G fun xs=>okK (two xs fun v y=>kX y fun i=>if 0≤i∧i < l.length∧l.length≤am then some (l.set i.toNat v) else none) fun l'=>K none (G.set k (.ownL l'))
 | .ite=>fy ds G fun x=>okK (cG x some) fun t=>if t=true then X G K else Y G K
 | .forS k=>fy ds G fun x=>okK (bL x) fun xs=>i9 (jS k) X xs G K
 | .forM ks=>fy ds G fun x=>okK (bL x) fun xs=>i9 (aV ks) X xs G K
 | .freeze k=>okK (bI G k) fun l=>K none (G.set k (.v (.list l)))
 | .freezeD k=>okK (iP G k) fun l=>K none (G.set k (.v (.dict l)))
 | .raise c=>K (some (fA c)) G
noncomputable def ex (sup:Nat→Nat→Bool) (cf:ai) (s:S):B:=
 S.rec (motive_1:=fun _=>B) (motive_2:=fun _=>B) (fun o es _ _ x y=>d7 sup cf o (es.map (ev cf)) x y) (fun G K=>K none G)
  (fun _ _ i is G K=>i G fun fl G'=>match fl with | none=>is G' K | some x=>K (some x) G') s
noncomputable def exs (sup:Nat→Nat→Bool) (cf:ai) (l:List S):B:=
 List.rec (motive:=fun _=>B) (fun G K=>K none G) (fun s _ is G K=>ex sup cf s G fun fl G'=>match fl with | none=>is G' K | some x=>K (some x) G') l
structure Fn where
 npar:Nat
 nslots:Nat
 init:Bool
 body:List S
structure Prog where
 fns:List Fn
 sup:Nat→Nat→Bool
noncomputable def cQ (fn:Fn) (args:List V):Gs:=(if fn.init=true then [.ownI []] else [])++args.map .v++List.replicate (fn.nslots - fn.npar) .unset
noncomputable def al (P:Prog) (d:Nat):ai:=
 Nat.rec (motive:=fun _=>ai) (fun _ _ _=>False)
  (fun _ cf f args K=>okK (P.fns[f]?) fun fn=>args.length+(if fn.init=true then 1 else 0)=fn.npar∧exs P.sup cf fn.body (cQ fn args) fun fl G=>
   if fn.init=true then (match fl with | none=>okK (dQ G 0) fun l=>l.length=5∧K (qd l) | some y=>noX y=false∧K y) else K (fl.getD .none)) d
end Mine
end
noncomputable section
namespace Mine
open PySem PySem.Calls PyProof.Rows PySem.W
noncomputable def qG (a:List Nat):List Nat→Bool:=List.rec (motive:=fun _=>List Nat→Bool) (fun b=>match b with | []=>true | _=>false) (fun x _ ih b=>match b with | []=>false | y :: r=>Nat.beq x y&&ih r) a
theorem listEq_iff:∀ a b:List Nat,qG a b=true ↔ a=b
 | [],[]=>⟨fun _=>rfl,fun _=>rfl⟩
 | [],_ :: _=>⟨fun h=>(nomatch h),fun h=>(nomatch h)⟩
 | _ :: _,[]=>⟨fun h=>(nomatch h),fun h=>(nomatch h)⟩
 | x :: a,y :: b=>by
  refine (?_:(Nat.beq x y&&qG a b)=true ↔ _)
  rw [Bool.and_eq_true,listEq_iff a b,Nat.beq_eq,List.cons.injEq]
set_option warn.classDefReducibility false in
noncomputable def lU:BEq Str:=⟨fun a b=>qG a.cps.toList b.cps.toList⟩
theorem r6:lU=instBEqOfDecidableEq:=congrArg BEq.mk (funext fun a=>funext fun b=>by
 rw [Bool.eq_iff_iff,listEq_iff,decide_eq_true_iff]
 exact ⟨fun h=>by cases a; cases b; exact congrArg Str.mk (Array.toList_inj.mp h),fun h=>by rw [h]⟩)
noncomputable def qC [BEq Str]:List Str→Bool
 | []=>true
 | x :: r=>!r.elem x&&qC r
theorem oC:∀ {l:List Str},qC l=true→l.Nodup
 | [],_=>List.nodup_nil
 | x :: r,h=>by
  have h:=zA2 h
  exact List.nodup_cons.mpr ⟨fun m=>by rw [List.elem_iff.mpr m] at h; exact (nB h.1),oC h.2⟩
noncomputable def aR [BEq Str] (x:Str):Bool:=!(x==("__debug__" : Str))&&!(x==("__classdict__" : Str))
noncomputable def bC:List (Str×Value):=[("len",.builtin "len"),("isinstance",.builtin "isinstance"),("str",.type "str"),("int",.type "int"),("bool",.type "bool"),("list",.type "list"),("tuple",.type "tuple"),
 ("set",.type "set"),("range",.type "range"),("zip",.type "zip"),("sorted",.builtin "sorted"),("ValueError",.type "ValueError")]
noncomputable def bx (e:Expr):Bool:=e.ctorIdx != 7
noncomputable def ao (e:Expr):Bool:=e.ctorIdx != 22
noncomputable def bn [BEq Str] (sc:List (Str×NameKind)) (x:Str):Bool:=(sc.lookup x==some .globalImplicit)&&aR x
noncomputable def si (c:Const) (x:V):Bool:=match x with
 | .none=>c==.none
 | .bool b=>c==.bool b
 | .int i=>c==.int i
 | .str t=>c==.str t
 | _=>false
noncomputable def bQ (e:Expr):Bool:=!(Nat.ble 8 e.ctorIdx&&Nat.ble e.ctorIdx 10)
noncomputable def mX (e:Expr):Bool:=bQ e&&e.ctorIdx != 25
noncomputable def gW [BEq Str] (sc names:List (Str×NameKind)):List (Str×NameKind):=names.map fun (n,k)=>if k==.free&&sc.lookup n==some .cell then (n,.cell) else (n,k)
structure Sx where
 sc:List (Str×NameKind)
 ρ:List (Str×Nat)
 nf:Nat
 ns:Nat
 hm:Bool
 nw:Bool
inductive Pz where
 | val
 | test
 | new
 | src (st:Bool) (T:Expr)
 | asg (y:Str) (py sp:Pos)
noncomputable abbrev Kid:=Sx×Pz×Expr
structure Zx where
 fns:List (Str×Nat)
 cons:List (Str×V)
 flds:List Str
 meths:List (Str×Nat)
 clss:List (Str×Nat)
 nc:Nat
 sup:Nat→Nat→Bool
 safe:Nat→Bool
 newf:Nat→Bool
 cf:Nat
noncomputable def ck (xs:List Expr):Bool:=xs.all ao
noncomputable def ba (x:Expr):Option (Str×Pos):=if h:x.ctorIdx=23 then some (Expr.Name.elim (motive_1:=fun _=>Str×Pos) x h fun n p=>(n,p)) else none
noncomputable def qX (x:Expr):Option (List Expr×Nat×Pos):=if h:x.ctorIdx=25 then some (Expr.Tuple.elim (motive_1:=fun _=>List Expr×Nat×Pos) x h fun xs k p=>(xs,k,p)) else none
noncomputable def wB (x:Expr):Option (List Expr×Pos):=if h:x.ctorIdx=24 then some (Expr.List.elim (motive_1:=fun _=>List Expr×Pos) x h fun xs p=>(xs,p)) else none
noncomputable def qY (x:Expr):Option (Expr×Expr×Pos):=if h:x.ctorIdx=21 then some (Expr.Subscript.elim (motive_1:=fun _=>Expr×Expr×Pos) x h fun v s p=>(v,s,p)) else none
noncomputable def x0 (x:Expr):Option (Option Expr×Option Expr×Option Expr×Pos):=if h:x.ctorIdx=26 then some (Expr.Slice.elim (motive_1:=fun _=>Option Expr×Option Expr×Option Expr×Pos) x h fun l u st p=>(l,u,st,p)) else none
noncomputable def iD (x:Expr):Option (Expr×List Expr×List Keyword×Pos):=if h:x.ctorIdx=16 then some (Expr.Call.elim (motive_1:=fun _=>Expr×List Expr×List Keyword×Pos) x h fun u xs ks p=>(u,xs,ks,p)) else none
noncomputable def vIf (x:Expr):Option (Expr×Expr×Expr×Pos):=if h:x.ctorIdx=5 then some (Expr.IfExp.elim (motive_1:=fun _=>Expr×Expr×Expr×Pos) x h fun t y z p=>(t,y,z,p)) else none
noncomputable def b9 (e:Expr):Bool:=e.ctorIdx==19||e.ctorIdx==23||(iD e).any fun c=>!c.2.1.isEmpty
noncomputable def j9 (x:Expr):Option (Expr×Str×Pos):=if h:x.ctorIdx=20 then some (Expr.Attribute.elim (motive_1:=fun _=>Expr×Str×Pos) x h fun o n q=>(o,n,q)) else none
noncomputable def tF (x:Expr):Option (List (Option Expr)×List Expr×Pos):=if h:x.ctorIdx=6 then some (Expr.Dict.elim (motive_1:=fun _=>List (Option Expr)×List Expr×Pos) x h fun ks vs p=>(ks,vs,p)) else none
noncomputable def kD {α:Type}:List α→Option α
 | [y]=>some y
 | _=>none
noncomputable def two? {α:Type}:List α→Option (α×α)
 | [y,z]=>some (y,z)
 | _=>none
noncomputable def yq (x y:V):Bool:=match x with
 | .int i=>(match y with | .int j=>i==j | _=>false)
 | .str s=>(match y with | .str t=>s==t | _=>false)
 | _=>false
noncomputable def jP (x:Expr):Option (Const×Nat×Pos):=if h:x.ctorIdx=19 then some (Expr.Constant.elim (motive_1:=fun _=>Const×Nat×Pos) x h fun c k p=>(c,k,p)) else none
noncomputable def x3 (x:Expr):Option (Expr×Operator×Expr×Pos):=if h:x.ctorIdx=2 then some (Expr.BinOp.elim (motive_1:=fun _=>Expr×Operator×Expr×Pos) x h fun l o r p=>(l,o,r,p)) else none
noncomputable def wE (x:Expr):Option (Expr×List CmpOp×List Expr×Pos):=if h:x.ctorIdx=15 then some (Expr.Compare.elim (motive_1:=fun _=>Expr×List CmpOp×List Expr×Pos) x h fun l o r p=>(l,o,r,p)) else none
noncomputable def pu (x:Expr):Option (BoolOp×List Expr×Pos):=if h:x.ctorIdx=0 then some (Expr.BoolOp.elim (motive_1:=fun _=>BoolOp×List Expr×Pos) x h fun o xs p=>(o,xs,p)) else none
noncomputable def vUn (x:Expr):Option (UnaryOp×Expr×Pos):=if h:x.ctorIdx=3 then some (Expr.UnaryOp.elim (motive_1:=fun _=>UnaryOp×Expr×Pos) x h fun o y p=>(o,y,p)) else none
noncomputable def pq (x:Expr):Option (Expr×List Comprehension×Scope×Pos):=if h:x.ctorIdx=8 then some (Expr.ListComp.elim (motive_1:=fun _=>Expr×List Comprehension×Scope×Pos) x h fun y gs sc p=>(y,gs,sc,p)) else none
@[irreducible] def nCall [BEq Str] (X:Sx) (nm:Str) (x:Expr) (f:List Expr→Bool):Bool:=(iD x).any fun c=>(ba c.1).any fun n=>n.1==nm&&(bn X.sc nm&&(c.2.2.1.isEmpty&&f c.2.1))
noncomputable def eS [BEq Str] (X:Sx) (nm:Str) (x:Expr) (f:Expr→Bool):Bool:=nCall X nm x fun xs=>(kD xs).any f
@[irreducible] def mCall (x:Expr) (f:Expr→Str→List Expr→Bool):Bool:=(iD x).any fun c=>(j9 c.1).any fun a=>c.2.2.1.isEmpty&&(a.2.2.endLine==c.2.2.2.line&&f a.1 a.2.1 c.2.1)
noncomputable def qF [BEq Str] (X:Sx) (k:List Kid→Bool) (nm:Str) (x:Expr):Bool:=mCall x fun y n xs=>n==nm&&(b9 y&&(kD xs).any fun e=>ao e&&k [(X,.val,y),(X,.val,e)])
noncomputable def jg [BEq Str] (X:Sx) (scope:Scope) (x x':Str):Bool:=scope.kind==.function&&(scope.names.lookup x==some .local&&(scope.names.lookup x'==some .local&&(scope.names.all (fun p=>p.2 != .cell)&&(scope.names.all (fun p=>p.2 != .local||scope.names.lookup p.1==some .local)&&(scope.names.all (fun p=>p.2 != .free||((X.sc.lookup p.1==some .cell||X.sc.lookup p.1==some .free)&&(X.ρ.lookup p.1).isSome))&&decide (X.nf+2≤X.ns))))))
noncomputable def Sx.comp [BEq Str] (X:Sx) (scope:Scope) (x x':Str):Sx:=⟨gW X.sc scope.names,(x,X.nf) :: (x',X.nf+1) :: X.ρ.filter (fun p=>scope.names.lookup p.1==some .free),X.nf+2,X.ns,X.hm,X.nw⟩
@[irreducible] def cCall [BEq Str] (Z:Zx) (X:Sx) (f:Nat) (x:Expr) (k:List Expr→Bool):Bool:=(iD x).any fun c=>(ba c.1).any fun n=>Z.fns.lookup n.1==some f&&(bn X.sc n.1&&((!X.hm||Z.safe f)&&(c.2.2.1.isEmpty&&k c.2.1)))
noncomputable def yD:Pz→Bool
 | .val=>true
 | _=>false
noncomputable def isComp (o:Op):Bool:=o.ctorIdx==(Op.comp 0).ctorIdx||o.ctorIdx==(Op.compM []).ctorIdx
section
variable [BEq Str] (Z:Zx) (o:Op) (k:List Kid→Bool) (X:Sx)
noncomputable def j5 (p:Pz) (x:Expr):Bool:=match o with
 | .lit v=>(jP x).any (fun q=>si q.1 v&&k [])||(ba x).any fun m=>bn X.sc m.1&&((Z.cons.lookup m.1).any (yq v)&&k [])
 | .var j=>(ba x).any fun m=>X.ρ.lookup m.1==some j&&(aR m.1&&k [])
 | .bin op=>(x3 x).any fun q=>decide (op=q.2.1)&&k [(X,.val,q.1),(X,.val,q.2.2.1)]
 | .cmp c=>(wE x).any fun q=>(kD q.2.1).any fun c'=>decide (c=c')&&(kD q.2.2.1).any fun r=>bx r&&k [(X,.val,q.1),(X,.val,r)]
 | .chain lt=>(wE x).any fun q=>(two? q.2.1).any fun c=>decide (.LtE=c.1)&&(decide ((if lt=true then CmpOp.Lt else .LtE)=c.2)&&(two? q.2.2.1).any fun r=>bx r.2&&k [(X,.val,q.1),(X,.val,r.1),(X,.val,r.2)])
 | .and=>(pu x).any fun q=>decide (.And=q.1)&&(!q.2.1.isEmpty&&k (q.2.1.map fun x=>(X,p,x)))
 | .or=>(pu x).any fun q=>decide (.Or=q.1)&&(!q.2.1.isEmpty&&k (q.2.1.map fun x=>(X,p,x)))
 | .not=>(vUn x).any fun q=>decide (.Not=q.1)&&k [(X,p,q.2.1)]
 | .neg=>(vUn x).any fun q=>decide (.USub=q.1)&&(yD p&&k [(X,.val,q.2.1)])
 | .tuple=>(qX x).any fun q=>ck q.1&&k (q.1.map fun x=>(X,.val,x))
 | .list=>(wB x).any fun q=>ck q.1&&k (q.1.map fun x=>(X,.val,x))
 | .sub=>(qY x).any fun q=>k [(X,.val,q.1),(X,.val,q.2.1)]
 | .slice bl bh=>(qY x).any fun v=>(x0 v.2.1).any fun q=>q.2.2.1.isNone&&(q.1.isSome==bl&&(q.2.1.isSome==bh&&k ((X,.val,v.1) :: (q.1.toList++q.2.1.toList).map fun x=>(X,.val,x))))
 | .attr j=>(j9 x).any fun q=>b9 q.1&&(Z.flds[j]?==some q.2.1&&k [(X,.val,q.1)])
 | .comp j=>!X.hm&&(pq x).any fun q=>(kD q.2.1).any fun c=>c.is_async==0&&(ba c.target).any fun n=>jg X q.2.2.1 n.1 n.1&&(j==X.nf&&(bx c.iter&&k ((X,.src false (.Name n.1 n.2),c.iter) :: (X.comp q.2.2.1 n.1 n.1,.val,q.1) :: c.ifs.map fun x=>(X.comp q.2.2.1 n.1 n.1,.test,x))))
 | .compM js=>!X.hm&&(pq x).any fun q=>(kD q.2.1).any fun c=>c.is_async==0&&(qX c.target).any fun T=>(two? T.1).any fun y=>(ba y.1).any fun n=>(ba y.2).any fun n'=>jg X q.2.2.1 n.1 n'.1&&(!(n'.1==n.1)&&(js==[X.nf,X.nf+1]&&(bx c.iter&&k ((X,.src false (.Tuple [.Name n.1 n.2,.Name n'.1 n'.2] T.2.1 T.2.2),c.iter) :: (X.comp q.2.2.1 n.1 n'.1,.val,q.1) :: c.ifs.map fun x=>(X.comp q.2.2.1 n.1 n'.1,.test,x)))))
 | .ite=>(vIf x).any fun q=>yD p&&k [(X,.test,q.1),(X,.val,q.2.1),(X,.val,q.2.2.1)]
 | .isCls=>nCall X "isinstance" x fun xs=>(two? xs).any fun y=>ao y.1&&(ba y.2).any fun T=>bn X.sc T.1&&(Z.fns.lookup T.1==some Z.cf&&k [(X,.val,y.1)])
 | .itemL j=>(qY x).any fun q=>(ba q.1).any fun m=>X.ρ.lookup m.1==some j&&(aR m.1&&k [(X,.val,q.2.1)])
 | .tupleOf=>nCall X "tuple" x fun xs=>ck xs&&k (xs.map fun x=>(X,.val,x))
 | .lend _=>k [(X,p,x)]
 | .isinst t=>nCall X "isinstance" x fun xs=>(two? xs).any fun y=>ao y.1&&(ba y.2).any fun T=>bn X.sc T.1&&((iE[t]?).any (fun T'=>T.1==Str.ofString T')&&k [(X,.val,y.1)])
 | .len=>eS X "len" x fun y=>ao y&&k [(X,.val,y)]
 | .lenSet=>!X.hm&&eS X "len" x fun y=>eS X "set" y fun z=>ao z&&k [(X,.val,z)]
 | .listOf=>eS X "list" x fun y=>ao y&&k [(X,.val,y)]
 | .sorted=>eS X "sorted" x fun y=>ao y&&k [(X,.val,y)]
 | .sortedSet=>!X.hm&&eS X "sorted" x fun y=>eS X "set" y fun z=>ao z&&k [(X,.val,z)]
 | .call f=>cCall Z X f x fun xs=>ck xs&&k (xs.map fun x=>(X,.val,x))
 | .join=>qF X k "join" x
 | .count=>qF X k "count" x
 | .meth f=>mCall x fun y nm xs=>b9 y&&(xs.isEmpty&&((!X.hm||Z.safe f)&&(Z.meths.lookup nm==some f&&k [(X,.val,y)])))
 | .isExc c tb=>nCall X "isinstance" x fun xs=>(two? xs).any fun y=>ao y.1&&(ba y.2).any fun T=>bn X.sc T.1&&((Z.clss.lookup T.1==some c||(T.1==("ValueError" : Str)&&c==Z.nc))&&((List.range Z.nc).all (fun e=>tb[e]?==some (Z.sup e c))&&k [(X,.val,y.1)]))
 | _=>false
noncomputable def AV (f:Str) (x:Expr):Bool:=nCall X f x fun xs=>ck xs&&k (xs.map fun x=>(X,.val,x))
noncomputable def yR (x:Expr):Bool:=bQ x&&j5 Z o k X .val x||isComp o&&j5 Z o k X .val x
noncomputable def B9:Bool:=match o with
 | .tuple=>true
 | .listOf=>true
 | .sorted=>true
 | .sortedSet=>true
 | .call f=>Z.newf f
 | .meth f=>Z.newf f
 | _=>false
noncomputable def yQ (p:Pz) (x:Expr):Bool:=match p with
 | .val=>j5 Z o k X .val x
 | .test=>j5 Z o k X .test x
 | .new=>B9 Z o&&j5 Z o k X .val x
 | .src st T=>!X.hm&&(match o with
  | .own j=>!st&&(ba x).any fun m=>X.ρ.lookup m.1==some j&&(aR m.1&&k [])
  | .range=>AV k X "range" x
  | .zip=>(qX T).any fun _=>AV k X "zip" x
  | _=>j5 Z o k X .val x)
 | .asg _ _ _=>yR Z o k X x
end
noncomputable abbrev Ck:=Kid→Bool
noncomputable def pW (cs:List Ck):List Kid→Bool:=
 List.rec (motive:=fun _=>List Kid→Bool) (fun ts=>ts.isEmpty) (fun c _ ih ts=>match ts with | []=>false | t :: r=>c t&&ih r) cs
noncomputable def xP [BEq Str] (Z:Zx) (e:E):Ck:=
 E.rec (motive_1:=fun _=>Ck) (motive_2:=fun _=>List Ck) (fun o _ ih t=>yQ Z o (pW ih) t.1 t.2.1 t.2.2) [] (fun _ _ i is=>i :: is) e
noncomputable def kf [BEq Str] (X:Sx) (m:Str) (j:Nat):Bool:=X.ρ.lookup m==some j&&!(X.sc.lookup m==some .free)
noncomputable def mO [BEq Str] (X:Sx):List Expr→List Nat→Bool
 | [],js=>js.isEmpty
 | t :: r,js=>(ba t).any fun m=>match js with | []=>false | j :: q=>kf X m.1 j&&mO X r q
noncomputable def kB (x:Stmt) (f:Expr→Expr→Pos→Bool):Bool:=if h:x.ctorIdx=5 then Stmt.Assign.elim (motive_2:=fun _=>Bool) x h fun ts v p=>(kD ts).any fun t=>f t v p else false
noncomputable def wD (x:Stmt) (f:Expr→Bool):Bool:=if h:x.ctorIdx=24 then Stmt.Expr.elim (motive_2:=fun _=>Bool) x h fun e _=>f e else false
noncomputable def vk (x:Stmt) (f:Expr→Bool):Bool:=if h:x.ctorIdx=3 then Stmt.Return.elim (motive_2:=fun _=>Bool) x h fun e _=>e.any f else false
noncomputable def x1 (x:Stmt) (f:Expr→List Stmt→List Stmt→Bool):Bool:=if h:x.ctorIdx=12 then Stmt.If.elim (motive_2:=fun _=>Bool) x h fun c a b _=>f c a b else false
noncomputable def wC (x:Stmt) (f:Expr→Expr→List Stmt→Bool):Bool:=if h:x.ctorIdx=9 then Stmt.For.elim (motive_2:=fun _=>Bool) x h fun T it body el _=>el.isEmpty&&f T it body else false
noncomputable def vRs (x:Stmt) (f:Expr→Bool):Bool:=if h:x.ctorIdx=16 then Stmt.Raise.elim (motive_2:=fun _=>Bool) x h fun e c _=>c.isNone&&e.any f else false
noncomputable def xZ (x:Stmt) (f:Stmt→Option Expr→Option Str→List Stmt→Bool):Bool:=if h:x.ctorIdx=17 then Stmt.Try.elim (motive_2:=fun _=>Bool) x h fun bd hs el fi _=>el.isEmpty&&(fi.isEmpty&&(kD bd).any fun b=>(kD hs).any fun hd=>match hd with | .ExceptHandler t n hb _=>f b t n hb) else false
noncomputable def x2 {α:Type}:List α→Option (α×α×α×α)
 | [a,b,c,d]=>some (a,b,c,d)
 | _=>none
noncomputable def B3 [BEq Str] (X:Sx) (i:Nat) (x:Expr):Bool:=mCall x fun y nm xs=>nm==("pop" : Str)&&(xs.isEmpty&&(ba y).any fun m=>X.ρ.lookup m.1==some i&&aR m.1)
noncomputable abbrev CkS:=Sx→List Stmt→Bool
noncomputable abbrev CkM:=Sx→List Stmt→(List Stmt→Bool)→Bool
noncomputable def B7 (c:Stmt→Bool) (rest:List Stmt→Bool):List Stmt→Bool
 | []=>false
 | x :: r=>c x&&rest r
section
variable [BEq Str] (Z:Zx) (o:SOp) (k:List Kid→Bool) (ca cb:CkS) (X:Sx)
noncomputable def wm (x:Stmt):Bool:=match o with
 | .assign j=>kB x fun t v p=>(ba t).any fun m=>kf X m.1 j&&k [(X,.asg m.1 m.2 p,v)]
 | .assignM js=>!X.hm&&kB x fun t v p=>(qX t).any fun q=>mO X q.1 js&&(mX v&&k [(X,.val,v)])
 | .ownL j=>kB x fun t v p=>(ba t).any fun m=>kf X m.1 j&&(wB v).any fun q=>ck q.1&&k (q.1.map fun x=>(X,.val,x))
 | .ownD j=>kB x fun t v p=>(ba t).any fun m=>kf X m.1 j&&(tF v).any fun q=>q.1.isEmpty&&(q.2.1.isEmpty&&k [])
 | .setD j=>kB x fun t v p=>(qY t).any fun q=>(ba q.1).any fun m=>X.ρ.lookup m.1==some j&&(aR m.1&&(mX v&&k [(X,.val,v),(X,.val,q.2.1)]))
 | .setAttr i j=>kB x fun t v p=>(j9 t).any fun u=>(ba u.1).any fun m=>X.ρ.lookup m.1==some i&&(aR m.1&&(Z.flds[j]?==some u.2.1&&(bQ v&&k [(X,.val,v)])))
 | .setAttrN i j=>kB x fun t v p=>(j9 t).any fun u=>(ba u.1).any fun m=>X.ρ.lookup m.1==some i&&(aR m.1&&(Z.flds[j]?==some u.2.1&&(bQ v&&k [(X,.new,v)])))
 | .call f=>wD x fun e=>cCall Z X f e fun xs=>ck xs&&k (xs.map fun x=>(X,.val,x))
 | .append j=>wD x fun e=>mCall e fun y nm xs=>nm==("append" : Str)&&((kD xs).any (fun e=>ao e&&k [(X,.val,e)])&&(ba y).any fun m=>X.ρ.lookup m.1==some j&&aR m.1)
 | .ret=>vk x fun e=>if X.nw then k [(X,.new,e)] else k [(X,.val,e)]
 | .retC f=>vk x fun e=>!X.nw&&cCall Z X f e fun xs=>ck xs&&k (xs.map fun x=>(X,.val,x))
 | .setL j=>kB x fun t v p=>(qY t).any fun q=>(ba q.1).any fun m=>X.ρ.lookup m.1==some j&&(aR m.1&&(bQ v&&k [(X,.val,v),(X,.val,q.2.1)]))
 | .tryC f c j=>xZ x fun b t n hb=>!X.hm&&(t.any fun t=>(ba t).any fun C=>bn X.sc C.1&&(Z.clss.lookup C.1==some c&&n.any fun n=>X.ρ.lookup n==some j&&(X.sc.lookup n==some .local&&(!hb.isEmpty&&(ca { X with hm:=true } hb&&vk b fun e=>!X.nw&&cCall Z X f e fun xs=>ck xs&&k (xs.map fun x=>(X,.val,x)))))))
 | .popC j i f=>!X.hm&&kB x fun t v p=>(ba t).any fun m=>kf X m.1 j&&cCall Z X f v fun xs=>(x2 xs).any fun y=>B3 X i y.2.1&&(ck [y.1,y.2.2.1,y.2.2.2]&&k [(X,.val,y.1),(X,.val,y.2.2.1),(X,.val,y.2.2.2)])
 | .ite=>x1 x fun c a b=>k [(X,.test,c)]&&(ca X a&&cb X b)
 | .forS j=>!X.hm&&wC x fun T it body=>bx it&&(ca X body&&(ba T).any fun m=>kf X m.1 j&&k [(X,.src true (.Name m.1 m.2),it)])
 | .forM js=>!X.hm&&wC x fun T it body=>bx it&&(ca X body&&(qX T).any fun q=>mO X q.1 js&&k [(X,.src true (.Tuple q.1 q.2.1 q.2.2),it)])
 | .raise c=>!X.hm&&vRs x fun e=>(iD e).any fun u=>(ba u.1).any fun n=>bn X.sc n.1&&(Z.clss.lookup n.1==some c&&(u.2.2.1.isEmpty&&(kD u.2.1).any fun z=>(jP z).any fun q=>match q.1 with | .str _=>true | _=>false))
 | _=>false
noncomputable def wn (sts:List Stmt) (rest:List Stmt→Bool):Bool:=match o with
 | .freeze _=>rest sts
 | .freezeD _=>rest sts
 | _=>B7 (wm Z o k ca cb X) rest sts
end
noncomputable def AU [BEq Str] (Z:Zx) (s:S):CkM:=
 S.rec (motive_1:=fun _=>CkM) (motive_2:=fun _=>CkS) (fun o es _ _ a b X sts rest=>wn Z o (pW (es.map (xP Z))) a b X sts rest) (fun _ sts=>sts.isEmpty) (fun _ _ i is X sts=>i X sts (is X)) s
noncomputable def chkSs [BEq Str] (Z:Zx) (l:List S):CkS:=List.rec (motive:=fun _=>CkS) (fun _ sts=>sts.isEmpty) (fun s _ is X sts=>AU Z s X sts (is X)) l
noncomputable def mm [BEq Str] (K:Frag) (cd:Value) (q:Str):Bool:=match cd with
 | .ref c=>(match K.lookup c with
  | some ⟨_,_,.fields vs,_⟩=>(match (vs[1]?:Option Value) with | some (.str q' _)=>q'==q | _=>false)
  | _=>false)
 | _=>false
noncomputable def A7:Value→Bool
 | .none=>true
 | _=>false
noncomputable abbrev gg:=List Stmt×Scope×Arguments
noncomputable def eV (K:Frag) (a:Addr):Option gg:=match K.lookup a with
 | some ⟨_,_,.func fd,_⟩=>(match fd.body with
  | .stmts body=>some (body,fd.scope,fd.params)
  | _=>none)
 | _=>none
noncomputable def qJ [BEq Str] (K:Frag) (a:Addr):Bool:=match K.lookup a with
 | some ⟨_,_,.func fd,_⟩=>mm K fd.code fd.qualname&&(fd.globals==mainGlobals&&(fd.builtins==builtinsNs&&(fd.closure.isEmpty&&A7 fd.defaults)))
 | _=>false
noncomputable def jm [BEq Str] (Z:Zx) (fn:Fn) (nms:List Str) (safe nw:Bool) (b:Option gg):Bool:=match b with
 | some (body,scope,params)=>!scope.isCoroutine&&(!scope.isGenerator&&(scope.kind==.function&&(params.posonlyargs.isEmpty&&((params.args.map (·.arg))==nms.take fn.npar&&(params.kwonlyargs.isEmpty&&(params.vararg.isNone&&(params.kwarg.isNone &&
    (qC nms&&(decide (fn.npar≤nms.length)&&(decide (nms.length≤fn.nslots)&&(nms.all (fun x=>scope.names.lookup x==some .local||scope.names.lookup x==some .cell) &&
    (chkSs Z fn.body ⟨scope.names,nms.zipIdx,nms.length,fn.nslots,false,nw⟩ body&&(!safe||chkSs Z fn.body ⟨scope.names,nms.zipIdx,nms.length,fn.nslots,true,nw⟩ body)))))))))))))
 | none=>false
noncomputable def o7 (K:Frag) (u:Value) (v:V):Bool:=match v with
 | .int j=>Value.isInt j u
 | .str l=>Value.isStrOf l u
 | _=>false
noncomputable def nsF [BEq Str] (K:Frag) (ns:Addr) (name:Str):Option (Option Value):=match K.lookup ns with
 | some ⟨_,_,.dict es _,_⟩=>(match es.toList.find? (fun e=>match e.key with | .str s _=>s==name | _=>false) with
   | some e=>some (some e.val)
   | none=>if es.toList.any (·.refKey) then none else some none)
 | _=>none
set_option tactic.hygienic true in
theorem vF (K:Frag) (ns:Addr) (name:Str):nsF K ns name=nsIn K ns name:=by
 unfold nsF nsIn
 split
 ·rename_i c d es n sl h
  have e:(fun e:DictEntry=>match e.key with | .str s _=>s==name | _=>false)=fun e=>e.key.isStr name:=funext fun e=>by cases e.key <;> rfl
  rw [h,e]; rfl
 ·rename_i h
  split
  ·rename_i c d es n sl h'
   exact (h c d es n sl h').elim
  ·rfl
noncomputable def qK [BEq Str] (K:Frag) (p:Str×V):Bool:=match nsF K mainGlobals p.1 with | some (some u)=>o7 K u p.2 | _=>false
noncomputable def qM (K:Frag) (C:Addr) (flds:List Str):Bool:=
 findIn K (.ref C) "__getattribute__"==some (some (.builtin "object.__getattribute__"))&&(findIn K (.ref C) "__getattr__"==some none&&(findIn K (.ref C) "__setattr__"==some (some (.builtin "object.__setattr__"))&&(plainOver K C&&((clsIn K C).any (·.hasDict) &&
 (flds.all (fun x=>findIn K (.ref C) x==some none)&&(makesIn K C&&(decide flds.Nodup&&decide (flds.length≤1000))))))))
noncomputable def vP [BEq Str] (K:Frag) (C:Addr) (flds:List Str) (fn:Nat→Addr) (p:Str×Nat):Bool:=!flds.elem p.1&&(findIn K (.ref C) p.1==some (some (.ref (fn p.2)))&&(typeIn K (.ref (fn p.2))==some (.type "function")&&keepIn K (.ref (fn p.2))))
noncomputable def lD (K:Frag) (sup:Nat→Nat→Bool) (nc:Nat) (clsA:Nat→Addr) (c:Nat):Bool:=
 findIn K (.ref (clsA c)) "__getattribute__"==some (some (.builtin "BaseException.__getattribute__"))&&(findIn K (.ref (clsA c)) "__getattr__"==some none&&(hasDictIn K (clsA c)&&(findIn K (.ref (clsA c)) "__class__"==some (some (.builtin "object.__class__"))&&(mroIn K (clsA c) (.type "object")==some true&&(mroIn K (clsA c) (.type "BaseException")==some true &&
 (typeIn K (.ref (clsA c))==some (.type "type")&&(mroIn K (clsA c) (.type "ValueError")==some (sup c nc)&&(sup c c &&
 (List.range nc).all fun c'=>mroIn K (clsA c) (.ref (clsA c'))==some (sup c c')))))))))
end Mine
end
noncomputable section
namespace Mine.L07
open PySem
noncomputable def abc:Str:=⟨#[97,98,99,100,101,102,103,104,105,106,107,108,109,110,111,112,113,114,115,116,117,118,119,120,121,122]⟩
noncomputable def a7:Str:=⟨#[111,112,101,110]⟩
noncomputable def aS:Str:=⟨#[99,108,111,115,101]⟩
noncomputable def kOn:Str:=⟨#[111,110]⟩
noncomputable def k0:Str:=⟨#[]⟩
noncomputable def ii (i:Int):E:=.nd (.lit (.int i)) []
noncomputable def ss (t:Str):E:=.nd (.lit (.str t)) []
noncomputable def bb (b:Bool):E:=.nd (.lit (.bool b)) []
noncomputable def nn:E:=.nd (.lit .none) []
noncomputable def vv (k:Nat):E:=.nd (.var k) []
noncomputable def sup (e c:Nat):Bool:=c==e||c==0||c==8
noncomputable abbrev sbE (a b:E):E:=.nd .sub [a,b]
noncomputable abbrev mdE (a b:E):E:=.nd (.bin .Mod) [a,b]
noncomputable abbrev fdE (a b:E):E:=.nd (.bin .FloorDiv) [a,b]
noncomputable abbrev adE (a b:E):E:=.nd (.bin .Add) [a,b]
noncomputable abbrev mlE (a b:E):E:=.nd (.bin .Mult) [a,b]
noncomputable abbrev siE (a b:E):E:=.nd (.bin .Sub) [a,b]
noncomputable abbrev eqE (a b:E):E:=.nd (.cmp .Eq) [a,b]
noncomputable abbrev neE (a b:E):E:=.nd (.cmp .NotEq) [a,b]
noncomputable abbrev lnE (a:E):E:=.nd .len [a]
noncomputable def xx (c:Nat) (x:E):E:=.nd (.isExc c [sup 0 c,sup 1 c,sup 2 c,sup 3 c,sup 4 c,sup 5 c,sup 6 c,sup 7 c]) [x]
noncomputable def CW:List S:=[.mk .ite [.nd (.cmp .NotIn) [vv 1,ss abc]] [.mk .ret [bb false] [] []] []]
noncomputable def f0:Fn:=⟨1,2,false,[.mk .ite [.nd .or [.nd .not [.nd (.isinst 0) [vv 0]],.nd (.cmp .Gt) [(lnE (vv 0)),ii 4]]] [.mk .ret [bb false] [] []] [],
  .mk (.forS 1) [vv 0] CW [],
  .mk .ret [bb true] [] []]⟩
noncomputable def n0:List Str:=["thing", "sign"]
noncomputable def CV:List S:=[.mk .ite [.nd .not [.nd (.call 0) [vv 1]]] [.mk .ret [bb false] [] []] []]
noncomputable def f1:Fn:=⟨1,3,false,[.mk .ite [.nd .or [.nd .not [.nd (.isinst 1) [vv 0]],neE (lnE (vv 0)) (ii 3)]] [.mk .ret [bb false] [] []] [],
  .mk (.forS 1) [vv 0] CV [],
  .mk (.assign 2) [adE (adE (sbE (vv 0) (ii 0)) (sbE (vv 0) (ii 1))) (sbE (vv 0) (ii 2))] [] [],
  .mk .ret [eqE (.nd .lenSet [vv 2]) (lnE (vv 2))] [] []]⟩
noncomputable def n1:List Str:=["thing", "text", "whole"]
noncomputable def f2:Fn:=⟨1,1,false,[.mk .ite [.nd .not [.nd (.call 1) [vv 0]]] [.mk (.raise 1) [] [] []] []]⟩
noncomputable def n2:List Str:=["signs"]
noncomputable def xv:List S:=[.mk .ite [.nd (.cmp .In) [vv 1,vv 2]] [.mk .ret [vv 3] [] []] []]
noncomputable def f3:Fn:=⟨2,4,false,[.mk .ite [.nd .or [.nd .not [.nd (.isinst 0) [vv 1]],neE (lnE (vv 1)) (ii 1)]] [.mk .ret [ss k0] [] []] [],
  .mk (.forM [2,3]) [.nd .zip [vv 0,.nd .list [ss a7,ss aS,ss kOn]]] xv [],
  .mk .ret [ss k0] [] []]⟩
noncomputable def n3:List Str:=["signs", "thing", "text", "kind"]
noncomputable def CU:List S:=[.mk (.assign 4) [.nd (.call 3) [vv 0,vv 3]] [] [],
  .mk .ite [eqE (vv 4) (ss a7)] [.mk (.assign 2) [adE (vv 2) (ii 1)] [] []] [.mk .ite [eqE (vv 4) (ss aS)] [.mk (.assign 2) [siE (vv 2) (ii 1)] [] []] []],
  .mk .ite [.nd .or [(eqE (vv 4) (ss k0)),.nd (.cmp .Lt) [vv 2,ii 0]]] [.mk .ret [bb false] [] []] []]
noncomputable def f4:Fn:=⟨2,5,false,[.mk .ite [.nd .not [.nd (.isinst 0) [vv 1]]] [.mk .ret [bb false] [] []] [],
  .mk (.assign 2) [ii 0] [] [],
  .mk (.forS 3) [vv 1] CU [],
  .mk .ret [eqE (vv 2) (ii 0)] [] []]⟩
noncomputable def n4:List Str:=["signs", "word", "depth", "sign", "kind"]
noncomputable def f5:Fn:=⟨2,2,false,[.mk .ite [.nd .not [.nd (.call 4) [vv 0,vv 1]]] [.mk (.raise 2) [] [] []] []]⟩
noncomputable def n5:List Str:=["signs", "word"]
noncomputable def CT:List S:=[.mk .ite [.nd .and [(eqE (sbE (vv 6) (ii 0)) (ss kOn)),eqE (sbE (vv 6) (ii 1)) (vv 5),eqE (sbE (vv 6) (ii 2)) (vv 2)]] [.mk (.setD 3) [bb true,.nd .tuple [vv 4,sbE (vv 6) (ii 3)]] [] []] []]
noncomputable def CS:List S:=[.mk (.forS 6) [vv 0] CT []]
noncomputable def f6:Fn:=⟨3,7,false,[.mk (.ownD 3) [] [] [],
  .mk (.forM [4,5]) [vv 1] CS [],
  .mk (.freezeD 3) [] [] [],
  .mk .ret [vv 3] [] []]⟩
noncomputable def n6:List Str:=["ways", "here", "sign", "found", "begun", "room", "way"]
noncomputable def CR:List S:=[.mk .ite [.nd .and [(eqE (sbE (vv 6) (ii 0)) (ss a7)),eqE (sbE (vv 6) (ii 1)) (vv 5),eqE (sbE (vv 6) (ii 2)) (vv 2)]] [.mk (.setD 3) [bb true,.nd .tuple [vv 6,sbE (vv 6) (ii 3)]] [] []] []]
noncomputable def CQ:List S:=[.mk (.forS 6) [vv 0] CR []]
noncomputable def f7:Fn:=⟨3,7,false,[.mk (.ownD 3) [] [] [],
  .mk (.forM [4,5]) [vv 1] CQ [],
  .mk (.freezeD 3) [] [] [],
  .mk .ret [vv 3] [] []]⟩
noncomputable def n7:List Str:=["ways", "here", "sign", "found", "begun", "room", "way"]
noncomputable def CP:List S:=[.mk .ite [eqE (vv 9) (sbE (vv 5) (ii 1))] [.mk (.setD 4) [bb true,.nd .tuple [vv 8,sbE (vv 7) (ii 4)]] [] []] []]
noncomputable def CO:List S:=[.mk .ite [.nd .and [(eqE (sbE (vv 7) (ii 0)) (ss aS)),eqE (sbE (vv 7) (ii 1)) (vv 6),eqE (sbE (vv 7) (ii 2)) (sbE (vv 5) (ii 4)),eqE (sbE (vv 7) (ii 3)) (vv 3)]] [.mk (.forM [8,9]) [vv 1] CP []] []]
noncomputable def CN:List S:=[.mk (.forS 7) [vv 0] CO []]
noncomputable def f8:Fn:=⟨4,10,false,[.mk (.ownD 4) [] [] [],
  .mk (.forM [5,6]) [vv 2] CN [],
  .mk (.freezeD 4) [] [] [],
  .mk .ret [vv 4] [] []]⟩
noncomputable def n8:List Str:=["ways", "outer", "inner", "sign", "found", "opening", "room", "way", "begun", "last"]
noncomputable def CM:List S:=[.mk (.setD 3) [bb true,.nd .tuple [nn,vv 4]] [] []]
noncomputable def CL:List S:=[.mk .ite [eqE (vv 7) (ss a7)] [.mk (.append 5) [vv 3] [] [],
  .mk (.assign 3) [.nd (.call 7) [vv 2,vv 3,vv 6]] [] []] [.mk (.popC 3 5 8) [vv 2,vv 3,vv 6] [] []]]
noncomputable def CK:List S:=[.mk (.assign 7) [.nd (.call 3) [.nd (.meth 15) [vv 0],vv 6]] [] [],
  .mk .ite [eqE (vv 7) (ss kOn)] [.mk (.assign 3) [.nd (.call 6) [vv 2,vv 3,vv 6]] [] []] CL]
noncomputable def Cm:List S:=[.mk .ite [.nd (.cmp .In) [vv 4,vv 8]] [.mk .ret [bb true] [] []] []]
noncomputable def f9:Fn:=⟨2,10,false,[.mk (.call 5) [.nd (.meth 15) [vv 0],vv 1] [] [],
  .mk (.assign 2) [.nd (.meth 19) [vv 0]] [] [],
  .mk (.ownD 3) [] [] [],
  .mk (.forS 4) [.nd (.meth 17) [vv 0]] CM [],
  .mk (.ownL 5) [] [] [],
  .mk (.freezeD 3) [] [] [],
  .mk (.forS 6) [vv 1] CK [],
  .mk (.assign 8) [.nd (.meth 18) [vv 0]] [] [],
  .mk (.forM [9,4]) [vv 3] Cm [],
  .mk .ret [bb false] [] []]⟩
noncomputable def n9:List Str:=["machine", "word", "ways", "here", "room", "outside", "sign", "kind", "ends", "begun"]
noncomputable def f10:Fn:=⟨2,2,false,[.mk .ret [.nd .and [.nd (.isinst 3) [vv 0],.nd .not [.nd (.isinst 4) [vv 0]],.nd (.chain true) [ii 0,vv 0,vv 1]]] [] []]⟩
noncomputable def n10:List Str:=["thing", "rooms"]
noncomputable def BM:List S:=[.mk .ite [.nd .not [.nd (.call 10) [vv 2,vv 1]]] [.mk .ret [bb false] [] []] []]
noncomputable def f11:Fn:=⟨2,3,false,[.mk .ite [.nd .not [.nd (.isinst 2) [vv 0]]] [.mk .ret [bb false] [] []] [],
  .mk (.forS 2) [vv 0] BM [],
  .mk .ret [eqE (.nd .lenSet [vv 0]) (lnE (vv 0))] [] []]⟩
noncomputable def n11:List Str:=["thing", "rooms", "room"]
noncomputable def BL:List S:=[.mk .ret [.nd .and [(eqE (lnE (vv 0)) (ii 4)),eqE (.nd (.call 3) [vv 1,sbE (vv 0) (ii 2)]) (ss kOn),.nd (.call 10) [(sbE (vv 0) (ii 3)),vv 2]]] [] []]
noncomputable def f12:Fn:=⟨3,3,false,[.mk .ite [.nd .or [.nd .not [.nd (.isinst 1) [vv 0]],.nd (.cmp .Lt) [(lnE (vv 0)),ii 4],.nd .not [.nd (.call 10) [(sbE (vv 0) (ii 1)),vv 2]]]] [.mk .ret [bb false] [] []] [],
  .mk .ite [.nd .not [.nd (.isinst 0) [(sbE (vv 0) (ii 0))]]] [.mk .ret [bb false] [] []] [],
  .mk .ite [eqE (sbE (vv 0) (ii 0)) (ss kOn)] BL [],
  .mk .ite [.nd .or [(neE (lnE (vv 0)) (ii 5)),.nd .not [.nd (.call 10) [(sbE (vv 0) (ii 4)),vv 2]]]] [.mk .ret [bb false] [] []] [],
  .mk .ite [eqE (sbE (vv 0) (ii 0)) (ss a7)] [.mk .ret [.nd .and [(eqE (.nd (.call 3) [vv 1,sbE (vv 0) (ii 2)]) (ss a7)),.nd (.call 10) [(sbE (vv 0) (ii 3)),vv 2]]] [] []] [],
  .mk .ret [.nd .and [(eqE (sbE (vv 0) (ii 0)) (ss aS)),.nd (.call 10) [(sbE (vv 0) (ii 2)),vv 2],eqE (.nd (.call 3) [vv 1,sbE (vv 0) (ii 3)]) (ss aS)]] [] []]⟩
noncomputable def n12:List Str:=["thing", "signs", "rooms"]
noncomputable def BK:List S:=[.mk .ite [.nd .not [.nd (.call 12) [vv 3,vv 1,vv 2]]] [.mk .ret [bb false] [] []] []]
noncomputable def f13:Fn:=⟨3,4,false,[.mk .ite [.nd .or [.nd .not [.nd (.isinst 2) [vv 0]],.nd (.cmp .Gt) [(lnE (vv 0)),ii 4000]]] [.mk .ret [bb false] [] []] [],
  .mk (.forS 3) [vv 0] BK [],
  .mk .ret [bb true] [] []]⟩
noncomputable def n13:List Str:=["thing", "signs", "rooms", "way"]
noncomputable def f14:Fn:=⟨6,6,true,[.mk (.call 2) [vv 1] [] [],
  .mk .ite [.nd .or [.nd .not [.nd (.call 10) [vv 2,adE (ii 40) (ii 1)]],.nd (.cmp .Lt) [vv 2,ii 1]]] [.mk (.raise 3) [] [] []] [],
  .mk .ite [.nd .or [.nd .not [.nd (.call 11) [vv 3,vv 2]],.nd .not [.nd (.call 11) [vv 4,vv 2]],.nd .not [.nd (.call 13) [vv 5,vv 1,vv 2]]]] [.mk (.raise 3) [] [] []] [],
  .mk (.setAttr 0 0) [vv 1] [] [],
  .mk (.setAttr 0 1) [vv 2] [] [],
  .mk (.setAttrN 0 2) [.nd .sorted [vv 3]] [] [],
  .mk (.setAttrN 0 3) [.nd .sorted [vv 4]] [] [],
  .mk (.setAttrN 0 4) [.nd .sortedSet [vv 5]] [] []]⟩
noncomputable def n14:List Str:=["self", "signs", "rooms", "starts", "ends", "ways"]
noncomputable def f15:Fn:=⟨1,1,false,[.mk .ret [.nd (.attr 0) [vv 0]] [] []]⟩
noncomputable def n15:List Str:=["self"]
noncomputable def f16:Fn:=⟨1,1,false,[.mk .ret [.nd (.attr 1) [vv 0]] [] []]⟩
noncomputable def n16:List Str:=["self"]
noncomputable def f17:Fn:=⟨1,1,false,[.mk .ret [.nd .listOf [.nd (.attr 2) [vv 0]]] [] []]⟩
noncomputable def n17:List Str:=["self"]
noncomputable def f18:Fn:=⟨1,1,false,[.mk .ret [.nd .listOf [.nd (.attr 3) [vv 0]]] [] []]⟩
noncomputable def n18:List Str:=["self"]
noncomputable def f19:Fn:=⟨1,1,false,[.mk .ret [.nd .listOf [.nd (.attr 4) [vv 0]]] [] []]⟩
noncomputable def n19:List Str:=["self"]
noncomputable def f20:Fn:=⟨2,2,false,[.mk .ite [.nd (.cmp .Lt) [vv 1,lnE (vv 0)]] [.mk .ret [sbE (vv 0) (vv 1)] [] []] [],
  .mk .ret [ii 0] [] []]⟩
noncomputable def n20:List Str:=["_law_script", "_law_k"]
noncomputable def f21:Fn:=⟨2,2,false,[.mk .ret [mdE (adE (mlE (vv 0) (ii 48271)) (mlE (ii 7919) (vv 1))) (ii 1000003)] [] []]⟩
noncomputable def n21:List Str:=["_law_cell", "_law_k"]
noncomputable def f22:Fn:=⟨2,3,false,[.mk (.assign 2) [.nd .list [xx 1 (vv 0),xx 2 (vv 0),xx 3 (vv 0),xx 4 (vv 0)]] [] [],
  .mk (.assign 2) [adE (vv 2) (.nd .list [xx 5 (vv 0),xx 6 (vv 0),xx 7 (vv 0)])] [] [],
  .mk .ret [.nd .and [(eqE (.nd .count [vv 2,bb true]) (ii 1)),sbE (vv 2) (vv 1),xx 0 (vv 0),xx 8 (vv 0)]] [] []]⟩
noncomputable def n22:List Str:=["_law_e", "_law_own", "_law_some"]
noncomputable def wk:E:=(sbE (vv 1) (mdE (adE (vv 0) (mlE (vv 2) (vv 6))) (ii 26)))
noncomputable def f23:Fn:=⟨1,8,false,[.mk (.assign 1) [ss abc] [] [],
  .mk (.assign 2) [adE (ii 1) (mlE (ii 2) (mdE (fdE (vv 0) (ii 26)) (ii 5)))] [] [],
  .mk (.assign 3) [.nd .join [ss k0,.nd (.comp 6) [.nd .range [ii 6],wk]]] [] [],
  .mk (.assign 4) [sbE (.nd .list [ii 1,ii 1,ii 2,ii 0]) (mdE (fdE (vv 0) (ii 130)) (ii 4))] [] [],
  .mk (.assign 5) [adE (vv 4) (sbE (.nd .list [ii 1,ii 2,ii 1,ii 1,ii 0]) (mdE (fdE (vv 0) (ii 520)) (ii 5)))] [] [],
  .mk .ret [.nd .tuple [.nd (.slice false true) [vv 3,vv 4],.nd (.slice true true) [vv 3,vv 4,vv 5],.nd (.slice true true) [vv 3,vv 5,adE (vv 5) (mdE (fdE (vv 0) (ii 2600)) (ii 3))]]] [] []]⟩
noncomputable def n23:List Str:=["_law_cell", "_law_letters", "_law_step_here", "_law_row", "_law_one", "_law_other"]
noncomputable def BJ:E:=(sbE (vv 1) (mdE (adE (vv 0) (mlE (vv 2) (vv 6))) (ii 26)))
noncomputable def f24:Fn:=⟨1,8,false,[.mk .ite [neE (mdE (fdE (vv 0) (ii 7800)) (ii 8)) (ii 3)] [.mk .ret [.nd (.call 23) [vv 0]] [] []] [],
  .mk (.assign 1) [ss abc] [] [],
  .mk (.assign 2) [adE (ii 1) (mlE (ii 2) (mdE (fdE (vv 0) (ii 26)) (ii 5)))] [] [],
  .mk (.assign 3) [.nd .join [ss k0,.nd (.comp 6) [.nd .range [ii 12],BJ]]] [] [],
  .mk (.assign 4) [adE (ii 1) (mdE (fdE (vv 0) (ii 130)) (ii 4))] [] [],
  .mk (.assign 5) [adE (adE (vv 4) (ii 1)) (mdE (fdE (vv 0) (ii 520)) (ii 4))] [] [],
  .mk .ret [.nd .tuple [.nd (.slice false true) [vv 3,vv 4],.nd (.slice true true) [vv 3,vv 4,vv 5],.nd (.slice true true) [vv 3,vv 5,adE (adE (vv 5) (ii 1)) (mdE (fdE (vv 0) (ii 2600)) (ii 4))]]] [] []]⟩
noncomputable def n24:List Str:=["_law_cell", "_law_letters", "_law_step_here", "_law_row", "_law_one", "_law_other"]
noncomputable def BI:List S:=[.mk .ret [.nd .tuple [ss a7,siE (siE (vv 2) (ii 1)) (sbE (sbE (vv 3) (ii 0)) (ii 1)),sbE (sbE (vv 3) (ii 0)) (ii 2),vv 6,vv 7]] [] []]
noncomputable def yN:List S:=[.mk .ite [.nd .and [(neE (vv 3) (.nd .list [])),eqE (mdE (fdE (vv 0) (ii 1024)) (ii 3)) (ii 0)]] [.mk .ret [adE (.nd (.slice false true) [(sbE (vv 3) (ii 0)),ii 3]) (.nd .tuple [vv 6,vv 7])] [] []] [],
  .mk .ite [.nd .and [(neE (vv 3) (.nd .list [])),eqE (mdE (fdE (vv 0) (ii 1024)) (ii 3)) (ii 1)]] BI [],
  .mk .ret [.nd .tuple [ss a7,vv 5,sbE (sbE (vv 1) (ii 0)) (mdE (fdE (vv 0) (ii 256)) (lnE (sbE (vv 1) (ii 0)))),vv 6,vv 7]] [] []]
noncomputable def yM:List S:=[.mk .ite [.nd .and [(neE (vv 3) (.nd .list [])),.nd (.cmp .Gt) [(mdE (fdE (vv 0) (ii 1024)) (ii 4)),ii 0]]] [.mk (.assignM [5,6]) [.nd (.slice true false) [(sbE (vv 3) (mdE (fdE (vv 0) (ii 16)) (lnE (vv 3)))),ii 3]] [] []] [],
  .mk .ret [.nd .tuple [ss aS,vv 5,vv 6,sbE (sbE (vv 1) (ii 1)) (mdE (fdE (vv 0) (ii 256)) (lnE (sbE (vv 1) (ii 1)))),vv 7]] [] []]
noncomputable def BH:List S:=[.mk .ret [.nd .tuple [ss kOn,vv 5,sbE (sbE (vv 1) (ii 2)) (mdE (fdE (vv 0) (ii 256)) (lnE (sbE (vv 1) (ii 2)))),vv 6]] [] []]
noncomputable def f25:Fn:=⟨5,8,false,[.mk (.assign 5) [mdE (fdE (vv 0) (ii 4)) (vv 2)] [] [],
  .mk (.assign 6) [mdE (fdE (vv 0) (ii 16)) (vv 2)] [] [],
  .mk (.assign 7) [mdE (fdE (vv 0) (ii 64)) (vv 2)] [] [],
  .mk .ite [.nd .and [(eqE (mdE (vv 0) (ii 4)) (ii 0)),.nd (.cmp .Lt) [(lnE (vv 3)),vv 4],neE (sbE (vv 1) (ii 0)) (ss k0)]] yN [],
  .mk .ite [.nd .and [.nd (.cmp .Lt) [(mdE (vv 0) (ii 4)),ii 2],neE (sbE (vv 1) (ii 1)) (ss k0)]] yM [],
  .mk .ite [neE (sbE (vv 1) (ii 2)) (ss k0)] BH [],
  .mk .ret [nn] [] []]⟩
noncomputable def n25:List Str:=["_law_cell", "_law_signs", "_law_rooms", "_law_opens", "_law_most", "_law_one", "_law_other", "_law_third"]
noncomputable def f26c0:E:=(vv 12)
noncomputable def f26c1:E:=(vv 12)
noncomputable def f26c2:E:=(vv 12)
noncomputable def BG:List S:=[.mk (.assign 10) [.nd (.comp 12) [.nd (.own 8) [],f26c2,eqE (sbE (vv 12) (ii 0)) (ss a7)]] [] [],
  .mk (.assign 11) [.nd (.call 25) [.nd (.call 21) [.nd (.call 20) [vv 0,adE (adE (vv 1) (ii 2)) (vv 9)],vv 9],vv 2,vv 4,vv 10,vv 5]] [] [],
  .mk .ite [.nd (.cmp .IsNot) [vv 11,nn]] [.mk (.append 8) [vv 11] [] []] []]
noncomputable def f26:Fn:=⟨4,14,false,[.mk (.assign 4) [adE (ii 1) (mdE (.nd (.call 20) [vv 0,vv 1]) (vv 3))] [] [],
  .mk (.assign 5) [sbE (.nd .list [ii 4,ii 2,ii 1,ii 1]) (siE (vv 4) (ii 1))] [] [],
  .mk (.assign 6) [.nd (.comp 12) [.nd .range [vv 4],f26c0,.nd (.cmp .Gt) [(mdE (fdE (.nd (.call 20) [vv 0,adE (vv 1) (ii 1)]) (adE (mlE (ii 4) (vv 12)) (ii 1))) (ii 3)),ii 0]]] [] [],
  .mk (.assign 7) [.nd (.comp 12) [.nd .range [vv 4],f26c1,eqE (mdE (fdE (.nd (.call 20) [vv 0,adE (vv 1) (ii 1)]) (adE (mlE (ii 5) (vv 12)) (ii 7))) (ii 2)) (ii 0)]] [] [],
  .mk (.ownL 8) [] [] [],
  .mk (.forS 9) [.nd .range [(adE (ii 2) (mdE (fdE (.nd (.call 20) [vv 0,vv 1]) (ii 4)) (ii 9)))]] BG [],
  .mk (.freeze 8) [] [] [],
  .mk .ret [.nd .tuple [vv 2,vv 4,vv 6,vv 7,vv 8]] [] []]⟩
noncomputable def n26:List Str:=["_law_script", "_law_at", "_law_signs", "_law_most", "_law_rooms", "_law_many", "_law_starts", "_law_ends", "_law_ways", "_law_k", "_law_opens", "_law_way"]
noncomputable def f27:Fn:=⟨1,1,false,[.mk .ret [.nd (.call 14) [(sbE (vv 0) (ii 0)),sbE (vv 0) (ii 1),.nd .listOf [(sbE (vv 0) (ii 2))],.nd .listOf [(sbE (vv 0) (ii 3))],.nd .listOf [(sbE (vv 0) (ii 4))]]] [] []]⟩
noncomputable def n27:List Str:=["_law_parts"]
noncomputable def BF:List S:=[.mk .ite [.nd .or [(eqE (vv 2) (.nd .list [])),neE (sbE (vv 0) (ii 2)) (sbE (vv 2) (.nd .neg [ii 1])),neE (sbE (vv 0) (ii 3)) (vv 3)]] [.mk .ret [nn] [] []] [],
  .mk .ret [.nd .tuple [(sbE (vv 0) (ii 4)),.nd (.slice false true) [vv 2,.nd .neg [ii 1]]]] [] []]
noncomputable def f28:Fn:=⟨4,4,false,[.mk .ite [neE (sbE (vv 0) (ii 1)) (vv 1)] [.mk .ret [nn] [] []] [],
  .mk .ite [eqE (sbE (vv 0) (ii 0)) (ss aS)] BF [],
  .mk .ite [neE (sbE (vv 0) (ii 2)) (vv 3)] [.mk .ret [nn] [] []] [],
  .mk .ite [eqE (sbE (vv 0) (ii 0)) (ss a7)] [.mk .ret [.nd .tuple [(sbE (vv 0) (ii 3)),adE (vv 2) (.nd .list [(sbE (vv 0) (ii 4))])]] [] []] [],
  .mk .ret [.nd .tuple [(sbE (vv 0) (ii 3)),vv 2]] [] []]⟩
noncomputable def n28:List Str:=["_law_way", "_law_room", "_law_pile", "_law_sign"]
noncomputable def BE:E:=(.nd .tuple [vv 9,.nd .list []])
noncomputable def BD:List S:=[.mk (.assign 8) [.nd (.call 28) [vv 7,vv 5,vv 6,vv 3]] [] [],
  .mk .ite [.nd .and [.nd (.cmp .IsNot) [vv 8,nn],.nd (.lend 4) [.nd (.cmp .NotIn) [vv 8,vv 4]]]] [.mk (.append 4) [vv 8] [] []] []]
noncomputable def BC:List S:=[.mk (.forS 7) [sbE (vv 0) (ii 4)] BD []]
noncomputable def BB:List S:=[.mk (.ownL 4) [] [] [],
  .mk (.forM [5,6]) [vv 2] BC [],
  .mk (.freeze 4) [] [] [],
  .mk (.assign 2) [vv 4] [] []]
noncomputable def f29c4:E:=(vv 9)
noncomputable def f29:Fn:=⟨2,11,false,[.mk (.assign 2) [.nd (.comp 9) [(sbE (vv 0) (ii 2)),BE]] [] [],
  .mk (.forS 3) [vv 1] BB [],
  .mk .ret [neE (.nd (.compM [9,10]) [vv 2,f29c4,.nd (.cmp .In) [vv 9,sbE (vv 0) (ii 3)]]) (.nd .list [])] [] []]⟩
noncomputable def n29:List Str:=["_law_parts", "_law_word", "_law_now", "_law_sign", "_law_found", "_law_room", "_law_pile", "_law_way", "_law_state"]
noncomputable def BA:List S:=[.mk (.assign 2) [adE (vv 2) (sbE (sbE (vv 0) (ii 0)) (mdE (fdE (vv 4) (ii 3)) (lnE (sbE (vv 0) (ii 0)))))] [] [],
  .mk (.assign 3) [adE (vv 3) (ii 1)] [] []]
noncomputable def Bz:List S:=[.mk (.assign 2) [adE (vv 2) (sbE (sbE (vv 0) (ii 1)) (mdE (fdE (vv 4) (ii 3)) (lnE (sbE (vv 0) (ii 1)))))] [] [],
  .mk (.assign 3) [siE (vv 3) (ii 1)] [] []]
noncomputable def By:List S:=[.mk .ite [neE (sbE (vv 0) (ii 2)) (ss k0)] [.mk (.assign 2) [adE (vv 2) (sbE (sbE (vv 0) (ii 2)) (mdE (fdE (vv 4) (ii 3)) (lnE (sbE (vv 0) (ii 2)))))] [] []] []]
noncomputable def Bx:List S:=[.mk .ite [.nd .and [(eqE (mdE (vv 4) (ii 3)) (ii 0)),.nd (.cmp .Lt) [vv 3,ii 4],neE (sbE (vv 0) (ii 0)) (ss k0),neE (sbE (vv 0) (ii 1)) (ss k0)]] BA [.mk .ite [.nd .and [(eqE (mdE (vv 4) (ii 3)) (ii 1)),.nd (.cmp .Gt) [vv 3,ii 0]]] Bz By]]
noncomputable def Bw:List S:=[.mk (.assign 2) [adE (vv 2) (sbE (sbE (vv 0) (ii 1)) (mdE (adE (lnE (vv 2)) (vv 5)) (lnE (sbE (vv 0) (ii 1)))))] [] []]
noncomputable def f30:Fn:=⟨2,6,false,[.mk (.assign 2) [ss k0] [] [],
  .mk (.assign 3) [ii 0] [] [],
  .mk (.forS 4) [vv 1] Bx [],
  .mk (.forS 5) [.nd .range [vv 3]] Bw [],
  .mk .ret [vv 2] [] []]⟩
noncomputable def n30:List Str:=["_law_signs", "_law_cells", "_law_word", "_law_deep", "_law_cell", "_law_k"]
noncomputable def f31:Fn:=⟨2,2,false,[.mk .ite [neE (.nd (.meth 15) [vv 0]) (.nd (.meth 15) [vv 1])] [.mk (.raise 6) [] [] []] []]⟩
noncomputable def n31:List Str:=["one", "other"]
noncomputable def f32:Fn:=⟨5,5,false,[.mk .ite [.nd .or [.nd (.cmp .Gt) [vv 1,ii 40],.nd (.cmp .Gt) [.nd .lenSet [vv 4],ii 4000]]] [.mk (.raise 4) [] [] []] [],
  .mk .ret [.nd (.call 14) [vv 0,vv 1,vv 2,vv 3,.nd .sortedSet [vv 4]]] [] []]⟩
noncomputable def n32:List Str:=["signs", "rooms", "starts", "ends", "ways"]
noncomputable def Bv:E:=(.nd .ite [.nd (.isinst 3) [vv 2],adE (vv 2) (vv 1),vv 2])
noncomputable def f33:Fn:=⟨2,4,false,[.mk .ret [.nd .tupleOf [.nd (.comp 2) [vv 0,Bv]]] [] []]⟩
noncomputable def n33:List Str:=["way", "by"]
noncomputable def Bu:E:=(adE (vv 6) (vv 2))
noncomputable def Bt:E:=(adE (vv 6) (vv 2))
noncomputable def Bs:E:=(.nd (.call 33) [vv 6,vv 2])
noncomputable def f34:Fn:=⟨2,8,false,[.mk (.call 31) [vv 0,vv 1] [] [],
  .mk (.assign 2) [.nd (.meth 16) [vv 0]] [] [],
  .mk (.assign 3) [adE (.nd (.meth 17) [vv 0]) (.nd (.comp 6) [.nd (.meth 17) [vv 1],Bu])] [] [],
  .mk (.assign 4) [adE (.nd (.meth 18) [vv 0]) (.nd (.comp 6) [.nd (.meth 18) [vv 1],Bt])] [] [],
  .mk (.assign 5) [adE (.nd (.meth 19) [vv 0]) (.nd (.comp 6) [.nd (.meth 19) [vv 1],Bs])] [] [],
  .mk (.retC 32) [.nd (.meth 15) [vv 0],adE (vv 2) (.nd (.meth 16) [vv 1]),vv 3,vv 4,vv 5] [] []]⟩
noncomputable def n34:List Str:=["one", "other", "by", "starts", "ends", "ways"]
noncomputable def f35:Fn:=⟨1,1,false,[.mk .ret [.nd .tuple [.nd (.meth 15) [vv 0],.nd (.meth 16) [vv 0],.nd (.meth 17) [vv 0],.nd (.meth 18) [vv 0],.nd (.meth 19) [vv 0]]] [] []]⟩
noncomputable def n35:List Str:=["_law_machine"]
noncomputable def f36:Fn:=⟨2,3,false,[.mk (.tryC 34 0 2) [vv 0,vv 1] [.mk .ret [.nd .tuple [ss (⟨#[114,101,102,117,115,101,100]⟩),.nd (.call 22) [vv 2,ii 3]]] [] []] []]⟩
noncomputable def n36:List Str:=["_law_one", "_law_other", "_law_e"]
noncomputable def yL:E:=(.nd .tuple [ss a7,vv 3,vv 0,vv 4,vv 5])
noncomputable def Br:List S:=[.mk (.assign 2) [adE (vv 2) (.nd (.comp 5) [.nd .range [vv 1],yL])] [] []]
noncomputable def Bq:List S:=[.mk (.forS 4) [.nd .range [vv 1]] Br []]
noncomputable def f37:Fn:=⟨2,7,false,[.mk (.assign 2) [.nd .list []] [] [],
  .mk (.forS 3) [.nd .range [vv 1]] Bq [],
  .mk .ret [vv 2] [] []]⟩
noncomputable def n37:List Str:=["_law_sign", "_law_rooms", "_law_ways", "_law_one", "_law_other"]
noncomputable def Bp:E:=(.nd .ite [.nd (.isinst 0) [vv 2],vv 2,adE (vv 2) (vv 1)])
noncomputable def f38:Fn:=⟨2,4,false,[.mk .ret [.nd .tupleOf [.nd (.comp 2) [vv 0,Bp]]] [] []]⟩
noncomputable def n38:List Str:=["_law_way", "_law_many"]
noncomputable def Bo:List S:=[.mk (.assign 3) [adE (ii 18) (mdE (fdE (.nd (.call 20) [vv 0,ii 25]) (ii 8)) (ii 4))] [] [],
  .mk (.setL 2) [.nd .tuple [vv 1,vv 3,adE (sbE (.nd (.itemL 2) [ii 0]) (ii 2)) (.nd .list [ii 17]),sbE (.nd (.itemL 2) [ii 0]) (ii 3),sbE (.nd (.itemL 2) [ii 0]) (ii 4)],ii 0] [] [],
  .mk (.assign 3) [adE (ii 18) (mdE (fdE (.nd (.call 20) [vv 0,ii 25]) (ii 32)) (ii 4))] [] [],
  .mk (.setL 2) [.nd .tuple [vv 1,vv 3,sbE (.nd (.itemL 2) [ii 1]) (ii 2),adE (sbE (.nd (.itemL 2) [ii 1]) (ii 3)) (.nd .list [(siE (vv 3) (ii 1))]),sbE (.nd (.itemL 2) [ii 1]) (ii 4)],ii 1] [] []]
noncomputable def yK:List S:=[.mk (.assign 4) [.nd (.slice false true) [.nd (.call 37) [(sbE (sbE (vv 1) (ii 0)) (ii 0)),ii 13],sbE (.nd .list [ii 2000,ii 2001]) (mdE (fdE (.nd (.call 20) [vv 0,ii 25]) (ii 32)) (ii 2))]] [] [],
  .mk (.assign 5) [.nd (.call 14) [vv 1,ii 13,.nd .list [ii 0],.nd .list [ii 12],vv 4]] [] [],
  .mk (.assign 6) [.nd (.call 36) [vv 5,vv 5]] [] [],
  .mk .ite [.nd (.cmp .Gt) [(lnE (vv 4)),ii 2000]] [.mk .ret [eqE (vv 6) (.nd .tuple [ss (⟨#[114,101,102,117,115,101,100]⟩),bb true])] [] []] [],
  .mk .ret [.nd .and [.nd .isCls [vv 6],eqE (.nd (.meth 16) [vv 6]) (ii 26),eqE (lnE (.nd (.meth 19) [vv 6])) (ii 4000)]] [] []]
noncomputable def Bn:E:=(adE (vv 15) (vv 7))
noncomputable def Bm:E:=(adE (sbE (sbE (vv 2) (ii 0)) (vv 13)) (.nd (.comp 15) [(sbE (sbE (vv 2) (ii 1)) (vv 13)),Bn]))
noncomputable def Bl:E:=(.nd (.call 38) [vv 13,vv 7])
noncomputable def yJ:E:=(.nd (.call 21) [vv 13,vv 10])
noncomputable def yI:List S:=[.mk (.assign 11) [.nd (.call 30) [vv 1,.nd (.comp 13) [.nd (.slice true true) [vv 0,adE (ii 26) (mlE (ii 6) (vv 10)),adE (ii 36) (mlE (ii 6) (vv 10))],yJ]]] [] [],
  .mk .ite [neE (.nd (.call 9) [vv 6,vv 11]) (.nd .or [.nd (.call 29) [(sbE (vv 2) (ii 0)),vv 11],.nd (.call 29) [(sbE (vv 2) (ii 1)),vv 11]])] [.mk .ret [bb false] [] []] []]
noncomputable def Bk:E:=(.nd (.call 35) [vv 13])
noncomputable def Bj:E:=(.nd (.call 35) [vv 13])
noncomputable def f39:Fn:=⟨1,17,false,[.mk (.assign 1) [.nd (.call 24) [.nd (.call 20) [vv 0,ii 0]]] [] [],
  .mk (.ownL 2) [.nd (.call 26) [vv 0,ii 1,vv 1,ii 4],.nd (.call 26) [vv 0,ii 13,vv 1,ii 4]] [] [],
  .mk .ite [eqE (mdE (.nd (.call 20) [vv 0,ii 25]) (ii 8)) (ii 1)] Bo [],
  .mk .ite [.nd .and [(eqE (mdE (.nd (.call 20) [vv 0,ii 25]) (ii 32)) (ii 2)),neE (sbE (vv 1) (ii 0)) (ss k0)]] yK [],
  .mk (.freeze 2) [] [] [],
  .mk (.assign 7) [sbE (sbE (vv 2) (ii 0)) (ii 1)] [] [],
  .mk (.assign 8) [.nd .list [.nd (.call 27) [(sbE (vv 2) (ii 0))],.nd (.call 27) [(sbE (vv 2) (ii 1))]]] [] [],
  .mk (.assign 6) [.nd (.call 36) [(sbE (vv 8) (ii 0)),sbE (vv 8) (ii 1)]] [] [],
  .mk .ite [.nd (.cmp .Gt) [(adE (vv 7) (sbE (sbE (vv 2) (ii 1)) (ii 1))),ii 40]] [.mk .ret [eqE (vv 6) (.nd .tuple [ss (⟨#[114,101,102,117,115,101,100]⟩),bb true])] [] []] [],
  .mk (.assign 9) [.nd (.comp 13) [.nd .tuple [ii 2,ii 3],Bm]] [] [],
  .mk (.assign 4) [.nd .sortedSet [(adE (sbE (sbE (vv 2) (ii 0)) (ii 4)) (.nd (.comp 13) [(sbE (sbE (vv 2) (ii 1)) (ii 4)),Bl]))]] [] [],
  .mk .ite [.nd .not [.nd .isCls [vv 6]]] [.mk .ret [bb false] [] []] [],
  .mk .ite [neE (.nd (.call 35) [vv 6]) (.nd .tuple [vv 1,adE (vv 7) (sbE (sbE (vv 2) (ii 1)) (ii 1)),.nd .sorted [(sbE (vv 9) (ii 0))],.nd .sorted [(sbE (vv 9) (ii 1))],vv 4])] [.mk .ret [bb false] [] []] [],
  .mk (.forS 10) [.nd .range [ii 5]] yI [],
  .mk (.assign 12) [.nd .list [.nd (.call 27) [(sbE (vv 2) (ii 0))],.nd (.call 27) [(sbE (vv 2) (ii 1))]]] [] [],
  .mk .ret [eqE (.nd (.comp 13) [vv 8,Bk]) (.nd (.comp 13) [vv 12,Bj])] [] []]⟩
noncomputable def n39:List Str:=["_law_script", "_law_signs", "_law_parts", "_law_rooms", "_law_ways", "_law_one", "_law_found", "_law_many", "_law_machines", "_law_due", "_law_k", "_law_word", "_law_again"]
noncomputable def fns:List Fn:=[f0,f1,f2,f3,f4,f5,f6,f7,f8,f9,f10,f11,f12,f13,f14,f15,f16,f17,f18,f19,f20,f21,f22,f23,f24,f25,f26,f27,f28,f29,f30,f31,f32,f33,f34,f35,f36,f37,f38,f39]
noncomputable def prog:Prog:=⟨fns,sup⟩
noncomputable def clsN:List (Str×Nat):=[("NestError",0),("BadSigns",1),("BadWord",2),("BadMachine",3),("TooMany",4),("NotPlain",5),("Unlike",6),("NoNote",7)]
noncomputable def safe (f:Nat):Bool:=f==22
noncomputable def newf (f:Nat):Bool:=f==14||f==17||f==18||f==19
noncomputable def cfn:Nat:=14
noncomputable def fnM:List (Str×Nat):=[("_law_way_by",25),("_law_parts_by",26),("_law_made",27),("_law_step",28),("_law_lets",29),("_law_word_by",30),("need_alike",31),("made_machine",32),("shifted",33),("joined",34),("_law_of",35),("_law_tried",36),("_law_all_opens",37),("_law_shift",38),("law",39)]
noncomputable def fnN:List (Str×Nat):=("are_letters",0) :: ("are_signs",1) :: ("need_signs",2) :: ("kind_of",3) :: ("is_word",4) :: ("need_word",5) :: ("gone_on",6) :: ("opened",7) :: ("closed",8) :: ("lets",9) :: ("is_room",10) :: ("are_rooms",11) :: ("is_way",12) :: ("are_ways",13) :: ("Machine",14) :: ("_law_cell_at",20) :: ("_law_mixed",21) :: ("_law_alone",22) :: ("_law_signs_by",23) :: ("_law_any_signs_by",24) :: fnM
noncomputable def metN:List (Str×Nat):=[("signs",15),("rooms",16),("starts",17),("ends",18),("ways",19)]
noncomputable def fldN:List Str:=["marks", "many", "first", "last", "told"]
noncomputable def conN:List (Str×V):=[("LETTERS",.str abc),("MOST_SIGNS",.int 4),("MOST_ROOMS",.int 40),("MOST_WAYS",.int 4000)]
end Mine.L07
end
noncomputable section
namespace Mine.L07
open PySem PySem.Calls PyProof.Rows PySem.W
noncomputable def Z:Zx:=⟨fnN,conN,fldN,metN,clsN,8,sup,safe,newf,cfn⟩
noncomputable def mchA:Addr:=233
noncomputable def clsA:List Addr:=[24,37,49,61,73,85,97,109]
noncomputable def fnA:List Addr:=[118,125,132,139,146,153,268,275,282,289,160,167,174,181,233,202,209,216,223,230,296,303,310,315,320,327,332,339,346,351,358,244,251,256,261,365,372,377,382,387]
noncomputable def fnB:List Addr:=[118,125,132,139,146,153,268,275,282,289,160,167,174,181,195,202,209,216,223,230,296,303,310,315,320,327,332,339,346,351,358,244,251,256,261,365,372,377,382,387]
noncomputable def AW:List Addr:=[3,1,233,232,238,24,37,49,61,73,85,97,109,23,36,48,60,72,84,96,108]++fnB++[117,124,131,138,145,152,267,274,281,288,159,166,173,180,194,201,208,215,222,229,295,302,309,314,319,326,331,338,345,350,357,243,250,255,260,364,371,376,381,386]
noncomputable def nms:List (List Str):=[n0,n1,n2,n3,n4,n5,n6,n7,n8,n9,n10,n11,n12,n13,n14,n15,n16,n17,n18,n19,n20,n21,n22,n23,n24,n25,n26,n27,n28,n29,n30,n31,n32,n33,n34,n35,n36,n37,n38,n39]
noncomputable def txt (s:Stmt):Option gg:=if h:s.ctorIdx=0 then Stmt.FunctionDef.elim (motive_2:=fun _=>Option gg) s h fun _ args body _ _ _ scope _ _ _=>some (body,scope,args) else none
noncomputable def xO (s:Stmt):List Stmt:=if h:s.ctorIdx=2 then Stmt.ClassDef.elim (motive_2:=fun _=>List Stmt) s h fun _ _ _ body _ _ _ _ _ _ _=>body else []
noncomputable def bU (i:Nat):Option gg:=(PySem.Challenge.rw_uf010006_07.row.prog.main.body[i]?).bind txt
noncomputable def vO (i:Nat):Option gg:=((PySem.Challenge.rw_uf010006_07.row.prog.main.body[25]?).bind fun c=>(xO c)[i]?).bind txt
noncomputable def wA:List (Option gg):=[bU 12,bU 13,bU 14,bU 15,bU 16,bU 17,bU 32,bU 33,bU 34,bU 35,bU 21,bU 22,bU 23,bU 24,vO 0,vO 1,vO 2,vO 3,vO 4,vO 5,bU 37,bU 38,bU 39,bU 40,bU 41,bU 42,bU 43,bU 44,bU 45,bU 46,bU 47,bU 27,bU 28,bU 29,bU 30,bU 48,bU 49,bU 50,bU 51,bU 52]
noncomputable def jn [BEq Str]:Nat→List Fn→List (List Str)→List (Option gg)→Bool
 | _,[],_,_=>true
 | i,fn :: r,n :: m,a :: b=>jm Z fn n (safe i) (newf i&&!fn.init) a&&jn (i+1) r m b
 | _,_,_,_=>false
noncomputable def mn (K:Frag):Nat→Bool
 | 0=>true
 | c+1=>lD K sup 8 (fun c=>clsA.getD c 0) c&&mn K c
noncomputable def chk [BEq Str] (K:Frag):Bool:=
 (K.lookup sysModules).isSome&&(qM K mchA fldN&&(fnN.all (fun p=>nsF K mainGlobals p.1==some (some (.ref (fnA.getD p.2 0))))&&(conN.all (qK K)&&(bC.all (fun p=>nsF K mainGlobals p.1==some none)&&(fnN.all (fun p=>keepIn K (.ref (fnA.getD p.2 0))) &&
 (metN.all (vP K mchA fldN fun f=>fnA.getD f 0)&&(findIn K (.ref mchA) "__init__"==some (some (.ref 195))&&(typeIn K (.ref 195)==some (.type "function")&&(fnB.all (qJ K) &&
 (clsN.all (fun p=>decide (p.2 < 8)&&nsF K mainGlobals p.1==some (some (.ref (clsA.getD p.2 0))))&&(specialIn K (.builtin "object.__class__") "__get__"==some (some (.builtin "getset_descriptor.__get__"))&&(takesIn K (.builtin "object.__class__")==some true&&mn K 8))))))))))))
noncomputable def dp (h:Heap):List Addr→Frag
 | []=>[]
 | a :: r=>match h.get? a with
  | some o=>(a,o) :: dp h r
  | none=>dp h r
theorem gH (h:Heap):∀ as:List Addr,Frag.In (dp h as) h
 | [],a,o,e=>nN e.symm
 | b :: r,a,o,e=>by
  unfold dp at e
  cases hb:h.get? b with
  | none=>rw [hb] at e; exact gH h r a o e
  | some p=>
   rw [hb] at e
   by_cases q:a=b
   ·subst q
    have:List.lookup a ((a,p) :: dp h r)=some p:=List.lookup_cons_self
    rw [hb]; exact this.symm.trans e
   ·have:List.lookup a ((b,p) :: dp h r)=List.lookup a (dp h r):=by rw [List.lookup_cons,beq_false_of_ne q]
    exact gH h r a o (this.symm.trans e)
noncomputable def qf:Hook:=⟨Bool×List (Option gg),fun s=>(@chk lU (dp s.heap AW),fnB.map (eV (dp s.heap AW))),fun _=>(true,wA),fun _ h=>∃ K:Frag,K.In h∧chk K=true∧fnB.map (eV K)=wA,fun _ s e=>⟨dp s.heap AW,gH _ _,r6▸congrArg Prod.fst e,congrArg Prod.snd e⟩,fun _ _ _ y k=>y.elim fun K x=>⟨K,fun a o e=>k a o (x.1 a o e),x.2⟩⟩
end Mine.L07
end
noncomputable section
open PySem PySem.W PyProof.Rows
namespace Mine.L07
noncomputable abbrev pg:Program:=PySem.Challenge.rw_uf010006_07.row.toRowW.prog
noncomputable def vw:Program:=view pg [1,2,3,4,5,6,7,8,10,11,12,13,14,15,16,17,19,20,21,22,23,24,25,27,28,29,30,32,33,34,35,37,38,39,40,41,42,43,44,45,46,47,48,49,50,51,52]
noncomputable def vwX (s:Shared):Bool:=xlAt vw [] s&&recOk (RowW.records PySem.Challenge.rw_uf010006_07.row.toRowW) s
theorem Cd {α β γ:Type} {o:Option α} {f:α→β} {g:α→γ} {x:β} {y:γ} (h:o.map f=some x) (h':o.map g=some y):o.map (fun s=>(f s,g s))=some (x,y):=by
 cases o with
 | none=>(injection h; done)
 | some s=>exact congrArg some (Prod.ext (Option.some.inj h) (Option.some.inj h'))
noncomputable def pA {α β:Type} (p:α×β):α:=Prod.rec (fun a _=>a) p
noncomputable def pB {α β:Type} (p:α×β):β:=Prod.rec (fun _ b=>b) p
noncomputable abbrev tH (s:Shared):=openSeen vw [] (importedModules pg.main.body) vwX true s
theorem Bb:∀ w,(openEnds treeTable pg w 6498).map (fun s=>((tH s).1,(tH s).2.1,(tH s).2.2.1))=some (pA (openGood vw []),pA (pB (openGood vw [])),pA (pB (pB (openGood vw [])))):=fun w=>by kernel_rfl
theorem Ba:∀ w,(openEnds treeTable pg w 6498).map (fun s=>(tH s).2.2.2)=some (pB (pB (pB (openGood vw [])))):=fun w=>by kernel_rfl
theorem A9:∀ w,(openEnds treeTable pg w 6498).map qf.obs=some (qf.val w):=fun w=>by kernel_rfl
theorem zR:LeftO pg vw [] vwX (Hook.obs qf) (Hook.val qf) 6498:=fun w=>by
 have z:=congrArg (Option.map fun z=>((z.1.1,z.1.2.1,z.1.2.2,z.2.1),z.2.2)) (Cd (Bb w) (Cd (Ba w) (A9 w)))
 rw [Option.map_map] at z
 exact z
end Mine.L07
end
noncomputable section
namespace Mine
open PySem
noncomputable def wO:Sc→Value→Bool
 | .inl i,v=>Value.isInt i v
 | .inr x,v=>Value.isStrOf x v
theorem bu {C:Sc→Value→Prop} (h:wO k v=true) (hi:∀ i t,C (.inl i) (.int i t)) (hs:∀ x t,C (.inr x) (.str x t)):C k v:=by
 cases k with
 | inl i=>obtain ⟨t,rfl⟩:=Value.isInt_shape h; exact hi i t
 | inr x=>obtain ⟨t,rfl⟩:=Value.isStrOf_shape h; exact hs x t
noncomputable def aA (prog:Program) (w:World):KeyKind prog w Sc where
 is:=wO
 hash:=fun k=>match k with | .inl i=>hashInt i | .inr x=>hashStr w x
 inj:=fun v a b ha hb=>bu (C:=fun a v=>wO b v=true→a=b) ha (fun i t hb=>by cases b with | inl j=>exact congrArg _ (Value.isInt_inj (.int i t) i j (by simp [Value.isInt]) hb) | inr y=>(injection hb; done))
  (fun x t hb=>by cases b with | inl j=>(injection hb; done) | inr y=>exact congrArg _ (Value.isStrOf_inj (.str x t) x y (by simp [Value.isStrOf]) hb)) hb
 byValue:=fun k v h=>bu (C:=fun _ v=>carriedByValue v=true) h (fun _ _=>rfl) fun _ _=>rfl
 pyHash:=fun {A E s k v Q} h hq=>bu (C:=fun k v=>Q (match k with | .inl i=>hashInt i | .inr x=>hashStr w x) { s with toks:=s.toks+1 }→wpAny (model prog w) A (PySem.pyHash v) Q E s) h (fun _ _ hq=>wpAny_pyHash_int hq) (fun _ _ hq=>wpAny_pyHash_str hq) hq
 eqBool:=fun {A E s a b u v Q} hu hv hq=>bu (C:=fun a u=>Q (decide (a=b)) s→wpAny (model prog w) A (PySem.eqBool u v) Q E s) hu
  (fun i t hq=>bu (C:=fun b v=>Q (decide (Sum.inl i=b)) s→wpAny (model prog w) A (PySem.eqBool (.int i t) v) Q E s) hv (fun j u hq=>wpAny_eqBool_int (by rw [show (i==j)=decide ((Sum.inl i:Sc)=.inl j) by by_cases e:i=j <;> simp [e]]; exact hq)) (fun y u hq=>SeqAt.EqAt.int_str i t y u _ _ _ _ (by simpa using hq)) hq)
  (fun x t hq=>bu (C:=fun b v=>Q (decide (Sum.inr x=b)) s→wpAny (model prog w) A (PySem.eqBool (.str x t) v) Q E s) hv (fun j u hq=>SeqAt.EqAt.str_int x t j u _ _ _ _ (by simpa using hq)) (fun y u hq=>wpAny_eqBool_str (by rw [show decide (x=y)=decide ((Sum.inr x:Sc)=.inr y) by by_cases e:x=y <;> simp [e]]; exact hq)) hq) hq
 «strs»:=fun k x t v h=>by
  cases k with
  | inl i=>(injection h; done)
  | inr y=>exact (strKind prog w).«strs» y x t v h
end Mine
end
noncomputable section
namespace Mine
open PySem PySem.W
noncomputable def scH (w:World) (x:V):Int:=match x with
 | .int i=>hashInt i
 | .str s=>hashStr w s
 | _=>0xFCA86420
noncomputable def AI (l:List Int):Int:=reduceHash (Builtin.Tuple.tupleHashOf l)
noncomputable def itH (w:World) (x:V):Int:=match x with
 | .tuple l=>AI (l.map (scH w))
 | x=>scH w x
noncomputable def vS (w:World) (x:V):Int:=match x with
 | .tuple l=>AI (l.map (itH w))
 | _=>0
noncomputable def itN (x:V):Nat:=match x with
 | .tuple l=>(l.map fun _=>1).sum+1
 | _=>1
noncomputable def AS (x:V):Nat:=match x with
 | .tuple l=>(l.map itN).sum+1
 | _=>0
section
variable {prog:Program} {w:World} {A:Around} {E:Value→Shared→Prop} {s:Shared}
def j8 (prog:Program) (w:World) (A:Around) (E:Value→Shared→Prop) (ok:V→Bool) (H:V→Int) (N:V→Nat):Prop:=∀ x v as (s:Shared) (Q:Int→Shared→Prop),ok x=true→Reads s.heap v x as→Q (H x) { s with toks:=s.toks+N x }→wpAny (model prog w) A (pyHash v) Q E s
theorem kY (hk:j8 prog w A E ok H N):∀ (xs:List V) (vs:List Value) (as:List Addr) (s:Shared) (b:Array Int) (Q:Array Int→Shared→Prop),xs.all ok=true→ReadsAll s.heap vs xs as→(∀ b',b'.toList=b.toList++xs.map H→Q b' { s with toks:=s.toks+(xs.map N).sum }) →
  wpAny (model prog w) A (forIn vs b fun x r=>do let h ← pyHash x; pure PUnit.unit; pure (ForInStep.yield (r.push h))) Q E s
 | [],_,_,s,b,Q,_,r,h=>by
  cases r
  exact zC2 (h b (List.append_nil _).symm)
 | x :: xs,_,_,s,b,Q,ok,r,h=>by
  cases r with
  | cons r rs=>
  have ok:=zA2 ok
  rw [List.forIn_cons]
  refine zC1 (zC1 (hk x _ _ s _ ok.1 r (zC1 (zC2 (zC2 ?_)))))
  refine kY hk xs _ _ _ _ Q ok.2 rs fun b' hb=>?_
  have q:=h b' (by rw [hb,Array.toList_push,List.append_assoc]; rfl)
  rw [List.map_cons,List.sum_cons,← Nat.add_assoc] at q
  exact q
theorem oN (hk:j8 prog w A.in1 E ok H N) (hu:A.units < cLine) (ho:s.heap.get? a=some o) (hc:o.cls=.type "tuple") (hd:o.data=.seq vs n) (hl:l.all ok=true) (r:ReadsAll s.heap vs.toList l as)
  (h:Q (AI (l.map H)) { s with toks:=s.toks+((l.map N).sum+1) }):wpAny (model prog w) A (pyHash (.ref a)) Q E s:=by
 refine pyHash_slot (T:="tuple") ⟨o,ho,hc⟩ F.slot_tuple_hash F.entry_tuple_hash (F.args_tuple_hash_1 _) (beq_builtin_none _) (.inr hu) ?_
 refine (?_:wpAny _ _ (Builtin.Tuple.tupleItemsOf (.ref a) >>= _) _ _ s)
 refine zC1 (wpAny_tupleItemsOf ho hd (zC1 ?_))
 rw [← Array.forIn_toList]
 refine kY hk l _ _ s #[] _ hl r fun b hb=>?_
 refine (?_:wpAny _ _ (retInt (Builtin.Tuple.tupleHashOf b.toList)) _ _ _)
 exact hb.symm▸zC1 (wpAny_mkInt (zC2 ⟨_,_,rfl,h⟩))
theorem xo:j8 prog w A E aN (scH w) (fun _=>1):=fun x v as s Q ok r h=>by
 cases r with
 | int i t=>exact wpAny_pyHash_int h
 | str x t=>exact wpAny_pyHash_str h
 | _=>exact nB ok
theorem xp (hu:A.units < cLine):j8 prog w A E itV (itH w) itN:=fun x v as s Q ok r h=>by
 cases r with
 | none=>exact pyHash_slot (T:="NoneType") rfl F.slot_NoneType_hash F.entry_NoneType_hash (F.args_NoneType_hash_1 _) (beq_builtin_none _) (.inr hu) (zC1 (zC2 (zC1 (wpAny_mkInt (zC2 ⟨_,_,rfl,h⟩)))))
 | int i t=>exact wpAny_pyHash_int h
 | str x t=>exact wpAny_pyHash_str h
 | tuple ho hc hd hl=>exact oN xo hu ho hc hd ok hl h
 | _=>exact nB ok
theorem uR (hu:A.units+1 < cLine):j8 prog w A E dC (vS w) AS:=fun x v as s Q ok r h=>by
 cases r with
 | tuple ho hc hd hl=>exact oN (xp hu) (Nat.lt_of_succ_lt hu) ho hc hd ok hl h
 | _=>exact nB ok
theorem zg (h:aN x=true):x.canLay0=true∧x.depth≤0:=by
 cases x with
 | int=>exact ⟨rfl,Nat.le_refl _⟩
 | str=>exact ⟨h,Nat.le_refl _⟩
 | _=>exact nB h
theorem mA (hk:∀ x,ok x=true→x.canLay0=true∧x.depth≤n):∀ l:List V,l.all ok=true→PyData.canLayAll0 l=true∧PyData.depthAll l≤n
 | [],_=>⟨rfl,Nat.zero_le _⟩
 | x :: l,h=>by
  have h:=zA2 h
  have q:=mA hk l h.2
  exact ⟨zA3 ⟨(hk x h.1).1,q.1⟩,Nat.max_le.mpr ⟨(hk x h.1).2,q.2⟩⟩
theorem zX (h:itV x=true):x.canLay0=true∧x.depth≤1:=by
 cases x with
 | none=>exact ⟨rfl,Nat.zero_le _⟩
 | tuple l=>exact (mA (fun x=>zg) l h).imp id Nat.succ_le_succ
 | int=>exact ⟨rfl,Nat.zero_le _⟩
 | str=>exact ⟨h,Nat.zero_le _⟩
 | _=>exact nB h
theorem gk (h:dC x=true):x.canLay0=true∧x.depth≤2:=by
 cases x with
 | tuple l=>exact (mA (fun x=>zX) l h).imp id Nat.succ_le_succ
 | _=>exact nB h
def tS (ok:V→Bool):Prop:=∀ x y,ok x=true→ok y=true→(PyData.eqv x y=true ↔ x=y)
theorem l8 (hk:tS ok):∀ l m:List V,l.all ok=true→m.all ok=true→(PyData.eqvAll l m=true ↔ l=m)
 | [],[],_,_=>⟨fun _=>rfl,fun _=>rfl⟩
 | [],_ :: _,_,_=>iff_of_false nofun nofun
 | _ :: _,[],_,_=>iff_of_false nofun nofun
 | x :: l,y :: m,h1,h2=>by
  have h1:=zA2 h1
  have h2:=zA2 h2
  refine (?_:(PyData.eqv x y&&PyData.eqvAll l m)=true ↔ _)
  rw [Bool.and_eq_true,hk x y h1.1 h2.1,l8 hk l m h1.2 h2.2,List.cons.injEq]
theorem j2:tS aN:=fun x y hx hy=>by
 cases x with
 | int i=>cases y with
  | int j=>exact ⟨fun h=>congrArg _ (eq_of_beq h),fun h=>by (injection h with h; subst h); exact beq_self_eq_true i⟩
  | str t=>exact iff_of_false nofun nofun
  | _=>exact nB hy
 | str s=>cases y with
  | int j=>exact iff_of_false nofun nofun
  | str t=>exact ⟨fun h=>congrArg _ (eq_of_beq h),fun h=>by (injection h with h; subst h); exact beq_self_eq_true s⟩
  | _=>exact nB hy
 | _=>exact nB hx
theorem Ar:tS itV:=fun x y hx hy=>by
 cases x with
 | none=>cases y with
  | none=>exact ⟨fun _=>rfl,fun _=>rfl⟩
  | _=>exact iff_of_false nofun nofun
 | tuple l=>cases y with
  | tuple m=>exact (l8 j2 l m hx hy).trans ⟨fun h=>congrArg _ h,fun h=>PyData.tuple.inj h⟩
  | _=>exact iff_of_false nofun nofun
 | int i=>cases y with
  | int j=>exact j2 _ _ hx hy
  | str t=>exact j2 _ _ hx hy
  | bool=>exact nB hy
  | _=>exact iff_of_false nofun nofun
 | str s=>cases y with
  | int j=>exact j2 _ _ hx hy
  | str t=>exact j2 _ _ hx hy
  | _=>exact iff_of_false nofun nofun
 | _=>exact nB hx
theorem lZ:tS dC:=fun x y hx hy=>by
 cases x with
 | tuple l=>cases y with
  | tuple m=>exact (l8 Ar l m hx hy).trans ⟨fun h=>congrArg _ h,fun h=>PyData.tuple.inj h⟩
  | _=>exact nB hy
 | _=>exact nB hx
end
section
variable {prog:Program} {w:World} {A:Around} {E:Value→Shared→Prop} {s:Shared}
def jt (prog:Program) (w:World) (A:Around) (E:Value→Shared→Prop) (ok:V→Bool) (m:Nat):Prop:=∀ x v as (s:Shared) (Q:Bool→Shared→Prop),ok x=true→Reads s.heap v x as→Q true s→wpAny (model prog w) A (eqIsQuiet m v) Q E s
theorem kJ (hk:jt prog w A E ok m) (ho:s.heap.get? a=some o) (hc:o.cls=.type "tuple") (hd:o.data=.seq vs n) (hl:l.all ok=true) (r:ReadsAll s.heap vs.toList l as) (h:Q true s) :
  wpAny (model prog w) A (eqIsQuiet (m+1) (.ref a)) Q E s:=by
 have hT:s.TypeIs (.ref a) "tuple":=⟨o,ho,hc⟩
 unfold eqIsQuiet
 refine zC1 (wpAny_specialOf hT F.slot_tuple_eq.lookup ?_)
 refine (?_:wpAny _ _ (isInstance (.ref a) (.type "tuple") >>= _) _ _ s)
 refine zC1 (wpAny_isInstance hT isSubtype_tuple_tuple ?_)
 refine bw (c:=(!true)=true) Bool.false_ne_true (zC1 (wpAny_seqItems ho hd (zC1 ?_)))
 refine (?_:wpAny _ _ (forIn vs _ _) _ _ s)
 rw [← Array.forIn_toList]
 refine wpAny_forIn_list _ (fun rest r s'=>r.1=none∧s'=s∧∃ l' as',l'.all ok=true∧ReadsAll s.heap rest l' as') _ ?_ ?_ _ _ ⟨rfl,rfl,l,as,hl,r⟩
 ·rintro v rest r s' ⟨hr,rfl,l',as',hl',rr⟩
  cases rr with
  | cons r1 rs=>
   have q:=zA2 hl'
   refine zC1 (hk _ _ _ s' _ q.1 r1 ?_)
   exact bw (c:=(!true)=true) Bool.false_ne_true (zC2 ⟨rfl,rfl,_,_,q.2,rs⟩)
 ·rintro ⟨r1,r2⟩ s' ⟨hr,rfl,_⟩
  obtain rfl:r1=none:=hr
  exact wpAny_pure h
theorem c7 (hv:carriedByValue v=true) (h:Q true s):wpAny (model prog w) A (eqIsQuiet m v) Q E s:=by
 rw [eqIsQuiet_byValue _ hv]; exact wpAny_pure h
theorem ut:jt prog w A E aN m:=fun x v as s Q ok r h=>by
 cases r with
 | int i t=>exact c7 rfl h
 | str x t=>exact c7 rfl h
 | _=>exact nB ok
theorem uu:jt prog w A E itV (m+1):=fun x v as s Q ok r h=>by
 cases r with
 | none=>exact c7 rfl h
 | int i t=>exact c7 rfl h
 | str x t=>exact c7 rfl h
 | tuple ho hc hd hl=>exact kJ ut ho hc hd ok hl h
 | _=>exact nB ok
theorem sQ:jt prog w A E dC 8:=fun x v as s Q ok r h=>by
 cases r with
 | tuple ho hc hd hl=>exact kJ (uu (m:=6)) ho hc hd ok hl h
 | _=>exact nB ok
end
def nq (h h':Heap) (ok:V→Bool):Prop:=∀ x v as,ok x=true→Reads h v x as→Reads h' v x as
section
variable {h h':Heap}
theorem qN (hk:nq h h' ok):∀ (l:List V) (vs:List Value) (as:List Addr),l.all ok=true→ReadsAll h vs l as→ReadsAll h' vs l as
 | [],_,_,_,r=>by
  cases r; exact .nil
 | x :: l,_,_,q,r=>by
  cases r with
  | cons r rs=>exact .cons (hk x _ _ (zA2 q).1 r) (qN hk l _ _ (zA2 q).2 rs)
theorem A3:nq h h' aN:=fun x v as ok r=>by
 cases r with
 | int i t=>exact .int i t
 | str x t=>exact .str x t
 | _=>exact nB ok
theorem Be (k:∀ b o vs n,h.get? b=some o→o.data=.seq vs n→h'.get? b=some o):nq h h' itV:=fun x v as ok r=>by
 cases r with
 | none=>exact .none
 | int i t=>exact .int i t
 | str x t=>exact .str x t
 | tuple ho hc hd hl=>exact .tuple (k _ _ _ _ ho hd) hc hd (qN A3 _ _ _ ok hl)
 | _=>exact nB ok
theorem zS (k:∀ b o vs n,h.get? b=some o→o.data=.seq vs n→h'.get? b=some o):nq h h' dC:=fun x v as ok r=>by
 cases r with
 | tuple ho hc hd hl=>exact .tuple (k _ _ _ _ ho hd) hc hd (qN (Be k) _ _ _ ok hl)
 | _=>exact nB ok
end
def KIs (h:Heap) (x:V) (a:Addr):Prop:=dC x=true∧∃ as,Reads h (.ref a) x as
theorem KIs.keep (r:KIs h x a) (k:∀ b o vs n,h.get? b=some o→o.data=.seq vs n→h'.get? b=some o):KIs h' x a:=⟨r.1,r.2.imp fun as q=>zS k x _ _ r.1 q⟩
theorem wX {h:Heap} {d:Addr} {o o':Obj} {es:Array DictEntry} {ep n:Nat} {vs:Array Value} (hd:o.data=.dict es ep) (ho:h.get? d=some o) (c:o'.data=.seq vs n) (e:h.get? d=some o'):False:=by
 rw [ho] at e
 injection e with e
 subst e
 exact nomatch hd.symm.trans c
noncomputable def fC:DecidableEq V:=fun a b=>Classical.propDecidable (a=b)
theorem l7 (hx:dC x=true) (hy:dC y=true):PyData.eqv x y=@decide (x=y) (fC x y):=by
 rw [Bool.eq_iff_iff,lZ x y hx hy]
 exact (@decide_eq_true_iff _ (fC x y)).symm
noncomputable def iY (prog:Program) (w:World):@HeapKind prog w V fC:=
 @HeapKind.mk prog w V fC KIs (vS w) AS (fun A=>A.units+2 < cLine)
  (fun hx hy=>hx.2.elim fun _ r=>hy.2.elim fun _ r'=>SeqAt.Reads.unique _ _ _ _ _ (gk hx.1).1 r r')
  (fun r ho hd hs=>r.keep fun b o' vs n e c=>(hs.2 b fun q=>wX hd ho c (q▸e)).trans e)
  (fun hu hk h=>hk.2.elim fun _ r=>uR (Nat.lt_of_succ_lt hu) _ _ _ _ _ hk.1 r h)
  (fun hu hx hy h=>hx.2.elim fun _ r=>hy.2.elim fun _ r'=>SeqAt.eqBoolOverData _ _ _ _ _ _ _ _ _ _ _ _ r r' (gk hx.1).1 (gk hy.1).1 (Nat.lt_of_le_of_lt (Nat.add_le_add_left (zB1 (Nat.min_le_right _ _) (gk hy.1).2) _) hu) ((l7 hx.1 hy.1).symm▸h))
  (fun hk h=>hk.2.elim fun _ r=>sQ _ _ _ _ _ hk.1 r h)
end Mine
end
noncomputable section
namespace Mine
open PySem PySem.Calls PyProof.Rows PySem.W
section
def aH (h h':Heap):Prop:=∀ b o,h.get? b=some o→h'.get? b=some o
def iq (o:Obj):Prop:=o.cls≠.type "frame"
def bz (h':Heap) (b:Addr) (o:Obj):Prop:=∃ sl,h'.get? b=some { o with slots:=sl }∧(iq o→sl=o.slots)
def aG (h h':Heap):Prop:=∀ b o,h.get? b=some o→bz h' b o
def aQ (h:Heap) (a:Addr):Prop:=∃ o,h.get? a=some o
theorem bz.of (e:h'.get? b=some o):bz h' b o:=⟨o.slots,e,fun _=>rfl⟩
theorem bz.get (x:bz h' b o) (n:iq o):h'.get? b=some o:=by
 obtain ⟨sl,e',q⟩:=x
 rw [e',q n]
theorem bz.live (x:bz h' b o):aQ h' b:=x.elim fun _ q=>⟨_,q.1⟩
theorem bz.step (x:bz h₂ b o) (y:∀ o',h₂.get? b=some o'→bz h₃ b o'):bz h₃ b o:=by
 obtain ⟨sl,e₁,q₁⟩:=x
 obtain ⟨sl',e₂,q₂⟩:=y _ e₁
 exact ⟨sl',e₂,fun n=>(q₂ n).trans (q₁ n)⟩
theorem aH.keeps (x:aH h h'):aG h h':=fun b o e=>⟨o.slots,x b o e,fun _=>rfl⟩
theorem aG.get (x:aG h h') (e:h.get? b=some o) (n:iq o):h'.get? b=some o:=(x b o e).get n
theorem aG.refl (h:Heap):aG h h:=aH.keeps fun _ _ e=>e
theorem aG.trans (x:aG h₁ h₂) (y:aG h₂ h₃):aG h₁ h₃:=fun b o e=>(x b o e).step (y b)
theorem aG.live (x:aG h h'):aQ h a→aQ h' a:=fun Zq1=>Zq1.elim fun o e=>(x a o e).live
theorem aH.trans (x:aH h₁ h₂) (y:aH h₂ h₃):aH h₁ h₃:=fun b o e=>y b o (x b o e)
theorem aH.live (x:aH h h'):aQ h a→aQ h' a:=x.keeps.live
theorem w2 (h:o.cls=.type n) (q:n≠"frame"):iq o:=fun e=>q (Value.type.inj (h.symm.trans e))
def dG (h:Heap) (a:Addr):Prop:=∃ o,h.get? a=some o∧iq o
theorem dG.live (x:dG h a):aQ h a:=x.elim fun o q=>⟨o,q.1⟩
theorem dG.nf (x:dG h a) (e:h.get? a=some o):iq o:=by obtain ⟨o',e',n⟩:=x; rw [e] at e'; (injection e' with e'; subst e'); exact n
def lj (h:Heap) (v:Value):Prop:=∀ a b,v=.ref a→aQ h b→b < a
theorem lj.le (x:lj h' v) (k:∀ b,aQ h b→aQ h' b):lj h v:=fun a b e l=>x a b e (k b l)
theorem eG (q:h.objs.size≤n):lj h (.ref n):=fun a b e Zq2=>Zq2.elim fun o l=>by (injection e with e; subst e); exact Nat.lt_of_lt_of_le (Heap.lt_size l) q
theorem ak (h:Heap):h.get? h.objs.size=none:=by
 cases e:h.get? h.objs.size with
 | none=>rfl
 | some o=>exact absurd (Heap.lt_size e) (Nat.lt_irrefl _)
theorem aM (l:aQ h a→aQ h' a) (e:h'.get? a=none):h.get? a=none:=by
 cases q:h.get? a with
 | none=>rfl
 | some o=>obtain ⟨o',e'⟩:=l ⟨o,q⟩; rw [e] at e'; (injection e'; done)
theorem av (h:Heap) (o:Obj):aH h (h.push o):=fun _ _ e=>Heap.get?_push_of_some _ e
theorem dD (h:Heap) (o:Obj):aG h (h.push o):=(av h o).keeps
structure Gl where
 prog:Program
 w:World
 h0:Heap
 mg:Str→Option Value
 mb:Str→Option Value
 fn:Nat→Addr
 C:Addr
 K:Frag
 flds:List Str
 os:OsState
 P:Prog
 cls:Nat→Addr
 nc:Nat
 safe:Nat→Bool
 newf:Nat→Bool
 fns:List (Str×Nat)
 clss:List (Str×Nat)
 cons:List (Str×V)
structure Base (g:Gl) (s:Shared):Prop where
 stays:aH g.h0 s.heap
 os:s.os=g.os
 gens:s.gens=#[]
def dU (g:Gl) (o:Obj) (ws:List Value):Prop:=o.ExactDict∧∃ es n,o.data=.dict es n∧es.toList.map (·.val)=ws∧∀ (j:Nat) e,es[j]?=some e→∃ x t,g.flds[j]?=some x∧e.key=.str x t
def tT (a:Addr) (ws:List Value) (l:List V):Prop:=∀ (j:Nat) b m,ws[j]?=some (.ref b)→l[j]?=some (.list m)→a < b
def DOk (w:World) (kvs:List (V×V)) (es:Array DictEntry):Prop:=dkV kvs=true∧(kvs.map (·.1)).Nodup∧es.toList.map (·.hash)=kvs.map fun p=>vS w p.1
mutual
inductive Rp (g:Gl) (bad:Addr→Prop) (h:Heap):Value→V→Prop
 | none:Rp g bad h .none .none
 | bool (b:Bool):Rp g bad h (.bool b) (.bool b)
 | int (i:Int) (t:Tok):Rp g bad h (.int i t) (.int i)
 | str (x:Str) (t:Tok):Rp g bad h (.str x t) (.str x)
 | list {a:Addr} {o:Obj} {vs:Array Value} {n:Nat} {l:List V}:¬ bad a→h.get? a=some o→o.cls=.type "list"∧o.dict=none→o.data=.seq vs n→RpAll g bad h vs.toList l→Rp g bad h (.ref a) (.list l)
 | tuple {a:Addr} {o:Obj} {vs:Array Value} {n:Nat} {l:List V}:¬ bad a→h.get? a=some o→o.cls=.type "tuple"→o.data=.seq vs n→RpAll g bad h vs.toList l→Rp g bad h (.ref a) (.tuple l)
 | inst {a d:Addr} {o:Obj} {ws:List Value} {kvs:List (V×V)} {l:List V}:¬ bad a→¬ bad d→h.get? a=some (instObj g.C d)→h.get? d=some o→dU g o ws→tT a ws l→pY kvs=true→kvs.map (·.2)=l→RpAll g bad h ws l→Rp g bad h (.ref a) (.dict kvs)
 | exc {a:Addr} {o:Obj} {c:Nat} {vs:Array Value}:c < g.nc→¬ bad a→h.get? a=some o→o.cls=.ref (g.cls c)∧o.dict=none→o.data=.fields vs→Rp g bad h (.ref a) (.dict [(.int c,.none)])
 | dict {a:Addr} {o:Obj} {es:Array DictEntry} {n:Nat} {kvs:List (V×V)} {l m:List V}:¬ bad a→a≠sysModules→h.get? a=some o→o.ExactDict→o.data=.dict es n→DOk g.w kvs es→kvs.map (·.1)=l→kvs.map (·.2)=m→RpAll g bad h (es.toList.map (·.key)) l→RpAll g bad h (es.toList.map (·.val)) m→Rp g bad h (.ref a) (.dict kvs)
inductive RpAll (g:Gl) (bad:Addr→Prop) (h:Heap):List Value→List V→Prop
 | nil:RpAll g bad h [] []
 | cons {v:Value} {vs:List Value} {x:V} {l:List V}:Rp g bad h v x→RpAll g bad h vs l→RpAll g bad h (v :: vs) (x :: l)
end
section
variable {g:Gl} {bad bad':Addr→Prop} {h h':Heap} {v:Value} {x:V} {vs ws:List Value} {l m:List V}
def cU (bad bad':Addr→Prop) (h h':Heap):Prop:=∀ a o,h.get? a=some o→iq o→¬ bad a→¬ bad' a∧h'.get? a=some o
theorem Rp.ind {C:Value→V→Prop} {D:List Value→List V→Prop} (none:C .none .none) (bool:∀ b,C (.bool b) (.bool b)) (int:∀ i t,C (.int i t) (.int i)) (str:∀ x t,C (.str x t) (.str x))
  (list:∀ a (o:Obj) vs n l,¬ bad a→h.get? a=some o→o.cls=.type "list"∧o.dict=.none→o.data=.seq vs n→RpAll g bad h vs.toList l→D vs.toList l→C (.ref a) (.list l))
  (tuple:∀ a (o:Obj) vs n l,¬ bad a→h.get? a=some o→o.cls=.type "tuple"→o.data=.seq vs n→RpAll g bad h vs.toList l→D vs.toList l→C (.ref a) (.tuple l))
  (inst:∀ a d o ws kvs,¬ bad a→¬ bad d→h.get? a=some (instObj g.C d)→h.get? d=some o→dU g o ws→tT a ws (kvs.map (·.2))→pY kvs=true→RpAll g bad h ws (kvs.map (·.2))→D ws (kvs.map (·.2))→C (.ref a) (.dict kvs))
  (exc:∀ a (o:Obj) c vs,c < g.nc→¬ bad a→h.get? a=some o→o.cls=.ref (g.cls c)∧o.dict=.none→o.data=.fields vs→C (.ref a) (.dict [(.int c,.none)]))
  (dict:∀ a (o:Obj) es n kvs,¬ bad a→a≠sysModules→h.get? a=some o→o.ExactDict→o.data=.dict es n→DOk g.w kvs es→RpAll g bad h (es.toList.map (·.key)) (kvs.map (·.1))→RpAll g bad h (es.toList.map (·.val)) (kvs.map (·.2))→D (es.toList.map (·.key)) (kvs.map (·.1))→D (es.toList.map (·.val)) (kvs.map (·.2))→C (.ref a) (.dict kvs))
  (nil:D [] []) (cons:∀ v vs x l,Rp g bad h v x→RpAll g bad h vs l→C v x→D vs l→D (v :: vs) (x :: l)):(Rp g bad h v x→C v x)∧(RpAll g bad h vs l→D vs l):=by
 constructor
 ·exact fun r=>Rp.rec (motive_1:=fun v x _=>C v x) (motive_2:=fun vs l _=>D vs l) none bool int str (fun a b c d e i=>list _ _ _ _ _ a b c d e i) (fun a b c d e i=>tuple _ _ _ _ _ a b c d e i) (fun a b c d e f k q r i=>by subst q; exact inst _ _ _ _ _ a b c d e f k r i) (exc _ _ _ _) (fun a f b c d e q1 q2 r1 r2 i j=>by subst q1 q2; exact dict _ _ _ _ _ a f b c d e r1 r2 i j) nil (fun a b c d=>cons _ _ _ _ a b c d) r
 ·exact fun r=>RpAll.rec (motive_1:=fun v x _=>C v x) (motive_2:=fun vs l _=>D vs l) none bool int str (fun a b c d e i=>list _ _ _ _ _ a b c d e i) (fun a b c d e i=>tuple _ _ _ _ _ a b c d e i) (fun a b c d e f k q r i=>by subst q; exact inst _ _ _ _ _ a b c d e f k r i) (exc _ _ _ _) (fun a f b c d e q1 q2 r1 r2 i j=>by subst q1 q2; exact dict _ _ _ _ _ a f b c d e r1 r2 i j) nil (fun a b c d=>cons _ _ _ _ a b c d) r
theorem eR:iq (instObj C d):=nofun
theorem zC (h:o.cls=.ref c):iq o:=fun e=>nomatch h.symm.trans e
theorem aI (h:o.cls=.type n) (q:n≠"frame":=by decide):iq o:=w2 h q
theorem vA (k:cU bad bad' h h'):(Rp g bad h v x→Rp g bad' h' v x)∧(RpAll g bad h vs l→RpAll g bad' h' vs l):=
 Rp.ind .none .bool .int .str (fun a o vs n l hb ha hc hd _ ih=>let q:=k a o ha (aI hc.1) hb; .list q.1 q.2 hc hd ih) (fun a o vs n l hb ha hc hd _ ih=>let q:=k a o ha (aI hc) hb; .tuple q.1 q.2 hc hd ih)
  (fun a d o ws kvs hb hb' ha hd hf hn hi r ih=>let q:=k a _ ha eR hb; let q':=k d o hd (aI hf.1.1) hb'; .inst q.1 q'.1 q.2 q'.2 hf hn hi rfl ih)
  (fun a o c vs hn hb ha hc hd=>let q:=k a o ha (zC hc.1) hb; .exc hn q.1 q.2 hc hd) (fun a o es n kvs hb hm ha hc hd he _ _ i j=>let q:=k a o ha (aI hc.1) hb; .dict q.1 hm q.2 hc hd he rfl rfl i j) .nil fun _ _ _ _ _ _ i j=>.cons i j
theorem Rp.map (r:Rp g bad h v x) (k:cU bad bad' h h'):Rp g bad' h' v x:=(vA (vs:=[]) (l:=[]) k).1 r
theorem RpAll.map (r:RpAll g bad h vs l) (k:cU bad bad' h h'):RpAll g bad' h' vs l:=(vA (v:=.none) (x:=.none) k).2 r
theorem aG.mapK (k:aG h h'):cU bad bad h h':=fun a o e q n=>⟨n,k.get e q⟩
theorem Rp.keep (r:Rp g bad h v x) (k:aG h h'):Rp g bad h' v x:=r.map k.mapK
theorem RpAll.keep (r:RpAll g bad h vs l) (k:aG h h'):RpAll g bad h' vs l:=r.map k.mapK
theorem RpAll.ind {D:List Value→List V→Prop} (r:RpAll g bad h vs l) (n:D [] []) (c:∀ v vs x l,Rp g bad h v x→RpAll g bad h vs l→D vs l→D (v :: vs) (x :: l)):D vs l:=
 (Rp.ind (v:=.none) (x:=.none) (C:=fun _ _=>True) trivial (fun _=>trivial) (fun _ _=>trivial) (fun _ _=>trivial) (fun _ _ _ _ _ _ _ _ _ _ _=>trivial) (fun _ _ _ _ _ _ _ _ _ _ _=>trivial) (fun _ _ _ _ _ _ _ _ _ _ _ _ _ _=>trivial) (fun _ _ _ _ _ _ _ _ _=>trivial) (fun _ _ _ _ _ _ _ _ _ _ _ _ _ _ _=>trivial) n fun v vs x l r rs _ i=>c v vs x l r rs i).2 r
theorem RpAll.length (r:RpAll g bad h vs l):vs.length=l.length:=r.ind (D:=fun vs l=>vs.length=l.length) rfl fun _ _ _ _ _ _ i=>congrArg (· + 1) i
theorem RpAll.get {i:Nat} (r:RpAll g bad h vs l):l[i]?=some x→∃ v,vs[i]?=some v∧Rp g bad h v x:=by
 refine r.ind (D:=fun vs l=>∀ i,l[i]?=some x→∃ v,vs[i]?=some v∧Rp g bad h v x) (fun i e=>absurd (List.getElem?_nil (i:=i)▸e) nofun) (fun v vs y l r _ ih i e=>?_) i
 cases i with
 | zero=>(injection e with e; subst e); exact ⟨_,rfl,r⟩
 | succ i=>exact ih i e
theorem RpAll.append (r:RpAll g bad h vs l) (q:RpAll g bad h ws m):RpAll g bad h (vs++ws) (l++m):=r.ind (D:=fun vs l=>RpAll g bad h (vs++ws) (l++m)) q fun _ _ _ _ r _ i=>.cons r i
theorem RpAll.take (n:Nat) (r:RpAll g bad h vs l):RpAll g bad h (vs.take n) (l.take n):=by
 refine r.ind (D:=fun vs l=>∀ n,RpAll g bad h (vs.take n) (l.take n)) (fun n=>?_) (fun v vs x l r _ ih n=>?_) n
 ·rw [List.take_nil,List.take_nil]; exact .nil
 ·cases n with
  | zero=>exact .nil
  | succ n=>exact .cons r (ih n)
theorem RpAll.drop (n:Nat) (r:RpAll g bad h vs l):RpAll g bad h (vs.drop n) (l.drop n):=by
 refine r.ind (D:=fun vs l=>∀ n,RpAll g bad h (vs.drop n) (l.drop n)) (fun n=>?_) (fun v vs x l r rs ih n=>?_) n
 ·rw [List.drop_nil,List.drop_nil]; exact .nil
 ·cases n with
  | zero=>exact .cons r rs
  | succ n=>exact ih n
theorem oj:(Rp g bad h v x→x.canLay0=true→∃ as,Reads h v x as)∧(RpAll g bad h vs l→PyData.canLayAll0 l=true→∃ as,ReadsAll h vs l as):=
 Rp.ind (C:=fun v x=>x.canLay0=true→∃ as,Reads h v x as) (D:=fun vs l=>PyData.canLayAll0 l=true→∃ as,ReadsAll h vs l as) (fun _=>⟨_,.none⟩) (fun b _=>⟨_,.bool b⟩) (fun i t _=>⟨_,.int i t⟩) (fun x t _=>⟨_,.str x t⟩)
  (fun a o vs n l hb ha hc hd _ ih q=>(ih q).elim fun _ r=>⟨_,.list ha hc.1 hd r⟩) (fun a o vs n l hb ha hc hd _ ih q=>(ih q).elim fun _ r=>⟨_,.tuple ha hc hd r⟩) (fun _ _ _ _ _ _ _ _ _ _ _ _ _ _ q=>nB q) (fun _ _ _ _ _ _ _ _ _ q=>nB q) (fun _ _ _ _ _ _ _ _ _ _ _ _ _ _ _ q=>nB q) (fun _=>⟨_,.nil⟩)
  fun v vs x l _ _ i j q=>by
   have q:=zA2 q
   obtain ⟨as,r⟩:=i q.1
   obtain ⟨bs,rs⟩:=j q.2
   exact ⟨_,.cons r rs⟩
theorem Rp.reads (r:Rp g bad h v x) (q:x.canLay0=true):∃ as,Reads h v x as:=(oj (vs:=[]) (l:=[])).1 r q
@[elab_as_elim] theorem Rp.none_elim {C:Value→Prop} (r:Rp g bad h v .none) (k:C .none):C v:=by cases r; exact k
@[elab_as_elim] theorem Rp.bool_elim {C:Value→Prop} {b:Bool} (r:Rp g bad h v (.bool b)) (k:C (.bool b)):C v:=by cases r; exact k
@[elab_as_elim] theorem Rp.int_elim {C:Value→Prop} {i:Int} (r:Rp g bad h v (.int i)) (k:∀ t,C (.int i t)):C v:=by cases r; exact k _
@[elab_as_elim] theorem Rp.str_elim {C:Value→Prop} {x:Str} (r:Rp g bad h v (.str x)) (k:∀ t,C (.str x t)):C v:=by cases r with | str _ t=>exact k t
@[elab_as_elim] theorem Rp.list_elim {C:Value→Prop} (r:Rp g bad h v (.list l)) (k:∀ a (o:Obj) vs n,¬ bad a→h.get? a=some o→o.cls=.type "list"∧o.dict=Option.none→o.data=.seq vs n→RpAll g bad h vs.toList l→C (.ref a)):C v:=by
 cases r with | list hb ha hc hd hl=>exact k _ _ _ _ hb ha hc hd hl
@[elab_as_elim] theorem Rp.tuple_elim {C:Value→Prop} (r:Rp g bad h v (.tuple l)) (k:∀ a (o:Obj) vs n,¬ bad a→h.get? a=some o→o.cls=.type "tuple"→o.data=.seq vs n→RpAll g bad h vs.toList l→C (.ref a)):C v:=by
 cases r with | tuple hb ha hc hd hl=>exact k _ _ _ _ hb ha hc hd hl
theorem yF (q:pY kvs=true) (d:dkV kvs=true):False:=by
 cases kvs with
 | nil=>exact nB q
 | cons p r=>
  obtain ⟨x,y⟩:=p
  cases x with
  | none=>exact nomatch (List.all_eq_true.mp d _ (.head _):dC .none=true)
  | _=>exact nB q
@[elab_as_elim] theorem Rp.inst_elim {C:Value→Prop} {kvs:List (V×V)} (r:Rp g bad h v (.dict kvs)) (q:pY kvs=true) (k:∀ a d o ws,¬ bad a→¬ bad d→h.get? a=some (instObj g.C d)→h.get? d=some o→dU g o ws→tT a ws (kvs.map (·.2))→RpAll g bad h ws (kvs.map (·.2))→C (.ref a)):C v:=by
 cases r with
 | inst hb hb' ha hd hf hn _ e hl=>subst e; exact k _ _ _ _ hb hb' ha hd hf hn hl
 | exc=>(injection q; done)
 | dict _ _ _ _ _ he=>exact (yF q he.1).elim
@[elab_as_elim] theorem Rp.dict_elim {C:Value→Prop} {kvs:List (V×V)} (r:Rp g bad h v (.dict kvs)) (q:dkV kvs=true) (k:∀ a (o:Obj) es n,¬ bad a→a≠sysModules→h.get? a=some o→o.ExactDict→o.data=.dict es n→DOk g.w kvs es→RpAll g bad h (es.toList.map (·.key)) (kvs.map (·.1))→RpAll g bad h (es.toList.map (·.val)) (kvs.map (·.2))→C (.ref a)):C v:=by
 cases r with
 | inst _ _ _ _ _ _ q'=>exact (yF q' q).elim
 | exc=>(injection q; done)
 | dict hb hm ha hc hd he e1 e2 r1 r2=>subst e1 e2; exact k _ _ _ _ hb hm ha hc hd he r1 r2
end
end
inductive Pl where
 | ns (a:Addr) (x:Str)
 | cell (c:Addr)
 | off
noncomputable def Pl.addr:Pl→Option Addr
 | .ns a _=>some a
 | .cell c=>some c
 | .off=>none
noncomputable def aZ (h:Heap):Pl→Option Value→Prop
 | .ns a x,v=>∃ m,h.Ns a m∧m x=v
 | .cell c,v=>h.IsCell c v
 | .off,v=>v=none
structure Fx where
 g:Gl
 A:Around
 env:Env
 ρ:List (Str×Nat)
 pl:Nat→Pl
 Mo:Addr→Prop
 nf:Nat
 ns:Nat
 d:Nat
 hm:Bool
 nw:Bool
structure Ct where
 fx:Fx
 oa:Nat→Option Addr
 G:Gs
def Ct.own (Φ:Ct) (a:Addr):Prop:=(∃ k,(Φ.fx.pl k).addr=some a)∨∃ k,Φ.oa k=some a
def Ct.bad (Φ:Ct) (a:Addr):Prop:=Φ.fx.Mo a∨Φ.own a
inductive OwnLAt (g:Gl) (bad:Addr→Prop) (h:Heap) (a:Addr) (u:Value) (l:List V):Prop
 | mk (e:u=.ref a) (o:Obj) (vs:Array Value) (n:Nat) (ho:h.get? a=some o) (hc:o.cls=.type "list"∧o.dict=none) (hd:o.data=.seq vs n) (hl:RpAll g bad h vs.toList l):OwnLAt g bad h a u l
inductive OwnDAt (g:Gl) (bad:Addr→Prop) (h:Heap) (a:Addr) (u:Value) (l:List (V×V)):Prop
 | mk (e:u=.ref a) (o:Obj) (es:Array DictEntry) (n:Nat) (ho:h.get? a=some o) (hc:o.ExactDict) (hd:o.data=.dict es n) (hk:DOk g.w l es) (r1:RpAll g bad h (es.toList.map (·.key)) (l.map (·.1))) (r2:RpAll g bad h (es.toList.map (·.val)) (l.map (·.2))):OwnDAt g bad h a u l
inductive OwnIAt (g:Gl) (bad:Addr→Prop) (h:Heap) (a:Addr) (u:Value) (l:List V):Prop
 | mk (b:Addr) (o:Obj) (ws:List Value) (e:u=.ref b) (eb:b=a+1) (nb:¬ bad b) (hb:h.get? b=some (instObj g.C a)) (ho:h.get? a=some o) (hf:dU g o ws) (hn:tT b ws l) (hl:RpAll g bad h ws l):OwnIAt g bad h a u l
noncomputable def gf (g:Gl) (bad:Addr→Prop) (h:Heap) (a:Addr) (u:Value):Slot→Prop
 | .ownL l=>OwnLAt g bad h a u l
 | .ownD l=>OwnDAt g bad h a u l
 | .ownI l=>OwnIAt g bad h a u l
 | _=>False
noncomputable def dS (g:Gl) (bad:Addr→Prop) (h:Heap) (oak:Option Addr) (v:Option Value):Slot→Prop
 | .unset=>oak=none∧v=none
 | .v x=>oak=none∧∃ u,v=some u∧Rp g bad h u x
 | sl=>∃ a u,oak=some a∧v=some u∧gf g bad h a u sl
def gx (h0 h:Heap) (l:List Env):Prop:=∀ env∈l,env.scope.kind≠.module∧∃ L o,env.frame=some L∧h0.get? L=none∧h.get? L=some o∧o.cls=.type "frame"∧∀ vs,o.data≠.fields vs
def fk (g:Gl) (A:Around) (h:Heap):Prop:=∃ l,A.frames=some l∧gx g.h0 h l
inductive ExcAt (h:Heap) (lo:Heap) (e:Addr) (cls fl:Value):Prop
 | mk (oe:Obj) (vs:Array Value):h.get? e=some oe→oe.cls=cls→oe.dict=none→oe.data=.fields vs→lo.get? e=none→1 < vs.size →
  (vs[1]?=some .none∨∃ T oT ts,vs[1]?=some (.ref T)∧T≠e∧lo.get? T=none∧h.get? T=some oT∧oT.data=.fields ts∧ts[3]?=some fl)→ExcAt h lo e cls fl
theorem fk.of (x:fk g A h) (e:A.frames=some l):gx g.h0 h l:=x.elim fun _ q=>Option.some.inj (q.1.symm.trans e)▸q.2
theorem ExcAt.el {h lo:Heap} {e:Addr} {cls fl:Value} {Z:Prop} (x:ExcAt h lo e cls fl) (k:∀ oe vs,h.get? e=some oe→oe.cls=cls→oe.dict=none→oe.data=.fields vs→lo.get? e=none→Z):Z:=by
 cases x with | mk oe vs a b c d e=>exact k oe vs a b c d e
inductive CallX (g:Gl) (s:Shared) (K:V→Prop) (x:Value) (s':Shared):Prop
 | mk:Base g s'→aG s.heap s'.heap→∀ c e,x=.ref e→c < g.nc→K (fA c)→ExcAt s'.heap s.heap e (.ref (g.cls c)) .none→CallX g s K x s'
inductive CallP (g:Gl) (bad:Addr→Prop) (f:Nat) (s:Shared) (K:V→Prop) (v:Value) (s':Shared):Prop
 | mk:Base g s'→aG s.heap s'.heap→∀ y,K y→noX y=true→Rp g bad s'.heap v y→(g.newf f=true→lj s.heap v)→CallP g bad f s K v s'
def ny (hm:Bool) (A:Around):Prop:=hm=false→A.handled=none
def eX (g:Gl) (cf:ai) (d:Nat):Prop:=∀ hm f args K A s bad vals,cf f args K→ny hm A→(hm=true→g.safe f=true)→A.depth+2 * d < 990→A.units+4 * d+100 < cLine→Base g s→fk g A s.heap→(∀ a,bad a→aQ s.heap a)→(∀ a,bad a→g.h0.get? a=none)→RpAll g bad s.heap vals args →
 wpAny (model g.prog g.w) A (call (.ref (g.fn f)) vals) (CallP g bad f s K) (CallX g s K) s
structure ClsOk (g:Gl):Prop where
 hga:findIn g.K (.ref g.C) "__getattribute__"=some (some (.builtin "object.__getattribute__"))
 hgk:findIn g.K (.ref g.C) "__getattr__"=some none
 hsa:findIn g.K (.ref g.C) "__setattr__"=some (some (.builtin "object.__setattr__"))
 over:plainOver g.K g.C=true
 hdict:(clsIn g.K g.C).any (·.hasDict)=true
 flds:∀ x∈g.flds,findIn g.K (.ref g.C) x=some none
 makes:makesIn g.K g.C=true
 nodup:g.flds.Nodup
 few:g.flds.length≤1000
inductive RaiseOk (g:Gl) (c:Nat):Prop
 | mk (nm q:Str) (N:Addr) (bs bm bmB:List Value) (hdct:Bool) (sn:List Str) (sub:List Value) (ab:Bool) (col:Option Bool) (dd:Option Addr) (k0 k1 k2 k3 k5:Option Value) (B newId initId:String) (mN:Str→Option Value) (f0:ExcBaseFacts B newId initId bmB) (f1:bm.contains (.type "BaseException")=true) (f2:mN "__init__"=none) (f3:g.h0.get? (g.cls c)=some (excClassObj nm q (g.cls c) N bs bm hdct sn sub ab col dd k0 k1 k2 k3 k5 newId)) (f4:g.h0.Ns N mN) (f5:OwnTail g.h0 bmB bm):RaiseOk g c
def mD (g:Gl) (c c':Nat) (b:Bool):Prop:=∀ (A:Around) (E:Value→Shared→Prop) (Q:Bool→Shared→Prop) (s:Shared) (e:Addr) (o:Obj),aH g.h0 s.heap→s.heap.get? e=some o→o.cls=.ref (g.cls c)→Q b s →
 wpAny (model g.prog g.w) A (excMatches (.ref e) (.ref (g.cls c'))) Q E s
def yV (g:Gl) (c:Nat) (cv:Value) (b:Bool):Prop:=∀ (A:Around) (E:Value→Shared→Prop) (Q:Value→Shared→Prop) (s:Shared) (e:Addr) (o:Obj),aH g.h0 s.heap→s.heap.get? e=some o→o.cls=.ref (g.cls c)→o.dict=none→(∃ vs,o.data=.fields vs) →
 (∀ n,Q (.bool b) { s with toks:=n })→wpAny (model g.prog g.w) A (call (.builtin "isinstance") [.ref e,cv]) Q E s
noncomputable def im (g:Gl) (c:Nat):Value:=if c=g.nc then .type "ValueError" else .ref (g.cls c)
structure Ground (g:Gl):Prop where
 main:g.h0.Ns mainGlobals g.mg
 blt:g.h0.Ns builtinsNs g.mb
 nolim:g.h0.NoLimit
 sysm:aQ g.h0 sysModules
 frag:g.K.In g.h0
 cls:ClsOk g
 fns:∀ x f,g.fns.lookup x=some f→g.mg x=some (.ref (g.fn f))
 cons:∀ x v,g.cons.lookup x=some v→∃ u,g.mg x=some u∧∀ (bad:Addr→Prop) h,aH g.h0 h→(∀ a,bad a→g.h0.get? a=none)→Rp g bad h u v
 blts:∀ x v,bC.lookup x=some v→g.mg x=none∧g.mb x=some v
 clss:∀ x c,g.clss.lookup x=some c→c < g.nc∧g.mg x=some (.ref (g.cls c))
 raises:∀ c,c < g.nc→RaiseOk g c
 catches:∀ c c',c < g.nc→c' < g.nc→mD g c c' (g.P.sup c c')
 isi:∀ c c',c < g.nc→c'≤g.nc→yV g c (im g c') (g.P.sup c c')
class Hm (fx:Fx):Prop where
 no:fx.hm=false
structure FxOk (fx:Fx):Prop where
 gr:Ground fx.g
 hand:ny fx.hm fx.A
 kind:fx.env.scope.kind=.function
 globals:fx.env.globals=mainGlobals
 builtins:fx.env.builtins=builtinsNs
 vis:∀ x k,fx.ρ.lookup x=some k→(fx.env.kindOf x=some .local∧fx.pl k=.ns fx.env.locals x)∨((fx.env.kindOf x=some .cell∨fx.env.kindOf x=some .free)∧∃ c,fx.env.cells.lookup x=some c∧fx.pl k=.cell c)
 inj:∀ k j,fx.pl k=fx.pl j→fx.pl k≠.off→k=j
 apart:∀ k j a x c,fx.pl k=.ns a x→fx.pl j=.cell c→a≠c
 offs:∀ k,fx.nf≤k→fx.pl k=.off
 nfs:fx.nf≤fx.ns
 room:fx.A.depth+2 * fx.d < 990
 units:fx.A.units+4 * fx.d+100 < cLine
 call:eX fx.g (al fx.g.P fx.d) fx.d
 mo0:∀ a,fx.Mo a→fx.g.h0.get? a=none
structure Inv (Φ:Ct) (s:Shared):Prop where
 ok:FxOk Φ.fx
 base:Base Φ.fx.g s
 slot:∀ k,∃ v,aZ s.heap (Φ.fx.pl k) v∧dS Φ.fx.g Φ.bad s.heap (Φ.oa k) v (getSlot Φ.G k)
 new:∀ a,Φ.own a→aQ s.heap a∧Φ.fx.g.h0.get? a=none∧¬ Φ.fx.Mo a
 inj:∀ k j a,Φ.oa k=some a→Φ.oa j=some a→k=j
 off:∀ k a,Φ.oa k=some a→∀ j,(Φ.fx.pl j).addr≠some a
 gl:Φ.G.length=Φ.fx.ns
 mo:∀ a,Φ.fx.Mo a→aQ s.heap a
 fr:fk Φ.fx.g Φ.fx.A s.heap
section
variable {g:Gl} {Φ:Ct} {s s' s₁:Shared} {h h':Heap} {bad bad':Addr→Prop} {α β γ δ:Type}
theorem uB (k:aG h h') (r:h.Ns a m):h'.Ns a m:=by
 obtain ⟨o,es,n,ho,q⟩:=r
 obtain ⟨sl,e,_⟩:=k a o ho
 exact ⟨_,es,n,e,q⟩
theorem aZ.keep (k:aG h h') (r:aZ h p v):aZ h' p v:=by
 cases p with
 | ns a x=>obtain ⟨m,hn,hv⟩:=r; exact ⟨m,uB k hn,hv⟩
 | cell c=>obtain ⟨o,ho,hd⟩:=r; obtain ⟨sl,e,_⟩:=k c o ho; exact ⟨_,e,hd⟩
 | off=>exact r
theorem gx.keep (f:gx h0 h l) (k:aG h h'):gx h0 h' l:=fun env m=>by
 obtain ⟨hk,L,o,hf,hn,ho,hc,hd⟩:=f env m
 obtain ⟨sl,e,_⟩:=k L o ho
 exact ⟨hk,L,_,hf,hn,e,hc,hd⟩
theorem fk.keep (f:fk g A h) (k:aG h h'):fk g A h':=f.elim fun l q=>⟨l,q.1,q.2.keep k⟩
theorem gf.map (r:gf g bad h a u sl) (k:cU bad bad' h h') (t:∀ o,h.get? a=some o→iq o→h'.get? a=some o):gf g bad' h' a u sl:=by
 cases sl with
 | ownL l=>obtain ⟨e,o,vs,n,ho,hc,hd,hl⟩:=r; exact ⟨e,o,vs,n,t o ho (aI hc.1),hc,hd,hl.map k⟩
 | ownD l=>obtain ⟨e,o,es,n,ho,hc,hd,hk,r1,r2⟩:=r; exact ⟨e,o,es,n,t o ho (aI hc.1),hc,hd,hk,r1.map k,r2.map k⟩
 | ownI l=>obtain ⟨b,o,ws,e,eb,nb,hb,ho,hf,hn,hl⟩:=r; exact ⟨b,o,ws,e,eb,(k _ _ hb eR nb).1,(k _ _ hb eR nb).2,t o ho (aI hf.1.1),hf,hn,hl.map k⟩
 | _=>exact r
theorem dS.map (r:dS g bad h oak v sl) (k:cU bad bad' h h') (t:∀ a,oak=some a→∀ o,h.get? a=some o→iq o→h'.get? a=some o):dS g bad' h' oak v sl:=by
 cases sl with
 | unset=>exact r
 | v x=>obtain ⟨e,u,q,rp⟩:=r; exact ⟨e,u,q,rp.map k⟩
 | _=>obtain ⟨a,u,e,q,rp⟩:=r; exact ⟨a,u,e,q,rp.map k (t a e)⟩
theorem Inv.keep (I:Inv Φ s) (B:Base Φ.fx.g s') (k:aG s.heap s'.heap):Inv Φ s' where
 ok:=I.ok
 base:=B
 slot:=fun j=>let ⟨v,r,x⟩:=I.slot j; ⟨v,r.keep k,x.map k.mapK fun a _ o e n=>k.get e n⟩
 new:=fun a q=>let ⟨x,y⟩:=I.new a q; ⟨k.live x,y⟩
 inj:=I.inj
 off:=I.off
 gl:=I.gl
 mo:=fun a q=>k.live (I.mo a q)
 fr:=I.fr.keep k
theorem Inv.bad0 (I:Inv Φ s) (b:Φ.bad a):Φ.fx.g.h0.get? a=none:=b.elim (I.ok.mo0 a) fun b=>(I.new a b).2.1
theorem Inv.badLive (I:Inv Φ s) (b:Φ.bad a):aQ s.heap a:=b.elim (I.mo a) fun b=>(I.new a b).1
abbrev Ct.wp (Φ:Ct) (t:Sem α) (Q:α→Shared→Prop) (s:Shared):Prop:=∀ E,wpAny (model Φ.fx.g.prog Φ.fx.g.w) Φ.fx.A t Q E s
inductive Post (Φ:Ct) (R:Heap→α→β→Prop) (s:Shared) (K:β→Prop) (a:α) (s':Shared):Prop
 | mk:Base Φ.fx.g s'→aG s.heap s'.heap→∀ y,K y→R s'.heap a y→Post Φ R s K a s'
def EvR (Φ:Ct) (R:Heap→α→β→Prop) (t:Sem α) (d:(β→Prop)→Prop):Prop:=∀ K s,d K→Inv Φ s→Φ.wp t (Post Φ R s K) s
noncomputable abbrev Ct.rp (Φ:Ct):Heap→Value→V→Prop:=Rp Φ.fx.g Φ.bad
noncomputable abbrev Ct.rps (Φ:Ct):Heap→List Value→List V→Prop:=RpAll Φ.fx.g Φ.bad
abbrev Ev (Φ:Ct) (t:Sem Value) (d:(V→Prop)→Prop):Prop:=EvR Φ Φ.rp t d
abbrev EvT (Φ:Ct) (t:Sem Bool) (d:(Bool→Prop)→Prop):Prop:=EvR Φ (fun _=>Eq) t d
abbrev EvL (Φ:Ct) (t:Sem (List Value)) (d:(List V→Prop)→Prop):Prop:=EvR Φ Φ.rps t d
def g9 (Φ:Ct) (s:Shared) (K:V→Prop) (v:Value) (s':Shared):Prop:=Post Φ (Rp Φ.fx.g Φ.bad) s K v s'∧lj s.heap v
def EvN (Φ:Ct) (t:Sem Value) (d:(V→Prop)→Prop):Prop:=∀ K s,d K→Inv Φ s→Φ.wp t (g9 Φ s K) s
theorem Post.lift {R:Heap→α→β→Prop} {K:β→Prop} (p:Post Φ R s₁ K a s') (k:aG s.heap s₁.heap):Post Φ R s K a s':=by
 cases p with | mk B k' y ky r=>exact ⟨B,k.trans k',y,ky,r⟩
theorem g9.lift {K:V→Prop} (p:g9 Φ s₁ K v s') (k:aG s.heap s₁.heap):g9 Φ s K v s':=⟨p.1.lift k,p.2.le fun _=>k.live⟩
def ju (Φ:Ct) (n:Bool) (s:Shared) (K:V→Prop) (v:Value) (s':Shared):Prop:=Post Φ (Rp Φ.fx.g Φ.bad) s K v s'∧(n=true→lj s.heap v)
def EvC (Φ:Ct) (n:Bool) (t:Sem Value) (d:(V→Prop)→Prop):Prop:=∀ K s,d K→Inv Φ s→Φ.wp t (ju Φ n s K) s
theorem ju.lift {K:V→Prop} (p:ju Φ n s₁ K v s') (k:aG s.heap s₁.heap):ju Φ n s K v s':=⟨p.1.lift k,fun q=>(p.2 q).le fun _=>k.live⟩
theorem EvC.ev (x:EvC Φ n t d):Ev Φ t d:=fun K s hd I E=>wpAny_mono (x K s hd I E) (fun _ _ p=>p.1) fun _ _ z=>z
theorem EvC.evN (x:EvC Φ n t d) (h:n=true):EvN Φ t d:=fun K s hd I E=>wpAny_mono (x K s hd I E) (fun _ _ p=>⟨p.1,p.2 h⟩) fun _ _ z=>z
theorem EvN.ev (x:EvN Φ t d):Ev Φ t d:=fun K s hd I E=>wpAny_mono (x K s hd I E) (fun _ _ p=>p.1) fun _ _ z=>z
theorem EvR.bind {R:Heap→α→β→Prop} {R':Heap→γ→δ→Prop} {f:α→Sem γ} {d:(β→Prop)→Prop} {K₁:β→Prop} {K:δ→Prop} (x:EvR Φ R t d) (hd:d K₁) (I:Inv Φ s)
  (y:∀ a b s₁,Inv Φ s₁→aG s.heap s₁.heap→K₁ b→R s₁.heap a b→Φ.wp (f a) (Post Φ R' s₁ K) s₁):Φ.wp (t >>= f) (Post Φ R' s K) s:=fun E=>
 zC1 (wpAny_mono (x K₁ s hd I E) (fun a s₁ ⟨B,k,b,kb,r⟩=>wpAny_mono (y a b s₁ (I.keep B k) k kb r E) (fun _ _ p=>p.lift k) fun _ _ z=>z) fun _ _ z=>z)
theorem EvR.bindC {R:Heap→α→β→Prop} {f:α→Sem Value} {d:(β→Prop)→Prop} {K₁:β→Prop} {K:V→Prop} (x:EvR Φ R t d) (hd:d K₁) (I:Inv Φ s)
  (y:∀ a b s₁,Inv Φ s₁→aG s.heap s₁.heap→K₁ b→R s₁.heap a b→Φ.wp (f a) (ju Φ n s₁ K) s₁):Φ.wp (t >>= f) (ju Φ n s K) s:=fun E=>
 zC1 (wpAny_mono (x K₁ s hd I E) (fun a s₁ ⟨B,k,b,kb,r⟩=>wpAny_mono (y a b s₁ (I.keep B k) k kb r E) (fun _ _ p=>p.lift k) fun _ _ z=>z) fun _ _ z=>z)
theorem EvR.holding (x:EvR Φ R t d):EvR Φ R (holding vs t) d:=fun K s hd I E=>wpAny_holding (x K s hd I E)
theorem EvR.pure {R:Heap→α→β→Prop} {K:β→Prop} (I:Inv Φ s) (k:K b) (r:R s.heap a b):Φ.wp (pure a) (Post Φ R s K) s:=fun E=>zC2 ⟨I.base,.refl _,b,k,r⟩
theorem a9 (x:Φ.wp (t ()) Q s):Φ.wp (standAt p >>= t) Q s:=fun E=>zC1 (wpAny_standAt (x E))
structure Grown (s s':Shared):Prop where
 stays:aH s.heap s'.heap
 os:s'.os=s.os
 gens:s'.gens=s.gens
theorem Grown.keeps (x:Grown s s'):aG s.heap s'.heap:=x.stays.keeps
theorem Grown.refl (s:Shared):Grown s s:=⟨fun _ _ e=>e,rfl,rfl⟩
theorem Grown.trans (x:Grown s₁ s₂) (y:Grown s₂ s₃):Grown s₁ s₃:=⟨x.stays.trans y.stays,y.os.trans x.os,y.gens.trans x.gens⟩
theorem Grown.toks (s:Shared) (n:Nat):Grown s { s with toks:=n }:=⟨fun _ _ e=>e,rfl,rfl⟩
theorem Grown.push (s:Shared) (o:Obj) (n:Nat):Grown s { s with heap:=s.heap.push o,toks:=n }:=⟨av _ _,rfl,rfl⟩
theorem Base.grown (B:Base g s) (x:Grown s s'):Base g s':=⟨B.stays.trans x.stays,x.os.trans B.os,x.gens.trans B.gens⟩
abbrev Ct.Gives (Φ:Ct) (s:Shared) (z:V) (v:Value) (s':Shared):Prop:=Grown s s'∧Φ.rp s'.heap v z
theorem step {R:Heap→α→β→Prop} {K:β→Prop} (I:Inv Φ s) (kz:K z) (h:Φ.wp t (fun a s'=>Grown s s'∧R s'.heap a z) s):Φ.wp t (Post Φ R s K) s:=fun E=>
 wpAny_mono (h E) (fun a s' p=>⟨I.base.grown p.1,p.1.keeps,z,kz,p.2⟩) fun _ _ z=>z
theorem ag {o:Option α} {K:α→Prop} {C:Prop} (h:okK o K) (k:∀ z,o=some z→K z→C):C:=by
 cases o with
 | none=>exact h.elim
 | some z=>exact k z rfl h
theorem bT {E:Value→Shared→Prop} {Q:Unit→Shared→Prop} (h:Q () s):wpAny M A (release vs keep) Q E s:=by
 unfold release
 generalize (vs.filter fun | .ref _=>true | _=>false)=l
 induction l with
 | nil=>exact wpAny_pure h
 | cons x r ih=>
  cases r with
  | nil=>exact wpAny_pure h
  | cons y r=>
   unfold release.go
   exact zC1 (wpAny_holding (wpAny_point ih))
theorem dx (x:Φ.wp t Q s):Φ.wp (operate vs t) Q s:=fun E=>by
 unfold PySem.operate
 exact zC1 (wpAny_holding (wpAny_mono (x E) (fun a s' p=>zC1 (bT (wpAny_pure p))) fun _ _ z=>z))
end
section
variable {Φ:Ct} {s:Shared}
theorem bZ (ok:FxOk Φ.fx) (hx:Φ.fx.ρ.lookup x=some k) (hn:aR x=true) (r:aZ s.heap (Φ.fx.pl k) (some v)) (h:Q v s):Φ.wp (eval (.Name x pos) Φ.fx.env) Q s:=fun E=>by
 have hn:=zA2 hn
 have h1:=Bool.not_eq_true' _▸hn.1
 rcases ok.vis x k hx with ⟨hl,hp⟩ | ⟨hl,c,hc,hp⟩
 ·rw [hp] at r
  obtain ⟨m,hns,hv⟩:=r
  exact wpAny_Name (wpAny_loadName_local ok.kind hl hns hv h) h1
 ·rw [hp] at r
  rcases hl with hl | hl
  ·exact wpAny_Name (wpAny_loadName_cell ok.kind hl hc r h) h1
  ·exact wpAny_Name (wpAny_loadName_free ok.kind hl hc r h (Bool.not_eq_true' _▸hn.2)) h1
theorem tX (e:xX G k=some x):getSlot G k=.v x:=by
 unfold xX at e
 revert e
 cases getSlot G k with
 | v m=>exact fun e=>congrArg Slot.v (Option.some.inj e)
 | _=>exact fun e=>nN e.symm
theorem Ah {x:Str} {k:Nat} {pos:Pos} (hx:Φ.fx.ρ.lookup x=some k) (hn:aR x=true):Ev Φ (eval (.Name x pos) Φ.fx.env) (okK (xX Φ.G k)):=fun K s hd I=>ag hd fun y e ky=>by
 obtain ⟨v,pr,so⟩:=I.slot k
 rw [tX e] at so
 obtain ⟨_,u,rfl,rp⟩:=so
 exact bZ I.ok hx hn pr ⟨I.base,.refl _,y,ky,rp⟩
theorem oz (hx:Φ.fx.ρ.lookup x=some k) (hn:aR x=true) (I:Inv Φ s) (e:getSlot Φ.G k=sl) (ho:∀ {oak v},dS Φ.fx.g Φ.bad s.heap oak v sl→∃ a u,oak=some a∧v=some u∧gf Φ.fx.g Φ.bad s.heap a u sl)
  (h:∀ a u,Φ.oa k=some a→gf Φ.fx.g Φ.bad s.heap a u sl→Q u s):Φ.wp (eval (.Name x pos) Φ.fx.env) Q s:=by
 obtain ⟨v,pr,so⟩:=I.slot k
 rw [e] at so
 obtain ⟨a,u,ha,rfl,oa⟩:=ho so
 exact bZ I.ok hx hn pr (h a u ha oa)
end
section
variable {α:Type} {C:V→Prop} {x:V} {z:α}
theorem bv (e:kX x f=some z) (k:∀ i,f i=some z→C (.int i)):C x:=by
 cases x <;> first | exact k _ e | (injection e; done)
theorem eC (e:vm x f=some z) (k:∀ t:Str,f t.cps.toList=some z→C (.str t)):C x:=by
 cases x <;> first | exact k _ e | (injection e; done)
theorem bW (e:fV x f=some z) (k:∀ l,f l=some z→C (.list l)):C x:=by
 cases x <;> first | exact k _ e | (injection e; done)
theorem sG (e:B4 x f=some z) (k:∀ l,f l=some z→C (.tuple l)):C x:=by
 cases x <;> first | exact k _ e | (injection e; done)
theorem fj (e:cG x f=some z) (k:∀ b,f b=some z→C (.bool b)):C x:=by
 cases x <;> first | exact k _ e | (injection e; done)
end
section
variable {α β:Type}
@[elab_as_elim] theorem some_elim {C:α→Prop} {a b:α} (e:some a=some b) (k:C a):C b:=Option.some.inj e▸k
@[elab_as_elim] theorem if_elim {C:α→Prop} {p:Prop} [Decidable p] {a z:α} (e:(if p then some a else none)=some z) (k:p→C a):C z:=by
 by_cases h:p
 ·rw [if_pos h] at e; exact some_elim e (k h)
 ·rw [if_neg h] at e; (injection e; done)
@[elab_as_elim] theorem ifn_elim {C:α→Prop} {p:Prop} [Decidable p] {a z:α} (e:(if p then none else some a)=some z) (k:¬ p→C a):C z:=by
 by_cases h:p
 ·rw [if_pos h] at e; (injection e; done)
 ·rw [if_neg h] at e; exact some_elim e (k h)
theorem bi {C:Prop} {p:Prop} [Decidable p] {a:Option α} {z:α} (e:(if p then a else none)=some z) (k:p→a=some z→C):C:=by
 by_cases h:p
 ·rw [if_pos h] at e; exact k h e
 ·rw [if_neg h] at e; (injection e; done)
@[elab_as_elim] theorem map_elim {C:β→Prop} {f:α→β} {o:Option α} {z:β} (e:o.map f=some z) (k:∀ a,o=some a→C (f a)):C z:=by
 cases o with
 | none=>(injection e; done)
 | some a=>exact some_elim e (k a rfl)
@[elab_as_elim] theorem fit_elim {C:β→Prop} {l:List α} {a z:β} (e:db l a=some z) (k:l.length≤am→C a):C z:=if_elim e k
end
theorem cK (h:n≤am):n≤sizeLine:=zB1 h (by decide)
section
variable {Φ:Ct} {s:Shared} {v u:Value} {x y z:V}
theorem Inv.fresh (I:Inv Φ s):¬ Φ.bad s.heap.objs.size:=fun q=>by obtain ⟨o,e⟩:=I.badLive q; rw [ak] at e; (injection e; done)
theorem Inv.room (I:Inv Φ s):Φ.fx.A.units+100 < cLine:=by exact Nat.lt_of_le_of_lt (Nat.add_le_add_right (Nat.le_add_right _ _) _) I.ok.units
theorem gC (I:Inv Φ s) (r:Φ.rps s.heap vs l):Φ.Gives s (.list l) (.ref s.heap.objs.size) { s with heap:=s.heap.push { cls:=.type "list",data:=.seq vs.toArray n },toks:=tk }:=
 ⟨Grown.push _ _ _,.list I.fresh (Heap.get?_push_size _ rfl) ⟨rfl,rfl⟩ rfl (r.keep (dD _ _))⟩
theorem fg (I:Inv Φ s) (r:Φ.rps s.heap vs l):Φ.Gives s (.tuple l) (.ref s.heap.objs.size) { s with heap:=s.heap.push { cls:=.type "tuple",data:=.seq vs.toArray n },toks:=tk }:=
 ⟨Grown.push _ _ _,.tuple I.fresh (Heap.get?_push_size _ rfl) rfl rfl (r.keep (dD _ _))⟩
theorem AQ {b:Int} (h:b.natAbs≤1000000):b < 2 ^ 64:=Int.lt_of_le_of_lt Int.le_natAbs (Int.lt_of_le_of_lt (Int.ofNat_le.mpr h) (by decide))
theorem Cl (h:b.natAbs≤1000000):-2 ^ 64 < b:=Int.neg_lt_of_neg_lt (AQ ((Int.natAbs_neg b).symm▸h))
theorem ta (h:b.natAbs≤1000000∨a.natAbs≤1000000):IntMulOk a b:=by
 rcases h with h | h
 ·exact .of_right (intBits_le_64 (Cl h) (AQ h))
 ·exact .of_left (intBits_le_64 (Cl h) (AQ h))
theorem iH (x:Str):(⟨x.cps.toList.toArray⟩:Str)=x:=by cases x; simp
theorem Rp.text {g:Gl} {bad:Addr→Prop} {h:Heap} {x:Str} {l:List Nat} {t:Tok} (e:x.cps.toList=l):Rp g bad h (.str x t) (text l):=by
 subst e; unfold Mine.text; rw [iH]; exact .str x t
theorem qv (hz:(a.cps.toList++b.cps.toList).length≤am):Φ.wp (binaryOp .Add (.str a t) (.str b t')) (Φ.Gives s (text (a.cps.toList++b.cps.toList))) s:=fun E=>by
 refine P.add_str ?_
 split
 ·rename_i h0
  have:a.cps.toList=[]:=List.length_eq_zero_iff.mp (Array.length_toList.trans (eq_of_beq h0))
  exact ⟨.refl _,.text (by rw [this]; rfl)⟩
 ·split
  ·rename_i h0
   have:b.cps.toList=[]:=List.length_eq_zero_iff.mp (Array.length_toList.trans (eq_of_beq h0))
   exact ⟨.refl _,.text (by rw [this,List.append_nil])⟩
  ·refine ⟨?_,.toks _ _,.text Array.toList_append⟩
   refine (?_:(_++_:Array Nat).size≤sizeLine)
   rw [zB5,zB3,zB3] at hz
   rw [Array.size_append]; exact cK hz
theorem nQ (I:Inv Φ s) (hz:(l++m).length≤am) (r1:Φ.rp s.heap v (.list l)) (r2:Φ.rp s.heap u (.list m)):Φ.wp (binaryOp .Add v u) (Φ.Gives s (.list (l++m))) s:=fun E=>by
 refine r1.list_elim fun a1 o1 vs1 n1 _ ha1 hc1 hd1 hl1=>r2.list_elim fun a2 o2 vs2 n2 _ ha2 hc2 hd2 hl2=>?_
 obtain ⟨cls,dd,data,sl⟩:=o1
 obtain ⟨cls2,dd2,data2,sl2⟩:=o2
 obtain ⟨rfl,rfl⟩:=hc1
 obtain ⟨rfl,rfl⟩:=hc2
 subst hd1
 subst hd2
 refine concat_meets ⟨_,ha1,rfl⟩ ⟨_,ha2,rfl⟩ noFill_list_add seq_list_add PySem.F.slot_list_add PySem.F.entry_list_add (PySem.F.args_list_add_2 _ _) (list_addW a1 a2 vs1 vs2 n1 n2 _ _ sl sl2 ?_) ⟨ha1,ha2,?_⟩
 ·have:=(hl1.append hl2).length
  rw [zB5,zB3,zB3] at this
  rw [this]; exact cK hz
 ·have q:=gC (n:=0) (tk:=s.toks) I (hl1.append hl2)
  rw [show (vs1.toList++vs2.toList).toArray=vs1++vs2 by simp] at q
  exact q
theorem lC (I:Inv Φ s) (hz:(l++m).length≤am) (r1:Φ.rp s.heap v (.tuple l)) (r2:Φ.rp s.heap u (.tuple m)):Φ.wp (binaryOp .Add v u) (Φ.Gives s (.tuple (l++m))) s:=fun E=>by
 refine Rp.tuple_elim (C:=fun v=>Φ.rp s.heap v (.tuple l)→wpAny (model Φ.fx.g.prog Φ.fx.g.w) Φ.fx.A (binaryOp .Add v u) (Φ.Gives s (.tuple (l++m))) E s) r1 (fun a1 o1 vs1 n1 _ ha1 hc1 hd1 hl1 r1=>?_) r1
 refine Rp.tuple_elim (C:=fun u=>Φ.rp s.heap u (.tuple m)→wpAny (model Φ.fx.g.prog Φ.fx.g.w) Φ.fx.A (binaryOp .Add (.ref a1) u) (Φ.Gives s (.tuple (l++m))) E s) r2 (fun a2 o2 vs2 n2 _ ha2 hc2 hd2 hl2 r2=>?_) r2
 obtain ⟨cls,dd,data,sl⟩:=o1
 obtain ⟨cls2,dd2,data2,sl2⟩:=o2
 subst hc1
 subst hc2
 subst hd1
 subst hd2
 have len:=(hl1.append hl2).length
 replace len:=Array.length_toList▸Array.length_toList▸List.length_append▸len
 by_cases c0:vs1.isEmpty=true
 ·have:vs1.toList=[]:=by simpa using c0
  have hl:l=[]:=List.length_eq_zero_iff.mp (by rw [← hl1.length,this]; rfl)
  subst hl
  exact concat_meets ⟨_,ha1,rfl⟩ ⟨_,ha2,rfl⟩ noFill_tuple_add seq_tuple_add PySem.F.slot_tuple_add PySem.F.entry_tuple_add (PySem.F.args_tuple_add_2 _ _) (tuple_addW0 a1 a2 vs1 vs2 n1 n2 dd dd2 sl sl2 c0) ⟨ha1,ha2,.refl _,r2⟩
 ·by_cases c1:vs2.isEmpty=true
  ·have:vs2.toList=[]:=by simpa using c1
   have hl:m=[]:=List.length_eq_zero_iff.mp (by rw [← hl2.length,this]; rfl)
   subst hl
   rw [List.append_nil]
   exact concat_meets ⟨_,ha1,rfl⟩ ⟨_,ha2,rfl⟩ noFill_tuple_add seq_tuple_add PySem.F.slot_tuple_add PySem.F.entry_tuple_add (PySem.F.args_tuple_add_2 _ _) (tuple_addW1 a1 a2 vs1 vs2 n1 n2 dd dd2 sl sl2 c0 c1) ⟨ha1,ha2,.refl _,r1⟩
  ·refine concat_meets ⟨_,ha1,rfl⟩ ⟨_,ha2,rfl⟩ noFill_tuple_add seq_tuple_add PySem.F.slot_tuple_add PySem.F.entry_tuple_add (PySem.F.args_tuple_add_2 _ _) (tuple_addW2 a1 a2 vs1 vs2 n1 n2 dd dd2 sl sl2 c0 c1 (by rw [len]; exact cK hz)) ⟨ha1,ha2,?_⟩
   have q:=fg (n:=0) (tk:=s.toks) I (hl1.append hl2)
   rw [show (vs1.toList++vs2.toList).toArray=vs1++vs2 by simp] at q
   exact q
theorem AF (e:Cr x y=some z) (I:Inv Φ s) (r1:Φ.rp s.heap v x) (r2:Φ.rp s.heap u y):Φ.wp (binaryOp .Add v u) (Φ.Gives s z) s:=by
 cases x with
 | int a=>exact bv (C:=fun y=>Φ.rp s.heap u y→Φ.wp (binaryOp .Add v u) (Φ.Gives s z) s) e (fun b e r2=>some_elim e (r1.int_elim fun t=>r2.int_elim fun t' E=>PyProof.Rows.add_int ⟨.toks _ _,.int _ _⟩)) r2
 | str a=>exact eC (f:=fun b=>db (a.cps.toList++b) (text (a.cps.toList++b))) (C:=fun y=>Φ.rp s.heap u y→Φ.wp (binaryOp .Add v u) (Φ.Gives s z) s) e (fun b e r2=>fit_elim e fun q=>r1.str_elim fun t=>r2.str_elim fun t'=>qv q) r2
 | list l=>exact bW (C:=fun y=>Φ.rp s.heap u y→Φ.wp (binaryOp .Add v u) (Φ.Gives s z) s) e (fun m e r2=>fit_elim e fun q=>nQ I q r1 r2) r2
 | tuple l=>exact sG (C:=fun y=>Φ.rp s.heap u y→Φ.wp (binaryOp .Add v u) (Φ.Gives s z) s) e (fun m e r2=>fit_elim e fun q=>lC I q r1 r2) r2
 | _=>(injection e; done)
theorem cC {α:Type} {f:Int→Int→Option α} {w:α} {C:Value→Value→Prop} (e:oM x y f=some w) (r1:Φ.rp s.heap v x) (r2:Φ.rp s.heap u y) (k:∀ i j t t',f i j=some w→C (.int i t) (.int j t')):C v u:=
 bv (C:=fun x=>Φ.rp s.heap v x→C v u) e (fun i e r1=>bv (C:=fun y=>Φ.rp s.heap u y→C v u) e (fun j e r2=>r1.int_elim fun t=>r2.int_elim fun t'=>k i j t t' e) r2) r1
theorem AA {o:Operator} (e:tR o x y=some z) (I:Inv Φ s) (r1:Φ.rp s.heap v x) (r2:Φ.rp s.heap u y):Φ.wp (binaryOp o v u) (Φ.Gives s z) s:=by
 cases o with
 | Add=>exact AF e I r1 r2
 | Sub=>exact cC (C:=fun v u=>Φ.wp (binaryOp .Sub v u) (Φ.Gives s z) s) e r1 r2 fun i j t t' q=>some_elim q fun E=>PyProof.Rows.sub_int ⟨.toks _ _,.int _ _⟩
 | Mult=>exact cC (C:=fun v u=>Φ.wp (binaryOp .Mult v u) (Φ.Gives s z) s) e r1 r2 fun i j t t' q=>if_elim q fun q E=>PyProof.Rows.mul_int ⟨.toks _ _,.int _ _⟩ (ta q)
 | FloorDiv=>exact cC (C:=fun v u=>Φ.wp (binaryOp .FloorDiv v u) (Φ.Gives s z) s) e r1 r2 fun i j t t' q=>ifn_elim q fun q E=>floordiv_int (fun z=>q (.inl z)) ⟨.toks _ _,.int _ _⟩ (.inl (PyProof.noPylong_small (by omega)))
 | Mod=>exact cC (C:=fun v u=>Φ.wp (binaryOp .Mod v u) (Φ.Gives s z) s) e r1 r2 fun i j t t' q=>ifn_elim q fun q E=>PyProof.Rows.mod_int q ⟨.toks _ _,.int _ _⟩
 | _=>(injection e; done)
theorem okd (h:dA x=true):x.canLay0=true∧x.depth≤64:=(zA2 h).imp id of_decide_eq_true
theorem hY (I:Inv Φ s) (h:n≤64):Φ.fx.A.units+1+min m n < cLine:=Nat.lt_of_le_of_lt (by rw [Nat.add_assoc]; exact Nat.add_le_add_left (zB1 (Nat.add_le_add_left (zB1 (Nat.min_le_right m n) h) 1) (by decide:65≤100)) _) I.room
abbrev Is (s:Shared) (c:Bool) (v:Value) (s':Shared):Prop:=s'=s∧v=.bool c
theorem yO (I:Inv Φ s) (q:(dA x&&dA y)=true) (r1:Φ.rp s.heap v x) (r2:Φ.rp s.heap u y):Φ.wp (compareOp .Eq v u) (Is s (PyData.eqv x y)) s∧Φ.wp (compareOp .NotEq v u) (Is s (!PyData.eqv x y)) s:=
 have q:=zA2 q
 have h1:=okd q.1
 have h2:=okd q.2
 (r1.reads h1.1).elim fun _ p1=>(r2.reads h2.1).elim fun _ p2=>have m:=Nat.lt_of_le_of_lt (by exact Nat.add_le_add_right (Nat.le_add_right _ _) _) (hY I (m:=x.depth) h2.2); ⟨fun E=>SeqAt.compareEq_reads p1 p2 h1.1 h2.1 m ⟨rfl,rfl⟩,fun E=>SeqAt.compareNe_reads p1 p2 h1.1 h2.1 m ⟨rfl,rfl⟩⟩
theorem yC (r:Φ.rp s.heap v x):Φ.wp (compareOp .Is v .none) (Is s (isNone x)) s∧Φ.wp (compareOp .IsNot v .none) (Is s (!isNone x)) s:=by
 cases r with
 | none=>exact ⟨fun E=>is_none_gen ⟨rfl,rfl⟩,fun E=>isnot_none_gen ⟨rfl,rfl⟩⟩
 | _=>exact ⟨fun E=>is_none_ne nofun ⟨rfl,rfl⟩,fun E=>isnot_none_ne nofun ⟨rfl,rfl⟩⟩
theorem tc (e:a.cps.toList=[c]):Φ.wp (compareOp .In (.str a t) (.str b t')) (Is s (b.cps.toList.elem c)) s∧Φ.wp (compareOp .NotIn (.str a t) (.str b t')) (Is s (!b.cps.toList.elem c)) s:=by
 have f:(!(Builtin.Str.occurrences b a 0 b.length 1).isEmpty)=b.cps.toList.elem c:=by
  rw [← iH a,e,show (⟨[c].toArray⟩:Str)=⟨#[c]⟩ from rfl,StrLaws.found_one]
  rw [Bool.eq_iff_iff]; simp
 exact ⟨fun E=>P.in_str ⟨rfl,by rw [f]⟩,fun E=>P.notIn_str ⟨rfl,by rw [f]⟩⟩
theorem yE (I:Inv Φ s) (e:inO x y=some c) (r1:Φ.rp s.heap v x) (r2:Φ.rp s.heap u y):Φ.wp (compareOp .In v u) (Is s c) s∧Φ.wp (compareOp .NotIn v u) (Is s (!c)) s:=by
 cases y with
 | str b=>
  have e:vm x (fun s=>match s with | [c]=>some (b.cps.toList.elem c) | _=>none)=some c:=e
  refine eC (C:=fun x=>Φ.rp s.heap v x→Φ.wp (compareOp .In v u) (Is s c) s∧Φ.wp (compareOp .NotIn v u) (Is s (!c)) s) e (fun a e r1=>?_) r1
  split at e
  ·rename_i d q; exact some_elim e (r1.str_elim fun t=>r2.str_elim fun t'=>tc q)
  ·(injection e; done)
 | list l=>
  refine if_elim e fun q=>?_
  have q:=zA2 q
  have h1:=okd q.1
  have h2:=okd q.2
  obtain ⟨_,p1⟩:=r1.reads h1.1
  obtain ⟨_,p2⟩:=r2.reads h2.1
  exact ⟨fun E=>SeqAt.in_list_reads p2 p1 h2.1 h1.1 (hY I h1.2) ⟨rfl,rfl⟩,fun E=>SeqAt.notIn_list_reads p2 p1 h2.1 h1.1 (hY I h1.2) ⟨rfl,rfl⟩⟩
 | tuple l=>
  refine if_elim e fun q=>?_
  have q:=zA2 q
  have h1:=okd q.1
  have h2:=okd q.2
  obtain ⟨_,p1⟩:=r1.reads h1.1
  obtain ⟨_,p2⟩:=r2.reads h2.1
  exact ⟨fun E=>SeqAt.in_tuple_reads p2 p1 h2.1 h1.1 (hY I h1.2) ⟨rfl,rfl⟩,fun E=>SeqAt.notIn_tuple_reads p2 p1 h2.1 h1.1 (hY I h1.2) ⟨rfl,rfl⟩⟩
 | _=>(injection e; done)
theorem qL {o:CmpOp} {c:Bool} (e:aU o x y=some c) (I:Inv Φ s) (r1:Φ.rp s.heap v x) (r2:Φ.rp s.heap u y):Φ.wp (compareOp o v u) (Is s c) s:=by
 cases o with
 | Eq=>exact if_elim e fun q=>(yO I q r1 r2).1
 | NotEq=>exact map_elim e fun d e=>if_elim (C:=fun d=>Φ.wp (compareOp .NotEq v u) (Is s (!d)) s) e fun q=>(yO I q r1 r2).2
 | Lt=>exact cC (C:=fun v u=>Φ.wp (compareOp .Lt v u) (Is s c) s) e r1 r2 fun i j t t' q=>some_elim q fun E=>P.lt_int ⟨rfl,rfl⟩
 | LtE=>exact cC (C:=fun v u=>Φ.wp (compareOp .LtE v u) (Is s c) s) e r1 r2 fun i j t t' q=>some_elim q fun E=>P.le_int ⟨rfl,rfl⟩
 | Gt=>exact cC (C:=fun v u=>Φ.wp (compareOp .Gt v u) (Is s c) s) e r1 r2 fun i j t t' q=>some_elim q fun E=>P.gt_int ⟨rfl,rfl⟩
 | GtE=>exact cC (C:=fun v u=>Φ.wp (compareOp .GtE v u) (Is s c) s) e r1 r2 fun i j t t' q=>some_elim q fun E=>P.ge_int ⟨rfl,rfl⟩
 | Is=>
  refine if_elim e fun q=>?_
  cases y with
  | none=>exact r2.none_elim (yC r1).1
  | _=>(injection q; done)
 | IsNot=>
  refine if_elim e fun q=>?_
  cases y with
  | none=>exact r2.none_elim (yC r1).2
  | _=>(injection q; done)
 | In=>exact (yE I e r1 r2).1
 | NotIn=>exact map_elim e fun d e=>(yE I e r1 r2).2
end
noncomputable abbrev atK (xs:List (V×Addr×Value)) (k:V):Option (Addr×Value):=@atKey V fC xs k
noncomputable abbrev stK (xs:List (V×Addr×Value)) (k:V) (a:Addr) (v:Value):List (V×Addr×Value):=@storedH V fC xs k a v
abbrev yX (g:Gl) (h:Heap) (d:Addr) (xs:List (V×Addr×Value)):Prop:=@Heap.DictOfH g.prog g.w V fC (iY g.prog g.w) h d xs
noncomputable abbrev enK (g:Gl) (x:V×Addr×Value):DictEntry:=@entryOfKey g.prog g.w V fC (iY g.prog g.w) x
inductive Ent (g:Gl) (bad:Addr→Prop) (h:Heap):List (V×Addr×Value)→List (V×V)→Prop
 | nil:Ent g bad h [] []
 | cons {x y:V} {a:Addr} {v:Value} {xs:List (V×Addr×Value)} {kvs:List (V×V)}:dC x=true→Rp g bad h (.ref a) x→Rp g bad h v y→Ent g bad h xs kvs→Ent g bad h ((x,a,v) :: xs) ((x,y) :: kvs)
section
variable {g:Gl} {bad bad':Addr→Prop} {h h':Heap} {xs:List (V×Addr×Value)} {kvs:List (V×V)}
theorem lM (r:Rp g bad h v x) (q:dC x=true):∃ a,v=.ref a:=by
 cases r with
 | tuple=>exact ⟨_,rfl⟩
 | _=>exact nB q
theorem Ent.of:∀ {kvs:List (V×V)} {es:List DictEntry},dkV kvs=true→es.map (·.hash)=kvs.map (fun p=>vS g.w p.1)→RpAll g bad h (es.map (·.key)) (kvs.map (·.1))→RpAll g bad h (es.map (·.val)) (kvs.map (·.2))→∃ xs,es=xs.map (enK g)∧Ent g bad h xs kvs:=by
 intro kvs
 induction kvs with
 | nil=>
  intro es _ e _ _
  exact ⟨[],List.map_eq_nil_iff.mp e,.nil⟩
 | cons p kvs ih=>
  intro es d e r1 r2
  obtain ⟨x,y⟩:=p
  cases es with
  | nil=>exact nomatch e
  | cons en es=>
   obtain ⟨e1,e2⟩:=zA5 e
   cases r1 with
   | cons k1 r1=>cases r2 with
    | cons v1 r2=>
     have d:=zA2 (d:(dC x&&dkV kvs)=true)
     obtain ⟨xs,ex,E⟩:=ih d.2 e2 r1 r2
     obtain ⟨a,ea⟩:=lM k1 d.1
     obtain ⟨hs,ky,vl⟩:=en
     obtain rfl:ky=.ref a:=ea
     obtain rfl:hs=vS g.w x:=e1
     exact ⟨(x,a,vl) :: xs,congrArg (_ :: ·) ex,.cons d.1 k1 v1 E⟩
theorem Ent.back (E:Ent g bad h xs kvs):dkV kvs=true∧xs.map (·.1)=kvs.map (·.1)∧(xs.map (enK g)).map (·.hash)=kvs.map (fun p=>vS g.w p.1)∧RpAll g bad h ((xs.map (enK g)).map (·.key)) (kvs.map (·.1))∧RpAll g bad h ((xs.map (enK g)).map (·.val)) (kvs.map (·.2)):=by
 induction E with
 | nil=>exact ⟨rfl,rfl,rfl,.nil,.nil⟩
 | cons q r1 r2 _ ih=>exact ⟨zA3 ⟨q,ih.1⟩,congrArg (_ :: ·) ih.2.1,congrArg (_ :: ·) ih.2.2.1,.cons r1 ih.2.2.2.1,.cons r2 ih.2.2.2.2⟩
theorem KIs.of (q:dC x=true) (r:Rp g bad h (.ref a) x):KIs h x a:=⟨q,r.reads (gk q).1⟩
theorem Ent.kis (E:Ent g bad h xs kvs):∀ x∈xs,KIs h x.1 x.2.1:=by
 induction E with
 | nil=>exact fun _ m=>nM m
 | cons q r1 r2 _ ih=>exact zA1 ⟨.of q r1,ih⟩
theorem Ent.length (E:Ent g bad h xs kvs):xs.length=kvs.length:=by
 induction E with
 | nil=>rfl
 | cons _ _ _ _ ih=>exact congrArg (· + 1) ih
theorem Ent.map (E:Ent g bad h xs kvs) (k:cU bad bad' h h'):Ent g bad' h' xs kvs:=by
 induction E with
 | nil=>exact .nil
 | cons q r1 r2 _ ih=>exact .cons q (r1.map k) (r2.map k) ih
theorem Ent.app (E:Ent g bad h xs kvs) (q:dC x=true) (r1:Rp g bad h (.ref a) x) (r2:Rp g bad h v y):Ent g bad h (xs++[(x,a,v)]) (kvs++[(x,y)]):=by
 induction E with
 | nil=>exact .cons q r1 r2 .nil
 | cons q' s1 s2 _ ih=>exact .cons q' s1 s2 ih
theorem Ent.at (E:Ent g bad h xs kvs) (q:dC y=true):(atK xs y=none∧pN kvs y=none∧(kvs.any fun p=>PyData.eqv p.1 y)=false)∨∃ p z,atK xs y=some p∧pN kvs y=some z∧(kvs.any fun p=>PyData.eqv p.1 y)=true∧Rp g bad h p.2 z:=by
 induction E with
 | nil=>exact .inl ⟨rfl,rfl,rfl⟩
 | @cons x z a v xs kvs hk r1 r2 _ ih=>
  have e:=l7 hk q
  unfold atK atKey pN at ih ⊢
  rw [List.find?_cons,List.find?_cons,List.any_cons]
  cases c:PyData.eqv x y with
  | true=>
   rw [show @decide (x=y) (fC x y)=true from e.symm.trans c]
   exact .inr ⟨_,z,rfl,rfl,rfl,r2⟩
  | false=>
   rw [show @decide (x=y) (fC x y)=false from e.symm.trans c]
   exact ih
theorem Ent.put0 (E:Ent g bad h xs kvs) (q:dC y=true) (r:Rp g bad h v z):Ent g bad h (xs.map (@putAt V fC y v)) (kvs.map fun p=>if PyData.eqv p.1 y=true then (p.1,z) else p):=by
 induction E with
 | nil=>exact .nil
 | @cons x u a v' xs kvs hk r1 r2 _ ih=>
  have e:=l7 hk q
  rw [List.map_cons,List.map_cons]
  unfold putAt
  refine (?_:Ent g bad h ((@ite _ (x=y) (fC x y) (x,a,v) (x,a,v')) :: _) ((if PyData.eqv x y=true then (x,z) else (x,u)) :: _))
  by_cases c:x=y
  ·rw [@if_pos _ (fC x y) c,if_pos ((lZ x y hk q).mpr c)]; exact .cons hk r1 r ih
  ·rw [@if_neg _ (fC x y) c,if_neg fun z=>c ((lZ x y hk q).mp z)]; exact .cons hk r1 r2 ih
theorem Ent.put (E:Ent g bad h xs kvs) (q:dC y=true) (r1:Rp g bad h (.ref a) y) (r:Rp g bad h v z):Ent g bad h (stK xs y a v) (rm kvs y z):=by
 unfold rm
 rcases E.at q with ⟨e1,_,e2⟩ | ⟨p,_,e1,_,e2,_⟩
 ·rw [e2,if_neg Bool.false_ne_true,show stK xs y a v=_ from @storedH_new V fC _ _ e1 a v]; exact E.app q r1 r
 ·rw [e2,if_pos rfl,show stK xs y a v=_ from @storedH_old V fC _ _ _ e1 a v]; exact E.put0 q r
theorem Inv.room3 (I:Inv Φ s):Φ.fx.A.units+1+2 < cLine:=Nat.lt_of_le_of_lt (Nat.add_le_add_left (by decide:3≤100) _) I.room
abbrev DAt (g:Gl) (bad:Addr→Prop) (h:Heap) (a:Addr) (kvs:List (V×V)):Prop:=OwnDAt g bad h a (.ref a) kvs
theorem DAt.dk (r:DAt g bad h a kvs):∃ xs,yX g h a xs∧Ent g bad h xs kvs:=by
 obtain ⟨_,o,es,n,ho,hc,hd,hk,r1,r2⟩:=r
 obtain ⟨xs,e,E⟩:=Ent.of hk.1 hk.2.2 r1 r2
 exact ⟨xs,⟨o,es,n,ho,hc,hd,e,E.kis,E.back.2.1▸hk.2.1⟩,E⟩
theorem DAt.of (d:yX g h a xs) (E:Ent g bad h xs kvs):DAt g bad h a kvs:=by
 obtain ⟨o,es,n,ho,hc,hd,e,_,hn⟩:=d
 obtain ⟨b1,b2,b3,b4,b5⟩:=E.back
 rw [← e] at b3 b4 b5
 exact ⟨rfl,o,es,n,ho,hc,hd,⟨b1,b2▸hn,b3⟩,b4,b5⟩
end
section
variable {prog:Program} {w:World} {A:Around} {E:Value→Shared→Prop} {s:Shared} {I d:Addr} {od:Obj} {es:Array DictEntry} {ep i:Nat}
theorem wF {Q:Option Value→Shared→Prop} {P:Fin→Shared→Prop} (hh:A.handled=none) (h:∀ h',aH s.heap h'→Q none { s with heap:=h' }) :
  wpAny (model prog w) A.in1 (newExc (.type "StopIteration") [] >>= fun e=>raiseNew e) P (fun e s'=>wpAny (model prog w) A (isInstance e (.type "StopIteration") >>= fun b=>if b=true then pure none else throw e) Q E s') s:=by
 refine zC1 ?_
 simp only [newExc,newTuple]
 refine zC1 (wpAny_newObj_type ?_ (by size_fits))
 refine wpAny_bind (m:=firstArgMember _ _) (wpAny_of_eq (a:=Value.none) (by first | rfl | (simp only [firstArgMember]; rfl)) ?_)
 refine wpAny_newObj_type ?_ (by size_fits)
 refine zC1 (wpAny_handled ?_)
 refine (show A.in1.handled=none from hh).symm▸?_
 refine zC1 (zC2 (wpAny_throw ?_))
 refine zC1 (wpAny_isInstance (T:="StopIteration") (b:=true) ⟨_,Heap.get?_push_size _ rfl,rfl⟩ isSubtype_stop ?_)
 exact zC2 (h _ ((av _ _).trans (av _ _)))
theorem kR {Q:Option Value→Shared→Prop} (hh:A.handled=none) (hit:s.heap.IsKeyIter I d i es.size ep) (hod:s.heap.get? d=some od) (hdd:od.data=.dict es ep)
  (hQ:∀ e,es[i]?=some e→∀ h',h'.IsKeyIter I d (i+1) es.size ep→Heap.SameBut I s.heap h'→Q (some e.key) { s with heap:=h' })
  (hE:es[i]?=none→∀ h',(∀ b o,b≠I→s.heap.get? b=some o→h'.get? b=some o)→Q none { s with heap:=h' }):wpAny (model prog w) A (pyNext (.ref I)) Q E s:=by
 refine (id hit).elim fun o Zq1=>Zq1.elim fun ho Zq2=>Zq2.elim fun hc hd=>?_
 skip
 refine zC1 (wpAny_attempt (wpAny_callSpecial?_slot (name:=Str.ofString "__next__") hit.typeIs F.slot_dict_keyiterator_next
  (wpAny_call_entry F.slot_dict_keyiterator_next hit.typeIs F.entry_dict_keyiterator_next ?_ (F.args_dict_keyiterator_next_1 _))))
 refine zC1 (zC2 (zC1 (zC1 ?_)))
 refine zC1 (wpAny_typeNameOfWhole_keyiter hit.typeIs (zC2 ?_))
 refine zC1 (wpAny_fieldsOf ho hd ?_)
 have hown:Builtin.Dict_items.ownsTuple "dict_keyiterator"=false:=by decide
 rw [hown]
 refine bw (c:=(Value.ref d==Value.none)=true) Bool.false_ne_true (zC1 (zC2 (zC1 (wpAny_dictEntries hod hdd ?_))))
 refine bw (by simp) (zC1 (zC2 (zC1 (wpAny_dictEpoch hod hdd ?_))))
 refine bw (by simp) (zC2 ?_)
 simp only [show ¬ ((i:Int) < 0) from Int.not_lt.mpr (Int.natCast_nonneg _),if_false,Int.toNat_natCast]
 cases ei:es[i]? with
 | some e=>
  refine zC1 ?_
  refine zC1 (wpAny_typeNameOfWhole_keyiter hit.typeIs (zC2 ?_))
  refine zC1 (wpAny_isOneOf_keyiter hit.typeIs ?_)
  refine (?_:wpAny _ _ (setField (.ref I) 1 (rawInt ((i:Int)+1)) >>= _) _ _ s)
  refine zC1 (wpAny_setField ho hd (by simp) ?_)
  have hit':(s.heap.update I (Obj.mapFields (·.setIfInBounds 1 (rawInt ((i:Int)+1))))).IsKeyIter I d (i+1) es.size ep:=
   ⟨_,Heap.get?_update_self _ ho (Obj.isFreed_of_fields (Obj.data_mapFields hd _)),(Obj.cls_mapFields ..).trans hc,by rw [Obj.data_mapFields hd]; simp [rawInt]⟩
  refine zC1 (wpAny_holding ?_)
  refine zC1 (wpAny_isOneOf_keyiter (s:={ s with heap:=s.heap.update I (Obj.mapFields (·.setIfInBounds 1 (rawInt ((i:Int)+1)))) }) hit'.typeIs ?_)
  refine (?_:wpAny _ _ (pure e.key) _ _ _)
  exact zC2 (zC2 ⟨_,rfl,zC2 (hQ e ei _ hit' (Heap.SameBut.update ..))⟩)
 | none=>
  refine zC1 ?_
  refine zC1 (wpAny_typeNameOfWhole_keyiter hit.typeIs (zC2 ?_))
  refine (?_:wpAny _ _ (setField (.ref I) 0 .none >>= _) _ _ s)
  refine zC1 (wpAny_setField ho hd (Nat.zero_lt_succ _) ?_)
  exact wF hh fun h' k=>hE ei h' fun b o q e=>k b o ((Heap.get?_update_other _ _ (Ne.symm q)).trans e)
theorem pn (hh:A.handled=none) (hne:d≠I) (hdd:od.data=.dict es ep):Walks prog w A I [I,d] [I] es.size (fun i v=>(es.toList.map (·.key))[i]?=some v) (fun i h=>h.IsKeyIter I d i es.size ep∧h.get? d=some od) where
 sub:=fun b m=>by obtain rfl:=zA6 m; exact .head _
 frame:=fun i h h' q k=>⟨q.1.at fun o e=>k I (.head _) o e,k d (.tail _ (.head _)) _ q.2⟩
 item:=fun i s Q E hi q hQ=>kR hh q.1 q.2 hdd (fun e ei h' hi' sb=>hQ e.key h' s.toks (by rw [List.getElem?_map,Array.getElem?_toList,ei]; rfl) ⟨hi',(sb.2 d hne).trans q.2⟩ fun b o m e=>(sb.2 b fun q=>m (q▸.head _)).trans e) fun z=>nomatch (Array.getElem?_eq_getElem hi).symm.trans z
 done:=fun s Q E q hQ=>kR hh q.1 q.2 hdd (fun e ei=>absurd (Array.getElem?_eq_some_iff.mp ei).1 (Nat.lt_irrefl _)) fun _ h' k=>hQ h' s.toks fun b o m e=>k b o (fun q=>m (q▸.head _)) e
 self:=fun i s Q E q h=>wpAny_pyIter_keyiter q.1 h
theorem sZ (hd:(d==sysModules)=false) (ho:s.heap.get? d=some od) (hx:od.ExactDict) (hdd:od.data=.dict es ep)
  (hQ:Q (.ref s.heap.objs.size) { s with heap:=s.heap.push { cls:=.type "dict_keyiterator",data:=.fields #[.ref d,.int 0 0,.int es.size 0,.int ep 0] } }):wpAny (model prog w) A (pyIter (.ref d)) Q E s:=by
 have hT:s.TypeIs (.ref d) "dict":=⟨od,ho,hx.1⟩
 refine wpAny_pyIter_slot hT F.slot_dict_iter (wpAny_call_entry F.slot_dict_iter hT F.entry_dict_iter ?_ (F.args_dict_iter_1 _))
 refine zC1 (zC1 (wpAny_notOrdered_dict hT ?_))
 refine (?_:wpAny _ _ (pure (Value.ref d)) _ _ s)
 refine zC2 ?_
 refine (?_:wpAny _ _ (Builtin.Dict.showsAll d >>= _) _ _ s)
 skip
 refine zC1 (bw (by rw [hd]; exact Bool.false_ne_true) (zC2 ?_))
 refine zC1 (wpAny_dictEntries ho hdd (zC1 (wpAny_dictEpoch ho hdd ?_)))
 exact zC1 (wpAny_newObj_type (zC2 ⟨_,rfl, "dict_keyiterator",_,⟨_,Heap.get?_push_size _ rfl,rfl⟩,F.slot_dict_keyiterator_next.lookup,hQ⟩))
end
def eW (s:Shared) (a:Value):Prop:=∃ T id,s.TypeIs a T∧typeLookup (.type T) "__getitem__"=pure (some (.builtin id))
section
variable {Φ:Ct} {s:Shared} {v u:Value} {x y z:V} {α:Type}
theorem gF {f:α→V} {C:Value→Prop} (e:i5 l f y=some z) (r:Φ.rp s.heap u y) (k:∀ i t j w,-(2 ^ 63)≤i→i < 2 ^ 63→(0≤i∧j=i.toNat∨i < 0∧-(l.length:Int)≤i∧j=(i+l.length).toNat)→j < l.length→l[j]?=some w→f w=z→C (.int i t)):C u:=by
 refine bv (C:=fun y=>Φ.rp s.heap u y→C u) e (fun i e r=>?_) r
 refine bi e fun hz e=>?_
 have hz:l.length≤1048576:=hz
 obtain ⟨w,ew,rfl⟩:=Option.map_eq_some_iff.mp e
 clear e
 refine r.int_elim fun t=>?_
 by_cases h0:0≤i
 ·rw [if_pos h0] at ew
  have hj:=(List.getElem?_eq_some_iff.mp ew).1
  exact k i t i.toNat w (by exact Int.le_trans (by decide) h0) (Int.lt_of_lt_of_le ((Int.toNat_lt h0).mp hj) (Int.le_trans (Int.ofNat_le.mpr hz) (by decide))) (.inl ⟨h0,rfl⟩) hj ew rfl
 ·rw [if_neg h0] at ew
  refine bi ew fun h1 e=>?_
  have hj:=(List.getElem?_eq_some_iff.mp e).1
  exact k i t _ w (by lia) (by lia) (.inr ⟨by exact Int.not_le.mp h0,by lia,rfl⟩) hj e rfl
theorem jH {i:Int} {n j:Nat} (h:0≤i∧j=i.toNat∨i < 0∧-(n:Int)≤i∧j=(i+n).toNat) (hj:j < n):seqIndex? i n=some j:=by
 rcases h with ⟨h0,rfl⟩ | ⟨h0,h1,rfl⟩
 ·unfold seqIndex?
  rw [if_neg (Int.not_lt.mpr h0)]
  exact if_pos (by rw [decide_eq_true h0,decide_eq_true (show i < (n:Int) from (Int.toNat_lt h0).mp hj)]; rfl)
 ·exact seqIndex_neg h0 h1
theorem lR {vs:Array Value} {n:Nat} (h:vs.toList[n]?=some v):vs[n]?=some v:=by rw [Array.getElem?_toList] at h; exact h
theorem rT (e:i5 l id y=some z) (hL:s.heap.IsList a vs) (hl:Φ.rps s.heap vs.toList l) (r2:Φ.rp s.heap u y):Φ.wp (getItem (.ref a) u) (Φ.Gives s z) s:=by
 have len:vs.size=l.length:=Array.length_toList▸hl.length
 refine gF (C:=fun u=>Φ.wp (getItem (.ref a) u) (Φ.Gives s z) s) e r2 fun i t j w h1 h2 h3 hj ew ez=>?_
 obtain ⟨q,eq,rq⟩:=hl.get ew
 subst ez
 rcases h3 with ⟨h0,rfl⟩ | ⟨h0,h4,rfl⟩
 ·exact fun E=>wpAny_getItem_list hL h0 h2 (lR eq) ⟨.refl _,rq⟩
 ·exact fun E=>wpAny_getItem_list_neg hL h0 (by rw [len]; exact h4) h1 (by rw [len]; exact lR eq) ⟨.refl _,rq⟩
theorem zb (I:Inv Φ s) (e:tG x y=some z) (r1:Φ.rp s.heap v x) (r2:Φ.rp s.heap u y):eW s v∧Φ.wp (getItem v u) (Φ.Gives s z) s:=by
 cases x with
 | list l=>
  refine r1.list_elim fun a o vs n _ ha hc hd hl=>?_
  have hL:s.heap.IsList a vs:=⟨_,ha,hc.1,_,hd⟩
  exact ⟨⟨_,_,hL.typeIs,slot_list_getitem.lookup⟩,rT e hL hl r2⟩
 | tuple l=>
  refine r1.tuple_elim fun a o vs n _ ha hc hd hl=>?_
  have hL:IsTup s.heap a vs:=⟨_,ha,hc,_,hd⟩
  have len:vs.size=l.length:=Array.length_toList▸hl.length
  refine ⟨⟨_,_,hL.typeIs,slot_tuple_getitem.lookup⟩,gF (C:=fun u=>Φ.wp (getItem (.ref a) u) (Φ.Gives s z) s) e r2 fun i t j w h1 h2 h3 hj ew ez=>?_⟩
  obtain ⟨q,eq,rq⟩:=hl.get ew
  subst ez
  exact fun E=>getItem_tuple hL h1 h2 (by rw [len]; exact jH h3 hj) (lR eq) ⟨.refl _,rq⟩
 | str a=>
  refine r1.str_elim fun t0=>⟨⟨_,_,typeIs_str _ _ _,PySem.F.slot_str_getitem.lookup⟩,gF (C:=fun u=>Φ.wp (getItem (.str a t0) u) (Φ.Gives s z) s) e r2 fun i t j w h1 h2 h3 hj ew ez=>?_⟩
  subst ez
  refine fun E=>P.getItem_str (c:=w) ?_ ?_ ⟨.toks _ _,.text rfl⟩
  ·rw [decide_eq_false (Int.not_lt.mpr h1),decide_eq_false (Int.not_le.mpr h2)]; rfl
  ·have hn:a.cps.toList.length=a.length:=Array.length_toList
   rw [show seqIndex? i a.length=some j from hn▸jH h3 hj]
   rw [Array.getElem?_toList] at ew; exact ew
 | dict kvs=>
  have e:(if (dkV kvs&&dC y)=true then pN kvs y else none)=some z:=e
  refine bi e fun q e=>?_
  have q:=zA2 q
  refine r1.dict_elim q.1 fun a o es n _ _ ha hc hd hk k1 k2=>?_
  obtain ⟨xs,D,En⟩:=DAt.dk ⟨rfl,o,es,n,ha,hc,hd,hk,k1,k2⟩
  obtain ⟨b,rfl⟩:=lM r2 q.2
  rcases En.at q.2 with ⟨_,e1,_⟩ | ⟨p,z',e1,e2,_,rz⟩
  ·exact nomatch e1.symm.trans e
  ·obtain rfl:z'=z:=Option.some.inj (e2.symm.trans e)
   exact ⟨⟨_,_,⟨o,ha,hc.1⟩,slot_dict_getitem.lookup⟩,fun E=>@wpAny_getItem_heap _ _ V fC (iY Φ.fx.g.prog Φ.fx.g.w) _ _ _ _ _ _ _ _ _ I.room3 (KIs.of q.2 r2) D e1 ⟨.toks _ _,rz⟩⟩
 | _=>(injection e; done)
noncomputable def oZ (d n:Nat):Option Int→Nat
 | none=>d
 | some i=>if 0≤i then min i.toNat n else (i+n).toNat
def RpO (Φ:Ct) (h:Heap) (v:Value) (y:Option V):Prop:=match y with
 | none=>v=.none
 | some x=>Φ.rp h v x
theorem dq {d n i:Nat} {y:Option V} {C:Value→Prop} (e:oY d n y=some i) (r:RpO Φ s.heap v y) (k:∀ p:Option (Int×Tok),oZ d n (p.map (·.1))=i→C (partValue p)):C v:=by
 cases y with
 | none=>subst r; (injection e with e; subst e); exact k none rfl
 | some x=>exact bv (C:=fun x=>Φ.rp s.heap v x→C v) e (fun i e r=>r.int_elim fun t=>k (some (i,t)) (Option.some.inj e)) r
theorem rB (p:Option (Int×Tok)):IsPart (partValue p) (p.map (·.1)):=by
 cases p with
 | none=>exact .none
 | some q=>exact .int _ _
theorem ph (h:i < 0):i+(n:Int)≤n:=Int.le_trans (Int.add_le_add_right (Int.le_of_lt h) n) (Int.le_of_eq (Int.zero_add _))
theorem je (h:d≤n) (p:Option Int):oZ d n p≤n:=by
 cases p with
 | none=>exact h
 | some i=>
  refine (?_:(if 0≤i then min i.toNat n else (i+n).toNat)≤n)
  by_cases c:0≤i
  ·rw [if_pos c]; exact Nat.min_le_right _ _
  ·rw [if_neg c]; exact Int.toNat_le.mpr (ph (Int.not_le.mp c))
theorem sd {n:Nat} (i:Int):(if i < 0 then max (i+(n:Int)) 0 else min i n)=((oZ 0 n (some i):Nat):Int):=by
 refine (?_:_=(((if 0≤i then min i.toNat n else (i+n).toNat):Nat):Int))
 by_cases h:0≤i
 ·rw [if_pos h,if_neg (Int.not_lt.mpr h),Lean.Omega.Int.ofNat_min,Int.toNat_of_nonneg h]
 ·rw [if_neg h,if_pos (Int.not_le.mp h),Int.ofNat_toNat]
theorem wl {n:Nat} (i:Int):max 0 (min (if i < 0 then i+(n:Int) else i) (n:Int))=((oZ 0 n (some i):Nat):Int):=by
 rw [← sd]
 by_cases h:i < 0
 ·rw [if_pos h,if_pos h,Int.min_eq_left (ph h),Int.max_comm]
 ·rw [if_neg h,if_neg h,Int.max_eq_right (Int.le_min.mpr ⟨Int.not_lt.mp h,Int.natCast_nonneg n⟩)]
theorem fK (h:d≤n):((d:Nat):Int)=max 0 (min (if (d:Int) < 0 then (d:Int)+(n:Int) else (d:Int)) (n:Int)):=by
 rw [if_neg (Int.not_lt.mpr (Int.natCast_nonneg d)),Int.min_eq_left (Int.ofNat_le.mpr h),Int.max_eq_right (Int.natCast_nonneg d)]
theorem mT (h:a=c) (k:b=d):sliceRange a b 1=sliceRange c d 1:=by rw [h,k]
theorem kI {lo hi:Option Int} {n i j:Nat} (h1:oZ 0 n lo=i) (h2:oZ n n hi=j) (hle:i≤j):Builtin.Str.strSliceIndices lo hi 1 n=(List.range (j - i)).map (i + ·):=by
 have hj:j≤n:=h2▸je (Nat.le_refl n) hi
 refine Eq.trans ?_ (StrLaws.strSliceIndices_plain (len:=n) hle hj)
 cases lo with
 | none=>cases hi with
  | none=>have h1:0=i:=h1; subst h1; have h2:n=j:=h2; subst h2; exact mT (fK (d:=0) (n:=n) (Nat.zero_le n)) (fK (Nat.le_refl n))
  | some b=>have h1:0=i:=h1; subst h1; exact mT (fK (d:=0) (n:=n) (Nat.zero_le n)) ((wl b).trans ((congrArg _ h2).trans (fK hj)))
 | some a=>
  have ea:=(wl (n:=n) a).trans ((congrArg _ h1).trans (fK (zB1 hle hj)))
  cases hi with
  | none=>have h2:n=j:=h2; subst h2; exact mT ea (fK (Nat.le_refl n))
  | some b=>exact mT ea ((wl b).trans ((congrArg _ h2).trans (fK hj)))
theorem jE {xs:Array α} {i j:Nat} (hle:i≤j) (hj:j≤xs.size):((List.range (j - i)).map (i + ·)).filterMap (xs[·]?)=(xs.toList.drop i).take (j - i):=by
 rw [← StrLaws.picks xs.toList (j - i) i (by rw [zB3]; exact zB1 (zB2 (Nat.add_sub_cancel' hle)) hj)]
 exact congrArg (List.filterMap · _) (funext fun k=>(Array.getElem?_toList).symm)
theorem jK {l:List α} {f:List α→V} {lo hi:Option V} {C:V→Prop} (e:l9 f l lo hi=some z) (k:∀ i j,l.length≤am→oY 0 l.length lo=some i→oY l.length l.length hi=some j→i≤j→C (f ((l.drop i).take (j - i)))):C z:=
 bi e fun hz e=>(Option.bind_eq_some_iff.mp e).elim fun i ⟨h1,e⟩=>(Option.bind_eq_some_iff.mp e).elim fun j ⟨h2,e⟩=>if_elim e fun hle=>k i j hz h1 h2 hle
theorem jQ {l:List V} {lo hi:Option V} {vl vu:Value} {sl:Addr} (I:Inv Φ s) (e:l9 PyData.list l lo hi=some z) (r:Φ.rp s.heap v (.list l)) (rl:RpO Φ s.heap vl lo) (ru:RpO Φ s.heap vu hi) (hs:s.heap.IsSliceOf sl vl vu .none) :
  eW s v∧Φ.wp (getItem v (.ref sl)) (Φ.Gives s z) s:=by
 refine r.list_elim fun a o vs n _ ha hc hd hl=>?_
 have hL:s.heap.IsList a vs:=⟨_,ha,hc.1,_,hd⟩
 have len:vs.size=l.length:=Array.length_toList▸hl.length
 refine ⟨⟨_,_,hL.typeIs,slot_list_getitem.lookup⟩,jK (C:=fun z=>Φ.wp (getItem (.ref a) (.ref sl)) (Φ.Gives s z) s) e fun i j hz h1 h2 hle=>?_⟩
 refine dq (C:=fun vl=>s.heap.IsSliceOf sl vl vu .none→_) h1 rl (fun p hp hs=>?_) hs
 refine dq (C:=fun vu=>s.heap.IsSliceOf sl (partValue p) vu .none→_) h2 ru (fun q hq hs=>?_) hs
 refine fun E=>wpAny_getItem_list_slice hL hs (rB p) (rB q) .none (fun q=>nN q.symm) ?_ (by rw [len]; exact cK hz)
 have:slicePick vs (p.map (·.1)) (q.map (·.1)) none=((vs.toList.drop i).take (j - i)).toArray:=by
  refine congrArg List.toArray ?_
  refine (?_:(Builtin.Str.strSliceIndices _ _ 1 vs.size).filterMap (vs[·]?)=_)
  rw [len,kI hp hq hle,jE hle (by rw [len,← hq]; exact je (Nat.le_refl _) _)]
 rw [this]
 exact gC (tk:=s.toks) I ((hl.drop _).take _)
theorem tD {n i j:Nat} {lo hi:Option Int} (h1:oZ 0 n lo=i) (h2:oZ n n hi=j):Builtin.Slice.sliceAdjust lo hi 1 (n:Int)=((i:Int),(j:Int)):=by
 have c:=fun a:Int=>sd (n:=n) a
 unfold Builtin.Slice.sliceAdjust
 cases lo <;> cases hi
 ·subst h1; subst h2; rfl
 ·subst h1; exact Prod.ext rfl ((c _).trans (congrArg _ h2))
 ·subst h2; exact Prod.ext ((c _).trans (congrArg _ h1)) rfl
 ·exact Prod.ext ((c _).trans (congrArg _ h1)) ((c _).trans (congrArg _ h2))
theorem sR {i j:Nat} (h:i≤j):Builtin.Slice.slicePlaces (i:Int) (j:Int) 1=j - i:=by
 unfold Builtin.Slice.slicePlaces
 rw [if_pos (by decide),Int.ediv_one,Int.sub_add_cancel,← Int.ofNat_sub h]
 by_cases c:(i:Int) < j
 ·rw [if_pos c]; rfl
 ·rw [if_neg c,Nat.sub_eq_zero_of_le (Int.ofNat_le.mp (Int.not_lt.mp c))]; rfl
theorem qu {E:Value→Shared→Prop} {Q:Int×Int×Nat→Shared→Prop} (hs:s.heap.IsSliceOf sl (partValue p) (partValue q) .none) (h1:oZ 0 n (p.map (·.1))=i) (h2:oZ n n (q.map (·.1))=j) (hle:i≤j)
  (h:Q ((i:Int),1,j - i) s):wpAny (model prog w) A (Builtin.Slice.sliceApplied (.ref sl) (pure (n:Int))) Q E s:=by
 obtain ⟨os,hos,hcs,hds⟩:=id hs
 have part:∀ (p:Option (Int×Tok)) {Q:Option Int→Shared→Prop},Q (p.map (·.1)) s→wpAny (model prog w) A (Builtin.Slice.slicePartIndex (partValue p)) Q E s:=fun p Q h=>by
  cases p with
  | none=>exact slicePart_none h
  | some q=>exact slicePart_int h
 unfold Builtin.Slice.sliceApplied Builtin.Slice.sliceFields
 refine zC1 (zC1 (wpAny_field hos hds (x:=partValue p) rfl (zC1 (wpAny_field hos hds (x:=partValue q) rfl (zC1 (wpAny_field hos hds (x:=.none) rfl (zC2 ?_)))))))
 refine zC1 (slicePart_none ?_)
 refine (?_:wpAny _ _ (if ((1:Int)==0)=true then _ else _) _ _ s)
 rw [if_neg (by decide)]
 refine zC1 (part p (zC1 (part q (zC1 (zC2 ?_)))))
 refine (?_:wpAny _ _ (match Builtin.Slice.sliceAdjust (p.map (·.1)) (q.map (·.1)) 1 (n:Int) with | (lo,hi)=>pure (lo,(1:Int),Builtin.Slice.slicePlaces lo hi 1)) _ _ s)
 rw [tD h1 h2]
 refine (?_:wpAny _ _ (pure ((i:Int),(1:Int),Builtin.Slice.slicePlaces (i:Int) (j:Int) 1)) _ _ s)
 rw [sR hle]
 exact wpAny_pure h
theorem iv {l:List V} {lo hi:Option V} {vl vu:Value} {sl:Addr} (I:Inv Φ s) (e:l9 PyData.tuple l lo hi=some z) (r:Φ.rp s.heap v (.tuple l)) (rl:RpO Φ s.heap vl lo) (ru:RpO Φ s.heap vu hi) (hs:s.heap.IsSliceOf sl vl vu .none) :
  eW s v∧Φ.wp (getItem v (.ref sl)) (Φ.Gives s z) s:=by
 refine r.tuple_elim fun a o vs n hb ha hc hd hl=>?_
 have r:Φ.rp s.heap (.ref a) (.tuple l):=.tuple hb ha hc hd hl
 have ht:IsTup s.heap a vs:=⟨_,ha,hc,_,hd⟩
 have len:vs.size=l.length:=Array.length_toList▸hl.length
 refine ⟨⟨_,_,ht.typeIs,slot_tuple_getitem.lookup⟩,jK (C:=fun z=>Φ.wp (getItem (.ref a) (.ref sl)) (Φ.Gives s z) s) e fun i j hz h1 h2 hle=>?_⟩
 refine dq (C:=fun vl=>s.heap.IsSliceOf sl vl vu .none→_) h1 rl (fun p hp hs=>?_) hs
 refine dq (C:=fun vu=>s.heap.IsSliceOf sl (partValue p) vu .none→_) h2 ru (fun q hq hs=>?_) hs
 intro E
 have hj:j≤vs.size:=by rw [len,← hq]; exact je (Nat.le_refl _) _
 obtain ⟨os,hos,hcs,hds⟩:=id hs
 have hTs:s.TypeIs (.ref sl) "slice":=⟨os,hos,hcs⟩
 unfold getItem
 refine wpAny_holding ?_
 refine zC1 (wpAny_sequenceKey ht.typeIs (by decide) ?_)
 refine zC1 (wpAny_callSpecial?_slot (name:=Str.ofString "__getitem__") ht.typeIs slot_tuple_getitem (wpAny_call_entry slot_tuple_getitem ht.typeIs entry_tuple_getitem ?_ (args_tuple_getitem _ _)))
 refine (?_:wpAny _ _ (Builtin.Tuple.tupleItemsOf (.ref a) >>= _) _ _ s)
 refine zC1 (tupleItemsOf_ ht ?_)
 refine zC1 (wpAny_typeOf hTs ?_)
 rw [if_pos (by decide)]
 rw [← len] at hp hq
 refine zC1 (qu hs hp hq hle ?_)
 refine (?_:wpAny _ _ (if ((i:Int)==0&&(1:Int)==1&&(j - i)==vs.size)=true then _ else _) _ _ s)
 by_cases c:((i:Int)==0&&(1:Int)==1&&(j - i)==vs.size)=true
 ·rw [if_pos c]
  have c:=zA2 c
  have c1:(i:Int)=0:=eq_of_beq (zA2 c.1).1
  have c2:j - i=vs.size:=eq_of_beq c.2
  have i0:i=0:=by lia
  subst i0
  rw [c2,len,List.drop_zero,List.take_length]
  refine zC1 (zC1 (wpAny_typeOf ht.typeIs (zC2 ?_)))
  exact zC1 (wpAny_rule (zC2 ⟨_,rfl,zC2 ⟨.refl _,r⟩⟩))
 ·rw [if_neg c]
  have ep:(List.range (j - i)).filterMap (fun (k:Nat)=>vs[((i:Int)+(k:Int) * 1).toNat]?)=(vs.toList.drop i).take (j - i):=by
   rw [← jE hle hj,List.filterMap_map]
   exact congrArg (List.filterMap · _) (funext fun k=>by refine (?_:vs[((i:Int)+(k:Int) * 1).toNat]?=vs[i+k]?); rw [Int.mul_one]; rfl)
  refine (?_:wpAny _ _ (Builtin.Tuple.tupleExact ((List.range (j - i)).filterMap (fun (k:Nat)=>vs[((i:Int)+(k:Int) * 1).toNat]?)).toArray >>= _) _ _ _)
  rw [ep]
  refine wpAny_bind (m:=Builtin.Tuple.tupleExact _) (wpAny_newObj_type (zC2 ⟨_,rfl,zC2 (fg (tk:=s.toks) I ((hl.drop _).take _))⟩) ?_)
  refine (?_:(List.toArray _).size≤sizeLine)
  rw [List.size_toArray]
  exact zB1 (List.length_take_le' ..) (zB1 (by rw [List.length_drop]; exact Nat.sub_le ..) (cK (hl.length▸hz)))
theorem lv {t:Str} {lo hi:Option V} {vl vu:Value} {sl:Addr} (e:l9 text t.cps.toList lo hi=some z) (r:Φ.rp s.heap v (.str t)) (rl:RpO Φ s.heap vl lo) (ru:RpO Φ s.heap vu hi) (hs:s.heap.IsSliceOf sl vl vu .none) :
  eW s v∧Φ.wp (getItem v (.ref sl)) (Φ.Gives s z) s:=by
 refine r.str_elim fun tk=>?_
 refine ⟨⟨_,_,typeIs_str _ _ _,PySem.F.slot_str_getitem.lookup⟩,jK (C:=fun z=>Φ.wp (getItem (.str t tk) (.ref sl)) (Φ.Gives s z) s) e fun i j hz h1 h2 hle=>?_⟩
 refine dq (C:=fun vl=>s.heap.IsSliceOf sl vl vu .none→_) h1 rl (fun p hp hs=>?_) hs
 refine dq (C:=fun vu=>s.heap.IsSliceOf sl (partValue p) vu .none→_) h2 ru (fun q hq hs=>?_) hs
 rw [zB3] at hp hq
 have hj:j≤t.cps.size:=hq▸je (Nat.le_refl _) _
 refine fun E=>wpAny_getItem_str_slice (l:=p) (u:=q) (st:=none) hs rfl ?_
 unfold sliceMade
 have e3:slicePicked t p q none=(List.range (j - i)).map (i + ·):=kI hp hq hle
 rw [e3]
 split
 ·rename_i hf
  have hf:=eq_of_beq (zA2 hf).2
  rw [zA4,List.length_range] at hf
  have hf:j - i=t.cps.size:=hf
  refine ⟨.refl _,.text ?_⟩
  rw [hf,show i=0 by grind,List.drop_zero,← zB3,List.take_length]
 ·rw [jE hle hj]
  refine ⟨?_,.toks _ _,.text rfl⟩
  show (List.toArray _).size≤sizeLine
  rw [List.size_toArray]
  exact zB1 (List.length_take_le' ..) (zB1 (by rw [List.length_drop]; exact Nat.sub_le ..) (cK hz))
theorem uf {lo hi:Option V} {vl vu:Value} {sl:Addr} (I:Inv Φ s) (e:dJ x lo hi=some z) (r:Φ.rp s.heap v x) (rl:RpO Φ s.heap vl lo) (ru:RpO Φ s.heap vu hi) (hs:s.heap.IsSliceOf sl vl vu .none) :
  eW s v∧Φ.wp (getItem v (.ref sl)) (Φ.Gives s z) s:=by
 cases x with
 | list l=>exact jQ I e r rl ru hs
 | tuple l=>exact iv I e r rl ru hs
 | str t=>exact lv e r rl ru hs
 | _=>(injection e; done)
end
noncomputable abbrev DV:=(V→Prop)→Prop
section
variable {Φ:Ct} {s:Shared} {d d1 d2 d3:DV}
theorem vZ {r:Value→Sem Value} {t:Value→Value→Sem Value} {op:V→V→Option V} (h1:Ev Φ l d1) (h2:∀ v,Ev Φ (r v) d2)
  (st:∀ s v u x y z,Inv Φ s→Φ.rp s.heap v x→Φ.rp s.heap u y→op x y=some z→Φ.wp (t v u) (Φ.Gives s z) s):Ev Φ (do let v ← l; let u ← r v; t v u) (fun K=>d1 fun x=>d2 fun y=>okK (op x y) K):=fun K s hd I=>
 h1.bind hd I fun v x s₁ I₁ k₁ hx r1=>(h2 v).bind hx I₁ fun u y s₂ I₂ k₂ hy r2=>ag hy fun z e kz=>step I₂ kz (st s₂ v u x y z I₂ (r1.keep k₂) r2 e)
theorem Ap (h1:Ev Φ (eval l Φ.fx.env) d1) (h2:Ev Φ (eval r Φ.fx.env) d2):Ev Φ (eval (.BinOp l o r pos) Φ.fx.env) (fun K=>d1 fun x=>d2 fun y=>okK (tR o x y) K):=by
 rw [eval_BinOp]
 exact vZ (op:=tR o) h1 (fun v=>h2.holding) fun s v u x y z I r1 r2 e=>a9 (dx (AA e I r1 r2))
theorem iR (h:bx e=true):markedBehindIn o e t=t:=markedBehindIn_of_false (by cases e <;> first | rfl | exact nB h)
theorem v0 (hs:bx r=true) (h1:Ev Φ (eval l Φ.fx.env) d1) (h2:Ev Φ (eval r Φ.fx.env) d2):Ev Φ (eval (.Compare l [o] [r] pos) Φ.fx.env) (fun K=>d1 fun x=>d2 fun y=>okK (aU o x y) fun b=>K (.bool b)):=fun K s hd I=>by
 rw [eval_Compare1,iR hs]
 exact h1.bind hd I fun v x s₁ I₁ k₁ hx r1=>h2.holding.bind hx I₁ fun u y s₂ I₂ k₂ hy r2=>ag hy fun c e kc=>a9 (dx fun E=>wpAny_mono (qL e I₂ (r1.keep k₂) r2 E) (fun w s' q=>by obtain ⟨rfl,rfl⟩:=q; exact ⟨I₂.base,.refl _,_,kc,.bool c⟩) fun _ _ z=>z)
theorem fO (e:cG y some=some b) (r:Φ.rp s.heap v y) (h:Q b s):Φ.wp (truthy v) Q s:=
 fj (C:=fun y=>Φ.rp s.heap v y→Φ.wp (truthy v) Q s) e (fun c e r=>r.bool_elim fun E=>wpAny_truthy_bool (Option.some.inj e▸h)) r
noncomputable abbrev tst (d:DV):(Bool→Prop)→Prop:=fun K=>d fun y=>okK (cG y some) K
theorem xG (h:Ev Φ (eval x Φ.fx.env) d) (hx:isTrue x Φ.fx.env (eval x Φ.fx.env)=(do let v ← eval x Φ.fx.env; standAt x.pos; holding [v] (truthy v))):EvT Φ (isTrue x Φ.fx.env (eval x Φ.fx.env)) (tst d):=fun K s hd I=>by
 rw [hx]
 exact h.bind hd I fun v y s₁ I₁ k₁ hy r=>ag hy fun b e kb=>a9 fun E=>wpAny_holding (fO (Q:=Post Φ (fun _=>Eq) s₁ K) e r ⟨I₁.base,.refl _,b,kb,rfl⟩ E)
theorem uc (hs:bx r=true) (h1:Ev Φ (eval l Φ.fx.env) d1) (h2:Ev Φ (eval r Φ.fx.env) d2):EvT Φ (isTrue (.Compare l [o] [r] pos) Φ.fx.env w) (fun K=>d1 fun x=>d2 fun y=>okK (aU o x y) K):=fun K s hd I=>by
 have e:isTrue (.Compare l [o] [r] pos) Φ.fx.env w=(eval (.Compare l [o] [r] pos) Φ.fx.env >>= fun c=>holding [c] (truthy c)):=by
  rw [isTrue_Compare1,eval_Compare1]; simp only [bind_assoc]
 rw [e]
 exact (v0 hs h1 h2).bind (K₁:=fun y=>okK (cG y some) K) hd I fun v y s₁ I₁ k₁ hy r=>ag hy fun b e kb=>fun E=>wpAny_holding (fO (Q:=Post Φ (fun _=>Eq) s₁ K) e r ⟨I₁.base,.refl _,b,kb,rfl⟩ E)
theorem Aj (h:Ev Φ (eval x Φ.fx.env) d):Ev Φ (eval (.UnaryOp .Not x pos) Φ.fx.env) (fun K=>d fun y=>okK (cG y some) fun b=>K (.bool (!b))):=fun K s hd I=>by
 rw [arm_eval_UnaryOp]
 refine h.bind hd I fun v y s₁ I₁ k₁ hy r=>a9 fun E=>wpAny_holding ?_
 refine (?_:wpAny _ _ (holding [v] (truthy v >>= fun t=>pure (Value.bool (!t)))) _ _ _)
 exact ag hy fun b e kb=>wpAny_holding (zC1 (fO e r (zC2 ⟨I₁.base,.refl _,_,kb,.bool _⟩) E))
theorem ua (h:EvT Φ (isTrue x Φ.fx.env (eval x Φ.fx.env)) (tst d)):EvT Φ (isTrue (.UnaryOp .Not x pos) Φ.fx.env w) (fun K=>d fun y=>okK (cG y some) fun b=>K (!b)):=fun K s hd I=>by
 rw [arm_isTrue_UnaryOp]
 exact h.bind (K₁:=fun b=>K (!b)) hd I fun t b s₁ I₁ k₁ hb e=>EvR.pure I₁ hb (e▸rfl)
theorem Ak (h:Ev Φ (eval x Φ.fx.env) d):Ev Φ (eval (.UnaryOp .USub x pos) Φ.fx.env) (fun K=>d fun y=>okK (kX y fun i=>some (.int (-i))) K):=fun K s hd I=>by
 rw [arm_eval_UnaryOp]
 refine h.bind hd I fun v y s₁ I₁ k₁ hy r=>a9 ?_
 refine ag hy fun z e kz=>step I₁ kz fun E=>wpAny_holding ?_
 exact bv (C:=fun y=>Φ.rp s₁.heap v y→wpAny _ _ _ _ _ s₁) e (fun i e r=>r.int_elim fun t=>neg_int ⟨.toks _ _,Option.some.inj e▸.int _ _⟩) r
theorem An (hc:EvT Φ (isTrue c Φ.fx.env (eval c Φ.fx.env)) (tst d1)) (ha:Ev Φ (eval a Φ.fx.env) d2) (hb:Ev Φ (eval b Φ.fx.env) d3) :
  Ev Φ (eval (.IfExp c a b pos) Φ.fx.env) (fun K=>d1 fun x=>okK (cG x some) fun t=>if t=true then d2 K else d3 K):=fun K s hd I=>by
 rw [arm_eval_IfExp]
 refine hc.bind (K₁:=fun t=>if t=true then d2 K else d3 K) hd I fun t t' s₁ I₁ k₁ hk e=>?_
 subst e
 cases t with
 | true=>exact ha K s₁ hk I₁
 | false=>exact hb K s₁ hk I₁
noncomputable abbrev bop:Bool→BoolOp
 | true=>.And
 | false=>.Or
noncomputable abbrev pf (b:Bool) (ds:List DV):(Bool→Prop)→Prop:=cq b (ds.map fun d _=>d) []
theorem ub:EvT Φ (allTrue (bop b) [] Φ.fx.env) (pf b []):=fun K s hd I=>by
 rw [arm_allTrue_nil]
 cases b <;> exact EvR.pure I hd rfl
theorem sH (h:EvT Φ (isTrue x Φ.fx.env (eval x Φ.fx.env)) (tst d)) (hr:EvT Φ (allTrue (bop b) r Φ.fx.env) (pf b ds)):EvT Φ (allTrue (bop b) (x :: r) Φ.fx.env) (pf b (d :: ds)):=fun K s hd I=>by
 rw [arm_allTrue_cons]
 refine h.bind (K₁:=fun c=>if c=b then pf b ds K else K c) hd I fun t c s₁ I₁ k₁ hk e=>?_
 subst e
 cases b <;> cases t
 ·exact hr K s₁ hk I₁
 ·exact EvR.pure I₁ hk rfl
 ·exact EvR.pure I₁ hk rfl
 ·exact hr K s₁ hk I₁
abbrev be (Φ:Ct) (q:Expr×DV):Prop:=Ev Φ (eval q.1 Φ.fx.env) q.2
theorem tz {K:V→Prop} (hy:okK (cG y some) fun c=>if c=b then K (.bool b) else K (.bool c)) (r:Φ.rp h v y):K y:=
 ag hy fun c e kc=>fj (C:=fun y=>K y) e fun c' e=>by
  cases e
  by_cases q:c=b
  ·rw [if_pos q] at kc; rw [q]; exact kc
  ·rw [if_neg q] at kc; exact kc
theorem oW:∀ {qs:List (Expr×DV)},(∀ q∈qs,be Φ q)→qs≠[]→Ev Φ (boolOp pos (bop b) (qs.map fun q=>eval q.1 Φ.fx.env)) (fun K=>pf b (qs.map Prod.snd) fun c=>K (.bool c))
 | [],_,h=>absurd rfl h
 | [q],h,_=>fun K s hd I E=>by
  have e:boolOp pos (bop b) ([q].map fun q=>eval q.1 Φ.fx.env)=eval q.1 Φ.fx.env:=by cases b <;> rfl
  exact e.symm▸wpAny_mono (h q (.head _) (fun y=>okK (cG y some) fun c=>if c=b then K (.bool b) else K (.bool c)) s hd I E) (fun v s' ⟨B,k,y,hy,r⟩=>⟨B,k,y,tz hy r,r⟩) fun _ _ z=>z
 | q :: q' :: r,h,_=>fun K s hd I=>by
  have hr:=oW (b:=b) (pos:=pos) (qs:=q' :: r) (fun x m=>h x (.tail _ m)) (by simp)
  have go:∀ t u (l:List (Sem Value)),boolOp pos (bop b) (t :: u :: l)=(do let v ← t; standAt pos; let c ← holding [v] (truthy v); if c=b then boolOp pos (bop b) (u :: l) else pure v):=fun t u l=>by
   cases b <;> exact bind_congr fun v=>bind_congr fun _=>bind_congr fun c=>by cases c <;> rfl
  rw [List.map_cons,List.map_cons,go]
  refine (h q (.head _)).bind (K₁:=fun y=>okK (cG y some) fun c=>if c=b then pf b ((q' :: r).map Prod.snd) (fun c=>K (.bool c)) else K (.bool c)) hd I fun v y s₁ I₁ k₁ hy rp=>a9 ?_
  refine ag hy fun c e kc E=>zC1 (wpAny_holding (fO e rp ?_ E))
  by_cases qc:c=b
  ·rw [if_pos qc] at kc ⊢
   exact hr K s₁ kc I₁ E
  ·rw [if_neg qc] at kc ⊢
   exact zC2 ⟨I₁.base,.refl _,_,kc,fj (C:=fun y=>Φ.rp s₁.heap v y→Φ.rp s₁.heap v (.bool c)) e (fun c' e r=>by (injection e with e; subst e); exact r) rp⟩
theorem nT:∀ {qs:List (Expr×DV)},(∀ q∈qs,EvT Φ (isTrue q.1 Φ.fx.env (eval q.1 Φ.fx.env)) (tst q.2))→EvT Φ (allTrue (bop b) (qs.map Prod.fst) Φ.fx.env) (pf b (qs.map Prod.snd))
 | [],_=>ub
 | q :: r,h=>sH (h q (.head _)) (nT fun x m=>h x (.tail _ m))
noncomputable abbrev bo (ds:List DV):(List V→Prop)→Prop:=bJ (ds.map fun d _=>d) []
theorem aK (h:ao e=true):starEach (e :: r) env=(false,eval e env) :: starEach r env:=by
 cases e <;> first | rfl | exact nB h
theorem d8:∀ {qs:List (Expr×DV)},(∀ q∈qs,ao q.1=true∧be Φ q)→EvL Φ (spliced (backTo pos (starEach (qs.map Prod.fst) Φ.fx.env))) (bo (qs.map Prod.snd))
 | [],_=>fun K s hd I=>EvR.pure (a:=[]) I hd .nil
 | q :: r,h=>fun K s hd I=>by
  refine List.map_cons.symm▸(aK (h q (.head _)).1).symm▸?_
  have e:spliced (backTo pos ((false,eval q.1 Φ.fx.env) :: starEach (r.map Prod.fst) Φ.fx.env))=(eval q.1 Φ.fx.env >>= fun v=>holding [v] (spliced (backTo pos (starEach (r.map Prod.fst) Φ.fx.env))) >>= fun vs=>pure (v :: vs)):=rfl
  rw [e]
  exact (h q (.head _)).2.bind (K₁:=fun x=>bo (r.map Prod.snd) fun xs=>K (x :: xs)) hd I fun v x s₁ I₁ k₁ hx r1=>(d8 fun q m=>h q (.tail _ m)).holding.bind hx I₁ fun vs xs s₂ I₂ k₂ hxs rs=>EvR.pure I₂ hxs (.cons (r1.keep k₂) rs)
theorem uY {qs:List (Expr×DV)} {k:Nat} (h:∀ q∈qs,ao q.1=true∧be Φ q):EvC Φ true (eval (.Tuple (qs.map Prod.fst) k pos) Φ.fx.env) (fun K=>bo (qs.map Prod.snd) fun xs=>okK (db xs (.tuple xs)) K):=fun K s hd I=>by
 rw [arm_eval_Tuple]
 refine a9 ((d8 h).bindC hd I fun vs xs s₁ I₁ k₁ hx rs=>ag hx fun z e kz=>fit_elim (C:=fun z=>K z→Φ.wp _ (ju Φ true s₁ K) s₁) e (fun q kz E=>?_) kz)
 have m:=fg (n:=0) (tk:=s₁.toks) I₁ rs
 exact wpAny_newObj_type ⟨⟨I₁.base.grown m.1,m.1.keeps,_,kz,m.2⟩,fun _=>eG (Nat.le_refl _)⟩ (by refine (?_:vs.toArray.size≤sizeLine); rw [List.size_toArray,rs.length]; exact cK q)
theorem xI {qs:List (Expr×DV)} (h:∀ q∈qs,ao q.1=true∧be Φ q):Ev Φ (eval (.List (qs.map Prod.fst) pos) Φ.fx.env) (fun K=>bo (qs.map Prod.snd) fun xs=>okK (db xs (.list xs)) K):=fun K s hd I=>by
 rw [arm_eval_List]
 refine a9 ((d8 h).bind hd I fun vs xs s₁ I₁ k₁ hx rs=>ag hx fun z e kz=>step I₁ kz ?_)
 exact fit_elim e fun q E=>wpAny_newObj_type (gC (tk:=s₁.toks) I₁ rs) (by refine (?_:vs.toArray.size≤sizeLine); rw [List.size_toArray,rs.length]; exact cK q)
theorem jA (h:eW s o∧Φ.wp (getItem o i) (Φ.Gives s z) s):Φ.wp (do standAt pos; let r ← subscripted slice (← getitemInPython o) o i; letTemporaryGo value o r; pure r) (Φ.Gives s z) s:=by
 obtain ⟨⟨T,id,hT,hl⟩,hg⟩:=h
 refine a9 fun E=>?_
 rw [getitemInPython_of_ne hT.not_modules]
 refine zC1 (zC1 (wpAny_specialOf hT hl ?_))
 refine zC2 ?_
 have fin:∀ vs,wpAny (model Φ.fx.g.prog Φ.fx.g.w) Φ.fx.A (operate vs (getItem o i) >>= fun r=>letTemporaryGo value o r >>= fun _=>pure r) (Φ.Gives s z) E s:=fun vs=>
  zC1 (wpAny_mono (dx hg E) (fun a s' p=>zC1 (wpAny_letTemporaryGo (wpAny_pure p))) fun _ _ z=>z)
 cases slice with
 | Slice a b c p=>cases c with
  | none=>exact fin _
  | some=>exact fin _
 | _=>exact fin _
theorem Ai (h1:Ev Φ (eval value Φ.fx.env) d1) (h2:Ev Φ (eval slice Φ.fx.env) d2):Ev Φ (eval (.Subscript value slice pos) Φ.fx.env) (fun K=>d1 fun x=>d2 fun y=>okK (tG x y) K):=by
 rw [arm_eval_Subscript]
 exact vZ (op:=tG) h1 (fun v=>h2.holding) fun s v u x y z I r1 r2 e=>jA (zb I e r1 r2)
abbrev EvO (Φ:Ct) (t:Sem Value) (d:(Option V→Prop)→Prop):Prop:=EvR Φ (RpO Φ) t d
theorem jd:EvO Φ (valueOrNone (evalOpt none Φ.fx.env)) (fun K=>K none):=fun K s hd I=>EvR.pure (a:=Value.none) I hd rfl
theorem jc (h:Ev Φ (eval e Φ.fx.env) d):EvO Φ (valueOrNone (evalOpt (some e) Φ.fx.env)) (fun K=>d fun y=>K (some y)):=fun K s hd I E=>by
 refine (?_:wpAny _ _ (eval e Φ.fx.env) _ _ _)
 exact wpAny_mono (h _ s hd I E) (fun v s' ⟨B,k,y,hy,r⟩=>⟨B,k,some y,hy,r⟩) fun _ _ z=>z
theorem RpO.keep (r:RpO Φ h v y) (k:aG h h'):RpO Φ h' v y:=by
 cases y with
 | none=>exact r
 | some x=>exact Rp.keep r k
theorem fZ {value:Expr} {lo hi:Option Expr} {p pos:Pos} {dl dh:(Option V→Prop)→Prop} (h1:Ev Φ (eval value Φ.fx.env) d1) (h2:EvO Φ (valueOrNone (evalOpt lo Φ.fx.env)) dl) (h3:EvO Φ (valueOrNone (evalOpt hi Φ.fx.env)) dh) :
  Ev Φ (eval (.Subscript value (.Slice lo hi none p) pos) Φ.fx.env) (fun K=>d1 fun x=>dl fun l=>dh fun h=>okK (dJ x l h) K):=fun K s hd I=>by
 rw [arm_eval_Subscript]
 refine h1.bind hd I fun v x s₁ I₁ k₁ hx r1=>?_
 have hS:EvR Φ (fun h v (q:Option V×Option V)=>∃ sl vl vu,v=.ref sl∧h.IsSliceOf sl vl vu .none∧RpO Φ h vl q.1∧RpO Φ h vu q.2) (eval (.Slice lo hi none p) Φ.fx.env) (fun K=>dl fun l=>dh fun h=>K (l,h)):=fun K s hd I=>by
  rw [arm_eval_Slice]
  refine h2.bind hd I fun vl l s₁ I₁ k₁ hl rl=>h3.holding.bind hl I₁ fun vu h s₂ I₂ k₂ hh rh=>?_
  refine step (z:=(l,h)) I₂ hh fun E=>zC1 (wpAny_holding (zC2 ?_))
  exact wpAny_newObj_type ⟨Grown.push _ _ s₂.toks,_,vl,vu,rfl,Heap.IsSliceOf.new ..,(rl.keep k₂).keep (dD _ _),rh.keep (dD _ _)⟩
 refine hS.holding.bind (K₁:=fun q=>okK (dJ x q.1 q.2) K) hx I₁ fun u q s₂ I₂ k₂ hq rq=>?_
 obtain ⟨sl,vl,vu,rfl,hs,rl,ru⟩:=rq
 exact ag hq fun z e kz=>step I₂ kz (jA (uf I₂ e (r1.keep k₂) rl ru hs))
end
section
variable {Φ:Ct} {s:Shared} {v u:Value} {x y z:V} {d:DV}
theorem i8 {x:Str} (h:bn Φ.fx.env.scope.names x=true):Φ.fx.env.scope.names.lookup x=some .globalImplicit∧(x==("__debug__" : Str))=false:=by
 have h:=zA2 h
 exact ⟨eq_of_beq h.1,Bool.not_eq_true' _▸(zA2 h.2).1⟩
theorem bG {x:Str} {pos:Pos} {Q:Value→Shared→Prop} (I:Inv Φ s) (hx:bn Φ.fx.env.scope.names x=true) (hv:Φ.fx.g.mg x=some v) (h:Q v s):Φ.wp (eval (.Name x pos) Φ.fx.env) Q s:=fun E=>
 Name_function_global I.ok.kind (i8 hx).1 (loadGlobal_global (by rw [I.ok.globals]; exact I.ok.gr.main.at' (I.base.stays _)) hv h) (i8 hx).2
theorem bB {x:Str} {pos:Pos} {Q:Value→Shared→Prop} (I:Inv Φ s) (hx:bn Φ.fx.env.scope.names x=true) (hv:bC.lookup x=some v) (h:Q v s):Φ.wp (eval (.Name x pos) Φ.fx.env) Q s:=fun E=>
 have q:=I.ok.gr.blts x v hv
 Name_function_global I.ok.kind (i8 hx).1 (loadGlobal_builtin (by rw [I.ok.globals]; exact I.ok.gr.main.at' (I.base.stays _)) q.1 (by rw [I.ok.builtins]; exact I.ok.gr.blt.at' (I.base.stays _)) q.2 h) (i8 hx).2
theorem u3 {n:Str} {pos:Pos} (hx:bn Φ.fx.env.scope.names n=true) (hv:Φ.fx.g.cons.lookup n=some x):Ev Φ (eval (.Name n pos) Φ.fx.env) (fun K=>K x):=fun K s hd I=>
 (I.ok.gr.cons n x hv).elim fun u q=>bG I hx q.1 ⟨I.base,.refl _,x,hd,q.2 _ _ I.base.stays fun a b=>I.bad0 b⟩
theorem Al (hc:si c x=true):Ev Φ (eval (.Constant c k pos) Φ.fx.env) (fun K=>K x):=fun K s hd I E=>by
 refine (?_:wpAny _ _ (constValue Φ.fx.env c) _ _ _)
 cases x with
 | none=>obtain rfl:=eq_of_beq hc; exact zC2 ⟨I.base,.refl _,_,hd,.none⟩
 | bool b=>obtain rfl:=eq_of_beq hc; exact zC2 ⟨I.base,.refl _,_,hd,.bool _⟩
 | int i=>obtain rfl:=eq_of_beq hc; exact wpAny_mkInt ⟨I.base.grown (.toks _ _),.refl _,_,hd,.int _ _⟩
 | str t=>obtain rfl:=eq_of_beq hc; exact wpAny_mkText ⟨I.base.grown (.toks _ _),.refl _,_,hd,.str _ _⟩
 | _=>(injection hc; done)
theorem du:∀ {l:List (Bool×Sem Value)},(∀ q∈l,q.1=false)→(backTo pos l).any (·.1)=false
 | [],_=>rfl
 | [q],h=>by simp [backTo,h q (.head _)]
 | q :: q' :: l,h=>by
  have:=du (pos:=pos) (l:=q' :: l) fun x m=>h x (.tail _ m)
  simpa [backTo,h q (.head _)] using this
theorem bV:∀ {qs:List (Expr×DV)},(∀ q∈qs,ao q.1=true)→∀ q∈starEach (qs.map Prod.fst) env,q.1=false
 | [],_,_,h=>nM h
 | q :: r,h,p,hp=>by
  rw [List.map_cons,aK (h q (.head _))] at hp
  cases hp with
  | head=>rfl
  | tail _ m=>exact bV (fun x m=>h x (.tail _ m)) p m
theorem cY {qs:List (Expr×DV)} {K:List V→Prop} {Q:Args→Shared→Prop} {E:Value→Shared→Prop} (hq:∀ q∈qs,ao q.1=true∧be Φ q) (hd:bo (qs.map Prod.snd) K) (I:Inv Φ s)
  (h:∀ vs xs s₁,Inv Φ s₁→aG s.heap s₁.heap→K xs→Φ.rps s₁.heap vs xs→Q ⟨vs,[]⟩ s₁):wpAny (model Φ.fx.g.prog Φ.fx.g.w) Φ.fx.A (evalArgs F true (backTo pos (starEach (qs.map Prod.fst) Φ.fx.env)) []) Q E s:=by
 have it:=d8 (pos:=pos) hq K s hd I E
 cases qs with
 | nil=>exact PySem.evalArgs_none (h [] [] s I (.refl _) hd .nil)
 | cons q r=>
  rw [List.map_cons,aK (hq q (.head _)).1] at it ⊢
  obtain ⟨l,hl⟩:∃ l,backTo pos ((false,eval q.1 Φ.fx.env) :: starEach (r.map Prod.fst) Φ.fx.env)=(false,eval q.1 Φ.fx.env) :: l:=by
   cases starEach (r.map Prod.fst) Φ.fx.env <;> exact ⟨_,rfl⟩
  rw [hl] at it ⊢
  exact Calls.evalArgs_plain (wpAny_mono it (fun vs s₁ ⟨B,k,xs,hx,rs⟩=>h vs xs s₁ (I.keep B k) k hx rs) fun _ _ z=>z)
theorem oU {F:Value} {f:Str} {fp pos:Pos} {qs:List (Expr×DV)} {op:List V→Option V} (hx:bn Φ.fx.env.scope.names f=true) (hF:bC.lookup f=some F) (hk:(∃ id,F=.builtin id)∨∃ T,F=.type T) (hq:∀ q∈qs,ao q.1=true∧be Φ q)
  (st:∀ s vs xs z,Inv Φ s→Φ.rps s.heap vs xs→op xs=some z→Φ.wp (call F vs) (Φ.Gives s z) s):Ev Φ (eval (.Call (.Name f fp) (qs.map Prod.fst) [] pos) Φ.fx.env) (fun K=>bo (qs.map Prod.snd) fun xs=>okK (op xs) K):=fun K s hd I E=>by
 refine (?_:wpAny _ _ (eval (.Name f fp) Φ.fx.env >>= fun F=>callWith pos F [] (backTo pos (starEach (qs.map Prod.fst) Φ.fx.env)) []) _ _ s)
 refine zC1 (bB I hx hF ?_ E)
 have hp:=du (pos:=pos) (bV (env:=Φ.fx.env) fun q m=>(hq q m).1)
 have main:wpAny (model Φ.fx.g.prog Φ.fx.g.w) Φ.fx.A (evalArgs F true (backTo pos (starEach (qs.map Prod.fst) Φ.fx.env)) []) (fun a s₁=>wpAny (model Φ.fx.g.prog Φ.fx.g.w) Φ.fx.A (call F ([]++a.pos) a.kw) (Post Φ Φ.rp s K) E s₁) E s:=
  cY hq hd I fun vs xs s₁ I₁ k₁ hx rs=>ag hx fun z e kz=>wpAny_mono (step I₁ kz (st s₁ vs xs z I₁ rs e) E) (fun _ _ p=>p.lift k₁) fun _ _ z=>z
 rcases hk with ⟨id,rfl⟩ | ⟨T,rfl⟩
 ·exact callWith_builtin hp main
 ·exact PySem.callWith_type hp main
theorem dj {α:Type} {vs:List Value} {xs:List V} {f:V→Option α} {z:α} {C:List Value→Prop} (e:one xs f=some z) (rs:Φ.rps s.heap vs xs) (k:∀ v x,Φ.rp s.heap v x→f x=some z→C [v]):C vs:=by
 cases rs with
 | nil=>(injection e; done)
 | cons r rs=>cases rs with
  | nil=>exact k _ _ r e
  | cons _ _=>(injection e; done)
theorem t8 {α:Type} {vs:List Value} {xs:List V} {f:V→V→Option α} {z:α} {C:List Value→Prop} (e:two xs f=some z) (rs:Φ.rps s.heap vs xs) (k:∀ v u x y,Φ.rp s.heap v x→Φ.rp s.heap u y→f x y=some z→C [v,u]):C vs:=by
 cases rs with
 | nil=>(injection e; done)
 | cons r rs=>cases rs with
  | nil=>(injection e; done)
  | cons r' rs=>cases rs with
   | nil=>exact k _ _ _ _ r r' e
   | cons _ _=>(injection e; done)
theorem AK (h:n≤am):(n:Int) < 2 ^ 63:=Int.ofNat_lt.mpr (Nat.lt_of_le_of_lt h (by decide))
theorem aO {vs:Array Value} {l:List V} (r:Φ.rps h vs.toList l):vs.size=l.length:=Array.length_toList▸r.length
theorem kE {C:V→List V→Prop} (e:wM x=some l) (kl:∀ l:List V,l.length≤am→C (.list l) l) (kt:∀ l:List V,l.length≤am→C (.tuple l) l) (ks:∀ t:Str,t.cps.toList.length≤am→C (.str t) (bj t.cps.toList)):C x l:=by
 cases x with
 | list m=>exact fit_elim e fun h=>kl m h
 | tuple m=>exact fit_elim e fun h=>kt m h
 | str m=>exact fit_elim e fun h=>ks m h
 | _=>(injection e; done)
theorem zP (e:wM x=some l) (r:Φ.rp s.heap v x):Φ.wp (call (.builtin "len") [v]) (Φ.Gives s (.int l.length)) s:=
 kE (C:=fun x l=>Φ.rp s.heap v x→Φ.wp (call (.builtin "len") [v]) (Φ.Gives s (.int l.length)) s) e
  (fun l hz r=>r.list_elim fun a o vs n _ ha hc hd hl E=>aO hl▸PyProof.Rows.len_list ⟨_,ha,hc.1,_,hd⟩ (by rw [aO hl]; exact AK hz) ⟨.toks _ _,.int _ _⟩)
  (fun l hz r=>r.tuple_elim fun a o vs n _ ha hc hd hl E=>aO hl▸PyProof.Rows.len_tuple ⟨_,ha,hc,_,hd⟩ (by rw [aO hl]; exact AK hz) ⟨.toks _ _,.int _ _⟩)
  (fun t hz r=>r.str_elim fun tk E=>by
   unfold bj
   rw [zA4,zB3]
   exact P.len_str (by rw [zB3] at hz; have:=AK hz; unfold Str.length; omega) ⟨.toks _ _,.int _ _⟩) r
theorem Am {fp pos:Pos} {q:Expr×DV} (hx:bn Φ.fx.env.scope.names "len"=true) (hq:ao q.1=true∧be Φ q):Ev Φ (eval (.Call (.Name "len" fp) [q.1] [] pos) Φ.fx.env) (fun K=>bo [q.2] fun xs=>okK (opN .len xs) K):=
 oU (qs:=[q]) (op:=opN .len) hx rfl (.inl ⟨_,rfl⟩) (fun p m=>by obtain rfl:=zA6 m; exact hq) fun s vs xs z I rs e=>dj (C:=fun vs=>Φ.wp (call (.builtin "len") vs) (Φ.Gives s z) s) e rs fun v x r e=>map_elim e fun l e=>zP e r
end
section
variable {Φ:Ct} {s:Shared} {v u:Value} {x y z:V} {d:DV}
theorem jY (q:pY kvs=true) (e:isT (.dict kvs) t=some b):False:=by
 cases kvs with
 | nil=>(injection q; done)
 | cons=>(injection e; done)
theorem zZ (hT:iE[t]?=some T) (e:isT x t=some b) (r:Φ.rp s.heap v x):Φ.wp (call (.builtin "isinstance") [v,.type T]) (Φ.Gives s (.bool b)) s:=fun E=>by
 have G0:∀ {b},Φ.Gives s (.bool b) (.bool b) s:=⟨.refl _,.bool _⟩
 have G1:∀ {b},Φ.Gives s (.bool b) (.bool b) { s with toks:=s.toks+1 }:=⟨.toks _ _,.bool _⟩
 match t,hT with
 | 0,hT=>
  (injection hT with hT; subst hT)
  cases r with
  | none=>exact some_elim e (IsiPair.NoneType_str G1)
  | bool c=>exact some_elim e (IsiPair.bool_str G1)
  | int i t=>exact some_elim e (IsiPair.int_str G1)
  | str _ t=>exact some_elim e (IsiPair.str_str G0)
  | list _ ha hc=>exact some_elim e (IsiPair.list_str ha hc.1 G1)
  | tuple _ ha hc=>exact some_elim e (IsiPair.tuple_str ha hc G1)
  | inst _ _ _ _ _ _ q=>exact (jY q e).elim
  | exc=>(injection e; done)
  | dict _ _ ha hc=>exact if_elim e fun _=>IsiPair.dict_str ha hc.1 G1
 | 1,hT=>
  (injection hT with hT; subst hT)
  cases r with
  | none=>exact some_elim e (IsiPair.NoneType_tuple G1)
  | bool c=>exact some_elim e (IsiPair.bool_tuple G1)
  | int i t=>exact some_elim e (IsiPair.int_tuple G1)
  | str _ t=>exact some_elim e (IsiPair.str_tuple G1)
  | list _ ha hc=>exact some_elim e (IsiPair.list_tuple ha hc.1 G1)
  | tuple _ ha hc=>exact some_elim e (IsiPair.tuple_tuple ha hc G0)
  | inst _ _ _ _ _ _ q=>exact (jY q e).elim
  | exc=>(injection e; done)
  | dict _ _ ha hc=>exact if_elim e fun _=>IsiPair.dict_tuple ha hc.1 G1
 | 2,hT=>
  (injection hT with hT; subst hT)
  cases r with
  | none=>exact some_elim e (IsiPair.NoneType_list G1)
  | bool c=>exact some_elim e (IsiPair.bool_list G1)
  | int i t=>exact some_elim e (IsiPair.int_list G1)
  | str _ t=>exact some_elim e (IsiPair.str_list G1)
  | list _ ha hc=>exact some_elim e (IsiPair.list_list ha hc.1 G0)
  | tuple _ ha hc=>exact some_elim e (IsiPair.tuple_list ha hc G1)
  | inst _ _ _ _ _ _ q=>exact (jY q e).elim
  | exc=>(injection e; done)
  | dict _ _ ha hc=>exact if_elim e fun _=>IsiPair.dict_list ha hc.1 G1
 | 3,hT=>
  (injection hT with hT; subst hT)
  cases r with
  | none=>exact some_elim e (IsiPair.NoneType_int G1)
  | bool c=>exact some_elim e (IsiPair.bool_int G0)
  | int i t=>exact some_elim e (IsiPair.int_int G0)
  | str _ t=>exact some_elim e (IsiPair.str_int G1)
  | list _ ha hc=>exact some_elim e (IsiPair.list_int ha hc.1 G1)
  | tuple _ ha hc=>exact some_elim e (IsiPair.tuple_int ha hc G1)
  | inst _ _ _ _ _ _ q=>exact (jY q e).elim
  | exc=>(injection e; done)
  | dict _ _ ha hc=>exact if_elim e fun _=>IsiPair.dict_int ha hc.1 G1
 | 4,hT=>
  (injection hT with hT; subst hT)
  cases r with
  | none=>exact some_elim e (IsiPair.NoneType_bool G1)
  | bool c=>exact some_elim e (IsiPair.bool_bool G0)
  | int i t=>exact some_elim e (IsiPair.int_bool G1)
  | str _ t=>exact some_elim e (IsiPair.str_bool G1)
  | list _ ha hc=>exact some_elim e (IsiPair.list_bool ha hc.1 G1)
  | tuple _ ha hc=>exact some_elim e (IsiPair.tuple_bool ha hc G1)
  | inst _ _ _ _ _ _ q=>exact (jY q e).elim
  | exc=>(injection e; done)
  | dict _ _ ha hc=>exact if_elim e fun _=>IsiPair.dict_bool ha hc.1 G1
theorem y8 {t:Nat} (hT:iE[t]?=some T):bC.lookup (Str.ofString T)=some (.type T):=by
 match t,hT with
 | 0,hT=>(injection hT with hT; subst hT); decide
 | 1,hT=>(injection hT with hT; subst hT); decide
 | 2,hT=>(injection hT with hT; subst hT); decide
 | 3,hT=>(injection hT with hT; subst hT); decide
 | 4,hT=>(injection hT with hT; subst hT); decide
theorem Ao {t:Nat} (hT:iE[t]?=some T) (hx:bn Φ.fx.env.scope.names "isinstance"=true) (hy:bn Φ.fx.env.scope.names (Str.ofString T)=true) (hp:ao q.1=true) (h:be Φ q) :
  Ev Φ (eval (.Call (.Name "isinstance" fp) [q.1,.Name (Str.ofString T) pT] [] pos) Φ.fx.env) (fun K=>q.2 fun x=>okK (isT x t) fun b=>K (.bool b)):=fun K s hd I E=>by
 refine (?_:wpAny _ _ (eval (.Name "isinstance" fp) Φ.fx.env >>= fun F=>callWith pos F [] (backTo pos (starEach [q.1,.Name (Str.ofString T) pT] Φ.fx.env)) []) _ _ s)
 refine zC1 (bB (v:=.builtin "isinstance") I hx rfl ?_ E)
 rw [aK hp]
 refine callWith_builtin rfl (Calls.evalArgs_plain ?_)
 have q':spliced (backTo pos ((false,eval q.1 Φ.fx.env) :: starEach [.Name (Str.ofString T) pT] Φ.fx.env))=(eval q.1 Φ.fx.env >>= fun v=>holding [v] (eval (.Name (Str.ofString T) pT) Φ.fx.env >>= fun u=>holding [u] (pure []) >>= fun vs=>pure (u :: vs)) >>= fun vs=>pure (v :: vs)):=rfl
 refine (?_:wpAny _ _ (spliced (backTo pos ((false,eval q.1 Φ.fx.env) :: starEach [.Name (Str.ofString T) pT] Φ.fx.env))) _ _ _)
 rw [q']
 refine zC1 (wpAny_mono (h _ s hd I E) (fun v s₁ ⟨B,k,x,hx,r⟩=>?_) fun _ _ z=>z)
 have I₁:=I.keep B k
 refine zC1 (wpAny_holding (zC1 (bB I₁ hy (y8 hT) ?_ E)))
 refine zC1 (wpAny_holding (zC2 (zC2 (zC2 ?_))))
 exact ag hx fun b e kb=>wpAny_mono (step I₁ kb (zZ hT e r) E) (fun _ _ p=>p.lift k) fun _ _ z=>z
theorem jI (k:aH s.heap h'):Grown s { s with heap:=h',toks:=tk }:=⟨k,rfl,rfl⟩
theorem kM {C:V→List V→Prop} (e:iO x=some l) (kl:∀ l:List V,l.length≤am→C (.list l) l) (kt:∀ l:List V,l.length≤am→C (.tuple l) l):C x l:=by
 cases x with
 | list m=>exact fit_elim e fun h=>kl m h
 | tuple m=>exact fit_elim e fun h=>kt m h
 | _=>(injection e; done)
theorem rK (I:Inv Φ s) (k:aH s.heap h') (hD:h'.get? s.heap.objs.size=some { cls:=.type "list",dict:=none,data:=.seq vs c,slots:=#[] }) (rr:Φ.rps h' vs.toList l) :
  Φ.Gives s (.list l) (.ref s.heap.objs.size) { s with heap:=h',toks:=tk }:=⟨jI k,.list I.fresh hD ⟨rfl,rfl⟩ rfl rr⟩
theorem w7 (I:Inv Φ s) (e:iO x=some l) (r:Φ.rp s.heap v x):Φ.wp (call (.type "list") [v]) (fun w s'=>w=.ref s.heap.objs.size∧Φ.Gives s (.list l) w s') s:=
 kM (C:=fun x l=>Φ.rp s.heap v x→Φ.wp (call (.type "list") [v]) (fun w s'=>w=.ref s.heap.objs.size∧Φ.Gives s (.list l) w s') s) e
  (fun l hz r=>r.list_elim fun a o vs n _ ha hc hd hl E=>call_list_seq (hsz:=by rw [aO hl]; exact cK hz) _ (.inl rfl) ha hc.1 hd fun h' c' hk hD=>⟨rfl,rK (tk:=s.toks) I hk hD (hl.keep (aH.keeps hk))⟩)
  (fun l hz r=>r.tuple_elim fun a o vs n _ ha hc hd hl E=>call_list_seq (hsz:=by rw [aO hl]; exact cK hz) _ (.inr rfl) ha hc hd fun h' c' hk hD=>⟨rfl,rK (tk:=s.toks) I hk hD (hl.keep (aH.keeps hk))⟩) r
theorem pD (e:fP l=some ss) (r:Φ.rps h vs l):StrsAre vs (ss.map fun x=>(⟨x.toArray⟩:Str)):=by
 refine r.ind (D:=fun vs l=>∀ ss,fP l=some ss→StrsAre vs (ss.map fun x=>(⟨x.toArray⟩:Str))) (fun ss e=>some_elim e .nil) (fun v vs x l r _ ih ss e=>?_) ss e
 unfold fP at e
 rw [List.mapM_cons] at e
 obtain ⟨a,ha,e⟩:=Option.bind_eq_some_iff.mp e
 obtain ⟨b,hb,e⟩:=Option.bind_eq_some_iff.mp e
 (injection e with e; subst e)
 exact eC (C:=fun x=>Φ.rp h v x→StrsAre (v :: vs) ((a :: b).map fun x=>(⟨x.toArray⟩:Str))) ha (fun t et r=>r.str_elim fun tk=>by (injection et with et; subst et); rw [List.map_cons,iH]; exact .cons _ _ (ih b hb)) r
theorem i6 (e:eI l=some ns) (r:Φ.rps h vs l):IntsAre vs ns:=by
 refine r.ind (D:=fun vs l=>∀ ns,eI l=some ns→IntsAre vs ns) (fun ss e=>some_elim e .nil) (fun v vs x l r _ ih ss e=>?_) ns e
 unfold eI at e
 rw [List.mapM_cons] at e
 obtain ⟨a,ha,e⟩:=Option.bind_eq_some_iff.mp e
 obtain ⟨b,hb,e⟩:=Option.bind_eq_some_iff.mp e
 (injection e with e; subst e)
 exact bv (C:=fun x=>Φ.rp h v x→IntsAre (v :: vs) (a :: b)) ha (fun i ei r=>r.int_elim fun tk=>by (injection ei with ei; subst ei); exact .cons _ _ (ih b hb)) r
theorem iZ (sep:List Nat):∀ (ss:List (List Nat)) (a:List Nat),((ss.map fun x=>(⟨x.toArray⟩:Str)).foldl (fun acc p=>acc++sep.toArray++p.cps) a.toArray).toList=gY sep (a :: ss)
 | [],a=>rfl
 | x :: r,a=>by
  have:=iZ sep r (a++sep++x)
  rw [List.map_cons,List.foldl_cons,show a.toArray++sep.toArray++x.toArray=(a++sep++x).toArray by simp,this]
  cases r <;> simp [gY]
theorem ly (sep:List Nat):∀ ss:List (List Nat),(Builtin.Str.glued ⟨sep.toArray⟩ (ss.map fun x=>(⟨x.toArray⟩:Str))).cps.toList=gY sep ss
 | []=>rfl
 | x :: r=>iZ sep r x
theorem xk (e:fP l=some ss) (hz:(ss.map List.length).sum+ss.length * sep.cps.toList.length≤am) (rs:Φ.rp s.heap u (.str sep)) (r:Φ.rp s.heap v (.list l)) :
  Φ.wp (call (.builtin "str.join") [u,v]) (Φ.Gives s (text (gY sep.cps.toList ss))) s:=by
 refine rs.str_elim fun t=>r.list_elim fun a o vs n _ ha hc hd hl E=>?_
 have q:=ly sep.cps.toList ss
 rw [iH] at q
 refine PyProof.Rows.join_list ⟨_,ha,hc.1,_,hd⟩ (pD e hl) ?_ fun t' k=>⟨.toks _ _,.text q⟩
 have e1:((ss.map fun x=>(⟨x.toArray⟩:Str)).map (·.length))=ss.map List.length:=by simp [Str.length]
 rw [e1,zA4]
 rw [zB3] at hz
 exact zB1 hz (show am≤16777216 by decide)
theorem u5 (I:Inv Φ s) (q:(dA y&&dA (.list l))=true) (r:Φ.rp s.heap v (.list l)) (r2:Φ.rp s.heap u y):Φ.wp (call (.builtin "list.count") [v,u]) (Φ.Gives s (.int (l.countP fun z=>PyData.eqv z y))) s:=fun E=>by
 have q:=zA2 q
 have h1:=okd q.1
 have h2:=okd q.2
 obtain ⟨bs,p2⟩:=r2.reads h1.1
 obtain ⟨as,p1⟩:=r.reads h2.1
 refine r.list_elim fun a o vs n _ ha hc hd hl=>?_
 obtain ⟨cls,dd,data,sl⟩:=o
 obtain ⟨rfl,rfl⟩:=hc
 subst hd
 obtain ⟨as,ra⟩:=(oj (v:=.none) (x:=.none)).2 hl h2.1
 have:=SeqAt.items_eqAt (A:=Φ.fx.A) (vs:=vs) ra p2 h2.1 h1.1 (hY I h1.2)
 refine call_meets PySem.F.slot_list_count ⟨_,ha,rfl⟩ PySem.F.entry_list_count (PySem.F.args_list_count_2 _ _) (SeqAt.list_countAt a vs n none sl u (fun y'=>PyData.eqv (SeqAt.readOf s.heap y') y)) ⟨ha,this,?_⟩
 have e:vs.toList.countP (fun y'=>PyData.eqv (SeqAt.readOf s.heap y') y)=l.countP fun z=>PyData.eqv z y:=by
  rw [← SeqAt.readsAll_map l _ _ h2.1 ra,List.countP_map]; rfl
 rw [e]
 exact ⟨.toks _ _,.int _ _⟩
end
section
variable {Φ:Ct} {s:Shared} {v u:Value} {x y z:V} {d d1 d2:DV}
abbrev Ct.safe (Φ:Ct) (f:Nat):Prop:=Φ.fx.hm=true→Φ.fx.g.safe f=true
theorem dw {K:V→Prop} {E:Value→Shared→Prop} (hs:Φ.safe f) (I:Inv Φ s) (h:al Φ.fx.g.P Φ.fx.d f xs fun y=>noX y=true∧K y) (rs:Φ.rps s.heap vs xs) :
  wpAny (model Φ.fx.g.prog Φ.fx.g.w) Φ.fx.A (call (.ref (Φ.fx.g.fn f)) vs) (ju Φ (Φ.fx.g.newf f) s K) E s:=
 wpAny_mono (I.ok.call Φ.fx.hm f xs _ Φ.fx.A s Φ.bad vs h I.ok.hand hs I.ok.room I.ok.units I.base I.fr (fun a b=>I.badLive b) (fun a b=>I.bad0 b) rs) (fun _ _ ⟨B,k,y,hy,_,r,nv⟩=>⟨⟨B,k,y,hy.2,r⟩,nv⟩) fun _ _ ⟨_,_,c,e,_,_,q,_⟩=>nB q.1
theorem Inv.frag (I:Inv Φ s):Φ.fx.g.K.In s.heap:=I.ok.gr.frag.keeps I.base.stays
theorem xK {f:Nat} {qs:List (Expr×DV)} (hx:bn Φ.fx.env.scope.names n=true) (hf:Φ.fx.g.fns.lookup n=some f) (hfn:keepIn Φ.fx.g.K (.ref (Φ.fx.g.fn f))=true) (hsf:Φ.safe f) (hq:∀ q∈qs,ao q.1=true∧be Φ q) :
  EvC Φ (Φ.fx.g.newf f) (eval (.Call (.Name n fp) (qs.map Prod.fst) [] pos) Φ.fx.env) (fun K=>bo (qs.map Prod.snd) fun xs=>al Φ.fx.g.P Φ.fx.d f xs fun y=>noX y=true∧K y):=fun K s hd I E=>by
 refine (?_:wpAny _ _ (eval (.Name n fp) Φ.fx.env >>= fun F=>callWith pos F [] (backTo pos (starEach (qs.map Prod.fst) Φ.fx.env)) []) _ _ s)
 refine zC1 (bG I hx (I.ok.gr.fns n f hf) ?_ E)
 refine callWith_of (by rw [du (bV fun q m=>(hq q m).1)]; rfl) (keeps_K hfn) (cY hq hd I fun vs xs s₁ I₁ k₁ hx rs=>⟨I₁.frag,?_⟩)
 exact wpAny_mono (dw hsf I₁ hx rs) (fun _ _ p=>p.lift k₁) fun _ _ z=>z
theorem b0 (h:b9 o=true):attributeBase o name env t=t:=by
 cases o with
 | Call f xs ks p=>
  cases xs with
  | nil=>exact nB h
  | cons=>cases f <;> rfl
 | _=>first | rfl | exact nB h
theorem r8 {o e:Expr} {name:Str} {T id:String} {apos pos:Pos} {op:V→V→Option V} (ho:b9 o=true) (hp:ao e=true) (hline:(apos.endLine==pos.line)=true)
  (pa:PlainAttrs T) (slot:PySem.Slot T name id) (hty:typeOf (.builtin id)=pure (.type "method_descriptor")) (h1:Ev Φ (eval o Φ.fx.env) d1) (h2:Ev Φ (eval e Φ.fx.env) d2) {ok:V→Bool}
  (hrecv:∀ (s:Shared) v x,ok x=true→Φ.rp s.heap v x→s.TypeIs v T∧∀ a,v=.ref a→∃ ob,s.heap.get? a=some ob∧ob.dict=none)
  (hop:∀ (s:Shared) u v x y z,Inv Φ s→Φ.rp s.heap u x→Φ.rp s.heap v y→op x y=some z→Φ.wp (call (.builtin id) [u,v]) (Φ.Gives s z) s) :
  Ev Φ (eval (.Call (.Attribute o name apos) [e] [] pos) Φ.fx.env) (fun K=>d1 fun x=>ok x=true∧d2 fun y=>okK (op x y) K):=fun K s hd I E=>by
 refine wpAny_Call_method (b0 ho) ?_ hline pa slot hty ?_
 ·rw [aK hp]; rfl
 refine wpAny_mono (h1 _ s hd I E) (fun ov s₁ ⟨B,k,x,⟨hx,hd2⟩,r1⟩=>?_) fun _ _ z=>z
 have I₁:=I.keep B k
 obtain ⟨hT,hdd⟩:=hrecv s₁ ov x hx r1
 refine ⟨hT,hdd,callWith_builtin ?_ ?_⟩
 ·rw [aK hp]; rfl
 refine cY (qs:=[(e,d2)]) (K:=fun ys=>okK (one ys (op x)) K) (fun q m=>by obtain rfl:=zA6 m; exact ⟨hp,h2⟩) hd2 I₁ fun vs ys s₂ I₂ k₂ hy rs=>ag hy fun z e kz=>?_
 refine dj (C:=fun vs=>wpAny _ _ (call (.builtin id) ([ov]++vs) []) _ _ s₂) e rs fun v y r2 e=>?_
 exact wpAny_mono (step I₂ kz (hop s₂ ov v x y z I₂ (r1.keep k₂) r2 e) E) (fun _ _ p=>(p.lift k₂).lift k) fun _ _ z=>z
theorem uq (s:Shared) (v:Value) (x:V) (hx:isStr x=true) (r:Φ.rp s.heap v x):s.TypeIs v "str"∧∀ a,v=.ref a→∃ ob,s.heap.get? a=some ob∧ob.dict=none:=by
 cases x with
 | str t=>exact r.str_elim (C:=fun v=>s.TypeIs v "str"∧∀ a,v=.ref a→∃ o,s.heap.get? a=some o∧o.dict=none) fun tk=>⟨typeIs_str _ _ _,fun _ q=>nomatch q⟩
 | _=>(injection hx; done)
theorem xJ (ho:b9 o=true) (hp:ao e=true) (hline:(apos.endLine==pos.line)=true) (h1:Ev Φ (eval o Φ.fx.env) d1) (h2:Ev Φ (eval e Φ.fx.env) d2) :
  Ev Φ (eval (.Call (.Attribute o "join" apos) [e] [] pos) Φ.fx.env) (fun K=>d1 fun x=>isStr x=true∧d2 fun y=>okK (opN .join [x,y]) K):=
 r8 (op:=fun x y=>opN .join [x,y]) ho hp hline PySem.F.plainAttrs_str PySem.F.slot_str_join PySem.F.type_str_join h1 h2 uq
  fun s u v x y z I ru rv e=>eC (f:=fun sep=>fV y fun l=>(fP l).bind fun ss=>if (ss.map List.length).sum+ss.length * sep.length≤am then some (text (gY sep ss)) else none) (C:=fun x=>Φ.rp s.heap u x→Φ.wp (call (.builtin "str.join") [u,v]) (Φ.Gives s z) s) e
   (fun t e ru=>bW (C:=fun y=>Φ.rp s.heap v y→Φ.wp (call (.builtin "str.join") [u,v]) (Φ.Gives s z) s) e (fun l e rv=>(Option.bind_eq_some_iff.mp e).elim fun ss ⟨h,e⟩=>if_elim e fun hz=>xk h hz ru rv) rv) ru
theorem u2 (ho:b9 o=true) (hp:ao e=true) (hline:(apos.endLine==pos.line)=true) (h1:Ev Φ (eval o Φ.fx.env) d1) (h2:Ev Φ (eval e Φ.fx.env) d2) :
  Ev Φ (eval (.Call (.Attribute o "count" apos) [e] [] pos) Φ.fx.env) (fun K=>d1 fun x=>jZ x=true∧d2 fun y=>okK (opN .count [x,y]) K):=
 r8 (op:=fun x y=>opN .count [x,y]) ho hp hline PySem.F.plainAttrs_list PySem.F.slot_list_count PySem.F.type_list_count h1 h2
  (fun s v x hx r=>by
   cases x with
   | list l=>exact r.list_elim (C:=fun v=>s.TypeIs v "list"∧∀ a,v=.ref a→∃ o,s.heap.get? a=some o∧o.dict=none) fun a o vs n hb ha hc hd hl=>⟨⟨_,ha,hc.1⟩,fun a q=>by (injection q with q; subst q); exact ⟨_,ha,hc.2⟩⟩
   | _=>(injection hx; done))
  fun s u v x y z I ru rv e=>bW (f:=fun l=>if (dA y&&dA (.list l))=true then some (PyData.int (l.countP fun z=>PyData.eqv z y)) else none) (C:=fun x=>Φ.rp s.heap u x→Φ.wp (call (.builtin "list.count") [u,v]) (Φ.Gives s z) s) e (fun l e ru=>if_elim e fun q=>u5 I q ru rv) ru
end
structure Feed (g:Gl) (A:Around) (T:Expr) (I:Addr) (fp wr:List Addr) (vals:List Value) (l0 l:List V) (St:Nat→Heap→Prop):Prop where
 sub:∀ b∈wr,b∈fp
 frame:∀ i h h',St i h→(∀ b∈fp,∀ o,h.get? b=some o→h'.get? b=some o)→St i h'
 live:∀ i h b,St i h→b∈fp→dG h b
 item:∀ i x (s:Shared) bad (Q:Value→Shared→Prop) (E:Value→Shared→Prop),l[i]?=some x→St i s.heap→RpAll g bad s.heap vals l0→(∀ a,bad a→aQ s.heap a)→(∀ b∈wr,bad b) →
  (∀ v h' tk,St (i+1) h'→(∀ b o,b∉wr→s.heap.get? b=some o→h'.get? b=some o)→Rp g bad h' v x→Q v { s with heap:=h',toks:=tk }) →
  wpAny (model g.prog g.w) A (pyNext (.ref I)) (fun r s₁=>∃ v,r=some v∧wpAny (model g.prog g.w) A (letOwnedTupleGo T (.ref I) v) (fun _ s₂=>Q v s₂) E s₁) E s
 done:∀ (s:Shared) (Q:Shared→Prop) (E:Value→Shared→Prop),St l.length s.heap→(∀ h' tk,(∀ b o,b∉wr→s.heap.get? b=some o→h'.get? b=some o)→Q { s with heap:=h',toks:=tk }) →
  wpAny (model g.prog g.w) A (pyNext (.ref I)) (fun r s₁=>r=none∧Q s₁) E s
 self:∀ i (s:Shared) (Q:Value→Shared→Prop) (E:Value→Shared→Prop),St i s.heap→Q (.ref I) s→wpAny (model g.prog g.w) A (pyIter (.ref I)) Q E s
def v8 (I:Addr) (h:Heap):Prop:=∃ o n vs,h.get? I=some o∧o.cls=.type n∧o.data=.fields vs ∧
 ["enumerate", "zip", "dict_itemiterator", "dict_reverseitemiterator", "odict_iterator", "itertools.zip_longest", "itertools.pairwise"].contains n=false
theorem nH {E:Value→Shared→Prop} {Q:Unit→Shared→Prop} (go:v8 I s.heap) (h:Q () s):wpAny M A (letOwnedTupleGo T (.ref I) v) Q E s:=by
 have main:∀ es k p,wpAny M A (letOwnedTupleGo (.Tuple es k p) (.ref I) v) Q E s:=fun es k p=>by
  obtain ⟨o,n,vs,ho,hc,hd,hn⟩:=go
  cases v with
  | ref a=>
   refine zC1 (wpAny_load ho ?_)
   rw [hc,hd]
   exact bw (by rw [hn]; exact Bool.false_ne_true) (wpAny_pure h)
  | _=>exact wpAny_pure h
 cases T with
 | Tuple es k p=>exact main es k p
 | List es p=>exact main [] 0 p
 | _=>exact wpAny_pure h
section
variable {g:Gl} {A:Around} {T:Expr} {I:Addr} {fp wr:List Addr} {n:Nat} {P:Nat→Value→Prop} {St:Nat→Heap→Prop} {vals:List Value} {l0 l:List V}
theorem Feed.ofWalks (W:Walks g.prog g.w A I fp wr n P St) (hn:l.length=n) (hlive:∀ i h b,St i h→b∈fp→dG h b) (hgo:∀ i h,St i h→v8 I h)
  (hP:∀ i x v h bad,l[i]?=some x→P i v→RpAll g bad h vals l0→Rp g bad h v x):Feed g A T I fp wr vals l0 l St where
 sub:=W.sub
 frame:=W.frame
 live:=hlive
 item:=fun i x s bad Q E hx hst hv hb hw hQ=>W.item i s _ _ (hn▸(List.getElem?_eq_some_iff.mp hx).1) hst fun v h' tk hp hst' hk=>⟨v,rfl,nH (hgo _ _ hst') (hQ v h' tk hst' hk (hP i x v h' bad hx hp (hv.map fun b o e _ nb=>⟨nb,hk b o (fun m=>nb (hw b m)) e⟩)))⟩
 done:=fun s Q E hst hQ=>W.done s _ _ (hn▸hst) fun h' tk hk=>⟨rfl,hQ h' tk hk⟩
 self:=W.self
theorem we (ha:dG h a) (hc:dG h c) (m:b∈[a,c]):dG h b:=by
 rcases List.mem_cons.mp m with rfl | m
 ·exact ha
 ·obtain rfl:=zA6 m; exact hc
theorem tj (hh:A.handled=none) (I ax:Addr) (hne:ax≠I) (items:Array Value) (l:List V) (hl:items.size=l.length) :
  Feed g A T I [I,ax] [I] items.toList l l (fun i h=>h.IsListIter I ax i∧h.IsList ax items):=
 Feed.ofWalks (Walks.list hh I ax hne items) hl.symm (fun i h b st=>we (st.1.elim fun _ q=>⟨_,q.1,aI q.2.1⟩) (st.2.elim fun _ q=>⟨_,q.1,aI q.2.1⟩))
  (fun i h st=>by obtain ⟨o',e',c,d⟩:=st.1; exact ⟨_,_,_,e',c,d,by decide⟩)
  fun i x v h bad hx hv r=>by
   obtain ⟨v',e,rr⟩:=r.get hx
   rw [Array.getElem?_toList,hv] at e
   (injection e with e; subst e); exact rr
theorem qh (hh:A.handled=none) (I ax:Addr) (hne:ax≠I) (items:Array Value) (l:List V) (hl:items.size=l.length) :
  Feed g A T I [I,ax] [I] items.toList l l (fun i h=>h.IsTupleIter I ax i∧h.IsTuple ax items):=
 Feed.ofWalks (Walks.tuple hh I ax hne items) hl.symm (fun i h b st=>we (st.1.elim fun _ q=>⟨_,q.1,aI q.2.1⟩) (st.2.elim fun _ q=>⟨_,q.1,aI q.2.1⟩))
  (fun i h st=>by obtain ⟨o',e',c,d⟩:=st.1; exact ⟨_,_,_,e',c,d,by decide⟩)
  fun i x v h bad hx hv r=>by
   obtain ⟨v',e,rr⟩:=r.get hx
   rw [Array.getElem?_toList,hv] at e
   (injection e with e; subst e); exact rr
theorem uW (nm:String) (hnm:nm="str_ascii_iterator"∨nm="str_iterator") (I:Addr) (x:Str) (t:Tok) (W:Walks g.prog g.w A I [I] [I] x.cps.size (SignAt x) (fun i h=>h.IsStrIter I nm x t i)) :
  Feed g A T I [I] [I] [] [] (bj x.cps.toList) (fun i h=>h.IsStrIter I nm x t i):=
 Feed.ofWalks W (by unfold bj; rw [zA4,zB3])
  (fun i h b st hb=>by obtain rfl:=zA6 hb; exact st.elim fun _ q=>⟨_,q.1,aI q.2.1 (by rcases hnm with rfl | rfl <;> decide)⟩)
  (fun i h st=>by obtain ⟨o',e',c,d⟩:=st; exact ⟨_,_,_,e',c,d,by rcases hnm with rfl | rfl <;> decide⟩)
  fun i y v h bad hx hv r=>by
   obtain ⟨c,u,hc,rfl⟩:=hv
   unfold bj at hx
   rw [List.getElem?_map,Array.getElem?_toList,hc] at hx
   (injection hx with hx; subst hx)
   exact .text rfl
theorem ql (hh:A.handled=none) (I:Addr) (a b:Int):Feed g A T I [I] [I] [] [] (aW a b) (fun i h=>IsRangeIter h I (a+(i:Nat) * 1) (((b - a).toNat:Int) - (i:Nat)) 1):=
 Feed.ofWalks (Walks.range hh I a 1 (b - a).toNat) (by unfold aW; rw [zA4,List.length_range])
  (fun i h b st hb=>by obtain rfl:=zA6 hb; exact ⟨_,st,aI rfl⟩)
  (fun i h st=>⟨_,_,_,st,rfl,rfl,by decide⟩)
  fun i x v h bad hx hv r=>by
   obtain ⟨t,rfl⟩:=hv
   unfold aW at hx
   rw [List.getElem?_map] at hx
   obtain ⟨j,hj,rfl⟩:=Option.map_eq_some_iff.mp hx
   rw [List.getElem?_range (by have:=(List.getElem?_eq_some_iff.mp hj).1; rwa [List.length_range] at this)] at hj
   (injection hj with hj; subst hj)
   rw [Int.mul_one]
   exact .int _ _
end
inductive FeedAt (Φ:Ct) (T:Expr) (st:Bool) (s₀ s₂:Shared) (it:Value) (l:List V):Prop
 | mk:∀ I fp wr vals l0 St,it=.ref I→Feed Φ.fx.g Φ.fx.A T I fp wr vals l0 l St→St 0 s₂.heap→Φ.rps s₀.heap vals l0→(∀ b∈wr,s₀.heap.get? b=none)→(∀ b∈fp,s₀.heap.get? b=none∨(st=true→¬ Φ.bad b))→l.length≤am→FeedAt Φ T st s₀ s₂ it l
def eM (Φ:Ct) (T:Expr) (st:Bool) (iter:Expr) (d:(List V→Prop)→Prop):Prop:=∀ K s,d K→Inv Φ s→∀ (Q:Value→Shared→Prop) (E:Value→Shared→Prop),
 (∀ l s₀ it s₂,K l→Inv Φ s₀→aG s.heap s₀.heap→Grown s₀ s₂→FeedAt Φ T st s₀ s₂ it l→Q it s₂) →
 wpAny (model Φ.fx.g.prog Φ.fx.g.w) Φ.fx.A (eval iter Φ.fx.env) (fun x s₁=>wpAny (model Φ.fx.g.prog Φ.fx.g.w) Φ.fx.A (pyIter x) Q E s₁) E s
section
variable {Φ:Ct} [Hm Φ.fx] {s:Shared} {v:Value} {x:V} {l:List V} {T:Expr} {st:Bool} {d:DV} {E:Value→Shared→Prop}
theorem cy (e:s.heap.get? b=some o):b≠s.heap.objs.size:=Nat.ne_of_lt (Heap.lt_size e)
theorem kU (I:Inv Φ s) (hz:l.length≤am) (hb:st=true→¬ Φ.bad a) (ha:s.heap.get? a=some o) (hc:o.cls=.type "list") (hd:o.data=.seq vs n) (hl:Φ.rps s.heap vs.toList l) :
  wpAny (model Φ.fx.g.prog Φ.fx.g.w) Φ.fx.A (pyIter (.ref a)) (fun it s'=>Grown s s'∧FeedAt Φ T st s s' it l) E s:=by
 have hL:s.heap.IsList a vs:=⟨_,ha,hc,_,hd⟩
 refine wpAny_pyIter_list hL ⟨Grown.push s _ s.toks,_,_,_,_,_,_,rfl,tj (I.ok.hand Hm.no) _ a (cy ha) vs l (aO hl),⟨⟨_,Heap.get?_push_size _ rfl,rfl,rfl⟩,hL.push _⟩,hl,fun b q=>?_,fun b q=>?_,hz⟩
 ·obtain rfl:=zA6 q; exact ak _
 ·rcases List.mem_cons.mp q with rfl | q
  ·exact .inl (ak _)
  ·obtain rfl:=zA6 q; exact .inr hb
theorem zW (I:Inv Φ s) (e:wM x=some l) (r:Φ.rp s.heap v x):wpAny (model Φ.fx.g.prog Φ.fx.g.w) Φ.fx.A (pyIter v) (fun it s'=>Grown s s'∧FeedAt Φ T st s s' it l) E s:=by
 refine kE (C:=fun x l=>Φ.rp s.heap v x→wpAny (model Φ.fx.g.prog Φ.fx.g.w) Φ.fx.A (pyIter v) (fun it s'=>Grown s s'∧FeedAt Φ T st s s' it l) E s) e (fun l hz r=>?_) (fun l hz r=>?_) (fun t hz r=>?_) r
 ·exact r.list_elim fun a o vs n hb ha hc hd hl=>kU I hz (fun _=>hb) ha hc.1 hd hl
 ·refine r.tuple_elim fun a o vs n hb ha hc hd hl=>?_
  have hL:s.heap.IsTuple a vs:=⟨_,ha,hc,_,hd⟩
  refine wpAny_pyIter_tuple hL ⟨Grown.push s _ s.toks,_,_,_,_,_,_,rfl,qh (I.ok.hand Hm.no) _ a (cy ha) vs l (aO hl),⟨⟨_,Heap.get?_push_size _ rfl,rfl,rfl⟩,hL.at fun o e=>Heap.get?_push_of_some _ e⟩,hl,fun b q=>?_,fun b q=>?_,hz⟩
  ·obtain rfl:=zA6 q; exact ak _
  ·rcases List.mem_cons.mp q with rfl | q
   ·exact .inl (ak _)
   ·obtain rfl:=zA6 q; exact .inr fun _=>hb
 ·refine r.str_elim fun tk=>?_
  have mk:∀ nm (hnm:nm="str_ascii_iterator"∨nm="str_iterator") (o:Obj),Walks Φ.fx.g.prog Φ.fx.g.w Φ.fx.A s.heap.objs.size [s.heap.objs.size] [s.heap.objs.size] t.cps.size (SignAt t) (fun i h=>h.IsStrIter s.heap.objs.size nm t tk i)→(s.heap.push o).IsStrIter s.heap.objs.size nm t tk 0 →
    Grown s { s with heap:=s.heap.push o }∧FeedAt Φ T st s { s with heap:=s.heap.push o } (.ref s.heap.objs.size) (bj t.cps.toList):=fun nm hnm o W st=>
   ⟨Grown.push s _ s.toks,_,_,_,_,_,_,rfl,uW nm hnm _ t tk W,st,.nil,fun b q=>by obtain rfl:=zA6 q; exact ak _,fun b q=>by obtain rfl:=zA6 q; exact .inl (ak _),by unfold bj; rw [zA4]; exact hz⟩
  cases ha:t.cps.all (· < 128)
  ·exact wpAny_pyIter_wide ha (mk _ (.inr rfl) _ (Walks.strWide (I.ok.hand Hm.no) _ t tk) ⟨_,Heap.get?_push_size _ rfl,rfl,rfl⟩)
  ·exact wpAny_pyIter_ascii ha (mk _ (.inl rfl) _ (Walks.strAscii (I.ok.hand Hm.no) _ t tk) ⟨_,Heap.get?_push_size _ rfl,rfl,rfl⟩)
theorem sY (I:Inv Φ s) (hz:kvs.length≤am) (q:dkV kvs=true) (r:Φ.rp s.heap v (.dict kvs)):wpAny (model Φ.fx.g.prog Φ.fx.g.w) Φ.fx.A (pyIter v) (fun it s'=>Grown s s'∧FeedAt Φ T st s s' it (kvs.map (·.1))) E s:=by
 refine r.dict_elim q fun a o es n hb hm ha hc hd hk k1 k2=>?_
 have hl:=k1.length
 rw [zA4,zB3] at hl
 refine sZ ?_ ha hc hd ⟨Grown.push s _ s.toks,_,_,_,_,_,_,rfl,Feed.ofWalks (vals:=es.toList.map (·.key)) (l0:=kvs.map (·.1)) (pn (I.ok.hand Hm.no) (cy ha) hd) hl.symm (fun i h b st=>we (st.1.elim fun _ q=>⟨_,q.1,aI q.2.1⟩) ⟨_,st.2,aI hc.1⟩) (fun i h st=>st.1.elim fun _ q=>⟨_,_,_,q.1,q.2.1,q.2.2,by decide⟩) (fun i x v h bad hx hv r=>?_),⟨⟨_,Heap.get?_push_size _ rfl,rfl,rfl⟩,Heap.get?_push_of_some _ ha⟩,k1,fun b q=>?_,fun b q=>?_,by rw [zA4]; exact hz⟩
 ·exact beq_false_of_ne hm
 ·obtain ⟨v',e,rr⟩:=r.get hx
  rw [hv] at e
  (injection e with e; subst e); exact rr
 ·obtain rfl:=zA6 q; exact ak _
 ·rcases List.mem_cons.mp q with rfl | q
  ·exact .inl (ak _)
  ·obtain rfl:=zA6 q; exact .inr fun _=>hb
theorem zV (I:Inv Φ s) (e:bL x=some l) (r:Φ.rp s.heap v x):wpAny (model Φ.fx.g.prog Φ.fx.g.w) Φ.fx.A (pyIter v) (fun it s'=>Grown s s'∧FeedAt Φ T st s s' it l) E s:=by
 cases x with
 | dict kvs=>
  have e:(if dkV kvs=true then db kvs (kvs.map (·.1)) else none)=some l:=e
  refine bi e fun q e=>?_
  exact fit_elim (C:=fun l=>wpAny _ _ _ (fun it s'=>Grown s s'∧FeedAt Φ T st s s' it l) E s) e fun hz=>sY I hz q r
 | _=>refine zW I ?_ r; exact e
theorem A1 (h:Ev Φ (eval e Φ.fx.env) d):eM Φ T st e (fun K=>d fun x=>okK (bL x) K):=fun K s hd I Q E hQ=>
 wpAny_mono (h _ s hd I E) (fun v s₁ ⟨B,k,x,hx,r⟩=>ag hx fun l e kl=>wpAny_mono (zV (I.keep B k) e r) (fun it s₂ p=>hQ l s₁ it s₂ kl (I.keep B k) k p.1 p.2) fun _ _ z=>z) fun _ _ z=>z
theorem cg (e:bI G k=some l):getSlot G k=.ownL l:=by
 unfold bI at e
 revert e
 cases getSlot G k with
 | ownL m=>exact fun e=>congrArg Slot.ownL (Option.some.inj e)
 | _=>exact fun e=>nN e.symm
theorem wK (hx:Φ.fx.ρ.lookup n=some k) (hn:aR n=true):eM Φ T false (.Name n pos) (fun K=>okK (bI Φ.G k) fun l=>okK (db l l) K):=fun K s hd I Q E hQ=>ag hd fun l e hk=>ag hk fun l' e' kl=>by
 refine fit_elim (C:=fun l'=>K l'→_) e' (fun hz kl=>?_) kl
 refine oz (sl:=.ownL l) hx hn I (cg e) id (fun a u ha ow=>?_) E
 obtain ⟨rfl,o,vs,n,ho,hc,hd,hl⟩:=ow
 exact wpAny_mono (kU (st:=false) (T:=T) I hz (fun q=>nB q) ho hc.1 hd hl) (fun it s₂ p=>hQ l s it s₂ kl I (.refl _) p.1 p.2) fun _ _ z=>z
theorem rOk_of (h:rOk i=true):-(2 ^ 62)≤i∧i < 2 ^ 62:=by
 have h:=Int.ofNat_le.mpr (Nat.le_of_ble_eq_true h)
 exact ⟨Int.neg_le_of_neg_le (Int.le_trans (Int.natAbs_neg i▸Int.le_natAbs) (Int.le_trans h (by decide))),Int.lt_of_le_of_lt (Int.le_trans Int.le_natAbs h) (by decide)⟩
theorem i4 (I:Inv Φ s₀) (h1:rOk a=true∧rOk b=true) (hz:(aW a b).length≤am) (hr:IsRange s.heap r a b 1 t u w) (gr:Grown s₀ s) :
  wpAny (model Φ.fx.g.prog Φ.fx.g.w) Φ.fx.A (pyIter (.ref r)) (fun it s'=>Grown s₀ s'∧FeedAt Φ T st s₀ s' it (aW a b)) E s:=by
 have qa:=rOk_of h1.1
 have qb:=rOk_of h1.2
 refine wpAny_pyIter_range hr (small_one qa.1 qa.2 qb.1 qb.2) ?_
 have n0:s₀.heap.get? s.heap.objs.size=none:=aM gr.keeps.live (ak _)
 refine ⟨gr.trans (Grown.push s _ s.toks),_,_,_,_,_,_,rfl,ql (I.ok.hand Hm.no) _ a b,?_,.nil,fun c hc=>by obtain rfl:=zA6 hc; exact n0,fun c hc=>by obtain rfl:=zA6 hc; exact .inl n0,hz⟩
 have e1:a+((0:Nat):Int) * 1=a:=by simp
 have e2:((b - a).toNat:Int) - ((0:Nat):Int)=Builtin.Range.rangeSize a b 1:=by rw [rangeSize_one]; split <;> omega
 refine (?_:IsRangeIter _ _ (a+((0:Nat):Int) * 1) (((b - a).toNat:Int) - ((0:Nat):Int)) 1)
 rw [e1,e2]
 exact Heap.get?_push_size _ rfl
abbrev dv (Φ:Ct) (T:Expr) (st:Bool) (s:Shared) (E:Value→Shared→Prop) (F:String) (l:List V) (vs:List Value):Prop:=
 wpAny (model Φ.fx.g.prog Φ.fx.g.w) Φ.fx.A (call (.type F) vs) (fun z s₁=>wpAny (model Φ.fx.g.prog Φ.fx.g.w) Φ.fx.A (pyIter z) (fun it s'=>Grown s s'∧FeedAt Φ T st s s' it l) E s₁) E s
theorem nW {qs:List (Expr×DV)} {op:List V→Option V} (hx:bn Φ.fx.env.scope.names f=true) (hF:bC.lookup f=some (.type F)) (hq:∀ q∈qs,ao q.1=true∧be Φ q)
  (hop:∀ s vs xs z l E,Inv Φ s→Φ.rps s.heap vs xs→op xs=some z→bL z=some l→dv Φ T st s E F l vs) :
  eM Φ T st (.Call (.Name f fp) (qs.map Prod.fst) [] pos) (fun K=>bo (qs.map Prod.snd) fun xs=>okK (op xs) fun z=>okK (bL z) K):=fun K s hd I Q E hQ=>by
 refine (?_:wpAny _ _ (eval (.Name f fp) Φ.fx.env >>= fun F=>callWith pos F [] (backTo pos (starEach (qs.map Prod.fst) Φ.fx.env)) []) _ _ s)
 refine zC1 (bB I hx hF ?_ E)
 refine PySem.callWith_type (du (bV fun q m=>(hq q m).1)) (cY hq hd I fun vs xs s₁ I₁ k₁ hx rs=>ag hx fun z e hz=>ag hz fun l el kl=>?_)
 exact wpAny_mono (hop s₁ vs xs z l E I₁ rs e el) (fun z s₂ p=>wpAny_mono p (fun it s₃ p=>hQ l s₁ it s₃ kl I₁ k₁ p.1 p.2) fun _ _ z=>z) fun _ _ z=>z
theorem gP (e:mS a b=some z) (el:bL z=some l) {C:List V→Prop} (k:rOk a=true∧rOk b=true→(aW a b).length≤am→C (aW a b)):C l:=
 bi e fun h1 e=>fit_elim (C:=fun z=>bL z=some l→C l) e (fun hz el=>fit_elim (C:=C) el fun _=>k h1 hz) el
theorem sJ {qs:List (Expr×DV)} (hx:bn Φ.fx.env.scope.names "range"=true) (hq:∀ q∈qs,ao q.1=true∧be Φ q) :
  eM Φ T st (.Call (.Name "range" fp) (qs.map Prod.fst) [] pos) (fun K=>bo (qs.map Prod.snd) fun xs=>okK (opN .range xs) fun z=>okK (bL z) K):=by
 refine nW (F:="range") hx rfl hq fun s vs xs z l E I rs e el=>?_
 cases rs with
 | nil=>(injection e; done)
 | cons r rs=>
  cases rs with
  | nil=>exact bv (f:=fun b=>mS 0 b) (C:=fun x=>Φ.rp s.heap _ x→dv Φ T st s E "range" l [_]) e (fun b e r=>r.int_elim (C:=fun v=>dv Φ T st s E "range" l [v]) fun t=>gP (C:=fun l=>dv Φ T st s E "range" l [.int b t]) e el fun h1 hz=>call_range_1 (i4 I h1 hz (IsRange.new ..) (Grown.push s _ _))) r
  | cons r' rs=>
   cases rs with
   | nil=>exact cC (C:=fun v u=>dv Φ T st s E "range" l [v,u]) e r r' fun a b t t' e=>gP (C:=fun l=>dv Φ T st s E "range" l [.int a t,.int b t']) e el fun h1 hz=>call_range_2 (i4 I h1 hz (IsRange.new ..) (Grown.push s _ _))
   | cons _ _=>(injection e; done)
end
def dO (h:Heap) (k:Bool) (l:Addr) (xs:Array Value):Prop:=match k with
 | true=>h.IsList l xs
 | false=>h.IsTuple l xs
def fE (h:Heap) (k:Bool) (it l:Addr) (i:Nat):Prop:=match k with
 | true=>h.IsListIter it l i
 | false=>h.IsTupleIter it l i
theorem dO.at (x:dO h k l xs) (e:∀ o,h.get? l=some o→h'.get? l=some o):dO h' k l xs:=by
 cases k
 ·exact Heap.IsTuple.at x e
 ·exact Heap.IsList.at x e
theorem fE.at (x:fE h k it l i) (e:∀ o,h.get? it=some o→h'.get? it=some o):fE h' k it l i:=by
 cases k
 ·exact Heap.IsTupleIter.at x e
 ·exact Heap.IsListIter.at x e
theorem fE.lt (x:fE h k it l i):dG h it∧it < h.objs.size:=by
 cases k
 ·obtain ⟨o,e,c,_⟩:=x; exact ⟨⟨o,e,aI c⟩,Heap.lt_size e⟩
 ·obtain ⟨o,e,c,_⟩:=x; exact ⟨⟨o,e,aI c⟩,Heap.lt_size e⟩
theorem dO.liveN (x:dO h k l xs):dG h l:=by
 cases k
 ·obtain ⟨o,e,c,_⟩:=x; exact ⟨o,e,aI c⟩
 ·obtain ⟨o,e,c,_⟩:=x; exact ⟨o,e,aI c⟩
theorem dO.live (x:dO h k l xs):aQ h l:=x.liveN.live
section
variable {prog:Program} {w:World} {A:Around} {E:Value→Shared→Prop} {s:Shared}
theorem gQ {items} (hit:fE s.heap k it l i) (hl:dO s.heap k l items) (hx:items[i]?=some x)
  (hQ:∀ h',fE h' k it l (i+1)→Heap.SameBut it s.heap h'→Q x { s with heap:=h' }):wpAny (model prog w) A (Builtin.SmallTypes.nextOf (.ref it)) Q E s:=by
 cases k with
 | true=>exact wpAny_nextOf_list_item hit hl hx hQ
 | false=>
  obtain ⟨o,ho,hc,hd⟩:=id hit
  obtain ⟨ol,hol,_,nl,hdl⟩:=hl
  have hT:s.TypeIs (.ref it) "tuple_iterator":=⟨o,ho,hc⟩
  refine zC1 (wpAny_callSpecial?_slot (name:=Str.ofString "__next__") hT PySem.F.slot_tuple_iterator_next
   (wpAny_call_entry PySem.F.slot_tuple_iterator_next hT PySem.F.entry_tuple_iterator_next ?_ (PySem.F.args_tuple_iterator_next_1 _)))
  refine (?_:wpAny _ _ (field (.ref it) 0 >>= _) _ _ s)
  refine zC1 (wpAny_field ho hd (x:=.ref l) rfl ?_)
  refine wpAny_ite_false (c:=(Value.ref l==Value.none)=true) rfl (zC1 (wpAny_field ho hd (x:=.int i 0) rfl ?_))
  refine (?_:wpAny _ _ (seqItems? (.ref l) >>= _) _ _ s)
  refine zC1 (wpAny_seqItems hol hdl ?_)
  dsimp only
  refine (hx:items[(i:Int).toNat]?=_).symm▸zC1 (wpAny_setField ho hd (by simp) (zC2 ⟨x,rfl,zC2 (hQ _ ?_ (Heap.SameBut.update ..))⟩))
  exact ⟨_,Heap.get?_update_self _ ho (Obj.isFreed_of_fields (Obj.data_mapFields hd _)),(Obj.cls_mapFields ..).trans hc,by rw [Obj.data_mapFields hd]; simp [rawInt]⟩
theorem iU {items} (hh:A.handled=none) (hit:fE s.heap k it l i) (hl:dO s.heap k l items) (hx:items[i]?=none)
  (hE:∀ h' e,Heap.ExtBut it s.heap h'→(∃ o,h'.get? e=some o∧o.cls=.type "StopIteration")→E (.ref e) { s with heap:=h' }):wpAny (model prog w) A (Builtin.SmallTypes.nextOf (.ref it)) Q E s:=by
 cases k with
 | true=>exact wpAny_nextOf_list_end hh hit hl hx hE
 | false=>
  obtain ⟨o,ho,hc,hd⟩:=id hit
  obtain ⟨ol,hol,_,nl,hdl⟩:=hl
  have hT:s.TypeIs (.ref it) "tuple_iterator":=⟨o,ho,hc⟩
  refine zC1 (wpAny_callSpecial?_slot (name:=Str.ofString "__next__") hT PySem.F.slot_tuple_iterator_next
   (wpAny_call_entry PySem.F.slot_tuple_iterator_next hT PySem.F.entry_tuple_iterator_next ?_ (PySem.F.args_tuple_iterator_next_1 _)))
  refine (?_:wpAny _ _ (field (.ref it) 0 >>= _) _ _ s)
  refine zC1 (wpAny_field ho hd (x:=.ref l) rfl ?_)
  refine wpAny_ite_false (c:=(Value.ref l==Value.none)=true) rfl (zC1 (wpAny_field ho hd (x:=.int i 0) rfl ?_))
  refine (?_:wpAny _ _ (seqItems? (.ref l) >>= _) _ _ s)
  refine zC1 (wpAny_seqItems hol hdl ?_)
  dsimp only
  refine (hx:items[(i:Int).toNat]?=_).symm▸zC1 (wpAny_rule (zC1 (wpAny_setField ho hd (by simp) ?_)))
  refine (?_:wpAny _ _ (newExc (.type "StopIteration") [] >>= _) _ _ _)
  refine zC1 (zC1 (wpAny_newObj_type (zC1 (wpAny_of_eq (a:=Value.none) rfl (wpAny_newObj_type ?_ (by size_fits)))) (by size_fits)))
  refine wpAny_raiseNew_none (hh:A.in1.handled=none) ?_
  exact hE _ _ (((Heap.SameBut.update ..).extBut.push _).push _) ⟨_,Heap.get?_push_size _ rfl,rfl⟩
theorem yp:0 < 5:=by decide
theorem CC:1 < 5:=by decide
theorem qP (hh:A.handled=none) (D:ZipApart z TI TO i1 i2 l1 l2)
  (hz:IsZip s.heap z TI TO .none) (hTI:IsPair s.heap TI (.ref i1) (.ref i2)) (hTO:IsPair s.heap TO a b)
  (h1:fE s.heap c1 i1 l1 k) (h2:fE s.heap c2 i2 l2 k) (hl1:dO s.heap c1 l1 xs) (hl2:dO s.heap c2 l2 ys)
  (hQ:∀ x y h',xs[k]?=some x→ys[k]?=some y→IsZip h' z TI TO (rawInt s.heap.objs.size)→IsPair h' TO x y→fE h' c1 i1 l1 (k+1)→fE h' c2 i2 l2 (k+1)→IsPair h' s.heap.objs.size x y →
   (∀ c o,c≠z→c≠TO→c≠i1→c≠i2→s.heap.get? c=some o→h'.get? c=some o)→Q (.done (.ret (.ref s.heap.objs.size))) { s with heap:=h' })
  (hE:(xs[k]?=none∨ys[k]?=none)→∀ h' e,(∀ c o,c≠z→c≠TO→c≠i1→c≠i2→s.heap.get? c=some o→h'.get? c=some o)→(∃ o,h'.get? e=some o∧o.cls=.type "StopIteration")→E (.ref e) { s with heap:=h' }) :
  wpAny (model prog w) A (Builtin.«zip.__next__» ⟨[.ref z],[]⟩) Q E s:=by
 have hne:∀ {h:Heap} {e:Addr} {oe:Obj},IsZip h z TI TO .ellipsis→h.get? e=some oe→oe.cls=.type "StopIteration"→e≠z:=fun hz₂ hoe hce x=>by
  subst x; (injection hz₂.symm.trans hoe with Xq; subst Xq); exact absurd (show Value.type "zip"=Value.type "StopIteration" from hce) (by decide)
 refine (?_:wpAny _ _ (field (.ref z) 2 >>= _) _ _ _)
 refine zC1 (wpAny_field hz rfl (x:=.bool false) rfl ?_)
 refine (?_:wpAny _ _ (field (.ref z) 3 >>= _) _ _ _)
 refine zC1 (wpAny_field hz rfl (x:=.ref TI) rfl ?_)
 refine zC1 (wpAny_seqItems hTI rfl ?_)
 refine wpAny_bind (m:=Builtin.SmallTypes.ownedTupleIsFree (.ref z)) (zC1 (wpAny_field hz rfl (x:=.none) rfl (zC2 ?_)))
 refine wpAny_ite_true rfl (zC1 (wpAny_rule ?_))
 refine zC1 (wpAny_field hz rfl (x:=.ref TO) rfl ?_)
 refine zC1 (wpAny_setField_rec hz yp fun h₁ hz₁ hs₁=>?_)
 replace hz₁:IsZip h₁ z TI TO .ellipsis:=hz₁
 refine zC1 ?_
 simp only [List.zipIdx_cons,List.zipIdx_nil,List.forIn_cons,List.forIn_nil]
 refine zC1 (zC1 (wpAny_onRaise ?_))
 refine (?_:wpAny _ _ (Builtin.SmallTypes.nextOf (.ref i1) >>= _) _ _ _)
 cases hx:xs[k]? with
 | none=>
  refine zC1 (iU hh (h1.at fun o e=>hs₁.extBut _ o D.i1z e) (hl1.at fun o e=>hs₁.extBut _ o D.l1z e) hx fun h₂ e hs₂ ⟨oe,hoe,hce⟩=>?_)
  have hz₂:IsZip h₂ z TI TO .ellipsis:=hs₂ _ _ D.i1z.symm hz₁
  exact wpAny_setField_rec hz₂ yp fun h₃ _ hs₃=>hE (.inl hx) h₃ e (fun c o c1 _ c3 _ x=>hs₃.extBut _ _ c1 (hs₂ _ _ c3 (hs₁.extBut _ _ c1 x))) ⟨oe,hs₃.extBut _ _ (hne hz₂ hoe hce) hoe,hce⟩
 | some x=>
 refine zC1 (gQ (h1.at fun o e=>hs₁.extBut _ o D.i1z e) (hl1.at fun o e=>hs₁.extBut _ o D.l1z e) hx fun h₂ h1₂ hs₂=>zC2 ?_)
 have hTO₂:IsPair h₂ TO a b:=hs₂.extBut _ _ D.TOi1 (hs₁.extBut _ _ D.TOz hTO)
 refine zC1 (wpAny_seqItems hTO₂ rfl ?_)
 refine zC1 (wpAny_updateSeq_pair hTO₂ fun h₃ hTO₃ hs₃=>?_)
 replace hTO₃:IsPair h₃ TO x b:=hTO₃
 refine zC1 (wpAny_letGo (zC2 ?_))
 refine zC1 (zC1 (wpAny_onRaise ?_))
 refine (?_:wpAny _ _ (Builtin.SmallTypes.nextOf (.ref i2) >>= _) _ _ _)
 have h2₃:fE h₃ c2 i2 l2 k:=h2.at fun o e=>hs₃.extBut _ o D.TOi2.symm (hs₂.extBut _ o D.i12.symm (hs₁.extBut _ o D.i2z e))
 have hl2₃:dO h₃ c2 l2 ys:=hl2.at fun o e=>hs₃.extBut _ o D.l2TO (hs₂.extBut _ o D.l2i1 (hs₁.extBut _ o D.l2z e))
 have hz₃:IsZip h₃ z TI TO .ellipsis:=hs₃.extBut _ _ D.TOz.symm (hs₂.extBut _ _ D.i1z.symm hz₁)
 have hk₃:∀ c o,c≠z→c≠TO→c≠i1→s.heap.get? c=some o→h₃.get? c=some o:=fun c o c1 c2 c3 e=>hs₃.extBut _ _ c2 (hs₂.extBut _ _ c3 (hs₁.extBut _ _ c1 e))
 cases hy:ys[k]? with
 | none=>
  refine zC1 (iU hh h2₃ hl2₃ hy fun h₄ e hs₄ ⟨oe,hoe,hce⟩=>?_)
  have hz₄:IsZip h₄ z TI TO .ellipsis:=hs₄ _ _ D.i2z.symm hz₃
  exact wpAny_setField_rec hz₄ yp fun h₅ _ hs₅=>hE (.inr hy) h₅ e (fun c o c1 c2 c3 c4 x=>hs₅.extBut _ _ c1 (hs₄ _ _ c4 (hk₃ c o c1 c2 c3 x))) ⟨oe,hs₅.extBut _ _ (hne hz₄ hoe hce) hoe,hce⟩
 | some y=>
 refine zC1 (gQ h2₃ hl2₃ hy fun h₄ h2₄ hs₄=>zC2 ?_)
 have hTO₄:IsPair h₄ TO x b:=hs₄.extBut _ _ D.TOi2 hTO₃
 refine zC1 (wpAny_seqItems hTO₄ rfl ?_)
 refine zC1 (wpAny_updateSeq_pair hTO₄ fun h₅ hTO₅ hs₅=>?_)
 replace hTO₅:IsPair h₅ TO x y:=hTO₅
 refine zC1 (wpAny_letGo (zC2 (zC2 ?_)))
 refine zC1 (wpAny_seqItems hTO₅ rfl ?_)
 refine zC1 (wpAny_newTuple ?_)
 have hsz:h₅.objs.size=s.heap.objs.size:=hs₅.1.trans (hs₄.1.trans (hs₃.1.trans (hs₂.1.trans hs₁.1)))
 have hz₅:IsZip h₅ z TI TO .ellipsis:=hs₅.extBut _ _ D.TOz.symm (hs₄.extBut _ _ D.i2z.symm hz₃)
 have hn:h₅.objs.size≠z:=Nat.ne_of_gt (Heap.lt_size hz₅)
 refine wpAny_bind (m:=Builtin.SmallTypes.ownedTupleHandOut (.ref z) (.ref h₅.objs.size)) (zC1 (wpAny_setField_rec (Heap.get?_push_of_some _ hz₅) yp fun h₇ hz₇ hs₇=>?_))
 refine wpAny_setField_rec hz₇ CC fun h₈ hz₈ hs₈=>?_
 have up:∀ c o,c≠z→h₅.get? c=some o→h₈.get? c=some o:=fun c o c1 e=>hs₈.extBut _ _ c1 (hs₇.extBut _ _ c1 (Heap.get?_push_of_some _ e))
 refine zC2 ?_
 have fin:=hQ x y h₈ hx hy
 rw [← hsz] at fin
 exact fin hz₈ (up _ _ D.TOz hTO₅) (h1₂.at fun o e=>up _ o D.i1z (hs₅.extBut _ o D.TOi1.symm (hs₄.extBut _ o D.i12 (hs₃.extBut _ o D.TOi1.symm e)))) (h2₄.at fun o e=>up _ o D.i2z (hs₅.extBut _ o D.TOi2.symm e))
  (hs₈.extBut _ _ hn (hs₇.extBut _ _ hn (Heap.get?_push_size _ rfl))) fun c o c1 c2 c3 c4 e=>up c o c1 (hs₅.extBut _ _ c2 (hs₄.extBut _ _ c4 (hk₃ c o c1 c2 c3 e)))
end
theorem mc {P:Addr→Prop} (h:P a) (t:∀ x∈l,P x):∀ x∈a :: l,P x:=zA1 ⟨h,t⟩
theorem AO {P:Addr→Prop} (h1:P a) (h2:P b) (h3:P c) (h4:P d):∀ x∈[a,b,c,d],P x:=mc h1 (mc h2 (mc h3 (mc h4 fun _ m=>nM m)))
theorem Cc {P:Addr→Prop} (h1:P a) (h2:P b) (h3:P c) (h4:P d) (h5:P e) (h6:P f) (h7:P g):∀ x∈[a,b,c,d,e,f,g],P x:=mc h1 (mc h2 (mc h3 (AO h4 h5 h6 h7)))
theorem nm4 (h:x∉[a,b,c,d]):x≠a∧x≠b∧x≠c∧x≠d:=
 ⟨fun e=>h (e▸.head _),fun e=>h (e▸.tail _ (.head _)),fun e=>h (e▸.tail _ (.tail _ (.head _))),fun e=>h (e▸.tail _ (.tail _ (.tail _ (.head _))))⟩
theorem RpAll.unapp:∀ {l:List V},u.length=l.length→RpAll g bad h (u++v) (l++m)→RpAll g bad h u l∧RpAll g bad h v m:=by
 induction u with
 | nil=>intro l e x; obtain rfl:=List.length_eq_zero_iff.mp e.symm; exact ⟨.nil,x⟩
 | cons a u ih=>
  intro l e x
  cases l with
  | nil=>exact nomatch e
  | cons b l=>cases x with | cons y x=>exact (ih (Nat.succ.inj e) x).imp_left (.cons y)
structure ZipSt (c1 c2:Bool) (z TI TO i1 i2 l1 l2:Addr) (xs ys:Array Value) (i:Nat) (h:Heap):Prop where
 z:IsZip h z TI TO .none
 ti:IsPair h TI (.ref i1) (.ref i2)
 to:∃ a b,IsPair h TO a b
 h1:fE h c1 i1 l1 i
 h2:fE h c2 i2 l2 i
 hl1:dO h c1 l1 xs
 hl2:dO h c2 l2 ys
theorem tU {l r:List V} {i:Nat} (e:(vf l r)[i]?=some x):∃ a b,l[i]?=some a∧r[i]?=some b∧x=.tuple [a,b]:=by
 unfold vf at e
 rw [List.getElem?_zipWith] at e
 revert e
 cases l[i]? with
 | none=>exact fun e=>nN e.symm
 | some a=>cases r[i]? with
  | none=>exact fun e=>nN e.symm
  | some b=>exact fun e=>⟨_,_,rfl,rfl,(Option.some.inj e).symm⟩
theorem gM (l r:List V):(vf l r).length=min l.length r.length:=List.length_zipWith
theorem uV (hh:A.handled=none) {elts:List Expr} {kk:Nat} {c1 c2:Bool} (D:ZipApart z TI TO i1 i2 l1 l2) (xs ys:Array Value) (la lb:List V) (hla:xs.size=la.length) (hlb:ys.size=lb.length) :
  Feed g A (.Tuple elts kk pos) z [z,TI,TO,i1,i2,l1,l2] [z,TO,i1,i2] (xs.toList++ys.toList) (la++lb) (vf la lb) (ZipSt c1 c2 z TI TO i1 i2 l1 l2 xs ys) where
 sub:=AO (.head _) (.tail _ (.tail _ (.head _))) (.tail _ (.tail _ (.tail _ (.head _)))) (.tail _ (.tail _ (.tail _ (.tail _ (.head _)))))
 frame:=fun i h h' st hk=>st.to.elim fun a ⟨b,e⟩=>
  have m4:TO∈[z,TI,TO,i1,i2,l1,l2]:=.tail _ (.tail _ (.head _))
  have t:∀ x∈[i1,i2,l1,l2],∀ o,h.get? x=some o→h'.get? x=some o:=fun x m=>hk x (.tail _ (.tail _ (.tail _ m)))
  ⟨hk z (.head _) _ st.z,hk TI (.tail _ (.head _)) _ st.ti,⟨a,b,hk TO m4 _ e⟩,st.h1.at (t _ (.head _)),st.h2.at (t _ (.tail _ (.head _))),st.hl1.at (t _ (.tail _ (.tail _ (.head _)))),st.hl2.at (t _ (.tail _ (.tail _ (.tail _ (.head _)))))⟩
 live:=fun i h b st hb=>st.to.elim fun a ⟨b',hto⟩=>Cc (P:=dG h) ⟨_,st.z,aI rfl⟩ ⟨_,st.ti,aI rfl⟩ ⟨_,hto,aI rfl⟩ st.h1.lt.1 st.h2.lt.1 st.hl1.liveN st.hl2.liveN b hb
 item:=fun i x s bad Q E hx st hv hb hw hQ=>by
  obtain ⟨xa,xb,ha,hbb,rfl⟩:=tU hx
  have hv:=RpAll.unapp hla hv
  obtain ⟨va,eva,ra⟩:=hv.1.get ha
  obtain ⟨vb,evb,rb⟩:=hv.2.get hbb
  replace eva:=Array.getElem?_toList.symm.trans eva
  replace evb:=Array.getElem?_toList.symm.trans evb
  obtain ⟨a,b,hto⟩:=st.to
  have hT:s.TypeIs (.ref z) "zip":=⟨_,st.z,rfl⟩
  unfold pyNext
  refine zC1 (wpAny_attempt (wpAny_callSpecial?_slot (name:=Str.ofString "__next__") hT PySem.F.slot_zip_next
   (wpAny_call_entry PySem.F.slot_zip_next hT PySem.F.entry_zip_next
    (qP hh D st.z st.ti hto st.h1 st.h2 st.hl1 st.hl2 (fun x y h' ex ey a1 a2 a3 a4 a5 hk=>⟨_,rfl,zC2 ?_⟩) fun q=>q.elim (fun q=>nomatch eva.symm.trans q) fun q=>nomatch evb.symm.trans q) (PySem.F.args_zip_next_1 _))))
  (injection eva.symm.trans ex with Xq; subst Xq)
  (injection evb.symm.trans ey with Xq; subst Xq)
  refine ⟨_,rfl,wpAny_letOwnedTupleGo_zip a1 fun h'' hz' hs'=>?_⟩
  have up:∀ c o,c∉[z,TO,i1,i2]→s.heap.get? c=some o→h''.get? c=some o:=fun c o hc e=>
   have hc:=nm4 hc
   hs'.extBut _ _ hc.1 (hk c o hc.1 hc.2.1 hc.2.2.1 hc.2.2.2 e)
  have hnew:s.heap.objs.size≠z:=Nat.ne_of_gt (Heap.lt_size st.z)
  have kb:cU bad bad s.heap h'':=fun c o e _ nb=>⟨nb,up c o (fun m=>nb (hw c m)) e⟩
  refine hQ _ h'' s.toks ⟨hz',?_,⟨_,_,hs'.extBut _ _ D.TOz a2⟩,a3.at fun o e=>hs'.extBut _ o D.i1z e,a4.at fun o e=>hs'.extBut _ o D.i2z e,?_,?_⟩ up (.tuple (fun q=>by obtain ⟨o,e⟩:=hb _ q; rw [ak] at e; (injection e; done)) (hs'.extBut _ _ hnew a5) rfl rfl ?_)
  ·exact hs'.extBut _ _ D.TIz (hk _ _ D.TIz D.TITO D.TIi1 D.TIi2 st.ti)
  ·exact st.hl1.at fun o e=>hs'.extBut _ o D.l1z (hk _ o D.l1z D.l1TO D.l1i1 D.l1i2 e)
  ·exact st.hl2.at fun o e=>hs'.extBut _ o D.l2z (hk _ o D.l2z D.l2TO D.l2i1 D.l2i2 e)
  ·exact .cons (ra.map kb) (.cons (rb.map kb) .nil)
 done:=fun s Q E st hQ=>by
  obtain ⟨a,b,hto⟩:=st.to
  have hT:s.TypeIs (.ref z) "zip":=⟨_,st.z,rfl⟩
  unfold pyNext
  refine zC1 (wpAny_attempt (wpAny_callSpecial?_slot (name:=Str.ofString "__next__") hT PySem.F.slot_zip_next
   (wpAny_call_entry PySem.F.slot_zip_next hT PySem.F.entry_zip_next (qP hh D st.z st.ti hto st.h1 st.h2 st.hl1 st.hl2 (fun x y h' ex ey _ _ _ _ _ _=>?_) fun _ h' e hk he=>?_) (PySem.F.args_zip_next_1 _))))
  ·exact absurd (Nat.lt_min.mpr ⟨hla▸(Array.getElem?_eq_some_iff.mp ex).1,hlb▸(Array.getElem?_eq_some_iff.mp ey).1⟩) (Nat.not_lt.mpr (zB2 (gM la lb).symm))
  ·obtain ⟨o,ho,hc⟩:=he
   refine zC1 (wpAny_isInstance (T:="StopIteration") (b:=true) ⟨o,ho,hc⟩ isSubtype_stop ?_)
   refine zC2 ⟨rfl,hQ _ s.toks fun c o hc e=>?_⟩
   have hc:=nm4 hc
   exact hk c o hc.1 hc.2.1 hc.2.2.1 hc.2.2.2 e
 self:=fun i s Q E st hQ=>wpAny_pyIter_zip st.z hQ
section
variable {A:Around} {E:Value→Shared→Prop} {s:Shared}
noncomputable def pX (c:Bool) (l:Addr):Obj:={ cls:=.type (if c then "list_iterator" else "tuple_iterator"),data:=.fields #[.ref l,.int 0 0] }
theorem oK (e:h.get? i=some (pX c l)):fE h c i l 0:=by
 cases c
 ·exact ⟨_,e,rfl,rfl⟩
 ·exact ⟨_,e,rfl,rfl⟩
theorem kK (h:dO s.heap c l xs) (hQ:Q (.ref s.heap.objs.size) { s with heap:=s.heap.push (pX c l) }):wpAny (model prog w) A (pyIter (.ref l)) Q E s:=by
 cases c
 ·exact wpAny_pyIter_tuple h hQ
 ·exact wpAny_pyIter_list h hQ
noncomputable def zH1 (h:Heap) (c1:Bool) (l1:Addr):Heap:=h.push (pX c1 l1)
noncomputable def zH2 (h:Heap) (c1 c2:Bool) (l1 l2:Addr):Heap:=(zH1 h c1 l1).push (pX c2 l2)
noncomputable def zH3 (h:Heap) (c1 c2:Bool) (l1 l2:Addr):Heap:=(zH2 h c1 c2 l1 l2).push { cls:=.type "tuple",data:=.seq #[.ref h.objs.size,.ref (zH1 h c1 l1).objs.size] }
noncomputable def zH4 (h:Heap) (c1 c2:Bool) (l1 l2:Addr):Heap:=(zH3 h c1 c2 l1 l2).push { cls:=.type "tuple",data:=.seq #[.none,.none] }
noncomputable def zH5 (h:Heap) (c1 c2:Bool) (l1 l2:Addr):Heap:=(zH4 h c1 c2 l1 l2).push { cls:=.type "zip",data:=.fields #[.none,.bool false,.bool false,.ref (zH2 h c1 c2 l1 l2).objs.size,.ref (zH3 h c1 c2 l1 l2).objs.size] }
theorem sA (c1 c2:Bool) (l1 l2:Addr) (xs ys:Array Value) :
  Meets (Builtin.«zip.__new__» ⟨[.type "zip",.ref l1,.ref l2],[]⟩) (fun _ R s=>dO s.heap c1 l1 xs∧dO s.heap c2 l2 ys ∧
   R (.ok (.ret (.ref (zH4 s.heap c1 c2 l1 l2).objs.size))) { s with heap:=zH5 s.heap c1 c2 l1 l2 }):=
 .of_wp fun prog w A R s h=>by
  obtain ⟨hp,g,d,tk,os⟩:=s; obtain ⟨hl1,hl2,h⟩:=h
  have hsub:=sub_zip
  have hL1:dO (Shared.heap ⟨hp,g,d,tk,os⟩) c1 l1 xs:=hl1
  have hL2:dO (Shared.heap ⟨hp.push (pX c1 l1),g,d,tk,os⟩) c2 l2 ys:=hl2.at fun o e=>Heap.get?_push_of_some _ e
  wp_walk using kK hL1,kK hL2
  exact ⟨_,rfl,h⟩
theorem uG (hl1:dO s.heap c1 l1 xs) (hl2:dO s.heap c2 l2 ys)
  (h:∀ h',IsZip h' (s.heap.objs.size+4) (s.heap.objs.size+2) (s.heap.objs.size+3) .none→IsPair h' (s.heap.objs.size+2) (.ref s.heap.objs.size) (.ref (s.heap.objs.size+1)) →
   IsPair h' (s.heap.objs.size+3) .none .none→fE h' c1 s.heap.objs.size l1 0→fE h' c2 (s.heap.objs.size+1) l2 0 →
   (∀ c o,s.heap.get? c=some o→h'.get? c=some o)→Q (.ref (s.heap.objs.size+4)) { s with heap:=h' }) :
  wpAny (model prog w) A (call (.type "zip") [.ref l1,.ref l2]) Q E s:=by
 refine callType_new PySem.F.called_zip (by decide) (PySem.F.typeCall_zip_2 _ _) (PySem.F.newCall_zip_2 _ _) (fun obj=>PySem.F.args_object_init_3 obj _ _) PySem.F.entry_zip_new
  (sA c1 c2 l1 l2 xs ys) ⟨hl1,hl2,?_⟩
 have z1:(zH1 s.heap c1 l1).objs.size=s.heap.objs.size+1:=Heap.size_push ..
 have z2:(zH2 s.heap c1 c2 l1 l2).objs.size=s.heap.objs.size+2:=by unfold zH2; rw [Heap.size_push,z1]
 have z3:(zH3 s.heap c1 c2 l1 l2).objs.size=s.heap.objs.size+3:=by unfold zH3; rw [Heap.size_push,z2]
 have z4:(zH4 s.heap c1 c2 l1 l2).objs.size=s.heap.objs.size+4:=by unfold zH4; rw [Heap.size_push,z3]
 have g5:(zH5 s.heap c1 c2 l1 l2).get? (zH4 s.heap c1 c2 l1 l2).objs.size=some _:=Heap.get?_push_size _ rfl
 have g4:(zH5 s.heap c1 c2 l1 l2).get? (zH3 s.heap c1 c2 l1 l2).objs.size=some _:=Heap.get?_push_of_some _ (Heap.get?_push_size _ rfl)
 have g3:(zH5 s.heap c1 c2 l1 l2).get? (zH2 s.heap c1 c2 l1 l2).objs.size=some _:=Heap.get?_push_of_some _ (Heap.get?_push_of_some _ (Heap.get?_push_size _ rfl))
 have g2:(zH5 s.heap c1 c2 l1 l2).get? (zH1 s.heap c1 l1).objs.size=some _:=Heap.get?_push_of_some _ (Heap.get?_push_of_some _ (Heap.get?_push_of_some _ (Heap.get?_push_size _ rfl)))
 have g1:(zH5 s.heap c1 c2 l1 l2).get? s.heap.objs.size=some _:=Heap.get?_push_of_some _ (Heap.get?_push_of_some _ (Heap.get?_push_of_some _ (Heap.get?_push_of_some _ (Heap.get?_push_size _ rfl))))
 refine (?_:_∧_)
 rw [z2,z3,z4] at g5
 rw [z1,z2] at g3
 rw [z3] at g4
 rw [z1] at g2
 rw [z4]
 exact ⟨⟨_,g5,rfl⟩,h _ g5 g3 g4 (oK g1) (oK g2) fun c o x=>
  Heap.get?_push_of_some _ (Heap.get?_push_of_some _ (Heap.get?_push_of_some _ (Heap.get?_push_of_some _ (Heap.get?_push_of_some _ x))))⟩
end
theorem AD (n a b:Nat) (h1:a < n) (h2:b < n):ZipApart (n+4) (n+2) (n+3) n (n+1) a b:=by
 have q:∀ {i j:Nat},i≠j→n+i≠n+j:=fun h e=>h (Nat.add_left_cancel e)
 have p:∀ {i x:Nat},x < n→x≠n+i:=fun h=>Nat.ne_of_lt (Nat.lt_of_lt_of_le h (Nat.le_add_right _ _))
 constructor <;> first | exact p (i:=0) h1 | exact p h1 | exact p (i:=0) h2 | exact p h2 | exact q (by decide) | exact q (i:=0) (by decide) | exact q (j:=0) (by decide)
section
variable {Φ:Ct} [Hm Φ.fx] {E:Value→Shared→Prop} {s:Shared} {st:Bool}
theorem ye (e:iO x=some l) (r:Φ.rp s.heap v x):∃ c a xs,v=.ref a∧dO s.heap c a xs∧Φ.rps s.heap xs.toList l∧xs.size=l.length∧¬ Φ.bad a∧l.length≤am:=
 kM (C:=fun x l=>Φ.rp s.heap v x→∃ c a xs,v=.ref a∧dO s.heap c a xs∧Φ.rps s.heap xs.toList l∧xs.size=l.length∧¬ Φ.bad a∧l.length≤am) e
  (fun l hz r=>r.list_elim fun a o vs n hb ha hc hd hl=>⟨true,a,vs,rfl,⟨_,ha,hc.1,_,hd⟩,hl,aO hl,hb,hz⟩) (fun l hz r=>r.tuple_elim fun a o vs n hb ha hc hd hl=>⟨false,a,vs,rfl,⟨_,ha,hc,_,hd⟩,hl,aO hl,hb,hz⟩) r
theorem uM (I:Inv Φ s) (e1:iO x=some la) (e2:iO y=some lb) (r1:Φ.rp s.heap v1 x) (r2:Φ.rp s.heap v2 y):dv Φ (.Tuple elts kk pos) st s E "zip" (vf la lb) [v1,v2]:=by
 obtain ⟨c1,a1,xs,rfl,h1,rr1,len1,nb1,sz1⟩:=ye e1 r1
 obtain ⟨c2,a2,ys,rfl,h2,rr2,len2,nb2,_⟩:=ye e2 r2
 refine uG h1 h2 fun h' hz hti hto hi1 hi2 hk=>wpAny_pyIter_zip hz ⟨⟨hk,rfl,rfl⟩,?_⟩
 have fresh:∀ k,s.heap.get? (s.heap.objs.size+k)=none:=fun k=>by
  cases e:s.heap.get? (s.heap.objs.size+k) with
  | none=>rfl
  | some o=>exact absurd (Heap.lt_size e) (Nat.not_lt.mpr (Nat.le_add_right _ _))
 have lt1:a1 < s.heap.objs.size:=by obtain ⟨o,e⟩:=h1.live; exact Heap.lt_size e
 have lt2:a2 < s.heap.objs.size:=by obtain ⟨o,e⟩:=h2.live; exact Heap.lt_size e
 have D:ZipApart (s.heap.objs.size+4) (s.heap.objs.size+2) (s.heap.objs.size+3) s.heap.objs.size (s.heap.objs.size+1) a1 a2:=AD _ _ _ lt1 lt2
 refine ⟨_,_,_,_,_,_,rfl,uV (I.ok.hand Hm.no) (c1:=c1) (c2:=c2) D xs ys la lb len1 len2,⟨hz,hti,⟨_,_,hto⟩,hi1,hi2,h1.at fun o e=>hk _ o e,h2.at fun o e=>hk _ o e⟩,rr1.append rr2,AO (fresh 4) (fresh 3) (fresh 0) (fresh 1),Cc (.inl (fresh 4)) (.inl (fresh 2)) (.inl (fresh 3)) (.inl (fresh 0)) (.inl (fresh 1)) (.inr fun _=>nb1) (.inr fun _=>nb2),gM la lb▸zB1 (Nat.min_le_left _ _) sz1⟩
theorem wJ {qs:List (Expr×DV)} {elts:List Expr} {kk:Nat} (hx:bn Φ.fx.env.scope.names "zip"=true) (hq:∀ q∈qs,ao q.1=true∧be Φ q) :
  eM Φ (.Tuple elts kk tp) st (.Call (.Name "zip" fp) (qs.map Prod.fst) [] pos) (fun K=>bo (qs.map Prod.snd) fun xs=>okK (opN .zip xs) fun z=>okK (bL z) K):=
 nW (F:="zip") hx rfl hq fun s vs xs z l E I rs e el=>t8 (C:=dv Φ (.Tuple elts kk tp) st s E "zip" l) e rs fun v u x y r1 r2 e=>(Option.bind_eq_some_iff.mp e).elim fun la ⟨h1,e⟩=>map_elim (C:=fun z=>bL z=some l→dv Φ (.Tuple elts kk tp) st s E "zip" l [v,u]) e (fun lb h2 el=>fit_elim (C:=fun l=>dv Φ (.Tuple elts kk tp) st s E "zip" l [v,u]) el fun _=>uM I h1 h2 r1 r2) el
end
theorem au (h:x=none) (e:x=some a):False:=nomatch h.symm.trans e
theorem nF (name:Str) (h:Int) (k v:Value) (o:Obj):(Obj.putName name h k v o).cls=o.cls:=by
 refine Obj.putName_eq.symm▸?_
 obtain ⟨c,d,dt,sl⟩:=o
 cases dt with
 | dict es n=>
  show (match es.findIdx? (fun e:DictEntry=>e.key.isStr name) with
   | some i=>(⟨c,d,.dict (es.modify i fun e=>{ e with val:=v }) n,sl⟩:Obj)
   | none=>⟨c,d,.dict (es.push ⟨h,k,v⟩) (n+1),sl⟩).cls=c
  split <;> rfl
 | _=>rfl
theorem pv {h:Heap} {a:Addr} {o o':Obj} {f:Obj→Obj} (e:h.get? a=some o) (e':(h.update a f).get? a=some o'):o'=f o:=by
 obtain ⟨e1,_⟩:=Heap.get?_some_iff.mp e
 obtain ⟨e2,_⟩:=Heap.get?_some_iff.mp e'
 cases h
 simp only [Heap.update,Array.getElem?_modify,if_true] at e2
 simp only at e1
 rw [e1] at e2
 simpa using e2.symm
theorem sD {M:Model} {Γ:Ctx} {E:Value→Pos→Shared→Prop} {p:Pos} {s:Shared} {a:Addr} {m} (hn:s.heap.Ns a m) (name:Str) (v:Value) (Q:Unit→Pos→Shared→Prop)
  (hQ:∀ h',h'.Ns a (fun x=>if x=name then some v else m x)→Heap.SameBut a s.heap h'→(∀ o,s.heap.get? a=some o→∃ o',h'.get? a=some o'∧o'.cls=o.cls) →
   Q () p { s with heap:=h',toks:=s.toks+1 }):Sem.wp M Γ (nsSet a name v) Q E p s:=by
 have h1:=Sem.wp_nsSet M Γ E p s hn name v (fun _ _ s'=>s'.heap.Ns a (fun x=>if x=name then some v else m x)) fun h' hn' _=>hn'
 refine ar fun Z4 kZ4=>?_
 obtain ⟨o,es,ep,ho,hd,hk,hm⟩:=hn
 refine kZ4 ?_
 simp only [nsSet,strHash,Sem.wp_bind',Sem.wp_cmd_ask,Sem.wp_pure',Sem.wp_cmd_mkText] at h1 ⊢
 rw [Sem.wp_loadPart_of M Γ E p { s with toks:=s.toks+1 } (o:=o) _ ho] at h1 ⊢
 have hany:es.any (·.refKey)=false:=by
  rw [Array.any_eq_false']; intro e he; obtain ⟨n,t,h⟩:=hk e he; simp [DictEntry.refKey,h]
 simp only [hd,aRefKeyMayBeTheName_eq,aRefKeyMayBeTheNameByArray,hany,Bool.and_false,Bool.false_eq_true,if_false,Sem.wp_cmd_updatePart] at h1 ⊢
 obtain ⟨h2,h3⟩:=h1
 refine ⟨h2,hQ _ h3 (Heap.SameBut.update ..) fun o' ho'=>?_⟩
 rw [ho] at ho'
 (injection ho' with ho'; subst ho')
 refine ar fun Z6 kZ6=>?_
 obtain ⟨o',_,_,he,hd',_⟩:=h3
 refine kZ6 ?_
 exact ⟨o',he,by rw [pv ho he]; exact nF ..⟩
theorem fu {E:Value→Shared→Prop} {m} {Q:Unit→Shared→Prop} (hn:s.heap.Ns a m)
  (h:∀ h',h'.Ns a (fun x=>if x=name then some v else m x)→Heap.SameBut a s.heap h'→(∀ o,s.heap.get? a=some o→∃ o',h'.get? a=some o'∧o'.cls=o.cls)→Q () { s with heap:=h',toks:=s.toks+1 }) :
  wpAny M A (nsSet a name v) Q E s:=fun Γ p _=>sD hn name v _ h
theorem iu {E:Value→Shared→Prop} {Q:Unit→Shared→Prop} (hc:s.heap.IsCell c v₀)
  (h:∀ h',h'.IsCell c v→Heap.SameBut c s.heap h'→(∀ o,s.heap.get? c=some o→∃ o',h'.get? c=some o'∧o'.cls=o.cls)→Q () { s with heap:=h' }):wpAny M A (cellSet c v) Q E s:=by
 obtain ⟨o,ho,hd⟩:=hc
 skip
 refine zC1 (wpAny_load ho ?_)
 refine hd.symm▸?_
 have e:=Heap.get?_update_self (fun o:Obj=>{ o with data:=.cell v }) ho rfl
 exact wpAny_update ho (h _ ⟨{ o with data:=.cell v },e,rfl⟩ (Heap.SameBut.update ..) fun o' ho'=>⟨_,e,by replace ho':=ho▸ho'; (injection ho' with ho'; subst ho'); rfl⟩)
def xV (a:Addr) (h h':Heap):Prop:=∀ o,h.get? a=some o→∃ o',h'.get? a=some o'∧o'.cls=o.cls
theorem gx.but (f:gx h0 h l) (hs:Heap.SameBut a h h') (c:(∃ o,h.get? a=some o∧iq o)∨(xV a h h'∧∀ o,h'.get? a=some o→∀ vs,o.data≠.fields vs)):gx h0 h' l:=fun env m=>by
 refine ar fun Z8 kZ8=>?_
 obtain ⟨hk,L,o,hf,hn,ho,hc,hd⟩:=f env m
 refine kZ8 ?_
 by_cases q:L=a
 ·subst q
  rcases c with ⟨o',e',n⟩ | ⟨c,d⟩
  ·rw [ho] at e'; (injection e' with e'; subst e'); exact absurd hc n
  ·obtain ⟨o',e',q⟩:=c o ho
   exact ⟨hk,L,o',hf,hn,e',q.trans hc,d o' e'⟩
 ·exact ⟨hk,L,o,hf,hn,hs.extBut L o q ho,hc,hd⟩
theorem fk.but (f:fk g A h) (hs:Heap.SameBut a h h') (c:(∃ o,h.get? a=some o∧iq o)∨(xV a h h'∧∀ o,h'.get? a=some o→∀ vs,o.data≠.fields vs)):fk g A h':=f.elim fun l q=>⟨l,q.1,q.2.but hs c⟩
def hJ (h:Heap) (p:Pl) (v:Option Value) (h':Heap):Prop:=match p with
 | .ns a x=>(∃ m,h.Ns a m∧h'.Ns a (fun y=>if y=x then v else m y))∧Heap.SameBut a h h'∧xV a h h'
 | .cell c=>h'.IsCell c v∧Heap.SameBut c h h'∧xV c h h'
 | .off=>False
section
variable {Φ Φ':Ct} {s s' s₀:Shared} {h h':Heap}
theorem d4 (I:Inv Φ s) (hx:Φ.fx.ρ.lookup x=some k) (hnf:Φ.fx.env.kindOf x≠some .free) (h:∀ h' tk,hJ s.heap (Φ.fx.pl k) (some v) h'→Q () { s with heap:=h',toks:=tk }):Φ.wp (storeName Φ.fx.env x v) Q s:=fun E=>by
 obtain ⟨u,pr,_⟩:=I.slot k
 rcases I.ok.vis x k hx with ⟨hl,hp⟩ | ⟨hl,c,hc,hp⟩
 ·rw [hp] at pr h
  obtain ⟨m,hns,hv⟩:=pr
  rw [storeName_local hl (by rw [I.ok.kind]; rfl)]
  exact fu hns fun h' hn' hs' hc'=>h h' _ ⟨⟨m,hns,hn'⟩,hs',hc'⟩
 ·rw [hp] at pr h
  rcases hl with hl | hl
  ·unfold storeName
   rw [hl]
   refine bw (c:=(Φ.fx.env.scope.kind==.class&&some NameKind.cell==some .cell)=true) (by rw [I.ok.kind]; decide) ?_
   exact zC1 (wpAny_cellOf hc (iu pr fun h' hc' hs' hk'=>h h' s.toks ⟨hc',hs',hk'⟩))
  ·exact absurd hl hnf
theorem hJ.addr (ps:hJ h p v h'):∃ a,p.addr=some a∧Heap.SameBut a h h'∧aQ h' a∧xV a h h'∧∀ o,h'.get? a=some o→∀ vs,o.data≠.fields vs:=by
 cases p with
 | ns a x=>
  refine ar fun Z13 kZ13=>?_
  obtain ⟨⟨m,_,hn⟩,hs,hc⟩:=ps
  obtain ⟨o,es,ep,ho,hd,_⟩:=hn
  refine kZ13 ?_
  exact ⟨a,rfl,hs,⟨o,ho⟩,hc,fun o' e' vs q=>by replace e':=ho▸e'; (injection e' with e'; subst e'); exact nomatch hd.symm.trans q⟩
 | cell c=>
  refine ar fun Z14 kZ14=>?_
  obtain ⟨⟨o,ho,hd⟩,hs,hc⟩:=ps
  refine kZ14 ?_
  exact ⟨c,rfl,hs,⟨o,ho⟩,hc,fun o' e' vs q=>by replace e':=ho▸e'; (injection e' with e'; subst e'); exact nomatch hd.symm.trans q⟩
 | off=>exact ps.elim
theorem hJ.self (ps:hJ h p v h'):aZ h' p v:=by
 cases p with
 | ns a x=>obtain ⟨⟨m,_,hn⟩,hs,_⟩:=ps; exact ⟨_,hn,if_pos rfl⟩
 | cell c=>exact ps.1
 | off=>exact ps.elim
theorem hJ.other (ps:hJ h p v h') (hne:q≠p) (ap:∀ a x c,(p=.ns a x∧q=.cell c)∨(q=.ns a x∧p=.cell c)→a≠c) (r:aZ h q u):aZ h' q u:=by
 cases p with
 | ns a x=>
  obtain ⟨⟨m,hm,hn⟩,hs,_⟩:=ps
  cases q with
  | ns b y=>
   obtain ⟨m',hm',hu⟩:=r
   by_cases e:b=a
   ·subst e
    refine ⟨_,hn,?_⟩
    rw [if_neg fun q=>hne (by rw [q])]
    refine ar fun Z17 kZ17=>?_
    obtain ⟨o,es,ep,ho,hd,_,hf⟩:=hm
    obtain ⟨o',es',ep',ho',hd',_,hf'⟩:=hm'
    refine kZ17 ?_
    replace ho':=ho▸ho'; (injection ho' with ho'; subst ho')
    replace hd':=hd▸hd'; (injection hd' with hd'; subst hd')
    rw [← hf,hf']; exact hu
   ·exact ⟨m',hm'.sameBut hs e,hu⟩
  | cell c=>obtain ⟨o,ho,hd⟩:=r; exact ⟨o,hs.extBut c o (Ne.symm (ap a x c (.inl ⟨rfl,rfl⟩))) ho,hd⟩
  | off=>exact r
 | cell c=>
  obtain ⟨hc,hs,_⟩:=ps
  cases q with
  | ns b y=>obtain ⟨m',hm',hu⟩:=r; exact ⟨m',hm'.sameBut hs (ap b y c (.inr ⟨rfl,rfl⟩)),hu⟩
  | cell d=>obtain ⟨o,ho,hd⟩:=r; exact ⟨o,hs.extBut d o (fun q=>hne (by rw [q])) ho,hd⟩
  | off=>exact r
 | off=>exact ps.elim
noncomputable def isI:Slot→Prop
 | .ownI _=>True
 | _=>False
structure Tr (Φ:Ct) (s:Shared) (Φ':Ct) (s':Shared):Prop where
 fx:Φ'.fx=Φ.fx
 keep:∀ b o,s.heap.get? b=some o→¬ Φ.own b→bz s'.heap b o
 live:∀ b,aQ s.heap b→aQ s'.heap b
 grow:∀ a,aQ s.heap a→Φ'.own a→Φ.own a
 inst:∀ k a,Φ'.oa k=some a→isI (getSlot Φ'.G k)→Φ.oa k=some a∧isI (getSlot Φ.G k)
theorem Tr.refl (Φ:Ct) (s:Shared):Tr Φ s Φ s:=⟨rfl,fun _ _ e _=>.of e,fun _ l=>l,fun _ _ q=>q,fun _ _ e q=>⟨e,q⟩⟩
theorem Tr.trans (x:Tr Φ s Φ₂ s₂) (y:Tr Φ₂ s₂ Φ₃ s₃):Tr Φ s Φ₃ s₃ where
 fx:=y.fx.trans x.fx
 keep:=fun b o e n=>(x.keep b o e n).step fun o' e'=>y.keep b o' e' fun q=>n (x.grow b ⟨o,e⟩ q)
 live:=fun b l=>y.live b (x.live b l)
 grow:=fun a l q=>x.grow a l (y.grow a (x.live a l) q)
 inst:=fun k a e q=>(y.inst k a e q).elim fun e q=>x.inst k a e q
theorem Tr.of_keeps (k:aG s.heap s'.heap):Tr Φ s Φ s':=⟨rfl,fun b o e _=>k b o e,fun _=>k.live,fun _ _ q=>q,fun _ _ e q=>⟨e,q⟩⟩
theorem Tr.mapK (t:Tr Φ s Φ' s'):cU Φ.bad Φ'.bad s.heap s'.heap:=fun a o e f n=>
 ⟨fun b=>b.elim (fun b=>n (.inl (t.fx▸b))) fun b=>n (.inr (t.grow a ⟨o,e⟩ b)),(t.keep a o e fun q=>n (.inr q)).get f⟩
theorem bM {G:Gs} {k:Nat} {x:Slot} (hk:k < G.length):getSlot (G.set k x) k=x:=by
 unfold getSlot; rw [List.getD_eq_getElem?_getD,List.getElem?_set_self hk]; rfl
theorem cD (h:j≠k):getSlot (G.set k x) j=getSlot G j:=by
 unfold getSlot; rw [List.getD_eq_getElem?_getD,List.getD_eq_getElem?_getD,List.getElem?_set_ne (Ne.symm h)]
noncomputable def Ct.put (Φ:Ct) (k:Nat) (oak:Option Addr) (sl:Slot):Ct:=⟨Φ.fx,fun j=>if j=k then oak else Φ.oa j,Φ.G.set k sl⟩
theorem put_own (q:(Φ.put k oak sl).own a):oak=some a∨Φ.own a:=by
 rcases q with q | ⟨j,q⟩
 ·exact .inr (.inl q)
 ·by_cases e:j=k
  ·exact .inl ((if_pos e).symm.trans q)
  ·exact .inr (.inr ⟨j,(if_neg e).symm.trans q⟩)
theorem jC (hon:k < Φ.G.length) (h:isI sl→Φ.oa k=oak∧isI (getSlot Φ.G k)):∀ j a,(Φ.put k oak sl).oa j=some a→isI (getSlot (Φ.put k oak sl).G j)→Φ.oa j=some a∧isI (getSlot Φ.G j):=fun j a e q=>by
 have e:(if j=k then oak else Φ.oa j)=some a:=e
 have q:isI (getSlot (Φ.G.set k sl) j):=q
 by_cases c:j=k
 ·subst c
  rw [bM hon] at q
  rw [if_pos rfl] at e
  exact ⟨(h q).1.trans e,(h q).2⟩
 ·rw [if_neg c] at e
  rw [cD c] at q
  exact ⟨e,q⟩
theorem Inv.put (I:Inv Φ s₀) (B:Base Φ.fx.g s) (k₀:aG s₀.heap s.heap) (ps:hJ s.heap (Φ.fx.pl k) v h')
  (so:dS Φ.fx.g (Φ.put k oak sl).bad h' oak v sl) (hnew:∀ a,oak=some a→s₀.heap.get? a=none∧aQ h' a) (hni:¬ isI sl):Inv (Φ.put k oak sl) { s with heap:=h',toks:=tk }∧Tr Φ s₀ (Φ.put k oak sl) { s with heap:=h',toks:=tk }:=by
 refine ar fun Z20 kZ20=>?_
 obtain ⟨a,ha,hs,hl,hcl,hnd⟩:=ps.addr
 refine kZ20 ?_
 have hon:k < Φ.G.length:=by
  rw [I.gl]
  refine Nat.lt_of_lt_of_le (Nat.lt_of_not_le fun q=>?_) I.ok.nfs
  replace ha:=(I.ok.offs k q)▸ha; (injection ha; done)
 have hown:Φ.own a:=.inl ⟨k,ha⟩
 have kp:∀ b o,b≠a→s₀.heap.get? b=some o→bz h' b o:=fun b o n e=>(k₀ b o e).step fun o' e'=>.of (hs.extBut b o' n e')
 have live:∀ b,aQ s₀.heap b→aQ h' b:=fun b ⟨o,e⟩=>(Classical.em (b=a)).elim (fun q=>q▸hl) fun n=>(kp b o n e).live
 have nl:∀ b,oak=some b→¬ aQ s₀.heap b:=fun b e ⟨o,q⟩=>by replace q:=((hnew b e).1)▸q; (injection q; done)
 have mk:cU Φ.bad (Φ.put k oak sl).bad s₀.heap h':=fun b o e f n=>by
  refine ⟨fun q=>?_,(kp b o (fun q=>n (.inr (q▸hown))) e).get f⟩
  rcases q with q | q
  ·exact n (.inl q)
  ·exact (put_own q).elim (fun q=>nl b q ⟨o,e⟩) fun q=>n (.inr q)
 have nonew:∀ b,Φ.own b→¬ oak=some b:=fun b q e=>nl b e (I.new b q).1
 refine ⟨⟨I.ok,⟨fun b o e=>hs.extBut b o (fun q=>au (I.new a hown).2.1 (q▸e)) (B.stays b o e),B.os,B.gens⟩,fun j=>?_,fun b q=>?_,fun i j b e1 e2=>?_,fun j b e i q=>?_,?_,fun b q=>live b (I.mo b q),(I.fr.keep k₀).but hs (.inr ⟨hcl,hnd⟩)⟩,
  ⟨rfl,fun b o e n=>kp b o (fun q=>n (q▸hown)) e,live,fun b l q=>(put_own q).elim (fun q=>absurd l (nl b q)) id,jC hon fun q=>absurd q hni⟩⟩
 ·by_cases e:j=k
  ·subst e
   refine ⟨v,ps.self,?_⟩
   have e1:(Φ.put j oak sl).oa j=oak:=if_pos rfl
   have e2:getSlot (Φ.put j oak sl).G j=sl:=bM hon
   rw [e1,e2]; exact so
  ·obtain ⟨u,pr,sj⟩:=I.slot j
   have e1:(Φ.put k oak sl).oa j=Φ.oa j:=if_neg e
   have e2:getSlot (Φ.put k oak sl).G j=getSlot Φ.G j:=cD e
   refine e1.symm▸e2.symm▸?_
   refine ⟨u,?_,sj.map mk fun b eb o e f=>(kp b o (fun q=>I.off j b eb k (q▸ha)) e).get f⟩
   by_cases ho:Φ.fx.pl j=.off
   ·refine (?_:aZ h' (Φ.fx.pl j) u)
    rw [ho] at pr ⊢; exact pr
   ·exact ps.other (fun q=>e (I.ok.inj j k q ho)) (fun a' x c q=>q.elim (fun q=>I.ok.apart k j a' x c q.1 q.2) fun q=>I.ok.apart j k a' x c q.1 q.2) (pr.keep k₀)
 ·rcases put_own q with q | q
  ·exact ⟨(hnew b q).2,aM (fun l=>I.base.stays.live l) (hnew b q).1,fun z=>nl b q (I.mo b z)⟩
  ·obtain ⟨l,n⟩:=I.new b q
   exact ⟨live b l,n⟩
 ·have c1:(if i=k then oak else Φ.oa i)=some b:=e1
  have c2:(if j=k then oak else Φ.oa j)=some b:=e2
  by_cases h1:i=k <;> by_cases h2:j=k
  ·exact h1.trans h2.symm
  ·rw [if_pos h1] at c1; rw [if_neg h2] at c2; exact absurd c1 (nonew b (.inr ⟨j,c2⟩))
  ·rw [if_neg h1] at c1; rw [if_pos h2] at c2; exact absurd c2 (nonew b (.inr ⟨i,c1⟩))
  ·rw [if_neg h1] at c1; rw [if_neg h2] at c2; exact I.inj i j b c1 c2
 ·have c:(if j=k then oak else Φ.oa j)=some b:=e
  by_cases h1:j=k
  ·rw [if_pos h1] at c; exact nonew b (.inl ⟨i,q⟩) c
  ·rw [if_neg h1] at c; exact I.off j b c i q
 ·refine (?_:(Φ.G.set k sl).length=_)
  rw [List.length_set]; exact I.gl
theorem Inv.mutate (I:Inv Φ s) (hk:Φ.oa k=some a) (pr:aZ s.heap (Φ.fx.pl k) (some u)) (hnf:∃ o,s.heap.get? a=some o∧iq o) (hs:Heap.SameBut a s.heap h') (hl:aQ h' a) (ow:gf Φ.fx.g Φ.bad h' a u sl) (hsl:∀ x,sl≠.v x) (hsl':sl≠.unset) (hni:isI sl→isI (getSlot Φ.G k)) :
  Inv (Φ.put k (some a) sl) { s with heap:=h',toks:=tk }∧Tr Φ s (Φ.put k (some a) sl) { s with heap:=h',toks:=tk }:=by
 have kp:∀ b o,b≠a→s.heap.get? b=some o→h'.get? b=some o:=fun b o n e=>hs.extBut b o n e
 have hown:Φ.own a:=.inr ⟨k,hk⟩
 have hon:k < Φ.G.length:=by
  rw [I.gl]
  refine Nat.lt_of_lt_of_le (Nat.lt_of_not_le fun q=>?_) I.ok.nfs
  replace pr:=(I.ok.offs k q)▸pr; (injection pr; done)
 have eo:(Φ.put k (some a) sl).oa=Φ.oa:=funext fun j=>(Classical.em (j=k)).elim (fun e=>(if_pos e).trans (e▸hk.symm)) fun e=>if_neg e
 have eb:(Φ.put k (some a) sl).bad=Φ.bad:=by unfold Ct.bad Ct.own; rw [eo]; rfl
 have ew:(Φ.put k (some a) sl).own=Φ.own:=by unfold Ct.own; rw [eo]; rfl
 have live:∀ b,aQ s.heap b→aQ h' b:=fun b Zq3=>Zq3.elim fun o e=>(Classical.em (b=a)).elim (fun q=>q▸hl) fun n=>⟨o,kp b o n e⟩
 have mk:cU Φ.bad Φ.bad s.heap h':=fun b o e _ n=>⟨n,kp b o (fun q=>n (.inr (q▸hown))) e⟩
 have plr:∀ j u,aZ s.heap (Φ.fx.pl j) u→aZ h' (Φ.fx.pl j) u:=fun j u r=>by
  have na:∀ c,(Φ.fx.pl j).addr=some c→c≠a:=fun c e q=>I.off k a hk j (q▸e)
  generalize Φ.fx.pl j=p at r na
  cases p with
  | ns c x=>obtain ⟨m,hn,hu⟩:=r; exact ⟨m,hn.at' fun o e=>kp c o (na c rfl) e,hu⟩
  | cell c=>obtain ⟨o,ho,hd⟩:=r; exact ⟨o,kp c o (na c rfl) ho,hd⟩
  | off=>exact r
 refine ⟨⟨I.ok,⟨fun b o e=>kp b o (fun q=>au (I.new a hown).2.1 (q▸e)) (I.base.stays b o e),I.base.os,I.base.gens⟩,fun j=>?_,fun b q=>?_,by exact eo.symm▸I.inj,by exact eo.symm▸I.off,?_,fun b q=>live b (I.mo b q),I.fr.but hs (.inl hnf)⟩,
  ⟨rfl,fun b o e n=>.of (kp b o (fun q=>n (q▸hown)) e),live,fun b l q=>ew▸q,jC hon fun q=>⟨hk,hni q⟩⟩⟩
 ·refine eb.symm▸eo.symm▸?_
  by_cases e:j=k
  ·subst e
   refine ⟨some u,plr j _ pr,?_⟩
   have e2:getSlot (Φ.put j (some a) sl).G j=sl:=bM hon
   refine e2.symm▸?_
   cases sl with
   | unset=>exact absurd rfl hsl'
   | v x=>exact absurd rfl (hsl x)
   | _=>exact ⟨a,u,hk,rfl,ow⟩
  ·refine ar fun Z23 kZ23=>?_
   obtain ⟨w,r,sj⟩:=I.slot j
   refine kZ23 ?_
   have e2:getSlot (Φ.put k (some a) sl).G j=getSlot Φ.G j:=cD e
   exact e2.symm▸⟨w,plr j w r,sj.map mk fun b eb o e' _=>kp b o (fun q=>e (I.inj j k a (q▸eb) hk)) e'⟩
 ·rw [ew] at q
  obtain ⟨l,n⟩:=I.new b q
  exact ⟨live b l,n⟩
 ·refine (?_:(Φ.G.set k sl).length=_)
  rw [List.length_set]; exact I.gl
end
noncomputable abbrev Ct.wi (Φ:Ct) (oa:Nat→Option Addr) (G:Gs):Ct:=⟨Φ.fx,oa,G⟩
section
variable {Φ:Ct} {s s' s₁:Shared} {v:Value} {x:V}
theorem iK (I:Inv Φ s) (ps:hJ s.heap (Φ.fx.pl k) (some v) h') (r:Φ.rp s.heap v x):Inv (Φ.put k none (.v x)) { s with heap:=h',toks:=tk }∧Tr Φ s (Φ.put k none (.v x)) { s with heap:=h',toks:=tk }:=by
 refine ar fun Z1 kZ1=>?_
 obtain ⟨a,ha,hs,_⟩:=ps.addr
 refine kZ1 ?_
 refine Inv.put (oak:=none) (sl:=.v x) I I.base (.refl _) ps ⟨rfl,v,rfl,r.map fun b o e _ n=>⟨fun q=>?_,hs.extBut b o (fun q=>n (.inr (.inl ⟨k,q▸ha⟩))) e⟩⟩ (fun a q=>nN q.symm) id
 exact n (q.imp id fun (q:(Φ.put k none (.v x)).own b)=>(put_own q).elim (fun (z:none=some b)=>nN z.symm) id)
structure TgtOk (ρ:List (Str×Nat)) (env:Env) (n:Str) (k:Nat):Prop where
 lk:ρ.lookup n=some k
 nf:env.kindOf n≠some .free
theorem ya (hT:TgtOk Φ.fx.ρ Φ.fx.env n k) (I:Inv Φ s) (r:Φ.rp s.heap v x) :
  Φ.wp (assign (.Name n py) Φ.fx.env v) (fun _ s'=>Inv (Φ.put k none (.v x)) s'∧Tr Φ s (Φ.put k none (.v x)) s'∧∀ b o,s.heap.get? b=some o→(Φ.fx.pl k).addr≠some b→s'.heap.get? b=some o) s:=fun E=>by
 rw [arm_assign_Name]
 refine zC1 (wpAny_standAt (wpAny_bindName (d4 I hT.lk hT.nf (fun h' tk ps=>?_) E)))
 refine ar fun Z2 kZ2=>?_
 obtain ⟨a,ha,hs,_⟩:=ps.addr
 refine kZ2 ?_
 have q:=iK (tk:=tk) I ps r
 exact ⟨q.1,q.2,fun b o e n=>hs.extBut b o (fun q=>n (q▸ha)) e⟩
noncomputable def vt (ks:List Nat) (xs:List V) (G:Gs):Gs:=(ks.zip xs).foldl (fun G p=>G.set p.1 (.v p.2)) G
inductive TgtsOk (ρ:List (Str×Nat)) (env:Env):List Expr→List Nat→Prop
 | nil:TgtsOk ρ env [] []
 | cons {n:Str} {p:Pos} {k:Nat} {es:List Expr} {ks:List Nat}:TgtOk ρ env n k→TgtsOk ρ env es ks→TgtsOk ρ env (.Name n p :: es) (k :: ks)
noncomputable def offs (ks:List Nat) (oa:Nat→Option Addr):Nat→Option Addr:=ks.foldl (fun oa k j=>if j=k then none else oa j) oa
def mB (fx:Fx) (oa:Nat→Option Addr) (G:Gs) (s:Shared) (ks:List Nat) (G':Gs) (s':Shared):Prop:=
 Inv ⟨fx,offs ks oa,G'⟩ s'∧Tr ⟨fx,oa,G⟩ s ⟨fx,offs ks oa,G'⟩ s'∧∀ b o,s.heap.get? b=some o→(∀ k∈ks,(fx.pl k).addr≠some b)→s'.heap.get? b=some o
theorem Cw (hT:TgtsOk fx.ρ fx.env es ks):∀ {oa:Nat→Option Addr} {G:Gs} {vs:List Value} {xs:List V} {s:Shared},xs.length=ks.length→Inv ⟨fx,oa,G⟩ s→(Ct.mk fx oa G).rps s.heap vs xs →
  (Ct.mk fx oa G).wp (assignInOrder ((assignEach es fx.env).map (·.2)) vs) (fun _ s'=>mB fx oa G s ks (vt ks xs G) s') s:=by
 induction hT with
 | nil=>
  intro oa G vs xs s hl I r E
  obtain rfl:=List.length_eq_zero_iff.mp hl
  cases r
  exact zC2 ⟨I,.refl _ _,fun _ _ e _=>e⟩
 | @cons n p k es ks h1 _ ih=>
  intro oa G vs xs s hl I r E
  cases r with
  | nil=>(injection hl; done)
  | @cons v vs x xs r rs=>
   refine (?_:wpAny _ _ (holding vs (assign (.Name n p) fx.env v) >>= fun _=>assignInOrder ((assignEach es fx.env).map (·.2)) vs) _ _ _)
   refine zC1 (wpAny_holding (wpAny_mono (ya (Φ:=⟨fx,oa,G⟩) h1 I r E) (fun _ s₁ q=>?_) fun _ _ z=>z))
   refine wpAny_mono (ih (Nat.succ.inj hl) q.1 (rs.map q.2.1.mapK) E) (fun _ s₂ z=>?_) fun _ _ z=>z
   exact ⟨z.1,q.2.1.trans z.2.1,fun b o e n=>z.2.2 b o (q.2.2 b o e (n k (.head _))) fun j m=>n j (.tail _ m)⟩
theorem px (hT:TgtsOk ρ e0 es ks):(assignEach es env).length=ks.length∧(assignEach es env).findIdx? (·.1)=none:=by
 induction hT with
 | nil=>exact ⟨rfl,rfl⟩
 | @cons n p k es ks h1 _ ih=>
  have e:assignEach (.Name n p :: es) env=(false,assign (.Name n p) env) :: assignEach es env:=rfl
  rw [e]
  exact ⟨congrArg (· + 1) ih.1,by rw [List.findIdx?_cons,ih.2]; rfl⟩
theorem fv (e:aV ks G x=some G') {C:V→Gs→Prop} (k:∀ xs,xs.length=ks.length→C (.tuple xs) (vt ks xs G)):C x G':=by
 cases x with
 | tuple xs=>exact if_elim e fun h=>k xs h
 | _=>(injection e; done)
theorem AJ [Hm Φ.fx] (hT:TgtsOk Φ.fx.ρ Φ.fx.env es ks) (I:Inv Φ s) (e:aV ks Φ.G x=some G') (r:Φ.rp s.heap v x) :
  Φ.wp (assign (.Tuple es kk p) Φ.fx.env v) (fun _ s'=>mB Φ.fx Φ.oa Φ.G s ks G' s') s:=fun E=>
 fv (C:=fun x G'=>Φ.rp s.heap v x→wpAny _ _ (assign (.Tuple es kk p) Φ.fx.env v) (fun _ s'=>mB Φ.fx Φ.oa Φ.G s ks G' s') E s) e (fun xs hl r=>r.tuple_elim fun a o vs n hb ha hc hd hr=>by
  obtain ⟨h1,h2⟩:=px (env:=Φ.fx.env) hT
  refine wpAny_assign_Tuple (I.ok.hand Hm.no) ⟨_,ha,hc,_,hd⟩ (by exact h1.symm▸hl▸(aO hr).symm) h2 fun h' he=>?_
  have gr:Grown s { s with heap:=h' }:=⟨fun b o e=>he b o (Nat.ne_of_lt (Heap.lt_size e)) e,rfl,rfl⟩
  refine wpAny_mono (Cw (oa:=Φ.oa) (G:=Φ.G) hT hl (I.keep (I.base.grown gr) gr.keeps) (hr.keep gr.keeps) E) (fun _ s₂ z=>⟨z.1,(Tr.of_keeps gr.keeps).trans z.2.1,fun b o e n=>z.2.2 b o (gr.stays b o e) n⟩) fun _ _ z=>z) r
def xU (Φ:Ct) (s:Shared) (h:Heap) (f:Flow) (fl:Option V):Prop:=match fl with
 | none=>f=.next
 | some x=>noX x=true∧∃ v,f=.ret v∧Φ.rp h v x∧(Φ.fx.nw=true→lj s.heap v)
theorem xU.lift (x:xU Φ s₁ h f fl) (k:∀ b,aQ s.heap b→aQ s₁.heap b):xU Φ s h f fl:=by
 cases fl with
 | none=>exact x
 | some y=>obtain ⟨nx,v,e,r,n⟩:=x; exact ⟨nx,v,e,r,fun q=>(n q).le k⟩
inductive PostS (Φ:Ct) (s:Shared) (K:Option V→Gs→Prop) (f:Flow) (s':Shared):Prop
 | mk:∀ oa' G' fl,(fl=none∨Φ.fx.hm=true→Inv (Φ.wi oa' G') s')→Base Φ.fx.g s'→Tr Φ s (Φ.wi oa' G') s'→xU (Φ.wi oa' G') s s'.heap f fl→K fl G'→PostS Φ s K f s'
inductive PostX (Φ:Ct) (s:Shared) (K:Option V→Gs→Prop) (v:Value) (s':Shared):Prop
 | mk:∀ oa' G' c e,v=.ref e→c < Φ.fx.g.nc→Inv (Φ.wi oa' G') s'→Tr Φ s (Φ.wi oa' G') s'→ExcAt s'.heap s.heap e (.ref (Φ.fx.g.cls c)) .none→K (some (fA c)) G'→PostX Φ s K v s'
def ExB (fx:Fx) (t:Sem Flow) (X:B):Prop:=∀ oa G K s,X G K→Inv ⟨fx,oa,G⟩ s→wpAny (model fx.g.prog fx.g.w) fx.A t (PostS ⟨fx,oa,G⟩ s K) (PostX ⟨fx,oa,G⟩ s K) s
theorem ExcAt.le {h lo lo':Heap} {e:Addr} {cls fl:Value} (x:ExcAt h lo e cls fl) (q:∀ b,aQ lo' b→aQ lo b):ExcAt h lo' e cls fl:=by
 obtain ⟨oe,vs,a,b,c,d,f,g,k⟩:=x
 refine ⟨oe,vs,a,b,c,d,aM (q _) f,g,k.imp id ?_⟩
 rintro ⟨T,oT,ts,a,b,c,d⟩
 exact ⟨T,oT,ts,a,b,aM (q _) c,d⟩
theorem PostS.lift {K:Option V→Gs→Prop} {oa₁:Nat→Option Addr} (p:PostS (Φ.wi oa₁ G₁) s₁ K f s') (t:Tr Φ s (Φ.wi oa₁ G₁) s₁):PostS Φ s K f s':=by
 obtain ⟨oa',G',fl,I,B,t',h,h'⟩:=p
 exact ⟨oa',G',fl,I,B,t.trans t',h.lift t.live,h'⟩
theorem PostX.lift {K:Option V→Gs→Prop} {oa₁:Nat→Option Addr} (p:PostX (Φ.wi oa₁ G₁) s₁ K v s') (t:Tr Φ s (Φ.wi oa₁ G₁) s₁):PostX Φ s K v s':=by
 obtain ⟨oa',G',c,e,h1,h2,I,t',x,h⟩:=p
 exact ⟨oa',G',c,e,h1,h2,I,t.trans t',x.le t.live,h⟩
theorem PostX.imp {K K':Option V→Gs→Prop} (p:PostX Φ s K v s') (q:∀ x G,K (some x) G→K' (some x) G):PostX Φ s K' v s':=by
 obtain ⟨oa',G',c,e,h1,h2,I,t',x,h⟩:=p
 exact ⟨oa',G',c,e,h1,h2,I,t',x,q _ _ h⟩
theorem PostS.next {K:Option V→Gs→Prop} {oa':Nat→Option Addr} (I:Inv (Φ.wi oa' G') s') (t:Tr Φ s (Φ.wi oa' G') s') (k:K none G'):PostS Φ s K .next s':=⟨oa',G',none,fun _=>I,I.base,t,rfl,k⟩
end
section
variable {fx:Fx} {s:Shared}
theorem Ag:ExB fx (execs [] fx.env) (fun G K=>K none G):=fun oa G K s hd I=>wpAny_execs_nil (.next I (.refl _ _) hd)
theorem ex_cons {st:Stmt} {r:List Stmt} {X Y:B} (h1:ExB fx (exec st fx.env) X) (h2:ExB fx (execs r fx.env) Y):ExB fx (execs (st :: r) fx.env) (fun G K=>X G fun fl G'=>match fl with | none=>Y G' K | some x=>K (some x) G'):=fun oa G K s hd I=>by
 refine wpAny_execs_cons (wpAny_mono (h1 oa G _ s hd I) (fun f s₁ ⟨oa₁,G₁,fl,I₁,B₁,t₁,hf,hk⟩=>?_) fun _ _ z=>z.imp fun _ _ k=>k)
 cases fl with
 | none=>subst hf; exact wpAny_mono (h2 oa₁ G₁ K s₁ hk (I₁ (.inl rfl))) (fun _ _ p=>p.lift t₁) fun _ _ p=>p.lift t₁
 | some x=>obtain ⟨nx,v,rfl,r⟩:=hf; exact ⟨oa₁,G₁,some x,I₁,B₁,t₁,⟨nx,v,rfl,r⟩,hk⟩
theorem BO {d:Gs→DV} (hc:∀ oa G,EvT ⟨fx,oa,G⟩ (isTrue c fx.env (eval c fx.env)) (tst (d G))) (ha:ExB fx (execs a fx.env) X) (hb:ExB fx (execs b fx.env) Y) :
  ExB fx (exec (.If c a b pos) fx.env) (fun G K=>d G fun x=>okK (cG x some) fun t=>if t=true then X G K else Y G K):=fun oa G K s hd I=>by
 refine wpAny_If (wpAny_mono (hc oa G (fun t=>if t=true then X G K else Y G K) s hd I _) (fun t s₁ ⟨B,k,t',hk,e⟩=>?_) fun _ _ z=>z)
 subst e
 cases t with
 | true=>exact wpAny_mono (ha oa G K s₁ hk (I.keep B k)) (fun _ _ p=>p.lift (.of_keeps k)) fun _ _ p=>p.lift (.of_keeps k)
 | false=>exact wpAny_mono (hb oa G K s₁ hk (I.keep B k)) (fun _ _ p=>p.lift (.of_keeps k)) fun _ _ p=>p.lift (.of_keeps k)
theorem Af {d:Gs→DV} (hnw:fx.nw=false) (h:∀ oa G,Ev ⟨fx,oa,G⟩ (eval e fx.env) (d G)):ExB fx (exec (.Return (some e) pos) fx.env) (fun G K=>d G fun x=>noX x=true∧K (some x) G):=fun oa G K s hd I=>by
 rw [exec_Return_some]
 exact zC1 (wpAny_standAt (zC1 (wpAny_mono (h oa G _ s hd I _) (fun v s₁ ⟨B,k,x,hx,r⟩=>zC2 ⟨oa,G,some x,fun _=>I.keep B k,B,.of_keeps k,⟨hx.1,v,rfl,r,fun q=>nomatch hnw.symm.trans q⟩,hx.2⟩) fun _ _ z=>z)))
theorem xA {d:Gs→DV} (h:∀ oa G,EvN ⟨fx,oa,G⟩ (eval e fx.env) (d G)):ExB fx (exec (.Return (some e) pos) fx.env) (fun G K=>d G fun x=>noX x=true∧K (some x) G):=fun oa G K s hd I=>by
 rw [exec_Return_some]
 exact zC1 (wpAny_standAt (zC1 (wpAny_mono (h oa G _ s hd I _) (fun v s₁ ⟨⟨B,k,x,hx,r⟩,n⟩=>zC2 ⟨oa,G,some x,fun _=>I.keep B k,B,.of_keeps k,⟨hx.1,v,rfl,r,fun _=>n⟩,hx.2⟩) fun _ _ z=>z)))
theorem mq {f:Nat} {qs:List (Expr×DV)} {K:V→Prop} {Q:Value→Shared→Prop} {E:Value→Shared→Prop} (hx:bn Φ.fx.env.scope.names n=true) (hf:Φ.fx.g.fns.lookup n=some f) (hfn:keepIn Φ.fx.g.K (.ref (Φ.fx.g.fn f))=true) (hsf:Φ.safe f)
  (hq:∀ q∈qs,ao q.1=true∧be Φ q) (hd:bo (qs.map Prod.snd) fun xs=>al Φ.fx.g.P Φ.fx.d f xs K) (I:Inv Φ s)
  (hQ:∀ v s' y,Inv Φ s'→aG s.heap s'.heap→K y→noX y=true→Φ.rp s'.heap v y→(Φ.fx.g.newf f=true→lj s.heap v)→Q v s') (hE:∀ s' c e,Inv Φ s'→aG s.heap s'.heap→c < Φ.fx.g.nc→K (fA c)→ExcAt s'.heap s.heap e (.ref (Φ.fx.g.cls c)) .none→E (.ref e) s') :
  wpAny (model Φ.fx.g.prog Φ.fx.g.w) Φ.fx.A (eval (.Call (.Name n fp) (qs.map Prod.fst) [] pos) Φ.fx.env) Q E s:=by
 refine (?_:wpAny _ _ (eval (.Name n fp) Φ.fx.env >>= fun F=>callWith pos F [] (backTo pos (starEach (qs.map Prod.fst) Φ.fx.env)) []) _ _ s)
 refine zC1 (bG I hx (I.ok.gr.fns n f hf) ?_ E)
 refine callWith_of (by rw [du (bV fun q m=>(hq q m).1)]; rfl) (keeps_K hfn) (cY hq hd I fun vs xs s₁ I₁ k₁ hx rs=>⟨I₁.frag,?_⟩)
 exact wpAny_mono (I₁.ok.call Φ.fx.hm f xs _ Φ.fx.A s₁ Φ.bad vs hx I₁.ok.hand hsf I₁.ok.room I₁.ok.units I₁.base I₁.fr (fun a b=>I₁.badLive b) (fun a b=>I₁.bad0 b) rs) (fun v s' ⟨B,k,y,hy,nx,r,nv⟩=>hQ v s' y (I₁.keep B k) (k₁.trans k) hy nx r fun q=>(nv q).le fun _=>k₁.live)
  fun v s' ⟨B,k,c,e,hv,hc,hy,x⟩=>hv▸hE s' c e (I₁.keep B k) (k₁.trans k) hc hy (x.le fun _=>k₁.live)
theorem xB {qs:Gs→List (Expr×DV)} (hes:∀ G,(qs G).map Prod.fst=es) (hx:bn fx.env.scope.names n=true) (hf:fx.g.fns.lookup n=some f) (hfn:keepIn fx.g.K (.ref (fx.g.fn f))=true) (hsf:fx.hm=true→fx.g.safe f=true) (hnw:fx.nw=false)
  (hq:∀ oa G,∀ q∈qs G,ao q.1=true∧be ⟨fx,oa,G⟩ q):ExB fx (exec (.Return (some (.Call (.Name n fp) es [] cpos)) pos) fx.env) (fun G K=>bo ((qs G).map Prod.snd) fun xs=>al fx.g.P fx.d f xs fun y=>K (some y) G):=fun oa G K s hd I=>by
 rw [exec_Return_some,← hes G]
 refine zC1 (wpAny_standAt (zC1 (mq (Φ:=⟨fx,oa,G⟩) hx hf hfn hsf (hq oa G) hd I (fun v s' y I' k hy nx r nv=>zC2 ⟨oa,G,some y,fun _=>I',I'.base,.of_keeps k,⟨nx,v,rfl,r,fun q=>nomatch hnw.symm.trans q⟩,hy⟩) fun s' c e I' k hc hy x=>⟨oa,G,c,e,rfl,hc,I',.of_keeps k,x,hy⟩)))
theorem uX [Hm fx] (hx:bn fx.env.scope.names x=true) (hc:fx.g.clss.lookup x=some c) :
  ExB fx (exec (.Raise (some (.Call (.Name x np) [.Constant (.str msg) kk mp] [] cpos)) none pos) fx.env) (fun G K=>K (some (fA c)) G):=fun oa G K s hd I=>by
 refine ar fun Z8 kZ8=>?_
 obtain ⟨hn,hm⟩:=I.ok.gr.clss x c hc
 obtain ⟨nm,q,N,bs,bm,bmB,hdct,sn,sub,ab,col,dd,k0,k1,k2,k3,k5,B,newId,initId,mN,F,hb,hni,hC,hN,hT⟩:=I.ok.gr.raises c hn
 refine kZ8 ?_
 refine wpAny_Raise_call_subT (C:=fx.g.cls c) (nm:=nm) (q:=q) (N:=N) (bs:=bs) (bm:=bm) (hdct:=hdct) (sn:=sn) (sub:=sub) (ab:=ab) (col:=col) (dd:=dd) (k0:=k0) (k1:=k1) (k2:=k2) (k3:=k3) (k5:=k5) F hb (I.ok.hand Hm.no) rfl hni (bG I hx hm ⟨rfl,?_⟩ _)
 refine Calls.evalArgs_plain (x:=eval (.Constant (.str msg) kk mp) fx.env) (rest:=[]) (Calls.spliced_cons (wpAny_Constant_str (Calls.spliced_nil ⟨rfl,by refine (?_:1≤sizeLine); decide,I.base.stays _ _ hC,hN.at' fun o e=>I.base.stays _ o e,hT.keeps fun b o e=>I.base.stays b o e,fun h' e hm=>?_⟩)))
 have gr:Grown s { s with heap:=h',toks:=s.toks+1 }:=⟨hm.keeps,rfl,rfl⟩
 obtain ⟨t,ht,_,_⟩:=hm.there
 exact ⟨oa,G,c,e,rfl,hn,I.keep (I.base.grown gr) gr.keeps,.of_keeps gr.keeps,⟨_,_,ht,rfl,rfl,rfl,hm.new,by refine (?_:1 < 6); decide,.inl rfl⟩,hd⟩
theorem b8 (h:bQ value=true):swapsWith value t n env=pure false:=by
 cases value <;> first | rfl | exact nB h
theorem k4 {d:Gs→DV} (hs:swapsWith value (some (.Name n py)) spos.line fx.env=pure false) (hT:TgtOk fx.ρ fx.env n k) (h:∀ oa G,Ev ⟨fx,oa,G⟩ (eval value fx.env) (d G)) :
  ExB fx (exec (.Assign [.Name n py] value spos) fx.env) (fun G K=>d G fun x=>K none (G.set k (.v x))):=fun oa G K s hd I=>by
 refine (exec_Assign_Name _ _ _ _ _ hs).symm▸?_
 refine zC1 (wpAny_standAt (zC1 (wpAny_mono (h oa G _ s hd I _) (fun v s₁ ⟨B,k₁,x,hx,r⟩=>?_) fun _ _ z=>z)))
 have I₁:=I.keep B k₁
 refine zC1 (wpAny_standAt (zC1 (wpAny_bindName (d4 I₁ hT.lk hT.nf (fun h' tk ps=>zC2 ?_) _))))
 have q:=iK (tk:=tk) I₁ ps r
 exact .next q.1 ((Tr.of_keeps k₁).trans q.2) hx
end
noncomputable abbrev Fx.mo (fx:Fx) (X:Addr→Prop):Fx:={ fx with Mo:=fun b=>fx.Mo b∨X b }
noncomputable abbrev Ct.mo (Φ:Ct) (X:Addr→Prop):Ct:=⟨Φ.fx.mo X,Φ.oa,Φ.G⟩
section
variable {Φ:Ct} {s s' s₀ s₂:Shared} {h':Heap} {X:Addr→Prop}
theorem FxOk.any (ok:FxOk fx) (h:∀ a,M a→fx.g.h0.get? a=none):FxOk { fx with Mo:=M }:=⟨ok.gr,ok.hand,ok.kind,ok.globals,ok.builtins,ok.vis,ok.inj,ok.apart,ok.offs,ok.nfs,ok.room,ok.units,ok.call,h⟩
theorem rJ (hX:∀ b,X b→s₀.heap.get? b=none) (k:aG s₀.heap s₂.heap):cU Φ.bad (Φ.mo X).bad s₀.heap s₂.heap:=fun b o e f n=>
 ⟨fun q=>q.elim (fun q=>q.elim (fun q=>n (.inl q)) fun q=>au (hX b q) e) fun q=>n (.inr q),k.get e f⟩
theorem Inv.more (I:Inv Φ s₀) (B:Base Φ.fx.g s₂) (k:aG s₀.heap s₂.heap) (hX:∀ b,X b→s₀.heap.get? b=none) (hl:∀ b,X b→aQ s₂.heap b):Inv (Φ.mo X) s₂ where
 ok:=I.ok.any fun a q=>q.elim (I.ok.mo0 a) fun q=>aM (fun l=>I.base.stays.live l) (hX a q)
 base:=B
 slot:=fun j=>let ⟨v,r,x⟩:=I.slot j; ⟨v,r.keep k,x.map (rJ hX k) fun a _ o e f=>k.get e f⟩
 new:=fun a q=>let ⟨x,y,z⟩:=I.new a q; ⟨k.live x,y,fun w=>w.elim z fun w=>x.elim fun o e=>au (hX a w) e⟩
 inj:=I.inj
 off:=I.off
 gl:=I.gl
 mo:=fun a q=>q.elim (fun q=>k.live (I.mo a q)) (hl a)
 fr:=I.fr.keep k
theorem sV:cU (Φ.mo X).bad Φ.bad h h:=fun b o e _ n=>⟨fun q=>n (q.imp .inl id),e⟩
def wx (A:Around) (b:Addr):Prop:=∀ l env,A.frames=some l→env∈l→env.frame≠some b
theorem fk.look (f:fk g A h) (e:A.frames=some l) (m:env∈l) (q:env.frame=some b):∃ o,h.get? b=some o∧o.cls=.type "frame":=by
 obtain ⟨l',e',f⟩:=f
 obtain rfl:=Option.some.inj (e.symm.trans e')
 refine ar fun Z2 kZ2=>?_
 obtain ⟨_,L,o,hf,_,ho,hc,_⟩:=f env m
 refine kZ2 ?_
 obtain rfl:=Option.some.inj (q.symm.trans hf)
 exact ⟨o,ho,hc⟩
theorem fk.not (f:fk g A h) (n:dG h b):wx A b:=fun l env e m q=>(f.look e m q).elim fun o z=>n.nf z.1 z.2
theorem fk.new (f:fk g A h) (n:h.get? b=none):wx A b:=fun l env e m q=>(f.look e m q).elim fun o z=>au n z.1
theorem Inv.others {wr:List Addr} {tk:Nat} {Mo₂:Addr→Prop} (I:Inv Φ s) (hnw:∀ b∈wr,wx Φ.fx.A b) (k:∀ b o,b∉wr→s.heap.get? b=some o→h'.get? b=some o) (hw:∀ b∈wr,Φ.fx.Mo b) (h0:∀ b∈wr,Φ.fx.g.h0.get? b=none) (hs:∀ a,Mo₂ a→Φ.fx.Mo a) (hl:∀ a,Mo₂ a→aQ h' a):Inv ⟨{ Φ.fx with Mo:=Mo₂ },Φ.oa,Φ.G⟩ { s with heap:=h',toks:=tk }:=by
 have nown:∀ b,Φ.own b→b∉wr:=fun b q m=>(I.new b q).2.2 (hw b m)
 have mk:cU Φ.bad (Ct.mk { Φ.fx with Mo:=Mo₂ } Φ.oa Φ.G).bad s.heap h':=fun b o e _ n=>⟨fun q=>n (q.imp (hs b) id),k b o (fun m=>n (.inl (hw b m))) e⟩
 refine ⟨I.ok.any fun a q=>I.ok.mo0 a (hs a q),⟨fun b o e=>k b o (fun m=>au (h0 b m) e) (I.base.stays b o e),I.base.os,I.base.gens⟩,fun j=>?_,fun a q=>?_,I.inj,I.off,I.gl,hl,I.fr.elim fun l q=>⟨l,q.1,fun env m=>?_⟩⟩
 ·obtain ⟨u,r,so⟩:=I.slot j
  refine ⟨u,?_,so.map mk fun a ea o e _=>k a o (nown a (.inr ⟨j,ea⟩)) e⟩
  refine (?_:aZ h' (Φ.fx.pl j) u)
  have na:∀ a,(Φ.fx.pl j).addr=some a→a∉wr:=fun a e=>nown a (.inl ⟨j,e⟩)
  generalize Φ.fx.pl j=p at r na
  cases p with
  | ns a x=>obtain ⟨m,hn,hu⟩:=r; exact ⟨m,hn.at' fun o e=>k a o (na a rfl) e,hu⟩
  | cell c=>obtain ⟨o,ho,hd⟩:=r; exact ⟨o,k c o (na c rfl) ho,hd⟩
  | off=>exact r
 ·refine ar fun Z4 kZ4=>?_
  refine (I.new a q).elim fun Zq35 Zq36=>Zq35.elim fun o e=>Zq36.elim fun y z=>?_
  refine kZ4 ?_
  exact ⟨⟨o,k a o (nown a q) e⟩,y,fun w=>z (hs a w)⟩
 ·refine ar fun Z5 kZ5=>?_
  refine (q.2 env m).elim fun hk Zq37=>Zq37.elim fun L Zq38=>Zq38.elim fun o Zq39=>Zq39.elim fun hf Zq40=>Zq40.elim fun hn Zq41=>Zq41.elim fun ho Zq42=>Zq42.elim fun hc hd=>?_
  refine kZ5 ?_
  exact ⟨hk,L,o,hf,hn,k L o (fun z=>hnw L z l env q.1 m hf) ho,hc,hd⟩
theorem Tr.mo (e:Φ'.fx=Φ.fx) (t:Tr (Φ.mo X) s (Φ'.mo X) s'):Tr Φ s Φ' s':=⟨e,t.keep,t.live,t.grow,t.inst⟩
theorem Tr.others {wr:List Addr} {tk:Nat} (t:Tr Φ s₀ Φ' s) (k:∀ b o,b∉wr→s.heap.get? b=some o→h'.get? b=some o) (hw:∀ b∈wr,s₀.heap.get? b=none):Tr Φ s₀ Φ' { s with heap:=h',toks:=tk } where
 fx:=t.fx
 keep:=fun b o e n=>(t.keep b o e n).step fun o' e'=>.of (k b o' (fun m=>au (hw b m) e) e')
 live:=fun b l=>(t.live b l).elim fun o' e'=>⟨o',k b o' (fun m=>l.elim fun o e=>au (hw b m) e) e'⟩
 grow:=t.grow
 inst:=t.inst
theorem gJ (h:bx e=true) (x:Value):foldedSetIterable e env x=pure x:=by
 cases e <;> first | rfl | exact nB h
def qO (fx:Fx) (T:Expr) (b:Gs→V→Option Gs):Prop:=∀ X oa G v x G' s,Inv ⟨fx.mo X,oa,G⟩ s→b G x=some G'→(Ct.mk (fx.mo X) oa G).rp s.heap v x→(Ct.mk (fx.mo X) oa G).wp (assign T fx.env v) (fun _ s'=>∃ oa',Inv ⟨fx.mo X,oa',G'⟩ s'∧Tr ⟨fx.mo X,oa,G⟩ s ⟨fx.mo X,oa',G'⟩ s') s
end
theorem Feed.turn {St:Nat→Heap→Prop} (F:Feed g A T I fp wr vals l0 l St) {bad:Addr→Prop} {N:Shared→Prop} {Q:Value→Shared→Prop} {E:Value→Shared→Prop}
  (hx:l[i]?=some x) (st:St i s.heap) (rv:RpAll g bad s.heap vals l0) (hb:∀ a,bad a→aQ s.heap a) (hw:∀ b∈wr,bad b)
  (hQ:∀ v h' tk,St (i+1) h'→(∀ b o,b∉wr→s.heap.get? b=some o→h'.get? b=some o)→Rp g bad h' v x→Q v { s with heap:=h',toks:=tk }) :
  wpAny (model g.prog g.w) A (pyNext (.ref I)) (fun r s₁=>match r with | none=>N s₁ | some v=>wpAny (model g.prog g.w) A (letOwnedTupleGo T (.ref I) v) (fun _ s₂=>Q v s₂) E s₁) E s:=
 wpAny_mono (F.item i x s bad Q E hx st rv hb hw hQ) (fun r s₁ Zq1=>Zq1.elim fun v Zq2=>Zq2.elim fun e z=>by subst e; exact z) fun _ _ z=>z
theorem Feed.over {St:Nat→Heap→Prop} (F:Feed g A T I fp wr vals l0 l St) {N:Shared→Prop} {Q:Value→Shared→Prop} {E:Value→Shared→Prop}
  (st:St l.length s.heap) (hN:∀ h' tk,(∀ b o,b∉wr→s.heap.get? b=some o→h'.get? b=some o)→N { s with heap:=h',toks:=tk }) :
  wpAny (model g.prog g.w) A (pyNext (.ref I)) (fun r s₁=>match r with | none=>N s₁ | some v=>wpAny (model g.prog g.w) A (letOwnedTupleGo T (.ref I) v) (fun _ s₂=>Q v s₂) E s₁) E s:=
 wpAny_mono (F.done s N E st hN) (fun r s₁ Zq3=>Zq3.elim fun e z=>by subst e; exact z) fun _ _ z=>z
inductive FLI (fx:Fx) (X:Addr→Prop) (oa:Nat→Option Addr) (G:Gs) (s₀:Shared) (Sp:Nat→Heap→Prop) (vals:List Value) (l0 l:List V) (b:Gs→V→Option Gs) (A:B) (K:Option V→Gs→Prop) (n:Nat) (s':Shared):Prop
 | mk (i:Nat) (oa':Nat→Option Addr) (G':Gs) (en:n=l.length - i) (hi:i≤l.length) (st:Sp i s'.heap) (I':Inv ⟨fx.mo X,oa',G'⟩ s') (t':Tr ⟨fx,oa,G⟩ s₀ ⟨fx,oa',G'⟩ s') (rv:(Ct.mk (fx.mo X) oa' G').rps s'.heap vals l0) (ef:i9 b A (l.drop i) G' K):FLI fx X oa G s₀ Sp vals l0 l b A K n s'
theorem vY [Hm fx] {body:List Stmt} {d:Gs→(List V→Prop)→Prop} {b:Gs→V→Option Gs} (hset:bx iter=true) (hT:qO fx T b) (hsrc:∀ oa G,eM ⟨fx,oa,G⟩ T true iter (d G)) (hb:∀ X,ExB (fx.mo X) (execs body fx.env) A) :
  ExB fx (exec (.For T iter body [] pos) fx.env) (fun G K=>d G fun xs=>i9 b A xs G K):=fun oa G K s hd I=>by
 refine wpAny_For (hsrc oa G _ s hd I _ _ fun l s₀ it s₂ kl I₀ k₀ gr fa=>?_) (gJ hset)
 obtain ⟨J,fp,wr,vals,l0,Sp,rfl,F,st0,rv,hwr,hfp,hsz⟩:=fa
 have start:Tr ⟨fx,oa,G⟩ s ⟨fx,oa,G⟩ s₀:=.of_keeps k₀
 have wr0:∀ b∈wr,fx.g.h0.get? b=none:=fun b m=>aM (fun l=>I₀.base.stays.live l) (hwr b m)
 let X:Addr→Prop:=fun b=>b∈fp∧s₀.heap.get? b=none
 have wrX:∀ b∈wr,(fx.mo X).Mo b:=fun b m=>.inr ⟨F.sub b m,hwr b m⟩
 have notown:∀ {oa':Nat→Option Addr} {G':Gs} {s':Shared},Inv ⟨fx.mo X,oa',G'⟩ s'→Tr ⟨fx,oa,G⟩ s₀ ⟨fx,oa',G'⟩ s'→∀ b∈fp,¬ (Ct.mk fx oa' G').own b:=fun I' t' b hb q=>by
  cases e:s₀.heap.get? b with
  | none=>exact (I'.new b q).2.2 (.inr ⟨hb,e⟩)
  | some o=>exact ((hfp b hb).resolve_left fun z=>au z e) rfl (.inr (t'.grow b ⟨o,e⟩ q))
 refine codeAny_forLoop_any (FLI fx X oa G s₀ Sp vals l0 l b A K) (fun n s' hLI=>?_) l.length ⟨0,oa,G,rfl,Nat.zero_le _,st0,I₀.more (I₀.base.grown gr) gr.keeps (fun b q=>q.2) fun b q=>(F.live 0 _ b st0 q.1).live,.of_keeps gr.keeps,rv.map (rJ (fun b q=>q.2) gr.keeps),kl⟩
 refine ar fun Z kZ=>?_
 obtain ⟨i,oa',G',rfl,hi,st,I',t',rv',ef⟩:=hLI
 cases hx:l[i]? with
 | none=>
  have hil:i=l.length:=Nat.le_antisymm hi (List.getElem?_eq_none_iff.mp hx)
  subst hil
  rw [List.drop_length] at ef
  refine kZ (F.over st fun h' tk hk=>wpAny_execs_nil ?_)
  have I3:Inv ⟨fx,oa',G'⟩ { s' with heap:=h',toks:=tk }:=Inv.others (Φ:=⟨fx.mo X,oa',G'⟩) (Mo₂:=fx.Mo) I' (fun b m=>I'.fr.not (F.live _ _ b st (F.sub b m))) hk wrX wr0 (fun a q=>.inl q) fun a q=>(I'.mo a (.inl q)).elim fun o e=>⟨o,hk a o (fun m=>(I₀.mo a q).elim fun o e=>au (hwr a m) e) e⟩
  exact .next I3 (start.trans (t'.others hk hwr)) ef
 | some x=>
  have hil:=(List.getElem?_eq_some_iff.mp hx).1
  have ed:l.drop i=x :: l.drop (i+1):=by rw [List.drop_eq_getElem_cons hil]; congr 1; exact (List.getElem?_eq_some_iff.mp hx).2
  replace ef:=ed▸ef
  refine kZ (F.turn hx st rv' (fun a q=>I'.badLive q) (fun b m=>.inl (wrX b m)) fun v h' tk st' hk rx=>?_)
  clear kZ
  refine ar fun Z kZ=>?_
  refine ag ef fun G₁ e₁ ef=>?_
  have I3:Inv ⟨fx.mo X,oa',G'⟩ { s' with heap:=h',toks:=tk }:=Inv.others (Φ:=⟨fx.mo X,oa',G'⟩) (Mo₂:=(fx.mo X).Mo) I' (fun b m=>I'.fr.not (F.live _ _ b st (F.sub b m))) hk wrX wr0 (fun a q=>q) fun a q=>by
   by_cases nw:a∈wr
   ·exact (F.live _ _ a st' (F.sub a nw)).live
   ·obtain ⟨o,e⟩:=I'.mo a q
    exact ⟨o,hk a o nw e⟩
  have t3:Tr ⟨fx,oa,G⟩ s₀ ⟨fx,oa',G'⟩ { s' with heap:=h',toks:=tk }:=t'.others hk hwr
  have rv3:(Ct.mk (fx.mo X) oa' G').rps h' vals l0:=rv'.map fun b o e _ n=>⟨n,hk b o (fun m=>n (.inl (wrX b m))) e⟩
  refine kZ (wpAny_mono (hT X oa' G' v x G₁ _ I3 e₁ rx _) (fun _ s₄ Zq4=>Zq4.elim fun oa₄ Zq5=>Zq5.elim fun I4 t4=>?_) fun _ _ z=>z)
  have t04:Tr ⟨fx,oa,G⟩ s₀ ⟨fx,oa₄,G₁⟩ s₄:=t3.trans (t4.mo (Φ:=⟨fx,oa',G'⟩) (Φ':=⟨fx,oa₄,G₁⟩) rfl)
  have st4:Sp (i+1) s₄.heap:=F.frame _ _ _ st' fun b hb o e=>(t4.keep b o e (notown I3 t3 b hb)).get ((F.live _ _ b st' hb).nf e)
  refine wpAny_mono (hb X oa₄ G₁ _ s₄ ef I4) (fun f s₅ ⟨oa₅,G₅,fl,I5,B5,t5,hf,ek⟩=>?_) fun v s₅ ⟨oa₅,G₅,c,e,hv,hc,I5,t5,xa,ek⟩=>nB ek.1
  have t05:Tr ⟨fx,oa,G⟩ s₀ ⟨fx,oa₅,G₅⟩ s₅:=t04.trans (t5.mo (Φ:=⟨fx,oa₄,G₁⟩) (Φ':=⟨fx,oa₅,G₅⟩) rfl)
  cases fl with
  | none=>
   subst hf
   exact ⟨l.length - (i+1),Nat.sub_succ_lt_self _ _ hil,i+1,oa₅,G₅,rfl,hil,F.frame _ _ _ st4 fun b hb o e=>(t5.keep b o e (notown I4 t04 b hb)).get ((F.live _ _ b st4 hb).nf e),I5 (.inl rfl),t05,(rv3.map t4.mapK).map t5.mapK,ek⟩
  | some y=>
   obtain ⟨nx,w,rfl,rw,nv⟩:=hf
   exact ⟨oa₅,G₅,some y,fun q=>q.elim nofun fun q=>(nomatch (Hm.no (fx:=fx)).symm.trans q),B5,start.trans t05,⟨nx,w,rfl,rw.map (sV (Φ:=⟨fx,oa₅,G₅⟩)),fun q=>(nv q).le fun b l=>t04.live b (k₀.live l)⟩,ek.2⟩
section
variable {fx:Fx}
theorem uh (hT:TgtOk fx.ρ fx.env n k):qO fx (.Name n py) (jS k):=fun X oa G v x G' s I e r E=>by
 (injection e with e; subst e)
 exact wpAny_mono (ya (Φ:=⟨fx.mo X,oa,G⟩) hT I r E) (fun _ s' q=>⟨_,q.1,q.2.1⟩) fun _ _ z=>z
theorem ug [Hm fx] (hT:TgtsOk fx.ρ fx.env es ks):qO fx (.Tuple es kk p) (aV ks):=fun X oa G v x G' s I e r E=>have:Hm (fx.mo X):=⟨Hm.no (fx:=fx)⟩; wpAny_mono (AJ (Φ:=⟨fx.mo X,oa,G⟩) hT I e r E) (fun _ s' q=>⟨_,q.1,q.2.1⟩) fun _ _ z=>z
theorem rk (hT:TgtOk fx.ρ fx.env n k) (I:Inv ⟨fx,oa,G⟩ s₀) (B:Base fx.g s) (k₀:aG s₀.heap s.heap) (ha:s₀.heap.get? a=none) (hl:aQ s.heap a) (hsl:∀ x,sl≠.v x) (hsl':sl≠.unset) (hni:¬ isI sl)
  (ow:∀ h',(∀ b o,s.heap.get? b=some o→¬ (Ct.mk fx oa G).own b→h'.get? b=some o)→gf fx.g ((Ct.mk fx oa G).put k (some a) sl).bad h' a u sl)
  (h:∀ s',Inv ((Ct.mk fx oa G).put k (some a) sl) s'→Tr ⟨fx,oa,G⟩ s₀ ((Ct.mk fx oa G).put k (some a) sl) s'→Q () s'):(Ct.mk fx oa G).wp (storeName fx.env n u) Q s:=fun E=>by
 refine d4 (Φ:=⟨fx,oa,G⟩) (I.keep B k₀) hT.lk hT.nf (fun h' tk ps=>?_) E
 refine ps.addr.elim fun c Zq68=>Zq68.elim fun hc Zq69=>Zq69.elim fun hs _=>?_
 have kp:∀ b o,s.heap.get? b=some o→¬ (Ct.mk fx oa G).own b→h'.get? b=some o:=fun b o e nb=>hs.extBut b o (fun q=>nb (.inl ⟨k,q▸hc⟩)) e
 have no:¬ (Ct.mk fx oa G).own a:=fun q=>(I.new a q).1.elim fun o e=>au ha e
 have so:dS fx.g ((Ct.mk fx oa G).put k (some a) sl).bad h' (some a) (some u) sl:=by
  cases sl with
  | unset=>exact absurd rfl hsl'
  | v x=>exact absurd rfl (hsl x)
  | _=>exact ⟨a,u,rfl,rfl,ow h' kp⟩
 have q:=Inv.put (tk:=tk) I B k₀ ps so (fun b e=>by (injection e with e; subst e); exact ⟨ha,hl.elim fun o e=>⟨o,kp a o e no⟩⟩) hni
 exact h _ q.1 q.2
theorem xD {qs:Gs→List (Expr×DV)} (hT:TgtOk fx.ρ fx.env n k) (he:∀ G,(qs G).map Prod.fst=es) (hq:∀ oa G,∀ q∈qs G,ao q.1=true∧be ⟨fx,oa,G⟩ q) :
  ExB fx (exec (.Assign [.Name n py] (.List es pos) spos) fx.env) (fun G K=>bo ((qs G).map Prod.snd) fun xs=>xs.length≤am∧K none (G.set k (.ownL xs))):=fun oa G K s hd I=>by
 rw [exec_Assign_Name _ _ _ _ _ (b8 rfl),arm_eval_List,← he G]
 simp only [bind_assoc]
 refine zC1 (wpAny_standAt (zC1 (wpAny_standAt (zC1 (wpAny_mono (d8 (Φ:=⟨fx,oa,G⟩) (hq oa G) _ s hd I _) (fun vs s₁ ⟨B,k₁,xs,⟨hz,hx⟩,rs⟩=>?_) fun _ _ z=>z)))))
 have I₁:=I.keep B k₁
 refine zC1 (wpAny_newObj_type ?_ (by refine (?_:vs.toArray.size≤sizeLine); exact List.size_toArray.symm▸rs.length.symm▸cK hz))
 have gr:=Grown.push s₁ { cls:=.type "list",data:=.seq vs.toArray } s₁.toks
 have hD:s₁.heap.get? s₁.heap.objs.size=none:=ak _
 refine zC1 (wpAny_standAt (zC1 (wpAny_bindName (rk (a:=s₁.heap.objs.size) (sl:=.ownL xs) hT I₁ (B.grown gr) gr.keeps hD ⟨_,Heap.get?_push_size _ rfl⟩ (fun _ q=>nomatch q) (fun q=>nomatch q) id (fun h' kp=>?_) (fun s' I' t'=>zC2 (.next I' ((Tr.of_keeps k₁).trans t') hx)) _))))
 have nb:¬ (Ct.mk fx oa G).own s₁.heap.objs.size:=fun q=>I₁.fresh (.inr q)
 refine ⟨rfl,_,_,_,kp _ _ (Heap.get?_push_size _ rfl) nb,⟨rfl,rfl⟩,rfl,?_⟩
 refine rs.map fun b o e _ n=>⟨fun q=>?_,kp b o (av _ _ b o e) fun q=>n (.inr q)⟩
 rcases q with q | q
 ·exact n (.inl q)
 ·exact (put_own q).elim (fun q=>by (injection q with q; subst q); exact au hD e) fun q=>n (.inr q)
end
section
variable {fx:Fx}
theorem iG (h:mX value=true):swappedStores [.Tuple es kk p] value env=pure none∧∀ t n,swapsWith value t n env=pure false:=by
 refine ⟨?_,fun t n=>b8 (zA2 h).1⟩
 cases value <;> first | rfl | exact nB h
theorem qq [Hm fx] {d:Gs→DV} (hs:mX value=true) (hT:TgtsOk fx.ρ fx.env es ks) (h:∀ oa G,Ev ⟨fx,oa,G⟩ (eval value fx.env) (d G)) :
  ExB fx (exec (.Assign [.Tuple es kk p] value spos) fx.env) (fun G K=>d G fun x=>okK (aV ks G x) (K none)):=fun oa G K s hd I=>
 Assign_Tuple (wpAny_mono (h oa G _ s hd I _) (fun v s₁ ⟨B,k₁,x,hx,r⟩=>ag hx fun G' e kG=>wpAny_mono (AJ (Φ:=⟨fx,oa,G⟩) hT (I.keep B k₁) e r _) (fun _ s₂ q=>.next q.1 ((Tr.of_keeps k₁).trans q.2.1) kG) fun _ _ z=>z) fun _ _ z=>z) ((iG (es:=es) (kk:=kk) (p:=p) hs).2 _ _:swapsWith value (some (.Tuple es kk p)) spos.line fx.env=pure false) (iG hs).1
theorem eQ (I:Inv Φ s) (e:getSlot Φ.G k=sl) (h:∀ {g bad h oak v},dS g bad h oak v sl→∃ a u,oak=some a∧v=some u∧gf g bad h a u sl):∃ a u,Φ.oa k=some a∧aZ s.heap (Φ.fx.pl k) (some u)∧gf Φ.fx.g Φ.bad s.heap a u sl:=by
 obtain ⟨v,pr,so⟩:=I.slot k
 rw [e] at so
 obtain ⟨a,u,ha,rfl,ow⟩:=h so
 exact ⟨a,u,ha,pr,ow⟩
theorem Inv.frz (I:Inv Φ s) (ha:Φ.oa k=some a) (pr:aZ s.heap (Φ.fx.pl k) (some u)) (cv:∀ bad',¬ bad' a→cU Φ.bad bad' s.heap s.heap→Rp Φ.fx.g bad' s.heap u x):Inv (Φ.put k none (.v x)) s∧Tr Φ s (Φ.put k none (.v x)) s:=by
 have hon:k < Φ.G.length:=by
  rw [I.gl]
  refine Nat.lt_of_lt_of_le (Nat.lt_of_not_le fun q=>?_) I.ok.nfs
  rw [I.ok.offs k q] at pr; (injection pr; done)
 have sub:∀ b,(Φ.put k none (.v x)).own b→Φ.own b:=fun b q=>(put_own q).elim (fun (q:none=some b)=>nN q.symm) id
 have mk:cU Φ.bad (Φ.put k none (.v x)).bad s.heap s.heap:=fun b o e _ n=>⟨fun q=>n (q.imp id (sub b)),e⟩
 have na:¬ (Φ.put k none (.v x)).bad a:=fun q=>by
  rcases q with q | q | ⟨j,q⟩
  ·exact (I.new a (.inr ⟨k,ha⟩)).2.2 q
  ·exact q.elim fun j q=>I.off k a ha j q
  ·have q:(if j=k then none else Φ.oa j)=some a:=q
   by_cases e:j=k
   ·rw [if_pos e] at q; (injection q; done)
   ·rw [if_neg e] at q; exact e (I.inj j k a q ha)
 refine ⟨⟨I.ok,I.base,fun j=>?_,fun b q=>I.new b (sub b q),fun i j b e1 e2=>?_,fun j b e i=>?_,?_,I.mo,I.fr⟩,⟨rfl,fun b o e _=>.of e,fun _ l=>l,fun b _ q=>sub b q,jC hon fun q=>q.elim⟩⟩
 ·by_cases e:j=k
  ·subst e
   have e1:(Φ.put j none (.v x)).oa j=none:=if_pos rfl
   have e2:getSlot (Φ.put j none (.v x)).G j=.v x:=bM hon
   rw [e1,e2]
   exact ⟨_,pr,rfl,_,rfl,cv _ na mk⟩
  ·obtain ⟨v,r,so⟩:=I.slot j
   have e1:(Φ.put k none (.v x)).oa j=Φ.oa j:=if_neg e
   have e2:getSlot (Φ.put k none (.v x)).G j=getSlot Φ.G j:=cD e
   rw [e1,e2]
   exact ⟨v,r,so.map mk fun _ _ _ e _=>e⟩
 ·have c1:(if i=k then none else Φ.oa i)=some b:=e1
  have c2:(if j=k then none else Φ.oa j)=some b:=e2
  by_cases h1:i=k
  ·rw [if_pos h1] at c1; (injection c1; done)
  ·by_cases h2:j=k
   ·rw [if_pos h2] at c2; (injection c2; done)
   ·rw [if_neg h1] at c1; rw [if_neg h2] at c2; exact I.inj i j b c1 c2
 ·have c:(if j=k then none else Φ.oa j)=some b:=e
  by_cases h1:j=k
  ·rw [if_pos h1] at c; (injection c; done)
  ·rw [if_neg h1] at c; exact I.off j b c i
 ·refine (?_:(Φ.G.set k _).length=_)
  rw [List.length_set]; exact I.gl
theorem Inv.freeze (I:Inv Φ s) (e:getSlot Φ.G k=.ownL l):Inv (Φ.put k none (.v (.list l))) s∧Tr Φ s (Φ.put k none (.v (.list l))) s:=by
 obtain ⟨a,u,ha,pr,rfl,o,vs,n,ho,hc,hd,hl⟩:=eQ I e id
 exact I.frz ha pr fun b na mk=>.list na ho hc hd (hl.map mk)
theorem Inv.freezeD (I:Inv Φ s) (e:getSlot Φ.G k=.ownD l):Inv (Φ.put k none (.v (.dict l))) s∧Tr Φ s (Φ.put k none (.v (.dict l))) s:=by
 obtain ⟨a,u,ha,pr,rfl,o,es,n,ho,hc,hd,hk,r1,r2⟩:=eQ I e id
 exact I.frz ha pr fun b na mk=>.dict na (fun q=>I.ok.gr.sysm.elim fun o z=>au (I.new a (.inr ⟨k,ha⟩)).2.1 (q▸z)) ho hc hd hk rfl rfl (r1.map mk) (r2.map mk)
theorem kN (e:iP G k=some l):getSlot G k=.ownD l:=by
 unfold iP at e
 revert e
 cases getSlot G k with
 | ownD m=>exact fun e=>congrArg Slot.ownD (Option.some.inj e)
 | _=>exact fun e=>nN e.symm
theorem qp (h:ExB fx t Y):ExB fx t (fun G K=>okK (iP G k) fun l=>Y (G.set k (.v (.dict l))) K):=fun oa G K s hd I=>ag hd fun l e hk=>by
 have q:=Inv.freezeD (Φ:=⟨fx,oa,G⟩) I (kN e)
 exact wpAny_mono (h _ _ K s hk q.1) (fun _ _ p=>p.lift (Φ:=⟨fx,oa,G⟩) q.2) fun _ _ p=>p.lift (Φ:=⟨fx,oa,G⟩) q.2
theorem tn (h:ExB fx t Y):ExB fx t (fun G K=>okK (bI G k) fun l=>Y (G.set k (.v (.list l))) K):=fun oa G K s hd I=>ag hd fun l e hk=>by
 have q:=Inv.freeze (Φ:=⟨fx,oa,G⟩) I (cg e)
 exact wpAny_mono (h _ _ K s hk q.1) (fun _ _ p=>p.lift (Φ:=⟨fx,oa,G⟩) q.2) fun _ _ p=>p.lift (Φ:=⟨fx,oa,G⟩) q.2
theorem Inv.quiet (I:Inv Φ s):interactive Φ.fx.env=false:=by unfold interactive; rw [I.ok.kind]; rfl
theorem xF {qs:Gs→List (Expr×DV)} (hes:∀ G,(qs G).map Prod.fst=es) (hx:bn fx.env.scope.names n=true) (hf:fx.g.fns.lookup n=some f) (hfn:keepIn fx.g.K (.ref (fx.g.fn f))=true) (hsf:fx.hm=true→fx.g.safe f=true)
  (hq:∀ oa G,∀ q∈qs G,ao q.1=true∧be ⟨fx,oa,G⟩ q):ExB fx (exec (.Expr (.Call (.Name n fp) es [] cpos) pos) fx.env) (fun G K=>bo ((qs G).map Prod.snd) fun xs=>al fx.g.P fx.d f xs fun y=>if noX y=true then isNone y=true∧K none G else K (some y) G):=fun oa G K s hd I=>by
 rw [← hes G]
 refine wpAny_Expr (mq (Φ:=⟨fx,oa,G⟩) hx hf hfn hsf (hq oa G) hd I (fun v s' y I' k hy nx r _=>?_) fun s' c e I' k hc hy x=>⟨oa,G,c,e,rfl,hc,I',.of_keeps k,x,hy⟩) I.quiet rfl
 rw [if_pos nx] at hy
 cases y with
 | none=>exact r.none_elim (.next (Φ:=⟨fx,oa,G⟩) I' (.of_keeps k) hy.2)
 | _=>(injection hy.1; done)
theorem dZ (o:Obj) (f:Array Value→Array Value):(o.mapSeq f).dict=o.dict:=by
 obtain ⟨c,d,dt,sl⟩:=o; cases dt <;> rfl
theorem tC {E:Value→Shared→Prop} {Q:Value→Shared→Prop} (ho:s.heap.get? l=some o) (hc:o.cls=.type "list"∧o.dict=none) (hd:o.data=.seq items n) (hsz:items.size≤sizeLine)
  (hQ:∀ h' o' n',h'.get? l=some o'→o'.cls=.type "list"∧o'.dict=none→o'.data=.seq (items.push x) n'→Heap.SameBut l s.heap h'→Q .none { s with heap:=h' }):wpAny (model prog w) A (call (.builtin "list.append") [.ref l,x]) Q E s:=by
 obtain ⟨n',hd'⟩:=Obj.data_mapSeq hd (·.push x)
 refine wpAny_call_entry slot_list_append ⟨o,ho,hc.1⟩ entry_list_append ?_ (args_list_append _ _)
 refine (?_:wpAny _ _ (updateSeq l (·.push x) >>= fun _=>ret .none) _ _ s)
 exact zC1 (wpAny_updateSeq ho hd (zC2 ⟨.none,rfl,hQ _ _ n' (Heap.get?_update_self _ ho (Obj.isFreed_of_seq hd')) ⟨(Obj.cls_mapSeq ..).trans hc.1,(dZ ..).trans hc.2⟩ hd' (Heap.SameBut.update ..)⟩))
theorem tq {d:Gs→DV} (hx:fx.ρ.lookup n=some k) (hn:aR n=true) (hp:ao e=true) (hline:(apos.endLine==pos.line)=true) (h:∀ oa G,Ev ⟨fx,oa,G⟩ (eval e fx.env) (d G)) :
  ExB fx (exec (.Expr (.Call (.Attribute (.Name n np) "append" apos) [e] [] pos) spos) fx.env) (fun G K=>okK (bI G k) fun l=>d G fun x=>l.length < am∧K none (G.set k (.ownL (l++[x])))):=fun oa G K s hd I=>ag hd fun l el hd=>by
 refine wpAny_Expr ?_ I.quiet rfl
 obtain ⟨a,u,ha,pr,rfl,o,vs,m,ho,hc,hd',hl⟩:=eQ I (cg el) id
 refine wpAny_Call_method (T:="list") (id:="list.append") (b0 rfl) ?_ hline PySem.F.plainAttrs_list slot_list_append type_list_append (bZ (Φ:=⟨fx,oa,G⟩) I.ok hx hn pr ⟨⟨o,ho,hc.1⟩,fun a q=>by cases q; exact ⟨o,ho,hc.2⟩,?_⟩ _)
 ·rw [aK hp]; rfl
 refine callWith_builtin (by rw [aK hp]; rfl) ?_
 refine cY (Φ:=⟨fx,oa,G⟩) (qs:=[(e,d G)]) (K:=fun xs=>okK (one xs some) fun x=>l.length < am∧K none (G.set k (.ownL (l++[x])))) (fun q m=>by cases zA6 m; exact ⟨hp,h oa G⟩) hd I fun ws xs s₁ I₁ k₁ hx rs=>ag hx fun x e hk=>?_
 refine dj (Φ:=⟨fx,oa,G⟩) (C:=fun ws=>wpAny _ _ (call (.builtin "list.append") ([.ref a]++ws) []) _ _ s₁) e rs fun w y r e=>?_
 cases e
 refine tC (k₁.get ho (aI hc.1)) hc hd' (cK (by rw [aO (Φ:=⟨fx,oa,G⟩) hl]; exact Nat.le_of_lt hk.1)) fun h' o' n' ho' hc' hd'' hs=>?_
 have mk:cU (Ct.mk fx oa G).bad (Ct.mk fx oa G).bad s₁.heap h':=fun b o e _ nb=>⟨nb,hs.extBut b o (fun q=>nb (.inr (.inr ⟨k,q▸ha⟩))) e⟩
 have q:=Inv.mutate (Φ:=⟨fx,oa,G⟩) (sl:=.ownL (l++[x])) (tk:=s₁.toks) I₁ ha (pr.keep k₁) ⟨o,k₁.get ho (aI hc.1),aI hc.1⟩ hs ⟨_,ho'⟩ ⟨rfl,o',_,n',ho',hc',hd'',by rw [Array.toList_push]; exact ((hl.keep k₁).map mk).append (.cons (r.map mk) .nil)⟩ (fun _ q=>nomatch q) (fun q=>nomatch q) fun q=>q.elim
 exact .next (Φ:=⟨fx,oa,G⟩) q.1 ((Tr.of_keeps k₁).trans q.2) hk.2
end
section
variable {prog:Program} {w:World} {A:Around} {R:Result→Shared→Prop} {s:Shared}
theorem lB (I:Nat→Shared→Prop)
  (turn:∀ n s,I n s→wpAny (model prog w) A (pyNext it) (fun r s₁=>match r with
   | none=>R (.ok .next) s₁
   | some v=>wpAny (model prog w) A (letOwnedTupleGo target it v) (fun _ s₁'=>wpAny (model prog w) A (assign target env v) (fun _ s₂=>
     wpAny (model prog w) A (forIn ifs true fun c r=>if r=true then do let ok ← isTrue c env (eval c env); pure (ForInStep.yield ok) else pure (ForInStep.yield r)) (fun ok s₃=>
      if ok=true then wpAny (model prog w) A (eval elt env) (fun x s₄=>
       wpAny (model prog w) A (call (.builtin "list.append") [acc,x]) (fun _ s₅=>∃ m,m < n∧I m s₅) (notedBy (model prog w) A env fun e s'=>R (.error e) s') s₄) (notedBy (model prog w) A env fun e s'=>R (.error e) s') s₃
      else ∃ m,m < n∧I m s₃) (notedBy (model prog w) A env fun e s'=>R (.error e) s') s₂) (notedBy (model prog w) A env fun e s'=>R (.error e) s') s₁') (notedBy (model prog w) A env fun e s'=>R (.error e) s') s₁) (notedBy (model prog w) A env fun e s'=>R (.error e) s') s)
  (n:Nat) (h:I n s):codeAny (model prog w) A (.compLoop (.ListComp elt [⟨target,iter,ifs,0⟩] scope pos) 0 it acc env) R s:=by
 refine codeAny_loop rfl I (fun n s hI=>?_) n h
 (refine (?_:wpAny _ A ((compTurn (.ListComp elt [⟨target,iter,ifs,0⟩] scope pos) 0 it acc env).onRaise (fun x=>do noteFrame x env; theTreesLotGoes x)) _ _ s))
 refine wpAny_noted ?_
 rw [compTurn_list]
 refine zC1 (wpAny_standAt (zC1 (wpAny_mono (turn n s hI) (fun r s₁ h₁=>?_) fun _ _ h'=>h')))
 cases r with
 | none=>exact wpAny_pure h₁
 | some v=>
  refine zC1 (wpAny_mono h₁ (fun _ s₁' h₁'=>?_) fun _ _ h'=>h')
  refine zC1 (wpAny_mono h₁' (fun _ s₂ h₂=>zC1 (wpAny_mono h₂ (fun ok s₃ h₃=>?_) fun _ _ h'=>h')) fun _ _ h'=>h')
  cases ok with
  | false=>exact zC2 ⟨rfl,h₃⟩
  | true=>
   exact zC1 (zC1 (wpAny_mono h₃ (fun x s₄ h₄=>zC1 (wpAny_mono h₄ (fun _ s₅ h₅=>zC2 (zC2 ⟨rfl,h₅⟩)) fun _ _ h'=>h')) fun _ _ h'=>h'))
end
noncomputable def dP (ifs:List Expr) (env:Env):Sem Bool:=forIn ifs true fun c r=>if r=true then do let ok ← isTrue c env (eval c env); pure (ForInStep.yield ok) else pure (ForInStep.yield r)
theorem gN (env:Env):∀ ifs:List Expr,(forIn ifs false fun c r=>if r=true then do let ok ← isTrue c env (eval c env); pure (ForInStep.yield ok) else pure (ForInStep.yield r):Sem Bool)=pure false
 | []=>rfl
 | c :: r=>by
  rw [List.forIn_cons]
  simp only [Bool.false_eq_true,if_false,pure_bind]
  exact gN env r
theorem cN (hk:env.scope.kind=.function):(relabel scope env).names=gW env.scope.names scope.names:=by
 unfold relabel gW
 simp only [hk]
 apply List.map_congr_left
 rintro ⟨n,k⟩ _
 have:(ScopeKind.function==ScopeKind.function)=true:=by decide
 simp only [this,Bool.and_true]
 rfl
theorem relab_lookup (sc:List (Str×NameKind)):∀ (names:List (Str×NameKind)) (x:Str),(gW sc names).lookup x=(names.lookup x).map fun k=>if k==.free&&sc.lookup x==some .cell then .cell else k
 | [],x=>rfl
 | (n,k) :: r,x=>by
  have ih:=relab_lookup sc r x
  have e:gW sc ((n,k) :: r)=(n,if k==.free&&sc.lookup n==some .cell then .cell else k) :: gW sc r:=by
   unfold gW
   rw [List.map_cons]
   congr 1
   show (if _ then (n,NameKind.cell) else (n,k))=_
   split <;> rfl
  rw [e,List.lookup_cons,List.lookup_cons]
  cases hx:x==n with
  | true=>have:=beq_iff_eq.mp hx; subst this; rfl
  | false=>exact ih
noncomputable def clOf (cells:List (Str×Addr)):List (Str×NameKind)→List (Str×Addr)→List (Str×Addr)
 | [],acc=>acc
 | (n,k) :: r,acc=>clOf cells r (if k==.free then (n,(cells.lookup n).getD 0) :: acc else acc)
def m8 (cells:List (Str×Addr)) (names:List (Str×NameKind)):Prop:=∀ n,(n,NameKind.free)∈names→∃ c,cells.lookup n=some c
theorem jh (h:m8 env.cells scope.names):closureFor scope env=pure (clOf env.cells scope.names []):=by
 unfold closureFor
 suffices ∀ (names:List (Str×NameKind)) (acc:List (Str×Addr)),m8 env.cells names→(do
   let r ← forIn names acc fun x r=>match x with
    | (name,kind)=>if (kind==NameKind.free)=true then do let c ← cellOf env name; pure (ForInStep.yield ((name,c) :: r)) else pure (ForInStep.yield r)
   pure r:Sem (List (Str×Addr)))=pure (clOf env.cells names acc) by
  simpa using this scope.names [] h
 intro names
 induction names with
 | nil=>intro acc _; rfl
 | cons p r ih=>
  obtain ⟨n,k⟩:=p
  intro acc hf
  rw [List.forIn_cons]
  have hr:m8 env.cells r:=fun m q=>hf m (.tail _ q)
  by_cases hk:k=.free
  ·subst hk
   obtain ⟨c,hc⟩:=hf n (.head _)
   have e1:cellOf env n=pure c:=by unfold cellOf; rw [hc]
   have:=ih ((n,c) :: acc) hr
   simp only [beq_self_eq_true,if_true,e1,pure_bind,clOf,hc,Option.getD_some] at this ⊢
   exact this
  ·have hb:(k==NameKind.free)=false:=by simpa using hk
   have:=ih acc hr
   simp only [hb,Bool.false_eq_true,if_false,pure_bind,clOf] at this ⊢
   exact this
theorem gc (cells:List (Str×Addr)):∀ (names:List (Str×NameKind)) (acc:List (Str×Addr)) (x:Str) (c:Addr),cells.lookup x=some c→((x,NameKind.free)∈names∨acc.lookup x=some c)→(∀ d,acc.lookup x=some d→d=c)→(clOf cells names acc).lookup x=some c
 | [],acc,x,c,_,h,_=>by rcases h with h | h; cases h; exact h
 | (n,k) :: r,acc,x,c,hc,h,ha=>by
  unfold clOf
  by_cases hk:k=.free
  ·subst hk
   simp only [beq_self_eq_true,if_true]
   by_cases hx:x=n
   ·subst hx
    refine gc cells r _ x c hc (.inr ?_) fun d hd=>?_
    ·simp [hc]
    ·simp only [List.lookup_cons,beq_self_eq_true,hc,Option.getD_some,Option.some.injEq] at hd; exact hd.symm
   ·have hb:(x==n)=false:=by simpa using hx
    refine gc cells r _ x c hc ?_ fun d hd=>?_
    ·rcases h with h | h
     ·rcases List.mem_cons.mp h with q | q
      ·(injection q with q; subst q); exact absurd rfl hx
      ·exact .inl q
     ·exact .inr (by rw [List.lookup_cons,hb]; exact h)
    ·rw [List.lookup_cons,hb] at hd; exact ha d hd
  ·have hb:(k==NameKind.free)=false:=by simpa using hk
   simp only [hb,Bool.false_eq_true,if_false]
   refine gc cells r acc x c hc ?_ ha
   rcases h with h | h
   ·rcases List.mem_cons.mp h with q | q
    ·cases q; exact absurd rfl hk
    ·exact .inl q
   ·exact .inr h
theorem iV:∀ {l:List (Str×α)} {n:Str} {c:α},l.lookup n=some c→(n,c)∈l
 | (k,v) :: r,n,c,h=>by
  rw [List.lookup_cons] at h
  cases hb:n==k with
  | true=>replace h:=hb▸h; (injection h with h; subst h); rw [beq_iff_eq.mp hb]; exact .head _
  | false=>rw [hb] at h; exact .tail _ (iV h)
theorem cR {p:Str→Bool}:∀ {l:List (Str×Nat)} {x:Str} {k:Nat},(l.filter fun q=>p q.1).lookup x=some k→p x=true∧l.lookup x=some k
 | [],_,_,h=>by simp at h
 | (n,v) :: r,x,k,h=>by
  replace h:=List.filter_cons▸h
  split at h
  ·rename_i hp
   rw [List.lookup_cons] at h ⊢
   cases hx:x==n with
   | true=>replace h:=hx▸h; (injection h with h; subst h); have:=beq_iff_eq.mp hx; subst this; exact ⟨hp,rfl⟩
   | false=>rw [hx] at h; exact cR h
  ·rename_i hp
   obtain ⟨h1,h2⟩:=cR h
   refine ⟨h1,?_⟩
   rw [List.lookup_cons]
   cases hx:x==n with
   | true=>have:=beq_iff_eq.mp hx; subst this; exact absurd h1 (by exact hp)
   | false=>exact h2
theorem nS:∀ {qs:List (Expr×DV)},(∀ q∈qs,EvT Φ (isTrue q.1 Φ.fx.env (eval q.1 Φ.fx.env)) (tst q.2))→EvT Φ (dP (qs.map Prod.fst) Φ.fx.env) (pf true (qs.map Prod.snd))
 | [],_=>fun K s hd I=>EvR.pure (a:=true) I hd rfl
 | q :: r,h=>fun K s hd I=>by
  have e:dP ((q :: r).map Prod.fst) Φ.fx.env=(isTrue q.1 Φ.fx.env (eval q.1 Φ.fx.env) >>= fun ok=>if ok then dP (r.map Prod.fst) Φ.fx.env else pure false):=by
   unfold dP
   rw [List.map_cons,List.forIn_cons]
   simp only [if_true,bind_assoc,pure_bind]
   congr 1
   funext ok
   cases ok
   ·exact gN _ _
   ·rfl
  rw [e]
  refine (h q (.head _)).bind (K₁:=fun c=>if c=true then pf true (r.map Prod.snd) K else K c) hd I fun t c s₁ I₁ k₁ hk e=>?_
  subst e
  cases t
  ·exact EvR.pure I₁ hk rfl
  ·exact nS (fun x m=>h x (.tail _ m)) K s₁ hk I₁
noncomputable def cpl (fx:Fx) (C:Addr) (x x':Str) (k:Nat):Pl:=if k=fx.nf then .ns C x else if k=fx.nf+1 then (if x'=x then .off else .ns C x') else fx.pl k
noncomputable def aD (fx:Fx) (scope:Scope) (C:Addr) (x x':Str) (X:Addr→Prop):Fx:=
 { fx with env:=compEnvC scope (clOf fx.env.cells scope.names []) C fx.env,ρ:=(x,fx.nf) :: (x',fx.nf+1) :: fx.ρ.filter (fun p=>scope.names.lookup p.1==some .free),nf:=fx.nf+2,Mo:=fun b=>fx.Mo b∨X b,pl:=cpl fx C x x' }
structure CompOk (fx:Fx) (scope:Scope) (x x':Str):Prop where
 kind:scope.kind=.function
 loc:scope.names.lookup x=some .local
 loc':scope.names.lookup x'=some .local
 nocell:∀ y∈scope.names,y.2≠.cell
 names:∀ y∈scope.names,y.2=.local→scope.names.lookup y.1=some .local
 free:∀ n,(n,NameKind.free)∈scope.names→fx.env.kindOf n=some .cell∨fx.env.kindOf n=some .free
 cells:m8 fx.env.cells scope.names
 room:fx.nf+2≤fx.ns
section
variable {Φ:Ct} {s s₀ s₂:Shared} {X:Addr→Prop} {scope:Scope} {x x':Str} {C:Addr}
theorem cpl_c (fx:Fx) (C:Addr) (x x':Str) (k:Nat):(k=fx.nf∧cpl fx C x x' k=.ns C x)∨(k=fx.nf+1∧x'≠x∧cpl fx C x x' k=.ns C x')∨(k=fx.nf+1∧cpl fx C x x' k=.off)∨cpl fx C x x' k=fx.pl k:=by
 unfold cpl
 by_cases h:k=fx.nf
 ·exact .inl ⟨h,if_pos h⟩
 ·rw [if_neg h]
  by_cases h':k=fx.nf+1
  ·rw [if_pos h']
   by_cases e:x'=x
   ·exact .inr (.inr (.inl ⟨h',if_pos e⟩))
   ·exact .inr (.inl ⟨h',e,if_neg e⟩)
  ·exact .inr (.inr (.inr (if_neg h')))
theorem sf (ho:∀ k,fx.nf≤k→fx.pl k=.off) (h:fx.pl k≠.off):cpl fx C x x' k=fx.pl k:=by
 have:k < fx.nf:=Nat.lt_of_not_le fun q=>h (ho k q)
 unfold cpl
 rw [if_neg (Nat.ne_of_lt this),if_neg (Nat.ne_of_lt (Nat.lt_succ_of_lt this))]
theorem compFx_addr (h:((aD fx scope C x x' X).pl k).addr=some a):a=C∨(fx.pl k).addr=some a:=by
 have h:(cpl fx C x x' k).addr=some a:=h
 rcases cpl_c fx C x x' k with ⟨_,e⟩ | ⟨_,_,e⟩ | ⟨_,e⟩ | e <;> replace h:=e▸h
 ·(injection h with h; subst h); exact .inl rfl
 ·(injection h with h; subst h); exact .inl rfl
 ·(injection h; done)
 ·exact .inr h
theorem CompOk.toFx (c:CompOk fx scope x x') (ok:FxOk fx) (hC:∀ j,(fx.pl j).addr≠some C) (hX0:∀ b,X b→fx.g.h0.get? b=none):FxOk (aD fx scope C x x' X) where
 gr:=ok.gr
 hand:=ok.hand
 kind:=c.kind
 globals:=ok.globals
 builtins:=ok.builtins
 vis:=fun y k hy=>by
  have kn:∀ y,(aD fx scope C x x' X).env.kindOf y=(gW fx.env.scope.names scope.names).lookup y:=fun y=>by
   refine (?_:(relabel scope fx.env).names.lookup y=_)
   rw [cN ok.kind]
  have hy:((x,fx.nf) :: (x',fx.nf+1) :: fx.ρ.filter (fun p=>scope.names.lookup p.1==some .free)).lookup y=some k:=hy
  rw [List.lookup_cons] at hy
  cases hb:y==x with
  | true=>
   replace hy:=hb▸hy; (injection hy with hy; subst hy)
   cases eq_of_beq hb
   exact .inl ⟨by rw [kn,relab_lookup,c.loc]; rfl,if_pos rfl⟩
  | false=>
   rw [hb] at hy
   replace hy:((x',fx.nf+1) :: fx.ρ.filter (fun p=>scope.names.lookup p.1==some .free)).lookup y=some k:=hy
   rw [List.lookup_cons] at hy
   cases hb':y==x' with
   | true=>
    replace hy:=hb'▸hy; (injection hy with hy; subst hy)
    cases eq_of_beq hb'
    refine .inl ⟨by rw [kn,relab_lookup,c.loc']; rfl,?_⟩
    refine (?_:cpl fx C x x' (fx.nf+1)=.ns C x')
    unfold cpl
    rw [if_neg (Nat.succ_ne_self _),if_pos rfl,if_neg fun q=>by rw [q,beq_self_eq_true] at hb; (injection hb; done)]
   | false=>
    rw [hb'] at hy
    obtain ⟨hf,hk⟩:=cR (p:=fun y=>scope.names.lookup y==some .free) hy
    have hf:=eq_of_beq hf
    have hm:=iV hf
    right
    refine ⟨?_,?_⟩
    ·rw [kn,relab_lookup,hf]
     simp only [Option.map_some,beq_self_eq_true,Bool.true_and]
     split
     ·exact .inl rfl
     ·exact .inr rfl
    ·obtain ⟨cc,hcc⟩:=c.cells y hm
     refine ⟨cc,gc _ _ _ _ _ hcc (.inl hm) (fun d hd=>by (injection hd; done)),?_⟩
     rcases ok.vis y k hk with ⟨q,_⟩ | ⟨_,c',hc',hp⟩
     ·rcases c.free y hm with q' | q' <;> rw [q] at q' <;> cases q'
     ·replace hc':=hcc▸hc'; (injection hc' with hc'; subst hc')
      exact (sf ok.offs (by exact hp.symm▸nofun)).trans hp
 inj:=fun k j e hne=>by
  have e:cpl fx C x x' k=cpl fx C x x' j:=e
  have hne:cpl fx C x x' k≠.off:=hne
  have no:∀ j y,Pl.ns C y≠fx.pl j:=fun j y q=>hC j (by rw [← q]; rfl)
  rcases cpl_c fx C x x' k with ⟨h1,e1⟩ | ⟨h1,n1,e1⟩ | ⟨_,e1⟩ | e1 <;> rcases cpl_c fx C x x' j with ⟨h2,e2⟩ | ⟨h2,n2,e2⟩ | ⟨_,e2⟩ | e2 <;>
   first | exact h1.trans h2.symm | exact absurd e1 hne | exact absurd (e.trans e2) hne | (replace e:=e2▸e1▸e; first | (cases e; exact absurd rfl n1) | (cases e; exact absurd rfl n2) | exact absurd e (no _ _) | exact absurd e.symm (no _ _) | exact ok.inj k j e (e1▸hne))
 apart:=fun k j a y cc e1 e2=>by
  have e1:cpl fx C x x' k=.ns a y:=e1
  have e2:cpl fx C x x' j=.cell cc:=e2
  have e2:fx.pl j=.cell cc:=by
   rcases cpl_c fx C x x' j with ⟨_,q⟩ | ⟨_,_,q⟩ | ⟨_,q⟩ | q
   ·exact nomatch q.symm.trans e2
   ·exact nomatch q.symm.trans e2
   ·exact nomatch q.symm.trans e2
   ·exact q.symm.trans e2
  have oth:a=C→a≠cc:=fun z q=>hC j (by rw [e2,← z,q]; rfl)
  rcases cpl_c fx C x x' k with ⟨_,q⟩ | ⟨_,_,q⟩ | ⟨_,q⟩ | q <;> replace e1:=q▸e1
  ·(injection e1 with e1; subst e1); exact oth rfl
  ·(injection e1 with e1; subst e1); exact oth rfl
  ·(injection e1; done)
  ·exact ok.apart k j a y cc e1 e2
 offs:=fun k hk=>by
  have hk:fx.nf+2≤k:=hk
  have a:k≠fx.nf:=Nat.ne_of_gt (Nat.lt_of_lt_of_le (Nat.lt_add_of_pos_right (by decide)) hk)
  have b:k≠fx.nf+1:=Nat.ne_of_gt hk
  exact (if_neg a).trans ((if_neg b).trans (ok.offs k (zB1 (Nat.le_add_right _ _) hk)))
 nfs:=c.room
 room:=ok.room
 units:=ok.units
 call:=ok.call
 mo0:=fun a q=>q.elim (ok.mo0 a) (hX0 a)
theorem comp_own (q:(Ct.mk (aD Φ.fx scope C x x' X) oa G).own a) (h:oa=Φ.oa):a=C∨Φ.own a:=by
 subst h
 rcases q with ⟨j,q⟩ | q
 ·exact (compFx_addr q).imp id fun q=>.inl ⟨j,q⟩
 ·exact .inr (.inr q)
theorem uy (I:Inv Φ s) (q:Φ.own a):(Ct.mk (aD Φ.fx scope C x x' X) Φ.oa Φ.G).own a:=by
 rcases q with ⟨j,q⟩ | q
 ·exact .inl ⟨j,by refine (?_:(cpl Φ.fx C x x' j).addr=some a); rw [sf I.ok.offs fun e=>by replace q:=e▸q; (injection q; done)]; exact q⟩
 ·exact .inr q
theorem Inv.comp (c:CompOk Φ.fx scope x x') (I:Inv Φ s₀) (B:Base Φ.fx.g s) (k:aG s₀.heap s.heap) (hX:∀ b,X b→s₀.heap.get? b=none∧aQ s.heap b∧b≠C) (hC0:s₀.heap.get? C=none) (hC:s.heap.Ns C fun _=>none) :
  Inv ⟨aD Φ.fx scope C x x' X,Φ.oa,Φ.G⟩ s∧cU Φ.bad (Ct.mk (aD Φ.fx scope C x x' X) Φ.oa Φ.G).bad s₀.heap s.heap:=by
 have hCl:aQ s.heap C:=by obtain ⟨o,_,_,e,_⟩:=hC; exact ⟨o,e⟩
 have hCp:∀ j,(Φ.fx.pl j).addr≠some C:=fun j e=>(I.new C (.inl ⟨j,e⟩)).1.elim fun o e=>au hC0 e
 have mk:cU Φ.bad (Ct.mk (aD Φ.fx scope C x x' X) Φ.oa Φ.G).bad s₀.heap s.heap:=fun b o e f n=>by
  refine ⟨fun q=>?_,k.get e f⟩
  rcases q with (q | q) | q
  ·exact n (.inl q)
  ·exact au (hX b q).1 e
  ·exact (comp_own (Φ:=Φ) q rfl).elim (fun q=>au hC0 (q▸e)) fun q=>n (.inr q)
 refine ⟨⟨c.toFx I.ok hCp fun b q=>aM (fun l=>I.base.stays.live l) (hX b q).1,B,fun j=>?_,fun a q=>?_,I.inj,fun j a e i q=>?_,I.gl,fun a q=>q.elim (fun q=>k.live (I.mo a q)) fun q=>(hX a q).2.1,I.fr.keep k⟩,mk⟩
 ·obtain ⟨v,r,so⟩:=I.slot j
  have so':=so.map mk fun a _ o e f=>k.get e f
  refine ⟨v,?_,so'⟩
  refine (?_:aZ s.heap (cpl Φ.fx C x x' j) v)
  have vn:Φ.fx.nf≤j→v=none:=fun q=>by rw [I.ok.offs j q] at r; exact r
  rcases cpl_c Φ.fx C x x' j with ⟨h,e⟩ | ⟨h,_,e⟩ | ⟨h,e⟩ | e <;> refine e.symm▸?_
  ·rw [vn (zB2 h.symm)]; exact ⟨_,hC,rfl⟩
  ·rw [vn (h▸Nat.le_succ _)]; exact ⟨_,hC,rfl⟩
  ·exact vn (h▸Nat.le_succ _)
  ·exact r.keep k
 ·rcases comp_own (Φ:=Φ) q rfl with rfl | q
  ·exact ⟨hCl,aM (fun l=>I.base.stays.live l) hC0,fun z=>z.elim (fun z=>(I.mo a z).elim fun o e=>au hC0 e) fun z=>(hX a z).2.2 rfl⟩
  ·obtain ⟨⟨o,e⟩,n,m⟩:=I.new a q
   exact ⟨(k a o e).live,n,fun z=>z.elim m fun z=>au (hX a z).1 e⟩
 ·rcases compFx_addr q with rfl | q
  ·exact (I.new a (.inr ⟨j,e⟩)).1.elim fun o e=>au hC0 e
  ·exact I.off j a e i q
end
theorem fR {h h':Heap} {D:Addr} {vs:Array Value} (p:h.PlainList D vs) (k:∀ o,h.get? D=some o→h'.get? D=some o):h'.PlainList D vs:=p.elim fun c e=>⟨c,k _ e⟩
theorem jD {h:Heap} {D:Addr} {vs:Array Value} (p:h.PlainList D vs):dG h D:=p.elim fun c e=>⟨_,e,aI rfl⟩
theorem iL {h:Heap} {D:Addr} {vs:Array Value} (p:h.PlainList D vs):aQ h D:=p.elim fun c e=>⟨_,e⟩
theorem uv {Φ:Ct} {k:Nat} {sl:Slot} (h:Φ.oa k=none):Φ.put k none sl=⟨Φ.fx,Φ.oa,Φ.G.set k sl⟩:=by
 unfold Ct.put
 congr 1
 funext j
 by_cases e:j=k
 ·rw [if_pos e,e,h]
 ·exact if_neg e
section
variable {Φ:Ct} [Hm Φ.fx] {s s₀ s₂:Shared} {scope:Scope} {x x':Str}
inductive CompEnd (Φ:Ct) (s₀:Shared) (K:List V→Prop) (D C:Addr) (s':Shared):Prop
 | mk:∀ m ys,Base Φ.fx.g s'→aG s₀.heap s'.heap→s₀.heap.get? C=none→s₀.heap.get? D=none→D≠C→s'.heap.Ns C m→K ys→∀ vs,s'.heap.PlainList D vs→RpAll Φ.fx.g (fun b=>Φ.bad b∨b=C) s'.heap vs.toList ys→CompEnd Φ s₀ K D C s'
def nA (Φ:Ct) (scope:Scope) (T:Expr) (x x':Str) (b:Gs→V→Option Gs):Prop:=(∀ G y G₁ z,b G y=some G₁→b G₁ z=b G z) ∧
 ∀ C X G G₁ v y s,Φ.fx.env.scope.kind=.function→(∀ k,Φ.fx.nf≤k→Φ.oa k=none)→Inv ⟨aD Φ.fx scope C x x' X,Φ.oa,G⟩ s→b G y=some G₁→(Ct.mk (aD Φ.fx scope C x x' X) Φ.oa G).rp s.heap v y →
  (Ct.mk (aD Φ.fx scope C x x' X) Φ.oa G).wp (assign T (aD Φ.fx scope C x x' X).env v) (fun _ s'=>Inv ⟨aD Φ.fx scope C x x' X,Φ.oa,G₁⟩ s'∧∀ b o,b≠C→s.heap.get? b=some o→s'.heap.get? b=some o) s
inductive CLC (Φ:Ct) (cfx:Fx) (s₀:Shared) (Sp:Nat→Heap→Prop) (vals:List Value) (l0 l:List V) (Da:Addr) (de:D) (ts:List D) (b:Gs→V→Option Gs) (K:List V→Prop) (n:Nat) (s':Shared):Prop
 | mk (i:Nat) (G':Gs) (zs:List V) (vs:Array Value) (en:n=l.length - i) (hi:i≤l.length) (st:Sp i s'.heap) (I':Inv ⟨cfx,Φ.oa,G'⟩ s') (hG:∀ z,b G' z=b Φ.G z) (kx:aG s₀.heap s'.heap) (rv:(Ct.mk cfx Φ.oa Φ.G).rps s'.heap vals l0)
   (hD:s'.heap.PlainList Da vs) (rz:(Ct.mk cfx Φ.oa Φ.G).rps s'.heap vs.toList zs) (hz:zs.length≤i) (ec:jf de ts b Φ.G (l.drop i) fun ys=>K (zs++ys)):CLC Φ cfx s₀ Sp vals l0 l Da de ts b K n s'
theorem k8 {elt iter T:Expr} {b:Gs→V→Option Gs} {ifs:List Expr} {pos:Pos} {l:List V} {it:Value} {de:D} {ts:List D} {K:List V→Prop} {RR:Value→Addr→Result→Shared→Prop} {E:Value→Shared→Prop}
  (c:CompOk Φ.fx scope x x') (I₀:Inv Φ s₀) (gr:Grown s₀ s₂) (fa:FeedAt Φ T false s₀ s₂ it l)
  (helt:∀ C X oa G,Ev ⟨aD Φ.fx scope C x x' X,oa,G⟩ (eval elt (aD Φ.fx scope C x x' X).env) (de G))
  (htest:∀ C X oa G,EvT ⟨aD Φ.fx scope C x x' X,oa,G⟩ (dP ifs (aD Φ.fx scope C x x' X).env) (cq true ts G))
  (hT:nA Φ scope T x x' b) (er:jf de ts b Φ.G l K)
  (hK:∀ D C s',CompEnd Φ s₀ K D C s'→RR (.ref D) C (.ok .next) s') :
  wpAny (model Φ.fx.g.prog Φ.fx.g.w) Φ.fx.A (newList []) (fun acc s₃=>wpAny (model Φ.fx.g.prog Φ.fx.g.w) Φ.fx.A (newFunctionEnv scope Φ.fx.env.globals (clOf Φ.fx.env.cells scope.names []) [] Φ.fx.env.qual none .none (some Φ.fx.env)) (fun cenv s₄=>
   codeAny (model Φ.fx.g.prog Φ.fx.g.w) Φ.fx.A (.compStart (.ListComp elt [⟨T,iter,ifs,0⟩] scope pos) 0 it acc { cenv with scope:=relabel scope Φ.fx.env }) (RR acc cenv.locals) s₄) E s₃) E s₂:=by
 refine ar fun Z kZ=>?_
 obtain ⟨J,fp,wr,vals,l0,Sp,rfl,F,st0,rv,hwr,hfp,hsz⟩:=fa
 refine kZ (wpAny_newObj_type (wpAny_newFunctionEnv c.nocell (fun y hy=>nM hy) (fun h₁ hns₁ hsb₁=>?_) c.kind))
 clear kZ
 dsimp only at hns₁ hsb₁ ⊢
 generalize hH2:s₂.heap.push { cls:=.type "list",dict:=none,data:=.seq ([]:List Value).toArray }=H2 at hns₁ hsb₁ ⊢
 have hDn:s₂.heap.get? s₂.heap.objs.size=none:=ak _
 have hD0:s₀.heap.get? s₂.heap.objs.size=none:=aM gr.keeps.live hDn
 have up1:∀ b o,s₂.heap.get? b=some o→H2.get? b=some o:=fun b o e=>hH2▸Heap.get?_push_of_some _ e
 have hD1:H2.get? s₂.heap.objs.size=some { cls:=.type "list",dict:=none,data:=.seq ([]:List Value).toArray }:=hH2▸Heap.get?_push_size _ rfl
 have hCn:H2.get? H2.objs.size=none:=ak _
 have hC2:s₂.heap.get? H2.objs.size=none:=aM (fun l=>l.elim fun o e=>⟨o,up1 _ o e⟩) hCn
 have hC0:s₀.heap.get? H2.objs.size=none:=aM gr.keeps.live hC2
 have hDC:s₂.heap.objs.size≠H2.objs.size:=fun q=>au hCn (q▸hD1)
 have up2:∀ b o,b≠H2.objs.size→H2.get? b=some o→h₁.get? b=some o:=fun b o n e=>hsb₁.extBut b o n (Heap.get?_push_of_some _ e)
 have up:aH s₂.heap h₁:=fun b o e=>up2 b o (fun q=>au hC2 (q▸e)) (up1 b o e)
 have hDh:h₁.PlainList s₂.heap.objs.size #[]:=⟨_,up2 _ _ hDC hD1⟩
 generalize hDD:s₂.heap.objs.size=D at hDn hD0 hD1 hDC hDh ⊢
 generalize hCC:H2.objs.size=C at hns₁ hsb₁ hCn hC0 hC2 hDC up2 ⊢
 have gr':Grown s₀ { s₂ with heap:=h₁,toks:=s₂.toks+([]:List (Str×Value)).length }:=gr.trans ⟨up,rfl,rfl⟩
 let X:Addr→Prop:=fun b=>(b∈fp∧s₀.heap.get? b=none)∨b=D
 have fpl:∀ b∈fp,aQ s₂.heap b:=fun b hb=>(F.live 0 _ b st0 hb).live
 have fpC:∀ b∈fp,b≠C:=fun b hb q=>(fpl b hb).elim fun o e=>au hC2 (q▸e)
 have fpD:∀ b∈fp,b≠D:=fun b hb q=>(fpl b hb).elim fun o e=>au hDn (q▸e)
 have hXp:∀ b,X b→s₀.heap.get? b=none∧aQ h₁ b∧b≠C:=fun b q=>by
  rcases q with ⟨q,n⟩ | rfl
  ·exact ⟨n,up.live (fpl b q),fpC b q⟩
  ·exact ⟨hD0,iL hDh,hDC⟩
 obtain ⟨I₁,mk₁⟩:=I₀.comp (X:=X) c (I₀.base.grown gr') gr'.keeps hXp hC0 hns₁
 let cfx:=aD Φ.fx scope C x x' X
 have hoa:∀ k,Φ.fx.nf≤k→Φ.oa k=none:=fun k hk=>by
  obtain ⟨v,r,so⟩:=I₀.slot k
  replace r:=(I₀.ok.offs _ hk)▸r
  cases r
  generalize getSlot Φ.G k=sl at so
  cases sl with
  | unset=>exact so.1
  | v x=>exact so.1
  | _=>obtain ⟨_,_,_,q,_⟩:=so; cases q
 have wrX:∀ b∈wr,cfx.Mo b:=fun b m=>.inr (.inl ⟨F.sub b m,hwr b m⟩)
 have wr0:∀ b∈wr,Φ.fx.g.h0.get? b=none:=fun b m=>aM (fun l=>I₀.base.stays.live l) (hwr b m)
 have D0:Φ.fx.g.h0.get? D=none:=aM (fun l=>I₀.base.stays.live l) hD0
 have wrD:D∉wr:=fun m=>fpD D (F.sub D m) rfl
 have st1:Sp 0 h₁:=F.frame _ _ _ st0 fun b _ o e=>up b o e
 have plC:(cfx.pl Φ.fx.nf).addr=some C:=by show (cpl Φ.fx C x x' Φ.fx.nf).addr=_; unfold cpl; rw [if_pos rfl]; rfl
 have loop:codeAny (model Φ.fx.g.prog Φ.fx.g.w) Φ.fx.A (.compLoop (.ListComp elt [⟨T,iter,ifs,0⟩] scope pos) 0 (.ref J) (.ref D) cfx.env) (RR (.ref D) C) { s₂ with heap:=h₁,toks:=s₂.toks+([]:List (Str×Value)).length }:=by
  refine lB (CLC Φ cfx s₀ Sp vals l0 l D de ts b K) ?_ l.length ⟨0,Φ.G,[],#[],rfl,Nat.zero_le _,st1,I₁,fun _=>rfl,gr'.keeps,rv.map mk₁,hDh,.nil,Nat.zero_le _,er⟩
  intro n s' hLC
  refine ar fun Z kZ=>?_
  obtain ⟨i,G',zs,vs,rfl,hi,st,I',hG,kx,rv',hD',rz,hz,ec⟩:=hLC
  cases hx:l[i]? with
  | none=>
   have hil:i=l.length:=Nat.le_antisymm hi (List.getElem?_eq_none_iff.mp hx)
   subst hil
   replace ec:=List.drop_length▸ec
   refine kZ (F.over st fun h' tk hk=>hK D C _ ?_)
   have kC:∀ b o,s'.heap.get? b=some o→b∉wr→h'.get? b=some o:=fun b o e n=>hk b o n e
   obtain ⟨v,⟨m,hn,hv⟩,_⟩:∃ v,(∃ m,s'.heap.Ns C m∧m x=v)∧True:=by
    obtain ⟨v,r,_⟩:=I'.slot Φ.fx.nf
    have r:aZ s'.heap (cpl Φ.fx C x x' Φ.fx.nf) v:=r
    unfold cpl at r
    rw [if_pos rfl] at r
    exact ⟨v,r,trivial⟩
   refine ⟨m,zs,⟨fun b o e=>hk b o (fun q=>au (wr0 b q) e) (I'.base.stays b o e),I'.base.os,I'.base.gens⟩,fun b o e=>(kx b o e).step fun o' e'=>.of (hk b o' (fun q=>au (hwr b q) e) e'),hC0,hD0,hDC,hn.at' fun o e=>hk C o (fun q=>fpC C (F.sub C q) rfl) e,?_,vs,fR hD' fun o e=>hk D o wrD e,rz.map fun b o e _ n=>⟨fun q=>n ?_,hk b o (fun q=>n (.inl (wrX b q))) e⟩⟩
   ·have ec:K (zs++[]):=ec
    rwa [List.append_nil] at ec
   ·rcases q with q | rfl
    ·exact q.imp .inl fun q=>uy (X:=X) I₀ q
    ·exact .inr (.inl ⟨_,plC⟩)
  | some y=>
   have hil:=(List.getElem?_eq_some_iff.mp hx).1
   have ed:l.drop i=y :: l.drop (i+1):=by rw [List.drop_eq_getElem_cons hil]; congr 1; exact (List.getElem?_eq_some_iff.mp hx).2
   rw [ed] at ec
   refine kZ (F.turn (bad:=(Ct.mk cfx Φ.oa G').bad) hx st rv' (fun a q=>I'.badLive q) (fun b m=>.inl (wrX b m)) fun v h' tk st' hk rx=>?_)
   clear kZ
   refine ar fun Z kZ=>?_
   have I3:Inv ⟨cfx,Φ.oa,G'⟩ { s' with heap:=h',toks:=tk }:=Inv.others (Φ:=⟨cfx,Φ.oa,G'⟩) (Mo₂:=cfx.Mo) I' (fun b m=>I'.fr.not (F.live _ _ b st (F.sub b m))) hk wrX wr0 (fun a q=>q) fun a q=>by
    by_cases nw:a∈wr
    ·exact (F.live _ _ a st' (F.sub a nw)).live
    ·exact (I'.mo a q).elim fun o e=>⟨o,hk a o nw e⟩
   have mk3:cU (Ct.mk cfx Φ.oa Φ.G).bad (Ct.mk cfx Φ.oa Φ.G).bad s'.heap h':=fun b o e _ n=>⟨n,hk b o (fun m=>n (.inl (wrX b m))) e⟩
   have ec:okK (b Φ.G y) fun G₁=>_:=ec
   refine ag ec fun G₁ e₁ ec=>kZ (wpAny_mono (hT.2 C X G' G₁ v y _ I₀.ok.kind hoa I3 ((hG y).trans e₁) rx _) (fun _ s₄ q=>?_) fun _ _ z=>z)
   clear kZ
   refine ar fun Z kZ=>?_
   obtain ⟨I4,kC⟩:=q
   have mk4:cU (Ct.mk cfx Φ.oa Φ.G).bad (Ct.mk cfx Φ.oa Φ.G).bad h' s₄.heap:=fun b o e _ n=>⟨n,kC b o (fun q=>n (.inr (.inl ⟨_,q▸plC⟩))) e⟩
   have kx4:aG s₀.heap s₄.heap:=fun b o e=>(kx b o e).step fun o' e'=>.of (kC b o' (fun q=>au hC0 (q▸e)) (hk b o' (fun q=>au (hwr b q) e) e'))
   have st4:Sp (i+1) s₄.heap:=F.frame _ _ _ st' fun b hb o e=>kC b o (fpC b hb) e
   have rv4:=(rv'.map mk3).map mk4
   have rz4:=(rz.map mk3).map mk4
   have hD4:s₄.heap.PlainList D vs:=fR hD' fun o e=>kC D o hDC (hk D o wrD e)
   refine kZ (wpAny_mono (htest C X Φ.oa G₁ _ s₄ ec I4 _) (fun b' s₅ ⟨B5,k5,c5,hc5,e5⟩=>?_) fun _ _ z=>z)
   clear kZ
   refine ar fun Z kZ=>?_
   subst e5
   have I5:=I4.keep B5 k5
   have st5:Sp (i+1) s₅.heap:=F.frame _ _ _ st4 fun b hb o e=>k5.get e ((F.live _ _ b st4 hb).nf e)
   have hD5:s₅.heap.PlainList D vs:=fR hD4 fun o e=>k5.get e ((jD hD4).nf e)
   have hGs:∀ z,b G₁ z=b Φ.G z:=fun z=>hT.1 _ _ _ z e₁
   cases b' with
   | false=>exact kZ ⟨l.length - (i+1),Nat.sub_succ_lt_self _ _ hil,i+1,_,zs,vs,rfl,hil,st5,I5,hGs,kx4.trans k5,rv4.keep k5,hD5,rz4.keep k5,Nat.le_succ_of_le hz,hc5⟩
   | true=>
    refine kZ (wpAny_mono (helt C X Φ.oa G₁ _ s₅ hc5 I5 _) (fun yv s₆ ⟨B6,k6,z,hz6,rz6⟩=>?_) fun _ _ z=>z)
    clear kZ
    refine ar fun Z kZ=>?_
    have I6:=I5.keep B6 k6
    have hD6:s₆.heap.PlainList D vs:=fR hD5 fun o e=>k6.get e ((jD hD5).nf e)
    have rzs:=(rz4.keep k5).keep k6
    refine kZ (wpAny_list_append_plain (hsz:=cK (by rw [aO (Φ:=⟨cfx,Φ.oa,Φ.G⟩) rzs]; exact zB1 hz (zB1 hi hsz))) hD6 fun h₇ hD7 hs7=>?_)
    have k7:∀ b o,b∉[D]→s₆.heap.get? b=some o→h₇.get? b=some o:=fun b o n e=>hs7.extBut b o (fun q=>n (by rw [q]; exact .head _)) e
    have I7:Inv ⟨cfx,Φ.oa,G₁⟩ { s₆ with heap:=h₇,toks:=s₆.toks }:=Inv.others (Φ:=⟨cfx,Φ.oa,G₁⟩) (Mo₂:=cfx.Mo) I6 (fun b m=>by cases zA6 m; exact I6.fr.not (jD hD6)) k7 (fun b m=>by cases zA6 m; exact .inr (.inr rfl)) (fun b m=>by cases zA6 m; exact D0) (fun a q=>q) fun a q=>by
     by_cases nd:a=D
     ·subst nd; exact iL hD7
     ·exact (I6.mo a q).elim fun o e=>⟨o,hs7.extBut a o nd e⟩
    have mk7:cU (Ct.mk cfx Φ.oa Φ.G).bad (Ct.mk cfx Φ.oa Φ.G).bad s₆.heap h₇:=fun b o e _ n=>⟨n,hs7.extBut b o (fun q=>n (.inl (.inr (.inr q)))) e⟩
    refine ⟨l.length - (i+1),Nat.sub_succ_lt_self _ _ hil,i+1,_,zs++[z],vs.push yv,rfl,hil,F.frame _ _ _ st5 fun b hb o e=>hs7.extBut b o (fpD b hb) (k6.get e ((F.live _ _ b st5 hb).nf e)),I7,hGs,fun b o e=>(((kx4.trans k5).trans k6) b o e).step fun o' e'=>.of (hs7.extBut b o' (fun q=>au hD0 (q▸e)) e'),((rv4.keep k5).keep k6).map mk7,hD7,?_,by rw [zB5]; exact Nat.succ_le_succ hz,?_⟩
    ·rw [Array.toList_push]
     exact (rzs.map mk7).append (.cons (rz6.map mk7) .nil)
    ·have e:(fun ys=>K (zs++[z]++ys))=fun ys=>K (zs++(z :: ys)):=funext fun ys=>by rw [List.append_assoc]; rfl
     rw [e]; exact hz6
 exact codeAny_compStart_list loop (F.self 0 _ _ _ st1 loop)
end
theorem jF (ds:List D) (G:Gs):bJ ds G=bo (ds.map (· G)):=by
 induction ds with
 | nil=>rfl
 | cons d r ih=>exact funext fun f=>congrArg (d G) (funext fun x=>congrFun ih fun xs=>f (x :: xs))
theorem gL (b:Bool) (ds:List D) (G:Gs):cq b ds G=pf b (ds.map (· G)):=by
 induction ds with
 | nil=>rfl
 | cons d r ih=>exact funext fun f=>congrArg (d G) (funext fun x=>congrArg (okK (cG x some)) (funext fun c=>congrArg (fun z=>if c=b then z else f c) (congrFun ih f)))
section
variable {Φ:Ct} {scope:Scope} {x x':Str}
theorem mh (hk:fx.env.scope.kind=.function) (h:scope.names.lookup y=some .local):(aD fx scope C x x' X).env.kindOf y≠some .free:=by
 show (relabel scope fx.env).names.lookup y≠_
 rw [cN hk,relab_lookup,h]; exact nofun
theorem yP (h:fx.nf≤k) (ho:fx.pl k=.off) (q:(cpl fx C x x' k).addr=some b):b=C:=by
 rcases cpl_c fx C x x' k with ⟨_,e⟩ | ⟨_,_,e⟩ | ⟨_,e⟩ | e <;> rw [e] at q
 ·(injection q with q; subst q); rfl
 ·(injection q with q; subst q); rfl
 ·(injection q; done)
 ·rw [ho] at q; (injection q; done)
theorem Av (c:CompOk Φ.fx scope x x'):nA Φ scope (.Name x py) x x' (jS Φ.fx.nf):=by
 refine ⟨fun G y G₁ z e=>by (injection e with e; subst e); exact congrArg some (List.set_set ..),fun C X G G₁ v y s hk hoa I e r E=>?_⟩
 (injection e with e; subst e)
 refine wpAny_mono (ya (Φ:=⟨aD Φ.fx scope C x x' X,Φ.oa,G⟩) (k:=Φ.fx.nf) ⟨by refine (?_:((x,Φ.fx.nf) :: _).lookup x=_); rw [List.lookup_cons,beq_self_eq_true],mh hk c.loc⟩ I r E) (fun _ s' q=>?_) fun _ _ z=>z
 obtain ⟨I',_,k'⟩:=q
 rw [uv (Φ:=⟨aD Φ.fx scope C x x' X,Φ.oa,G⟩) (hoa _ (Nat.le_refl _))] at I'
 refine ⟨I',fun b o n e=>k' b o e fun q=>n ?_⟩
 have q:(cpl Φ.fx C x x' Φ.fx.nf).addr=some b:=q
 unfold cpl at q
 rw [if_pos rfl] at q
 (injection q with q; subst q); rfl
theorem CB {G:Gs} {k:Nat} (a b c d:Slot):(((G.set k a).set (k+1) b).set k c).set (k+1) d=(G.set k c).set (k+1) d:=by
 rw [List.set_comm _ _ (Nat.succ_ne_self k),List.set_set,List.set_set]
theorem Au [Hm Φ.fx] {kk:Nat} {p p1 p2:Pos} (c:CompOk Φ.fx scope x x') (hne:x'≠x) (ho:∀ k,Φ.fx.nf≤k→Φ.fx.pl k=.off):nA Φ scope (.Tuple [.Name x p1,.Name x' p2] kk p) x x' (aV [Φ.fx.nf,Φ.fx.nf+1]):=by
 refine ⟨fun G y G₁ z e=>?_,fun C X G G₁ v y s hk hoa I e r E=>?_⟩
 ·refine fv (C:=fun _ G₁=>aV [Φ.fx.nf,Φ.fx.nf+1] G₁ z=aV [Φ.fx.nf,Φ.fx.nf+1] G z) e fun xs hl=>?_
  obtain ⟨a,b,rfl⟩:∃ a b,xs=[a,b]:=by
   rcases xs with _ | ⟨a,_ | ⟨b,_ | _⟩⟩ <;> cases hl
   exact ⟨a,b,rfl⟩
  cases z with
  | tuple zs=>
   rcases zs with _ | ⟨c,_ | ⟨d,_ | _⟩⟩ <;> try rfl
   exact congrArg some (CB (.v a) (.v b) (.v c) (.v d))
  | _=>rfl
 ·have hb:(x'==x)=false:=by cases q:x'==x with | false=>rfl | true=>exact absurd (eq_of_beq q) hne
  have:Hm (aD Φ.fx scope C x x' X):=⟨Hm.no (fx:=Φ.fx)⟩
  refine wpAny_mono (AJ (Φ:=⟨aD Φ.fx scope C x x' X,Φ.oa,G⟩) (ks:=[Φ.fx.nf,Φ.fx.nf+1]) (.cons ⟨?_,mh hk c.loc⟩ (.cons ⟨?_,mh hk c.loc'⟩ .nil)) I e r E) (fun _ s' q=>?_) fun _ _ z=>z
  ·show ((x,Φ.fx.nf) :: _).lookup x=_; rw [List.lookup_cons,beq_self_eq_true]
  ·show ((x,Φ.fx.nf) :: (x',Φ.fx.nf+1) :: _).lookup x'=_; rw [List.lookup_cons,hb]; show List.lookup x' ((x',Φ.fx.nf+1) :: _)=_; rw [List.lookup_cons,beq_self_eq_true]
  ·obtain ⟨I',_,k'⟩:=q
   have eo:offs [Φ.fx.nf,Φ.fx.nf+1] Φ.oa=Φ.oa:=funext fun j=>by
    show (if j=Φ.fx.nf+1 then none else if j=Φ.fx.nf then none else Φ.oa j)=_
    by_cases h:j=Φ.fx.nf+1
    ·rw [if_pos h,h,hoa _ (Nat.le_succ _)]
    ·rw [if_neg h]
     by_cases h':j=Φ.fx.nf
     ·rw [if_pos h',h',hoa _ (Nat.le_refl _)]
     ·rw [if_neg h']
   rw [eo] at I'
   refine ⟨I',fun b o n e=>k' b o e fun j m q=>n ?_⟩
   rcases List.mem_cons.mp m with rfl | m
   ·exact yP (Nat.le_refl _) (ho _ (Nat.le_refl _)) q
   ·cases zA6 m
    exact yP (Nat.le_succ _) (ho _ (Nat.le_succ _)) q
end
section
variable {Φ:Ct} [Hm Φ.fx] {s s₀:Shared} {scope:Scope} {x x':Str}
theorem CompEnd.rp {K:List V→Prop} {D C:Addr} {s':Shared} (I₀:Inv Φ s₀) (ce:CompEnd Φ s₀ K D C s'):∃ ys,K ys∧Rp Φ.fx.g (fun b=>Φ.bad b∨b=C) s'.heap (.ref D) (.list ys):=by
 obtain ⟨m,ys,B,kx,hC0,hD0,hDC,hn,ky,vs,⟨c,hP⟩,rp⟩:=ce
 exact ⟨ys,ky,.list (fun q=>q.elim (fun q=>(I₀.badLive q).elim fun o e=>au hD0 e) hDC) hP ⟨rfl,rfl⟩ rfl rp⟩
theorem r9 {b:Gs→V→Option Gs} {ds:(List V→Prop)→Prop} (c:CompOk Φ.fx scope x x') (hT:nA Φ scope T x x' b) (hset:bx iter=true) (hsrc:eM Φ T false iter ds)
  (helt:∀ C X oa G,Ev ⟨aD Φ.fx scope C x x' X,oa,G⟩ (eval elt (aD Φ.fx scope C x x' X).env) (de G))
  (htest:∀ C X oa G,EvT ⟨aD Φ.fx scope C x x' X,oa,G⟩ (dP ifs (aD Φ.fx scope C x x' X).env) (cq true ts G)) :
  Ev Φ (eval (.ListComp elt [⟨T,iter,ifs,0⟩] scope pos) Φ.fx.env) (fun K=>ds fun xs=>jf de ts b Φ.G xs fun ys=>K (.list ys)):=fun K s hd I E=>by
 rw [eval_ListComp]
 refine wpAny_comprehension_free (use:=none) rfl (gJ hset) (jh c.cells) c.kind c.names (hsrc _ s hd I _ _ fun l s₀ it s₂ kl I₀ k₀ gr fa=>k8 (RR:=fun acc C=>compPost _ Φ.fx.A E none (Post Φ Φ.rp s K) acc C) c I₀ gr fa helt htest hT kl fun D C s' ce=>?_)
 obtain ⟨ys,ky,rp⟩:=ce.rp I₀
 obtain ⟨m,_,B,kx,hC0,_,_,hn,_⟩:=ce
 have h0:Φ.fx.g.h0.get? C=none:=aM (fun l=>I₀.base.stays.live l) hC0
 exact ⟨m,hn,fun h' hs=>⟨⟨fun b o e=>hs.extBut b o (fun q=>au h0 (q▸e)) (B.stays b o e),B.os,B.gens⟩,fun b o e=>((k₀.trans kx) b o e).step fun o' e'=>.of (hs.extBut b o' (fun q=>(k₀ b o e).live.elim fun o e=>au hC0 (q▸e)) e'),_,ky,rp.map fun b o e _ n=>⟨fun q=>n (.inl q),hs.extBut b o (fun q=>n (.inr q)) e⟩⟩⟩
noncomputable def yb (sc:List (Str×NameKind)) (scope:Scope) (y:Str) (py vp:Pos):Bool:=sc.lookup y==some .local&&py.line==vp.line&&!(scope.names.any fun (n,k)=>n==y&&(k==.local||k==.cell))
theorem q9 {fx:Fx} {elt:Expr} {gens:List Comprehension} {pos py:Pos} {y:Str} {n:Nat} (hk:fx.env.scope.kind=.function):swapsWith (.ListComp elt gens scope pos) (some (.Name y py)) n fx.env=pure (yb fx.env.scope.names scope y py pos):=by
 have hb:(fx.env.blockKind==ScopeKind.function)=true:=by unfold Env.blockKind; rw [hk]; rfl
 refine (?_:(pure (fx.env.blockKind==ScopeKind.function&&_&&_&&_):Sem Bool)=_)
 rw [hb]
 rfl
theorem iy {fx:Fx} [Hm fx] {elt iter T:Expr} {b:Gs→V→Option Gs} {ifs:List Expr} {pos py p' spos:Pos} {y:Str} {k:Nat} {ds:Gs→(List V→Prop)→Prop} {de:D} {ts:List D} (c:CompOk fx scope x x') (hTc:∀ oa G,nA ⟨fx,oa,G⟩ scope T x x' b) (hset:bx iter=true) (hsrc:∀ oa G,eM ⟨fx,oa,G⟩ T false iter (ds G))
  (helt:∀ C X oa G,Ev ⟨aD fx scope C x x' X,oa,G⟩ (eval elt (aD fx scope C x x' X).env) (de G))
  (htest:∀ C X oa G,EvT ⟨aD fx scope C x x' X,oa,G⟩ (dP ifs (aD fx scope C x x' X).env) (cq true ts G)) (hT:TgtOk fx.ρ fx.env y k) :
  ExB fx (exec (.Assign [.Name y p'] (.ListComp elt [⟨T,iter,ifs,0⟩] scope pos) spos) fx.env) (fun G K=>ds G fun xs=>jf de ts b G xs fun ys=>K none (G.set k (.v (.list ys)))):=fun oa G K s hd I=>by
 cases hsw:yb fx.env.scope.names scope y p' pos with
 | false=>exact k4 (fx:=fx) (d:=fun G K=>ds G fun xs=>jf de ts b G xs fun ys=>K (.list ys)) (by rw [q9 I.ok.kind,hsw]) hT (fun oa G=>r9 (Φ:=⟨fx,oa,G⟩) c (hTc oa G) hset (hsrc oa G) helt htest) oa G K s hd I
 | true=>
  rw [exec_Assign_Name_used _ _ _ _ ((q9 I.ok.kind).trans (by rw [hsw]))]
  refine zC1 (wpAny_standAt (zC1 ?_))
  show wpAny _ _ (do let _ ← comprehension (.ListComp elt [⟨T,iter,ifs,0⟩] scope pos) scope fx.env _ (newList []) false (eval iter fx.env) (some (assign (.Name y p') fx.env))) _ _ s
  refine zC1 (wpAny_mono (wpAny_comprehension_free (use:=some (assign (.Name y p') fx.env)) (Q:=fun _ s'=>PostS ⟨fx,oa,G⟩ s K .next s') (E:=PostX ⟨fx,oa,G⟩ s K) rfl (gJ hset) (jh c.cells) c.kind c.names ?_) (fun _ s' hq=>zC2 (wpAny_pure hq)) fun _ _ z=>z)
  refine hsrc oa G _ s hd I _ _ fun l s₀ it s₂ kl I₀ k₀ gr fa=>k8 (Φ:=⟨fx,oa,G⟩) (RR:=fun acc C=>compPost _ fx.A (PostX ⟨fx,oa,G⟩ s K) (some (assign (.Name y p') fx.env)) (fun _ s'=>PostS ⟨fx,oa,G⟩ s K .next s') acc C) c I₀ gr fa helt htest (hTc oa G) kl fun D C s' ce=>?_
  obtain ⟨ys,ky,rp⟩:=ce.rp I₀
  obtain ⟨m,_,B,kx,hC0,_,_,hn,_⟩:=ce
  have h0:fx.g.h0.get? C=none:=aM (fun l=>I₀.base.stays.live l) hC0
  have hCl:aQ s'.heap C:=by obtain ⟨o,_,_,e,_⟩:=hn; exact ⟨o,e⟩
  have I':Inv ((Ct.mk fx oa G).mo (·=C)) s':=I₀.more B kx (fun b q=>q▸hC0) fun b q=>q▸hCl
  show wpAny _ _ (assign (.Name y p') fx.env (.ref D)) _ _ _
  refine wpAny_mono (ya (Φ:=(Ct.mk fx oa G).mo (·=C)) hT I' (rp.map fun b o e _ n=>⟨fun q=>n (q.elim (fun q=>q.elim (fun q=>.inl (.inl q)) .inr) fun q=>.inl (.inr q)),e⟩) _) (fun _ s₅ ⟨I5,t5,k5⟩=>?_) fun _ _ z=>z
  have hpC:(fx.pl k).addr≠some C:=fun q=>(I₀.new C (.inl ⟨k,q⟩)).1.elim fun o e=>au hC0 e
  refine ⟨m,hn.at' fun o e=>k5 C o e hpC,fun h' hs=>?_⟩
  have kC:∀ b o,b∉[C]→s₅.heap.get? b=some o→h'.get? b=some o:=fun b o n e=>hs.extBut b o (fun q=>n (by rw [q]; exact .head _)) e
  have I6:=Inv.others (tk:=s₅.toks) (Φ:=((Ct.mk fx oa G).mo (·=C)).put k none (.v (.list ys))) (Mo₂:=fx.Mo) I5 (fun b m=>by cases zA6 m; exact I₀.fr.new hC0) kC (fun b m=>by cases zA6 m; exact .inr rfl) (fun b m=>by cases zA6 m; exact h0) (fun a q=>.inl q)
   fun a q=>(I5.mo a (.inl q)).elim fun o e=>⟨o,hs.extBut a o (fun z=>(I₀.mo a q).elim fun o e=>au hC0 (z▸e)) e⟩
  have t6:Tr ⟨fx,oa,G⟩ s₀ ((Ct.mk fx oa G).put k none (.v (.list ys))) s₅:=(Tr.of_keeps kx).trans (Tr.mo (Φ:=⟨fx,oa,G⟩) (Φ':=(Ct.mk fx oa G).put k none (.v (.list ys))) (X:=(·=C)) rfl t5)
  exact .next (Φ:=⟨fx,oa,G⟩) I6 ((Tr.of_keeps k₀).trans (t6.others (tk:=s₅.toks) kC fun b m=>by cases zA6 m; exact hC0)) ky
end
section
variable {Φ:Ct} {s:Shared} {v u:Value} {x y z:V} {d d1 d2 d3:DV}
theorem ji {γ δ:Type} {R:Heap→γ→δ→Prop} {K:δ→Prop} {K₁:Bool→Prop} {fin stop:Value→Sem γ} (hs:bx c=true) (h1:Ev Φ (eval a Φ.fx.env) d1) (h2:Ev Φ (eval b Φ.fx.env) d2) (h3:Ev Φ (eval c Φ.fx.env) d3)
  (hfin:∀ s b,Inv Φ s→K₁ b→Φ.wp (fin (.bool b)) (Post Φ R s K) s) (hstop:∀ s,Inv Φ s→K₁ false→Φ.wp (stop (.bool false)) (Post Φ R s K) s)
  (hd:d1 fun x=>d2 fun y=>okK (aU .LtE x y) fun t=>if t=true then d3 fun z=>okK (aU o y z) K₁ else K₁ false) (I:Inv Φ s):Φ.wp (do
  let x ← eval a Φ.fx.env
  let y ← holding [x] (eval b Φ.fx.env)
  standAt pos
  let t ← holding [x,y] (compareOp .LtE x y)
  release [x,y] [t]
  if ← holding [t,y] (truthy t) then (do
   let z ← holding [y] (markedBehindIn o c (eval c Φ.fx.env))
   standAt pos
   let u ← operate [y,z] (compareOp o y z)
   fin u) else stop t) (Post Φ R s K) s:=by
 rw [iR hs]
 refine h1.bind hd I fun v x s₁ I₁ k₁ hx r1=>h2.holding.bind hx I₁ fun u y s₂ I₂ k₂ hy r2=>a9 ?_
 refine ag hy fun t e kt E=>zC1 (wpAny_holding (wpAny_mono (qL (o:=.LtE) (c:=t) e I₂ (r1.keep k₂) r2 E) (fun w s' q=>?_) fun _ _ z=>z))
 obtain ⟨rfl,rfl⟩:=q
 refine zC1 (bT (zC1 (wpAny_holding (wpAny_truthy_bool ?_))))
 cases t with
 | false=>exact hstop _ I₂ kt E
 | true=>exact h3.holding.bind kt I₂ (fun w z s₃ I₃ k₃ hz r3=>ag hz fun c e kc=>a9 fun E=>zC1 (dx (fun E'=>wpAny_mono (qL (o:=o) e I₃ (r2.keep k₃) r3 E') (fun w s' q=>by obtain ⟨rfl,rfl⟩:=q; exact hfin _ _ I₃ kc E) fun _ _ z=>z) E)) E
theorem u4 (hs:bx c=true) (h1:Ev Φ (eval a Φ.fx.env) d1) (h2:Ev Φ (eval b Φ.fx.env) d2) (h3:Ev Φ (eval c Φ.fx.env) d3) :
  Ev Φ (eval (.Compare a [.LtE,o] [b,c] pos) Φ.fx.env) (fun K=>d1 fun x=>d2 fun y=>okK (aU .LtE x y) fun t=>if t=true then d3 fun z=>okK (aU o y z) fun u=>K (.bool u) else K (.bool false)):=fun K s hd I=>by
 have q:=ji (o:=o) (pos:=pos) (fin:=pure) (stop:=pure) (R:=Φ.rp) (K:=K) hs h1 h2 h3 (fun s b I k=>EvR.pure I k (.bool b)) (fun s I k=>EvR.pure I k (.bool _)) hd I
 simp only [bind_pure] at q
 exact q
theorem pz (hs:bx c=true) (h1:Ev Φ (eval a Φ.fx.env) d1) (h2:Ev Φ (eval b Φ.fx.env) d2) (h3:Ev Φ (eval c Φ.fx.env) d3) :
  EvT Φ (isTrue (.Compare a [.LtE,o] [b,c] pos) Φ.fx.env w) (fun K=>d1 fun x=>d2 fun y=>okK (aU .LtE x y) fun t=>if t=true then d3 fun z=>okK (aU o y z) fun u=>K u else K false):=fun K s hd I=>
 ji (o:=o) (pos:=pos) (fin:=fun c=>holding [c] (truthy c)) (stop:=fun _=>pure false) (R:=fun _=>Eq) (K:=K) hs h1 h2 h3 (fun s b I k E=>wpAny_holding (wpAny_truthy_bool ⟨I.base,.refl _,b,k,rfl⟩)) (fun s I k=>EvR.pure I k rfl) hd I
theorem oV {dd:V→Prop} {K:V→Prop} (hx:bn Φ.fx.env.scope.names f=true) (hF:bC.lookup f=some F) (hk:(∃ id,F=.builtin id)∨∃ T,F=.type T) (hp:ao e=true) (h:Ev Φ (eval e Φ.fx.env) d)
  (st:∀ s v x E,Inv Φ s→Φ.rp s.heap v x→dd x→wpAny (model Φ.fx.g.prog Φ.fx.g.w) Φ.fx.A (call F [v]) (g9 Φ s K) E s) (hd:d dd) (I:Inv Φ s):Φ.wp (eval (.Call (.Name f fp) [e] [] pos) Φ.fx.env) (g9 Φ s K) s:=fun E=>by
 refine (?_:wpAny _ _ (eval (.Name f fp) Φ.fx.env >>= fun F=>callWith pos F [] (backTo pos (starEach [e] Φ.fx.env)) []) _ _ s)
 refine zC1 (bB I hx hF ?_ E)
 have hp':(backTo pos (starEach [e] Φ.fx.env)).any (·.1)=false:=by rw [aK hp]; rfl
 have main:wpAny (model Φ.fx.g.prog Φ.fx.g.w) Φ.fx.A (evalArgs F true (backTo pos (starEach [e] Φ.fx.env)) []) (fun a s₁=>wpAny (model Φ.fx.g.prog Φ.fx.g.w) Φ.fx.A (call F ([]++a.pos) a.kw) (g9 Φ s K) E s₁) E s:=
  cY (qs:=[(e,d)]) (K:=fun xs=>okK (one xs some) dd) (fun q m=>by obtain rfl:=zA6 m; exact ⟨hp,h⟩) hd I fun vs xs s₁ I₁ k₁ hx rs=>ag hx fun x e hx=>dj (C:=fun vs=>wpAny _ _ (call F ([]++vs) []) _ _ s₁) e rs fun v x' r e=>by
   (injection e with e; subst e)
   exact wpAny_mono (st s₁ v _ E I₁ r hx) (fun _ _ p=>p.lift k₁) fun _ _ z=>z
 rcases hk with ⟨id,rfl⟩ | ⟨T,rfl⟩
 ·exact callWith_builtin hp' main
 ·exact PySem.callWith_type hp' main
theorem tu (hx:bn Φ.fx.env.scope.names "list"=true) (hp:ao e=true) (h:Ev Φ (eval e Φ.fx.env) d):EvN Φ (eval (.Call (.Name "list" fp) [e] [] pos) Φ.fx.env) (fun K=>d fun x=>okK (opN .listOf [x]) K):=fun K s hd I=>
 oV hx rfl (.inr ⟨_,rfl⟩) hp h (fun s v x E I r hx=>ag hx fun z e kz=>map_elim (C:=fun z=>K z→wpAny _ _ (call (.type "list") [v]) (g9 Φ s K) E s) e (fun l e kz=>wpAny_mono (w7 I e r E) (fun w s' q=>⟨⟨I.base.grown q.2.1,q.2.1.keeps,_,kz,q.2.2⟩,q.1▸eG (Nat.le_refl _)⟩) fun _ _ z=>z) kz) hd I
theorem wQ {vs:List Value} {ns:List Int} (z:IntsAre vs ns):Φ.rps h vs (ns.map .int):=by
 induction z with
 | nil=>exact .nil
 | cons n t hr ih=>exact .cons (.int n t) ih
theorem tr (hx:bn Φ.fx.env.scope.names "sorted"=true) (hp:ao e=true) (h:Ev Φ (eval e Φ.fx.env) d) :
  EvN Φ (eval (.Call (.Name "sorted" fp) [e] [] pos) Φ.fx.env) (fun K=>d fun x=>okK (fV x eI) fun is=>is.length < 64∧∀ r:List Int,r.Perm is→r.Pairwise (·≤·)→K (.list (r.map .int))):=fun K s hd I=>
 oV hx rfl (.inl ⟨_,rfl⟩) hp h (fun s v x E I r hx=>ag hx fun is e ⟨hz,hK⟩=>by
  refine bW (C:=fun x=>Φ.rp s.heap v x→wpAny _ _ (call (.builtin "sorted") [v]) _ E s) e (fun l e r=>?_) r
  refine r.list_elim fun a o vs n _ ha hc hd hl=>?_
  have hi:=i6 e hl
  refine sorted_ints (vs:=vs.toList) ⟨o,ha,hc.1,n,by rw [hd]⟩ hi (by rw [← hi.nums,zA4] at hz; exact hz) fun out ns' h1 h2 h3=>?_
  have k:aH s.heap (sortedAll s.heap vs.toList out):=fun b o e=>sortedAll_old e
  obtain ⟨ep,ho⟩:=sortedAll_at s.heap vs.toList out
  refine ⟨⟨I.base.grown (jI (tk:=s.toks) k),k.keeps,_,hK ns' h2 h3,.list (fun q=>?_) ho ⟨rfl,rfl⟩ rfl (wQ h1)⟩,eG (Nat.le_succ _)⟩
  obtain ⟨o',e'⟩:=I.badLive q
  exact absurd (Heap.lt_size e') (Nat.not_lt.mpr (Nat.le_succ _))) hd I
end
section
variable {Φ:Ct} {s:Shared} {d:DV}
theorem uZ (hn:Φ.fx.ρ.lookup n=some k) (ho:aR n=true) (h:Ev Φ (eval slice Φ.fx.env) d) :
  Ev Φ (eval (.Subscript (.Name n p) slice pos) Φ.fx.env) (fun K=>okK (bI Φ.G k) fun l=>d fun y=>okK (i5 l id y) K):=fun K s hd I=>ag hd fun l e hl E=>by
 rw [arm_eval_Subscript]
 refine zC1 (oz (sl:=.ownL l) hn ho I (cg e) id (fun a u ha ow=>?_) E)
 obtain ⟨rfl,o,vs,n,ho,hc,hd,hv⟩:=ow
 refine h.holding.bind hl I (fun u y s₁ I₁ k₁ hy r=>ag hy fun z ez kz=>step I₁ kz ?_) E
 have hL:s₁.heap.IsList a vs:=⟨_,k₁.get ho (aI hc.1),hc.1,_,hd⟩
 exact jA ⟨⟨_,_,hL.typeIs,slot_list_getitem.lookup⟩,rT ez hL (hv.keep k₁) r⟩
end
theorem RpAll.set:∀ {m:List V} {vs:List Value} {j:Nat},RpAll g bad h vs m→Rp g bad h v y→RpAll g bad h (vs.set j v) (m.set j y)
 | [],_,_,h,_=>by cases h; exact .nil
 | _ :: _,_,0,h,r=>by cases h with | cons a b=>exact .cons r b
 | _ :: _,_,j+1,h,r=>by cases h with | cons a b=>exact .cons a (RpAll.set b r)
theorem pI {E:Value→Shared→Prop} {Q:Unit→Shared→Prop} (ho:s.heap.get? l=some o) (hc:o.cls=.type "list"∧o.dict=none) (hd:o.data=.seq items n) (h0:0≤k) (hfit:k < 2 ^ 63) (hn:k < items.size)
  (hQ:∀ h' o' n',h'.get? l=some o'→(o'.cls=.type "list"∧o'.dict=none)→o'.data=.seq (items.setIfInBounds k.toNat v) n'→Heap.SameBut l s.heap h'→Q () { s with heap:=h' }) :
  wpAny (model prog w) A (setItem (.ref l) (.int k t) v) Q E s:=by
 have hL:s.heap.IsList l items:=⟨o,ho,hc.1,n,hd⟩
 unfold setItem
 try with_reducible refine wpAny_holding ?_
 first | refine zC1 (zC2 ?_) | skip
 refine zC1 (wpAny_sequenceKey hL.typeIs (by decide) ?_)
 refine zC1 (wpAny_callSpecial?_slot (name:=Str.ofString "__setitem__") hL.typeIs slot_list_setitem
  (wpAny_call_entry slot_list_setitem hL.typeIs entry_list_setitem ?_ (args_list_setitem _ _ _)))
 refine (?_:wpAny _ _ (Builtin.List.listSubscript? (.int k t) >>= _) _ _ s)
 refine zC1 (wpAny_listSubscript_int (fitsIndex_of h0 hfit) ?_)
 clear hfit
 obtain ⟨j,rfl⟩:=Int.eq_ofNat_of_zero_le h0
 have hj:j < items.size:=Int.ofNat_lt.mp hn
 have hx':items[j]?=some items[j]:=Array.getElem?_eq_getElem hj
 refine (?_:wpAny _ _ ((seqItemAt l j >>= fun r=>pure (r.map (j,·))) >>= _) _ _ s)
 refine zC1 (zC1 (wpAny_seqItemAt ho hd (zC2 ?_)))
 rw [hx']
 refine (?_:wpAny _ _ (setSeqItemAt l j v >>= _) _ _ s)
 obtain ⟨n',hd'⟩:=Obj.data_mapSeq hd (·.setIfInBounds j v)
 refine zC1 (wpAny_setSeqItemAt ho hd ?_)
 have z:=hQ _ _ n' (Heap.get?_update_self _ ho (Obj.isFreed_of_seq hd')) ⟨(Obj.cls_mapSeq ..).trans hc.1,(dZ ..).trans hc.2⟩ hd' (Heap.SameBut.update ..)
 first
  | exact zC1 (zC2 (zC2 ⟨.none,rfl,wpAny_pure z⟩))
  | exact zC2 ⟨.none,rfl,wpAny_pure z⟩
section
variable {fx:Fx}
theorem xE (hT:TgtOk fx.ρ fx.env n k):ExB fx (exec (.Assign [.Name n py] (.Dict [] [] pos) spos) fx.env) (fun G K=>K none (G.set k (.ownD []))):=fun oa G K s hd I=>by
 rw [exec_Assign_Name _ _ _ _ _ (b8 rfl)]
 refine zC1 (wpAny_standAt (zC1 (wpAny_Dict_empty ?_)))
 have gr:=Grown.push s { cls:=.type "dict",data:=.dict #[] } s.toks
 have hD:s.heap.get? s.heap.objs.size=none:=ak _
 refine zC1 (wpAny_standAt (zC1 (wpAny_bindName (rk (a:=s.heap.objs.size) (sl:=.ownD []) hT I (I.base.grown gr) gr.keeps hD ⟨_,Heap.get?_push_size _ rfl⟩ (fun _ q=>nomatch q) (fun q=>nomatch q) id (fun h' kp=>?_) (fun s' I' t'=>zC2 (.next I' t' hd)) _))))
 have nb:¬ (Ct.mk fx oa G).own s.heap.objs.size:=fun q=>I.fresh (.inr q)
 exact ⟨rfl,_,#[],0,kp _ _ (Heap.get?_push_size _ rfl) nb,⟨rfl,rfl,rfl⟩,rfl,⟨rfl,List.nodup_nil,rfl⟩,.nil,.nil⟩
theorem xz {n:Str} {k:Nat} {np sp spos:Pos} {ei ev:Expr} {d1 d2:Gs→DV} (hx:fx.ρ.lookup n=some k) (hn:aR n=true) (hs:bQ ev=true) (h1:∀ oa G,Ev ⟨fx,oa,G⟩ (eval ev fx.env) (d1 G)) (h2:∀ oa G,Ev ⟨fx,oa,G⟩ (eval ei fx.env) (d2 G)) :
  ExB fx (exec (.Assign [.Subscript (.Name n np) ei sp] ev spos) fx.env) (fun G K=>okK (iP G k) fun l=>d1 G fun y=>d2 G fun x=>okK (if (dC x&&decide (l.length < am))=true then some (rm l x y) else none) fun l'=>K none (G.set k (.ownD l'))):=fun oa G K s hd I=>ag hd fun l el hd=>by
 rw [exec_Assign_Subscript _ _ _ _ _ (b8 hs)]
 refine zC1 (wpAny_standAt (zC1 (wpAny_mono (h1 oa G _ s hd I _) (fun v1 s₁ ⟨B1,k1,y,hy,r1⟩=>?_) fun _ _ z=>z)))
 have I1:=I.keep B1 k1
 rw [assign_Subscript]
 obtain ⟨a,u,ha,pr,rfl,o,es,m,ho,hc,hdd,hk,q1,q2⟩:=eQ (Φ:=⟨fx,oa,G⟩) I1 (kN el) id
 refine zC1 (zC1 (wpAny_holding (bZ (Φ:=⟨fx,oa,G⟩) I1.ok hx hn pr ?_ _)))
 refine zC1 (wpAny_holding (wpAny_mono (h2 oa G _ s₁ hy I1 _) (fun v2 s₂ ⟨B2,k2,x,hxx,r2⟩=>?_) fun _ _ z=>z))
 have I2:=I1.keep B2 k2
 refine ag hxx fun l2 e2 kz=>?_
 refine bi e2 fun hf e2=>?_
 obtain rfl:=Option.some.inj e2
 have hf:=zA2 hf
 obtain ⟨c,rfl⟩:=lM r2 hf.1
 have ho2:=k2.get ho (aI hc.1)
 obtain ⟨xs,D,En⟩:=DAt.dk (bad:=(Ct.mk fx oa G).bad) ⟨rfl,o,es,m,ho2,hc,hdd,hk,q1.keep k2,q2.keep k2⟩
 refine zC1 (wpAny_standAt (zC1 (wpAny_holding (@wpAny_setItem_heap _ _ V fC (iY fx.g.prog fx.g.w) _ _ _ _ _ _ _ _ _ (Inv.room3 (Φ:=⟨fx,oa,G⟩) I) (KIs.of hf.1 r2) D (fun h' D' sb=>bT (zC2 ?_)) (cK (by rw [En.length]; exact Nat.le_of_lt (of_decide_eq_true hf.2)))))))
 have mk:cU (Ct.mk fx oa G).bad (Ct.mk fx oa G).bad s₂.heap h':=fun b o e _ nb=>⟨nb,sb.extBut b o (fun q=>nb (.inr (.inr ⟨k,q▸ha⟩))) e⟩
 have dn:=DAt.of D' ((En.map mk).put hf.1 (r2.map mk) ((r1.keep k2).map mk))
 have q:=Inv.mutate (Φ:=⟨fx,oa,G⟩) (sl:=.ownD (rm l x y)) (tk:=s₂.toks+AS x) I2 ha (pr.keep k2) ⟨o,ho2,aI hc.1⟩ sb (dn.casesOn fun _ o _ _ ho _ _ _ _ _=>⟨o,ho⟩) dn (fun _ q=>nomatch q) (fun q=>nomatch q) fun q=>q.elim
 exact .next (Φ:=⟨fx,oa,G⟩) q.1 ((Tr.of_keeps (k1.trans k2)).trans q.2) kz
theorem xy {ei ev:Expr} {d1 d2:Gs→DV} (hx:fx.ρ.lookup n=some k) (hn:aR n=true) (hs:bQ ev=true) (h1:∀ oa G,Ev ⟨fx,oa,G⟩ (eval ev fx.env) (d1 G)) (h2:∀ oa G,Ev ⟨fx,oa,G⟩ (eval ei fx.env) (d2 G)) :
  ExB fx (exec (.Assign [.Subscript (.Name n np) ei sp] ev spos) fx.env) (fun G K=>okK (bI G k) fun l=>d1 G fun v=>d2 G fun y=>okK (kX y fun i=>if 0≤i∧i < l.length∧l.length≤am then some (l.set i.toNat v) else none) fun l'=>K none (G.set k (.ownL l'))):=fun oa G K s hd I=>ag hd fun l el hd=>by
 rw [exec_Assign_Subscript _ _ _ _ _ (b8 hs)]
 refine zC1 (wpAny_standAt (zC1 (wpAny_mono (h1 oa G _ s hd I _) (fun v1 s₁ ⟨B1,k1,y,hy,r1⟩=>?_) fun _ _ z=>z)))
 have I1:=I.keep B1 k1
 rw [assign_Subscript]
 obtain ⟨a,u,ha,pr,rfl,o,vs,m,ho,hc,hdd,hl⟩:=eQ (Φ:=⟨fx,oa,G⟩) I1 (cg el) id
 refine zC1 (zC1 (wpAny_holding (bZ (Φ:=⟨fx,oa,G⟩) I1.ok hx hn pr ?_ _)))
 refine zC1 (wpAny_holding (wpAny_mono (h2 oa G _ s₁ hy I1 _) (fun v2 s₂ ⟨B2,k2,x,hxx,r2⟩=>?_) fun _ _ z=>z))
 have I2:=I1.keep B2 k2
 refine ag hxx fun l2 e2 kz=>?_
 refine bv (C:=fun x=>(Ct.mk fx oa G).rp s₂.heap v2 x→_) e2 (fun i e2 r2=>?_) r2
 refine bi e2 fun hf e2=>?_
 obtain rfl:=Option.some.inj e2
 refine r2.int_elim fun t=>?_
 have len:vs.size=l.length:=aO (Φ:=⟨fx,oa,G⟩) hl
 have ho2:=k2.get ho (aI hc.1)
 refine zC1 (wpAny_standAt (zC1 (wpAny_holding (pI ho2 hc hdd hf.1 (Int.lt_of_lt_of_le hf.2.1 (Int.le_trans (Int.ofNat_le.mpr hf.2.2) (by decide))) (by rw [len]; exact hf.2.1) fun h' o' n' ho' hc' hd' sb=>bT (zC2 ?_)))))
 have mk:cU (Ct.mk fx oa G).bad (Ct.mk fx oa G).bad s₂.heap h':=fun b o e _ nb=>⟨nb,sb.extBut b o (fun q=>nb (.inr (.inr ⟨k,q▸ha⟩))) e⟩
 have q:=Inv.mutate (Φ:=⟨fx,oa,G⟩) (sl:=.ownL (l.set i.toNat y)) (tk:=s₂.toks) I2 ha (pr.keep k2) ⟨o,ho2,aI hc.1⟩ sb ⟨_,ho'⟩ ⟨rfl,o',_,n',ho',hc',hd',by rw [Array.toList_setIfInBounds]; exact ((hl.keep k2).map mk).set ((r1.keep k2).map mk)⟩ (fun _ q=>nomatch q) (fun q=>nomatch q) fun q=>q.elim
 exact .next (Φ:=⟨fx,oa,G⟩) q.1 ((Tr.of_keeps (k1.trans k2)).trans q.2) kz
end
section
variable {prog:Program} {w:World} {A:Around} {E:Value→Shared→Prop} {s:Shared}
theorem pP {α:Type} {l m:List α} (hl:l.length=m.length) (h:∀ (j:Nat) v,l[j]?=some v→m[j]?=some v):l=m:=by
 refine List.ext_getElem? fun j=>?_
 cases e:l[j]? with
 | some v=>exact (h j v e).symm
 | none=>exact (List.getElem?_eq_none (hl▸List.getElem?_eq_none_iff.mp e)).symm
theorem qm {R:Result→Shared→Prop} {D X:Addr} {T:String} {c:Nat} {res:Value} (C:List Value→Prop) (hh:A.handled=none) (hD:s.heap.get? D=some { cls:=.type "list",dict:=none,data:=.seq #[] c,slots:=#[] }) (hne:D≠X) (hT:T="set"∨T="dict_values") (hty:s.TypeIs (.ref X) T)
  (hhint:∀ (s':Shared) (Q:Bool→Shared→Prop) (E:Value→Shared→Prop),aH s.heap s'.heap→Q false s'→wpAny (model prog w) A.in1 (Builtin.List.listLengthHint (.ref X)) Q E s')
  (hit:∀ (Q:Value→Shared→Prop) (E:Value→Shared→Prop),(∀ (ord:List Value) I fp wr St h' d,C ord→ord.length≤sizeLine→aH s.heap h'→(∀ b∈wr,s.heap.get? b=none)→D∉fp→Walks prog w A.in1 I fp wr ord.length (fun i v=>ord[i]?=some v) St→St 0 h'→Q (.ref I) { s with heap:=h',drawn:=d })→wpAny (model prog w) A.in1 (pyIter (.ref X)) Q E s)
  (hR:∀ (out:List Value) h' d tk c',C out→(∀ b o,b≠D→s.heap.get? b=some o→h'.get? b=some o)→h'.get? D=some { cls:=.type "list",dict:=none,data:=.seq out.toArray c',slots:=#[] }→R (.ok (.ret res)) { s with heap:=h',drawn:=d,toks:=tk }) :
  wpAny (model prog w) A.in1 (Builtin.List.listExtendWith (.ref D) (.ref X) res) (fun fin s'=>match fin with | .done f=>R (.ok f) s' | .again c'=>c'.quiet=true∧codeAny (model prog w) A c' R s') (fun e s'=>R (.error e) s') s:=by
 unfold Builtin.List.listExtendWith
 refine zC1 (wpAny_typeOf hty ?_)
 have h1:Builtin.List.listSameRef (.ref D) (.ref X)=false:=by simp [Builtin.List.listSameRef,hne]
 have h2:(Value.type T==Value.type "list")=false:=by rcases hT with rfl | rfl <;> decide
 have h3:(Value.type T==Value.type "tuple")=false:=by rcases hT with rfl | rfl <;> decide
 simp only [h1,h2,h3,Bool.or_false,Bool.false_eq_true,if_false]
 refine zC1 (hit _ _ fun ord I fp wr St h' d hC hz k hw hf W hst=>?_)
 refine zC1 (wpAny_holding (hhint _ _ _ k ?_))
 rw [if_pos (by rcases hT with rfl | rfl <;> decide)]
 refine zC1 (wpAny_rule (zC1 ?_))
 have hS1:=k _ _ hD
 refine (?_:wpAny _ A.in1 (updateSeq D (·.push .none) >>= fun _=>updateSeq D (·.pop)) _ _ _)
 refine zC1 (wpAny_updateSeq hS1 rfl ?_)
 have hS2:=Heap.get?_update_self (Obj.mapSeq (·.push Value.none)) hS1 rfl
 refine wpAny_updateSeq hS2 rfl ?_
 have hS3:=Heap.get?_update_self (Obj.mapSeq (·.pop)) hS2 rfl
 have oth:∀ b ob,b≠D→h'.get? b=some ob→((h'.update D (Obj.mapSeq (·.push Value.none))).update D (Obj.mapSeq (·.pop))).get? b=some ob:=
  fun b ob hb e=>(Heap.get?_update_other _ _ (Ne.symm hb)).trans ((Heap.get?_update_other _ _ (Ne.symm hb)).trans e)
 refine zC2 ⟨plainId_quiet PySem.F.plain_extend_loop _,codeAny_extend_loopS W.toS hz _ hf _ ord.length 0 _ _ _ rfl (Nat.zero_le _) (W.frame 0 _ _ hst fun b hb ob e=>oth b ob (fun q=>hf (q▸hb)) e) hS3 (ItemsOf.nil _) fun s' acc' c' hm hS' hacc=>?_⟩
 have e1:acc'.toList=ord:=pP (by rw [zB3,hacc.1]) fun j v e=>hacc.2 j v (Array.getElem?_toList▸e)
 obtain ⟨hp,gs,dr,tk,os⟩:=s'
 obtain ⟨m1,m2,m3,m4,m5⟩:=hm
 subst m2; cases m3; subst m4
 refine hR ord hp d tk c' hC (fun b ob q e=>m1 b ob (fun q'=>?_) (oth b ob q (k _ _ e))) (by subst e1; exact hS')
 rcases List.mem_cons.mp q' with q' | q'
 ·exact q q'
 ·have:=hw b q'; rw [e] at this; (injection this; done)
end
theorem xd {items:Array Value} {ws:List Value} (hx:items.toList=ws++[x]):items.isEmpty=false∧((seqIndex? (-1) items.size).bind fun k=>items[k]?.map (k,·))=some (ws.length,x)∧items.eraseIdxIfInBounds ws.length=ws.toArray:=by
 obtain ⟨l⟩:=items
 obtain rfl:l=ws++[x]:=hx
 have hs:(Array.mk (ws++[x])).size=ws.length+1:=List.length_append
 refine ⟨?_,?_,?_⟩
 ·cases ws <;> rfl
 ·rw [hs,show seqIndex? (-1) (ws.length+1)=some ws.length from jH (.inr ⟨by decide,by lia,by lia⟩) (Nat.lt_succ_self _),Option.bind_some]
  refine (?_:Option.map _ ((ws++[x]).toArray[ws.length]?)=_)
  rw [List.getElem?_toArray,List.getElem?_append_right (Nat.le_refl _),Nat.sub_self]; rfl
 ·refine (?_:(ws++[x]).toArray.eraseIdxIfInBounds ws.length=_)
  rw [List.eraseIdxIfInBounds_toArray,List.eraseIdx_append_of_length_le (Nat.le_refl _),Nat.sub_self]
  exact congrArg _ (List.append_nil _)
theorem zt {E:Value→Shared→Prop} {items:Array Value} {ws:List Value} {n:Nat} {Q:Value→Shared→Prop} (ho:s.heap.get? l=some o) (hc:o.cls=.type "list"∧o.dict=none) (hd:o.data=.seq items n) (hx:items.toList=ws++[x]) (hsz:items.size≤sizeLine)
  (hQ:∀ h' o' n',h'.get? l=some o'→o'.cls=.type "list"∧o'.dict=none→o'.data=.seq ws.toArray n'→Heap.SameBut l s.heap h'→Q x { s with heap:=h' }):wpAny (model prog w) A (call (.builtin "list.pop") [.ref l]) Q E s:=by
 refine (xd hx).elim fun h1 Zq5=>Zq5.elim fun h2 h3=>?_
 refine wpAny_call_entry F.slot_list_pop ⟨o,ho,hc.1⟩ F.entry_list_pop ?_ (F.args_list_pop_1 _)
 refine (?_:wpAny _ _ (Builtin.List.listItems (.ref l) >>= _) _ _ s)
 refine zC1 (listItems_at ho hd ?_)
 refine bw (by exact h1.symm▸Bool.false_ne_true) ?_
 refine h2.symm▸?_
 refine (Obj.data_mapSeq hd (·.eraseIdxIfInBounds ws.length)).elim fun n' hd'=>?_
 rw [h3] at hd'
 exact zC1 (listUpdate_at ho hd (zC2 ⟨x,rfl,hQ _ _ n' (Heap.get?_update_self _ ho (Obj.isFreed_of_seq hd')) ⟨(Obj.cls_mapSeq ..).trans hc.1,(dZ ..).trans hc.2⟩ hd' (Heap.SameBut.update ..)⟩) hsz (h3.symm▸by rw [List.size_toArray]; rw [← zB3,hx,zB5] at hsz; exact zB1 (Nat.le_add_right _ _) (Nat.le_succ_of_le hsz)))
section
variable {M:Model} {A:Around} {E:Value→Shared→Prop} {s:Shared} {env:Env} {pos:Pos} {Q:List Value→Shared→Prop}
theorem nX (hp:ao e=true) (h:wpAny M A (eval e env) (fun v s₁=>wpAny M A (spliced (backTo pos (starEach r env))) (fun vs s₂=>Q (v :: vs) s₂) E s₁) E s):wpAny M A (spliced (backTo pos (starEach (e :: r) env))) Q E s:=by
 refine (aK hp).symm▸?_
 have q:spliced (backTo pos ((false,eval e env) :: starEach r env))=(eval e env >>= fun v=>holding [v] (spliced (backTo pos (starEach r env))) >>= fun vs=>pure (v :: vs)):=rfl
 exact q.symm▸zC1 (wpAny_mono h (fun v s₁ p=>zC1 (wpAny_holding (wpAny_mono p (fun vs s₂ p=>wpAny_pure p) fun _ _ z=>z))) fun _ _ z=>z)
end
section
variable {Φ:Ct} {pos:Pos} {E:Value→Shared→Prop}
theorem lH:∀ {qs:List (Expr×DV)} {K:List V→Prop} {s:Shared} {Q:List Value→Shared→Prop},(∀ q∈qs,ao q.1=true∧be Φ q)→bo (qs.map Prod.snd) K→Inv Φ s →
  (∀ vs xs s₁,Inv Φ s₁→aG s.heap s₁.heap→K xs→Φ.rps s₁.heap vs xs→wpAny (model Φ.fx.g.prog Φ.fx.g.w) Φ.fx.A (spliced (backTo pos (starEach r Φ.fx.env))) (fun ws s₂=>Q (vs++ws) s₂) E s₁) →
  wpAny (model Φ.fx.g.prog Φ.fx.g.w) Φ.fx.A (spliced (backTo pos (starEach (qs.map Prod.fst++r) Φ.fx.env))) Q E s
 | [],K,s,Q,_,hd,I,h=>h [] [] s I (.refl _) hd .nil
 | q :: qs,K,s,Q,hq,hd,I,h=>nX (hq q (.head _)).1 (wpAny_mono ((hq q (.head _)).2 _ s hd I E) (fun v s₁ ⟨B,k₁,x,hx,rx⟩=>lH (fun q m=>hq q (.tail _ m)) hx (I.keep B k₁) fun vs xs s₂ I₂ k₂ hk rs=>h (v :: vs) (x :: xs) s₂ I₂ (k₁.trans k₂) hk (.cons (rx.keep k₂) rs)) fun _ _ z=>z)
theorem RpAll.snoc:∀ {m:List V} {vs:List Value},RpAll g bad h vs (m++[y])→∃ ws v,vs=ws++[v]∧RpAll g bad h ws m∧Rp g bad h v y:=by
 intro m
 induction m with
 | nil=>
  intro vs r
  cases r with
  | cons r rs=>cases rs with
   | nil=>exact ⟨[],_,rfl,.nil,r⟩
 | cons x m ih=>
  intro vs r
  cases r with
  | cons r rs=>
   refine (ih rs).elim fun ws Zq6=>Zq6.elim fun v Zq7=>Zq7.elim fun e Zq8=>Zq8.elim fun r1 r2=>?_
   exact ⟨_ :: ws,v,congrArg (_ :: ·) e,.cons r r1,r2⟩
theorem wR (hk:Φ.oa k=some a):(Φ.put k (some a) sl).bad=Φ.bad:=by
 have eo:(Φ.put k (some a) sl).oa=Φ.oa:=funext fun j=>(Classical.em (j=k)).elim (fun e=>(if_pos e).trans (e▸hk.symm)) fun e=>if_neg e
 unfold Ct.bad Ct.own; rw [eo]; rfl
theorem zr (hx:Φ.fx.ρ.lookup n=some k) (hn:aR n=true) (hline:(apos.endLine==ppos.line)=true) (I:Inv Φ s) (el:bI Φ.G k=some l) (hz:l.length≤am) (ey:l.getLast?=some y)
  (h:∀ a v s',Φ.oa k=some a→Inv (Φ.put k (some a) (.ownL l.dropLast)) s'→Tr Φ s (Φ.put k (some a) (.ownL l.dropLast)) s'→Φ.rp s'.heap v y→Q v s'):wpAny (model Φ.fx.g.prog Φ.fx.g.w) Φ.fx.A (eval (.Call (.Attribute (.Name n np) "pop" apos) [] [] ppos) Φ.fx.env) Q E s:=by
 obtain ⟨a,u,ha,pr,rfl,o,vs,m,ho,hc,hd',hl⟩:=eQ I (cg el) id
 refine wpAny_Call_method (T:="list") (id:="list.pop") (b0 rfl) rfl hline PySem.F.plainAttrs_list F.slot_list_pop F.type_list_pop (bZ I.ok hx hn pr ⟨⟨o,ho,hc.1⟩,fun a q=>by (injection q with q; subst q); exact ⟨o,ho,hc.2⟩,?_⟩ _)
 refine callWith_builtin rfl (PySem.evalArgs_none ?_)
 have hsz:=aO hl
 obtain ⟨m',rfl⟩:=List.getLast?_eq_some_iff.mp ey
 obtain ⟨ws,v,ev,r1,r2⟩:=hl.snoc
 replace h:=List.dropLast_concat▸h
 refine zt ho hc hd' ev (hsz▸cK hz) fun h' o' n' ho' hc' hd'' hs=>?_
 have mk:cU Φ.bad Φ.bad s.heap h':=fun b o e _ nb=>⟨nb,hs.extBut b o (fun q=>nb (.inr (.inr ⟨k,q▸ha⟩))) e⟩
 have q:=Inv.mutate (sl:=.ownL m') (tk:=s.toks) I ha pr ⟨o,ho,aI hc.1⟩ hs ⟨_,ho'⟩ ⟨rfl,o',_,n',ho',hc',hd'',by rw [List.toList_toArray]; exact r1.map mk⟩ (fun _ q=>nomatch q) (fun q=>nomatch q) fun q=>q.elim
 exact h a v _ ha q.1 q.2 (r2.map mk)
end
section
variable {fx:Fx}
theorem wS {oa:Nat→Option Addr} {k:Nat} {q1:List (Expr×DV)} {q2:Gs→List (Expr×DV)} {es:List Expr} {K:Gs→List V→Prop} {Q:List Value→Shared→Prop} {E:Value→Shared→Prop} (hx:fx.ρ.lookup n=some k) (hn:aR n=true) (hline:(apos.endLine==ppos.line)=true)
  (hq1:∀ q∈q1,ao q.1=true∧be ⟨fx,oa,G⟩ q) (he:∀ G,(q2 G).map Prod.fst=es) (hq2:∀ oa G,∀ q∈q2 G,ao q.1=true∧be ⟨fx,oa,G⟩ q)
  (hd:bo (q1.map Prod.snd) fun xs=>okK (bI G k) fun l=>l.length≤am∧okK l.getLast? fun y=>bo ((q2 (G.set k (.ownL l.dropLast))).map Prod.snd) fun zs=>K (G.set k (.ownL l.dropLast)) (xs++y :: zs)) (I:Inv ⟨fx,oa,G⟩ s)
  (h:∀ oa' G' vs xs s',Inv ⟨fx,oa',G'⟩ s'→Tr ⟨fx,oa,G⟩ s ⟨fx,oa',G'⟩ s'→K G' xs→(Ct.mk fx oa' G').rps s'.heap vs xs→Q vs s') :
  wpAny (model fx.g.prog fx.g.w) fx.A (spliced (backTo pos (starEach (q1.map Prod.fst++.Call (.Attribute (.Name n np) "pop" apos) [] [] ppos :: es) fx.env))) Q E s:=by
 refine lH (Φ:=⟨fx,oa,G⟩) hq1 hd I fun vs xs s₁ I₁ k₁ hk rs=>ag hk fun l el hl=>ag hl.2 fun y ey hy=>?_
 refine nX rfl (zr (Φ:=⟨fx,oa,G⟩) hx hn hline I₁ el hl.1 ey fun a v s₂ ha I₂ t₂ r=>?_)
 refine (he (G.set k (.ownL l.dropLast)))▸(List.append_nil ((q2 _).map Prod.fst))▸?_
 refine lH (Φ:=(Ct.mk fx oa G).put k (some a) (.ownL l.dropLast)) (hq2 _ _) hy I₂ fun ws zs s₃ I₃ k₃ hz rz=>zC2 ?_
 rw [List.append_nil]
 refine h _ _ (vs++v :: ws) (xs++y :: zs) s₃ I₃ (((Tr.of_keeps k₁).trans t₂).trans (Tr.of_keeps k₃)) hz (((rs.map t₂.mapK).keep k₃).append (.cons ?_ rz))
 have r:=r.keep k₃
 unfold Ct.rp at r
 rw [← wR (sl:=.ownL l.dropLast) ha] at r
 exact r
theorem u9 {E:Value→Shared→Prop} {Q:Args→Shared→Prop} (hp:ao e=true) (it:wpAny M A (spliced (backTo pos (starEach (e :: r) env))) (fun vs s₁=>Q ⟨vs,[]⟩ s₁) E s):wpAny M A (evalArgs F true (backTo pos (starEach (e :: r) env)) []) Q E s:=by
 rw [aK hp] at it ⊢
 obtain ⟨l,hl⟩:∃ l,backTo pos ((false,eval e env) :: starEach r env)=(false,eval e env) :: l:=by
  cases starEach r env <;> exact ⟨_,rfl⟩
 rw [hl] at it ⊢
 exact Calls.evalArgs_plain it
theorem xS {oa:Nat→Option Addr} {oa₀:Nat→Option Addr} {K:Option V→Gs→Prop} {E:Value→Shared→Prop} (hT:TgtOk fx.ρ fx.env x j) (I:Inv ⟨fx,oa,G⟩ s) (t:Tr ⟨fx,oa₀,G₀⟩ s₀ ⟨fx,oa,G⟩ s) (r:(Ct.mk fx oa G).rp s.heap v z) (hk:K none (G.set j (.v z))) :
  wpAny (model fx.g.prog fx.g.w) fx.A (do standAt p; bindName fx.env x v; pure Flow.next) (PostS ⟨fx,oa₀,G₀⟩ s₀ K) E s:=by
 refine zC1 (wpAny_standAt (zC1 (wpAny_bindName (d4 (Φ:=⟨fx,oa,G⟩) I hT.lk hT.nf (fun h' tk ps=>zC2 ?_) _))))
 have q:=iK (Φ:=⟨fx,oa,G⟩) (tk:=tk) I ps r
 exact .next (Φ:=⟨fx,oa₀,G₀⟩) q.1 (t.trans q.2) hk
theorem xC {j k f:Nat} {d1:Gs→DV} {q2:Gs→List (Expr×DV)} {es:List Expr} (hT:TgtOk fx.ρ fx.env x j) (hg:bn fx.env.scope.names fnm=true) (hf:fx.g.fns.lookup fnm=some f) (hfn:keepIn fx.g.K (.ref (fx.g.fn f))=true) (hsf:fx.hm=true→fx.g.safe f=true)
  (hx:fx.ρ.lookup n=some k) (hn:aR n=true) (hline:(apos.endLine==ppos.line)=true) (hp:ao e1=true) (h1:∀ oa G,Ev ⟨fx,oa,G⟩ (eval e1 fx.env) (d1 G)) (he:∀ G,(q2 G).map Prod.fst=es) (hq2:∀ oa G,∀ q∈q2 G,ao q.1=true∧be ⟨fx,oa,G⟩ q) :
  ExB fx (exec (.Assign [.Name x py] (.Call (.Name fnm fp) (e1 :: .Call (.Attribute (.Name n np) "pop" apos) [] [] ppos :: es) [] cpos) spos) fx.env) (fun G K=>d1 G fun x=>okK (bI G k) fun l=>l.length≤am∧okK l.getLast? fun y=>bo ((q2 (G.set k (.ownL l.dropLast))).map Prod.snd) fun zs=>al fx.g.P fx.d f (x :: y :: zs) fun z=>noX z=true∧K none ((G.set k (.ownL l.dropLast)).set j (.v z))):=fun oa G K s hd I=>by
 rw [exec_Assign_Name _ _ _ _ _ (b8 rfl)]
 refine zC1 (wpAny_standAt (zC1 ?_))
 refine (?_:wpAny _ _ (eval (.Name fnm fp) fx.env >>= fun F=>callWith cpos F [] (backTo cpos (starEach (e1 :: .Call (.Attribute (.Name n np) "pop" apos) [] [] ppos :: es) fx.env)) []) _ _ s)
 refine zC1 (bG (Φ:=⟨fx,oa,G⟩) I hg (I.ok.gr.fns fnm f hf) ?_ _)
 have hpl:(backTo cpos (starEach (e1 :: .Call (.Attribute (.Name n np) "pop" apos) [] [] ppos :: es) fx.env)).any (·.1)=false:=by
  exact (he G)▸du (bV (qs:=(e1,d1 G) :: (.Call (.Attribute (.Name n np) "pop" apos) [] [] ppos,d1 G) :: q2 G) (zA1 ⟨hp,zA1 ⟨rfl,fun q m=>(hq2 oa G q m).1⟩⟩))
 refine callWith_of (by rw [hpl]; rfl) (keeps_K hfn) (u9 hp ?_)
 refine wS (q1:=[(e1,d1 G)]) (K:=fun G' xs=>al fx.g.P fx.d f xs fun z=>noX z=true∧K none (G'.set j (.v z))) hx hn hline (fun q m=>by obtain rfl:=zA6 m; exact ⟨hp,h1 oa G⟩) he hq2 hd I fun oa' G' vs xs s' I' t' hk rs=>⟨I'.frag,?_⟩
 exact wpAny_mono (dw (Φ:=⟨fx,oa',G'⟩) hsf I' hk rs) (fun v s₂ p=>by
  obtain ⟨⟨B,k₂,z,hz,r⟩,_⟩:=p
  exact xS hT (I'.keep B k₂) (t'.trans (Tr.of_keeps k₂)) r hz) fun _ _ z=>z
end
section
variable {g:Gl} {bad:Addr→Prop} {h:Heap} {o:Obj} {ws:List Value} {j:Nat} {x:Str} {v:Value}
theorem uH (f:dU g o ws) (nd:g.flds.Nodup) (hx:g.flds[j]?=some x) (hv:ws[j]?=some v):lookIn x o=some (some v):=by
 obtain ⟨_,es,n,hd,hw,hk⟩:=f
 subst hw
 replace hv:=(Array.getElem?_toList)▸(List.getElem?_map)▸hv
 obtain ⟨e,ee,rfl⟩:=Option.map_eq_some_iff.mp hv
 obtain ⟨y,t,hy,ek⟩:=hk j e ee
 replace hy:=hx▸hy; (injection hy with hy; subst hy)
 unfold lookIn
 rw [hd]
 dsimp only
 cases hf:es.toList.find? (·.key.isStr x) with
 | none=>
  have:=List.find?_eq_none.mp hf e (List.mem_of_getElem? (Array.getElem?_toList▸ee))
  rw [ek] at this
  exact absurd (by simp [Value.isStr]) this
 | some e'=>
  have hm:=List.mem_of_find?_eq_some hf
  have hs:=List.find?_some hf
  obtain ⟨i,hi⟩:=List.getElem?_of_mem hm
  replace hi:=(Array.getElem?_toList)▸hi
  obtain ⟨z,t',hz,ek'⟩:=hk i e' hi
  replace hs:=ek'▸hs
  have hzx:z=x:=by simpa [Value.isStr] using hs
  subst hzx
  have:=(List.getElem?_inj (List.getElem?_eq_some_iff.mp hx).1 nd).mp (hx.trans hz.symm)
  subst this
  replace hi:=ee▸hi; (injection hi with hi; subst hi); rfl
theorem sX (f:dU g o ws) (hx:x∉g.flds):lookIn x o=some none:=by
 refine ar fun Z4 kZ4=>?_
 refine f.elim fun _ Zq26=>Zq26.elim fun es Zq27=>Zq27.elim fun n Zq28=>Zq28.elim fun hd Zq29=>Zq29.elim fun hw hk=>?_
 refine kZ4 ?_
 have key:∀ e∈es.toList,∃ y t,y∈g.flds∧e.key=.str y t:=fun e m=>by
  refine (List.getElem?_of_mem m).elim fun i hi=>?_
  rw [Array.getElem?_toList] at hi
  refine (hk i e hi).elim fun z Zq30=>Zq30.elim fun t' Zq31=>Zq31.elim fun hz ek'=>?_
  exact ⟨z,t',List.mem_of_getElem? hz,ek'⟩
 unfold lookIn
 rw [hd]
 dsimp only
 have hf:es.toList.find? (·.key.isStr x)=none:=List.find?_eq_none.mpr fun e m q=>by
  refine (key e m).elim fun y Zq32=>Zq32.elim fun t Zq33=>Zq33.elim fun hy ek=>?_
  rw [ek] at q
  have:y=x:=by simpa [Value.isStr] using q
  exact hx (this▸hy)
 have hr:es.toList.any (·.refKey)=false:=List.any_eq_false.mpr fun e m q=>by
  refine (key e m).elim fun y Zq34=>Zq34.elim fun t Zq35=>Zq35.elim fun hy ek=>?_
  unfold DictEntry.refKey at q
  rw [ek] at q; (injection q; done)
 rw [hf,hr]; rfl
theorem td {y:V} (r:Rp g bad h v y):handedIn v=true:=by cases r <;> rfl
end
section
variable {Φ:Ct} {s:Shared} {v u:Value} {x y z:V} {d:DV}
theorem ux {C:Addr} {o:Obj} {nm:Str} (I:Inv Φ s):∃ cd,clsIn Φ.fx.g.K Φ.fx.g.C=some cd∧PySem.W.ownOf cd (some o) nm=lookIn nm o:=by
 refine (any_some I.ok.gr.cls.hdict).elim fun cd Zq36=>Zq36.elim fun hc hd=>?_
 exact ⟨cd,hc,by unfold PySem.W.ownOf; rw [hd]; rfl⟩
theorem uU {o:Obj} {ws:List Value} {j:Nat} {nm:Str} (I:Inv Φ s) (f:dU Φ.fx.g o ws) (hx:Φ.fx.g.flds[j]?=some nm) (hv:ws[j]?=some v):findObj Φ.fx.g.K Φ.fx.g.C (some o) nm=some (.value v):=by
 refine (ux (C:=0) (o:=o) (nm:=nm) I).elim fun cd Zq37=>Zq37.elim fun hc ho=>?_
 unfold findObj
 rw [hc,Option.bind_some,I.ok.gr.cls.flds nm (List.mem_of_getElem? hx),Option.bind_some,Option.bind_some,Option.bind_some]
 refine (?_:(PySem.W.ownOf cd (some o) nm).bind _=_)
 rw [ho,uH f I.ok.gr.cls.nodup hx hv]; rfl
theorem xL {e:Expr} {nm:Str} {j:Nat} {pos:Pos} (he:b9 e=true) (hx:Φ.fx.g.flds[j]?=some nm) (h:Ev Φ (eval e Φ.fx.env) d) :
  Ev Φ (eval (.Attribute e nm pos) Φ.fx.env) (fun K=>d fun x=>okK (opN (.attr j) [x]) K):=fun K s hd I=>by
 rw [arm_eval_Attribute,b0 he]
 refine h.bind hd I fun v x s₁ I₁ k₁ hx' r=>a9 ?_
 refine ag hx' fun z ez kz E=>?_
 cases x with
 | dict kvs=>
  refine bi (ez:(if pY kvs=true then (kvs[j]?).map (·.2) else none)=some z) fun hik ez=>?_
  obtain ⟨p,hp,rfl⟩:=Option.map_eq_some_iff.mp ez
  refine r.inst_elim (C:=fun v=>wpAny _ _ (holding [v] (getAttr v nm true) >>= _) _ E s₁) hik fun a dd o ws nb nb' ha hdd hf _ hl=>?_
  have hz:(kvs.map (·.2))[j]?=some p.2:=by rw [List.getElem?_map,hp]; rfl
  obtain ⟨w,hw,rw'⟩:=hl.get hz
  exact zC1 (wpAny_holding (get_value I₁.frag ⟨ha,rfl,rfl,hdd⟩ I₁.ok.gr.cls.hga (uU I₁ hf hx hw) (td rw') (zC1 (wpAny_letTemporaryGo (zC2 ⟨I₁.base.grown (.toks _ _),.refl _,_,kz,rw'⟩)))))
 | _=>(injection ez; done)
theorem xH {e:Expr} {nm:Str} {f:Nat} {apos pos:Pos} (he:b9 e=true) (hline:(apos.endLine==pos.line)=true) (hnf:nm∉Φ.fx.g.flds) (hf:findIn Φ.fx.g.K (.ref Φ.fx.g.C) nm=some (some (.ref (Φ.fx.g.fn f)))) (ht:typeIn Φ.fx.g.K (.ref (Φ.fx.g.fn f))=some (.type "function")) (hk:keepIn Φ.fx.g.K (.ref (Φ.fx.g.fn f))=true) (hsf:Φ.safe f) (h:Ev Φ (eval e Φ.fx.env) d) :
  EvC Φ (Φ.fx.g.newf f) (eval (.Call (.Attribute e nm apos) [] [] pos) Φ.fx.env) (fun K=>d fun x=>ij x=true∧al Φ.fx.g.P Φ.fx.d f [x] fun y=>noX y=true∧K y):=fun K s hd I=>by
 rw [arm_eval_Call,b0 he]
 refine h.bindC hd I fun v x s₁ I₁ k₁ hx r=>a9 fun E=>?_
 cases x with
 | dict kvs=>
  unfold methodCall
  have r':=r
  refine Rp.inst_elim (C:=fun v=>Φ.rp s₁.heap v (.dict kvs)→wpAny _ _ (holding [v] (calleeOf _ e Φ.fx.env v nm) >>= _) _ E s₁) r hx.1 (fun a dd o ws nb nb' ha hdd hfl _ hl r'=>?_) r'
  refine zC1 (wpAny_holding (method_fn (od:=some o) I₁.frag ⟨ha,rfl,rfl,hdd⟩ I₁.ok.gr.cls.hga I₁.ok.gr.cls.hgk hf ht (by refine (?_:(lookIn nm o).map _=_); rw [sX hfl hnf]; rfl) ?_))
  have hp:methodCallPos (methodCallForm ([]:List Expr).length (backTo pos (starEach [] Φ.fx.env)) (backToKw pos (keywordEach [] Φ.fx.env))) e Φ.fx.env apos pos=pure pos:=by unfold methodCallPos; rw [hline,Bool.or_true]; rfl
  refine zC1 ?_
  refine (?_:wpAny _ _ (methodCallPos (methodCallForm ([]:List Expr).length (backTo pos (starEach [] Φ.fx.env)) (backToKw pos (keywordEach [] Φ.fx.env))) e Φ.fx.env apos pos) _ _ _)
  refine hp.symm▸?_
  refine zC2 (callWith_of rfl (keeps_K hk) (PySem.evalArgs_none ⟨I₁.frag,?_⟩))
  exact dw hsf I₁ hx.2 (.cons r' .nil)
 | _=>(injection hx.1; done)
end
section
variable {fx:Fx}
theorem gz {G:Gs} {k:Nat} {l:List V} (e:dQ G k=some l):getSlot G k=.ownI l:=by
 unfold dQ at e
 revert e
 cases getSlot G k with
 | ownI m=>exact fun e=>congrArg Slot.ownI (Option.some.inj e)
 | _=>exact fun e=>nN e.symm
theorem pG {Φ:Ct} {s:Shared} {E:Value→Shared→Prop} {b a:Addr} {o:Obj} {ws:List Value} {nm:Str} {v:Value} {Q:Unit→Shared→Prop} (I:Inv Φ s) (hb:s.heap.get? b=some (instObj Φ.fx.g.C a)) (ha:s.heap.get? a=some o) (hf:dU Φ.fx.g o ws) (hx:Φ.fx.g.flds[ws.length]?=some nm)
  (h:∀ h' tk o',Heap.SameBut a s.heap h'→h'.get? a=some o'→dU Φ.fx.g o' (ws++[v])→Q () { s with heap:=h',toks:=tk }):wpAny (model Φ.fx.g.prog Φ.fx.g.w) Φ.fx.A (setAttr (.ref b) nm v) Q E s:=by
 have ht:takerIn Φ.fx.g.K Φ.fx.g.C nm=some none:=by unfold takerIn; rw [I.ok.gr.cls.flds nm (List.mem_of_getElem? hx)]; rfl
 have IA:InstAt s.heap b (instObj Φ.fx.g.C a) Φ.fx.g.C (some o):=⟨hb,rfl,rfl,ha⟩
 refine set_plain I.frag IA I.ok.gr.cls.hsa ?_
 refine osa_open (s:={ s with toks:=s.toks+1 }) (od:=some o) I.frag ⟨hb,rfl,rfl,ha⟩ I.ok.gr.cls.over ht fun bb=>?_
 obtain ⟨cd,hc,hd'⟩:=any_some I.ok.gr.cls.hdict
 refine zC1 (zC2 (zC1 (zC1 (wpAny_loadPart hb (zC1 (Looks.here (s:={ s with toks:=s.toks+1 }) (looks_clsIn I.frag hc) ?_))))))
 refine hd'.symm▸?_
 refine wpAny_pure (a:=some a) (zC1 (zC2 (zC1 ?_)))
 skip
 refine zC1 (zC1 (wpAny_askSetting (zC2 (zC1 (wpAny_mkText (zC1 (wpAny_loadPart ha ?_)))))))
 obtain ⟨hex,es,n,hd,hw,hk⟩:=hf
 have hlen:es.size=ws.length:=by rw [← hw,zA4,zB3]
 have key:∀ e∈es.toList,∃ y t,e.key=.str y t∧y≠nm:=fun e m=>by
  refine (List.getElem?_of_mem m).elim fun i hi=>?_
  replace hi:=(Array.getElem?_toList)▸hi
  refine (hk i e hi).elim fun z Zq46=>Zq46.elim fun t' Zq47=>Zq47.elim fun hz ek'=>?_
  refine ⟨z,t',ek',fun q=>?_⟩
  subst q
  have:=(List.getElem?_inj (List.getElem?_eq_some_iff.mp hz).1 I.ok.gr.cls.nodup).mp (hz.trans hx.symm)
  have:=(Array.getElem?_eq_some_iff.mp hi).1
  lia
 have na:es.toList.any (·.key.isStr nm)=false:=List.any_eq_false.mpr fun e m q=>by
  obtain ⟨y,t,ek,hy⟩:=key e m
  rw [ek] at q
  exact hy (by simpa [Value.isStr] using q)
 have nr:es.toList.any (·.refKey)=false:=List.any_eq_false.mpr fun e m q=>by
  obtain ⟨y,t,ek,hy⟩:=key e m
  unfold DictEntry.refKey at q
  rw [ek] at q; (injection q; done)
 rw [hd]
 dsimp only
 rw [aRefKeyMayBeTheName_at,← Array.any_toList,← Array.any_toList,nr,Bool.and_false]
 refine wpAny_updatePart ha ?_
 refine ar fun Z19 kZ19=>?_
 obtain ⟨l⟩:=es
 obtain ⟨oc,od,dat,sl⟩:=o
 refine kZ19 ?_
 subst hd
 have pe:=putName_eq nm (PyData.keyHash Φ.fx.g.w.params nm) (.str nm (s.toks+1)) v oc od l n sl
 rw [na,if_neg Bool.false_ne_true,show PySem.putIn (·.key.isStr nm) (fun e=>{ e with val:=v }) ⟨PyData.keyHash Φ.fx.g.w.params nm,.str nm (s.toks+1),v⟩ l=l++[⟨PyData.keyHash Φ.fx.g.w.params nm,.str nm (s.toks+1),v⟩] by unfold PySem.putIn; rw [List.findIdx?_eq_none_iff.mpr fun e m=>by simpa using List.any_eq_false.mp na e m]] at pe
 have D':=Heap.get?_update_self (Obj.putName nm (PyData.keyHash Φ.fx.g.w.params nm) (.str nm (s.toks+1)) v) ha (by rw [pe]; rfl)
 rw [pe] at D'
 have hlt:=(List.getElem?_eq_some_iff.mp hx).1
 have hfew:=I.ok.gr.cls.few
 refine zC1 (wpAny_lookBehind D' (pastItsLine_dict (by rw [List.size_toArray,zB5,sizeLine_eq]; refine (?_:l.length+1≤_); have:l.length=ws.length:=hlen; exact zB1 (Nat.add_le_add (zB1 (zB2 this) (zB1 (Nat.le_of_lt hlt) hfew)) (Nat.le_refl _)) (by decide))) ?_)
 refine zC2 (h _ _ _ (.update ..) D' ⟨⟨hex.1,hex.2.1,hex.2.2⟩,_,_,rfl,?_,fun j e ee=>?_⟩)
 ·rw [List.map_append,hw]; rfl
 ·have ee:(l++[(⟨PyData.keyHash Φ.fx.g.w.params nm,.str nm (s.toks+1),v⟩:DictEntry)])[j]?=some e:=by simpa using ee
  rcases Nat.lt_or_ge j l.length with q | q
  ·rw [List.getElem?_append_left q] at ee; exact hk j e (by simpa using ee)
  ·replace ee:=(List.getElem?_append_right q)▸ee
   have:j - l.length=0:=by have:=(List.getElem?_eq_some_iff.mp ee).1; rw [List.length_singleton] at this; exact Nat.le_antisymm (Nat.le_of_lt_succ this) (Nat.zero_le _)
   replace ee:=this▸ee
   (injection ee with ee; subst ee)
   have hl2:l.length=ws.length:=hlen
   exact ⟨nm,_,by rw [show j=ws.length by grind]; exact hx,rfl⟩
theorem tT.snoc {a:Addr} {ws:List Value} {l:List V} {v:Value} {x:V} (n:tT a ws l) (hlen:ws.length=l.length) (h:∀ c m,v=.ref c→x=.list m→a < c):tT a (ws++[v]) (l++[x]):=fun j b m e1 e2=>by
 rcases Nat.lt_or_ge j ws.length with q | q
 ·replace e1:=(List.getElem?_append_left q)▸e1; replace e2:=(List.getElem?_append_left (hlen▸q))▸e2; exact n j b m e1 e2
 ·replace e1:=(List.getElem?_singleton)▸(List.getElem?_append_right q)▸e1; rw [List.getElem?_append_right (hlen▸q),List.getElem?_singleton] at e2
  split at e1
  ·rename_i z; rw [if_pos (hlen▸z)] at e2; exact h b m (Option.some.inj e1) (Option.some.inj e2)
  ·(injection e1; done)
theorem fw {n:Str} {k j:Nat} {np ap spos:Pos} {nm:Str} {e:Expr} {d:Gs→DV} {K:Option V→Gs→Prop} {oa:Nat→Option Addr} {G:Gs} {s:Shared} (hx:fx.ρ.lookup n=some k) (hn:aR n=true) (hnm:fx.g.flds[j]?=some nm) (hs:bQ e=true) (I:Inv ⟨fx,oa,G⟩ s)
  (h:(Ct.mk fx oa G).wp (eval e fx.env) (fun v s₁=>∃ x,Base fx.g s₁∧aG s.heap s₁.heap∧(Ct.mk fx oa G).rp s₁.heap v x∧(∀ m,x=.list m→lj s.heap v)∧okK (dQ G k) fun l=>l.length=j∧K none (G.set k (.ownI (l++[x])))) s) :
  wpAny (model fx.g.prog fx.g.w) fx.A (exec (.Assign [.Attribute (.Name n np) nm ap] e spos) fx.env) (PostS ⟨fx,oa,G⟩ s K) (PostX ⟨fx,oa,G⟩ s K) s:=by
 refine plainObj_wpAny_Assign_Attribute (wpAny_mono (h _) (fun v s₁ Zq1=>Zq1.elim fun x Zq2=>Zq2.elim fun B1 Zq3=>Zq3.elim fun k1 Zq4=>Zq4.elim fun r Zq5=>Zq5.elim fun nv hx'=>ag hx' fun l el Zq6=>Zq6.elim fun hj hk=>?_) fun _ _ z=>z) (b8 hs)
 have I1:=I.keep B1 k1
 obtain ⟨a,u,ha,pr,b,o,ws,rfl,eb,nb,hb,ho,hf,hnl,hl⟩:=eQ (Φ:=⟨fx,oa,G⟩) I (gz el) id
 have hb1:=k1.get hb eR
 have ho1:=k1.get ho (aI hf.1.1)
 refine bZ (Φ:=⟨fx,oa,G⟩) I1.ok hx hn (pr.keep k1) ?_ _
 refine pG (Φ:=⟨fx,oa,G⟩) I1 hb1 ho1 hf (hl.length.symm▸hj.symm▸hnm) fun h' tk o' sb ho' hf'=>?_
 have mk:cU (Ct.mk fx oa G).bad (Ct.mk fx oa G).bad s₁.heap h':=fun c o e _ nc=>⟨nc,sb.extBut c o (fun q=>nc (.inr (.inr ⟨k,q▸ha⟩))) e⟩
 have q:=Inv.mutate (Φ:=⟨fx,oa,G⟩) (sl:=.ownI (l++[x])) (tk:=tk) I1 ha (pr.keep k1) ⟨o,ho1,aI hf.1.1⟩ sb ⟨_,ho'⟩ ⟨b,o',ws++[v],rfl,eb,nb,(mk _ _ hb1 eR nb).2,ho',hf',hnl.snoc hl.length fun c m e q=>nv m q c b e ⟨_,hb⟩,((hl.keep k1).map mk).append (.cons (r.map mk) .nil)⟩ (fun _ q=>nomatch q) (fun q=>nomatch q) fun _=>by refine (?_:isI (getSlot G k)); rw [gz el]; trivial
 exact .next (Φ:=⟨fx,oa,G⟩) q.1 ((Tr.of_keeps k1).trans q.2) hk
theorem qo {n:Str} {k j:Nat} {np ap spos:Pos} {nm:Str} {e:Expr} {d:Gs→DV} (hx:fx.ρ.lookup n=some k) (hn:aR n=true) (hnm:fx.g.flds[j]?=some nm) (hs:bQ e=true) (h:∀ oa G,Ev ⟨fx,oa,G⟩ (eval e fx.env) (d G)) :
  ExB fx (exec (.Assign [.Attribute (.Name n np) nm ap] e spos) fx.env) (fun G K=>d G fun x=>jZ x=false∧okK (dQ G k) fun l=>l.length=j∧K none (G.set k (.ownI (l++[x])))):=fun oa G K s hd I=>
 fw (d:=d) hx hn hnm hs I fun E=>wpAny_mono (h oa G _ s hd I E) (fun v s₁ ⟨B,k,x,hx,r⟩=>⟨x,B,k,r,(fun m e=>by subst e; (injection hx.1; done)),hx.2⟩) fun _ _ z=>z
theorem nK {n:Str} {k j:Nat} {np ap spos:Pos} {nm:Str} {e:Expr} {d:Gs→DV} (hx:fx.ρ.lookup n=some k) (hn:aR n=true) (hnm:fx.g.flds[j]?=some nm) (hs:bQ e=true) (h:∀ oa G,EvN ⟨fx,oa,G⟩ (eval e fx.env) (d G)) :
  ExB fx (exec (.Assign [.Attribute (.Name n np) nm ap] e spos) fx.env) (fun G K=>d G fun x=>okK (dQ G k) fun l=>l.length=j∧K none (G.set k (.ownI (l++[x])))):=fun oa G K s hd I=>
 fw (d:=d) hx hn hnm hs I fun E=>wpAny_mono (h oa G _ s hd I E) (fun v s₁ ⟨⟨B,k,x,hx,r⟩,n⟩=>⟨x,B,k,r,fun _ _=>n,hx⟩) fun _ _ z=>z
end
structure Noted (F:List Addr) (lo:Heap) (h h':Heap):Prop where
 low:∀ b o,h.get? b=some o→aQ lo b→(∃ sl,h'.get? b=some { o with slots:=sl })∧(b∉F→h'.get? b=some o)
 data:∀ b o,h.get? b=some o→(∀ vs,o.data≠.fields vs)→(∃ sl,h'.get? b=some { o with slots:=sl })∧(b∉F→h'.get? b=some o)
 live:∀ b,aQ h b→aQ h' b
theorem Noted.refl (F:List Addr) (lo:Heap) (h:Heap):Noted F lo h h:=⟨fun _ o e _=>⟨⟨o.slots,e⟩,fun _=>e⟩,fun _ o e _=>⟨⟨o.slots,e⟩,fun _=>e⟩,fun _ l=>l⟩
theorem Noted.trans {F:List Addr} {lo:Heap} {h₁ h₂ h₃:Heap} (x:Noted F lo h₁ h₂) (y:Noted F lo h₂ h₃):Noted F lo h₁ h₃ where
 low:=fun b o e hb=>by
  obtain ⟨⟨sl,e₁⟩,f₁⟩:=x.low b o e hb
  obtain ⟨⟨sl',e₂⟩,f₂⟩:=y.low b _ e₁ hb
  exact ⟨⟨sl',e₂⟩,fun hF=>(y.low b _ (f₁ hF) hb).2 hF⟩
 data:=fun b o e hd=>by
  obtain ⟨⟨sl,e₁⟩,f₁⟩:=x.data b o e hd
  obtain ⟨⟨sl',e₂⟩,f₂⟩:=y.data b _ e₁ hd
  exact ⟨⟨sl',e₂⟩,fun hF=>(y.data b _ (f₁ hF) hd).2 hF⟩
 live:=fun b l=>y.live b (x.live b l)
theorem Noted.frames {F:List Addr} {lo h h' base:Heap} {l:List Env} (x:Noted F lo h h') (f:h.FunFrames base l):h'.FunFrames base l:=
 f.of_keeps fun b o ho hd=>by obtain ⟨⟨sl,e⟩,_⟩:=x.data b o ho hd; exact ⟨_,e,rfl⟩
theorem Noted.le {F:List Addr} {lo lo':Heap} {h h':Heap} (x:Noted F lo h h') (q:∀ b,aQ lo' b→aQ lo b):Noted F lo' h h':=⟨fun b o e hb=>x.low b o e (q b hb),x.data,x.live⟩
noncomputable def aY (l:List Env):List Addr:=l.filterMap (·.frame)
section
variable {M:Model} {A:Around} {E:Value→Shared→Prop} {s:Shared} {base:Heap} {env:Env} {outer:List Env} {L e:Addr} {lo:Heap} {cls:Value}
theorem dX (ho:h.get? a=some o) (hd:o.data=.fields vs) (hlo:lo.get? a=none) (f:Array Value→Array Value):Noted F lo h (h.update a (Obj.mapFields f)) where
 low:=fun b ob eb hb=>by
  have:(h.update a (Obj.mapFields f)).get? b=some ob:=(Heap.get?_update_ne _ _ _ _ (by intro q; subst q; obtain ⟨_,hb⟩:=hb; replace hb:=hlo▸hb; (injection hb; done))).trans eb
  exact ⟨⟨ob.slots,this⟩,fun _=>this⟩
 data:=fun b ob eb hn=>by
  have:(h.update a (Obj.mapFields f)).get? b=some ob:=(Heap.get?_update_ne _ _ _ _ (by intro q; subst q; replace eb:=ho▸eb; (injection eb with eb; subst eb); exact hn vs hd)).trans eb
  exact ⟨⟨ob.slots,this⟩,fun _=>this⟩
 live:=fun b ⟨ob,eb⟩=>by
  by_cases q:b=a
  ·subst q
   exact ⟨_,Heap.get?_update_self _ ho (Obj.isFreed_of_fields (Obj.data_mapFields hd f))⟩
  ·exact ⟨ob,(Heap.get?_update_ne _ _ _ _ q).trans eb⟩
theorem pK (o:Obj):Noted F lo h (h.push o) where
 low:=fun b ob eb _=>⟨⟨ob.slots,Heap.get?_push_of_some _ eb⟩,fun _=>Heap.get?_push_of_some _ eb⟩
 data:=fun b ob eb _=>⟨⟨ob.slots,Heap.get?_push_of_some _ eb⟩,fun _=>Heap.get?_push_of_some _ eb⟩
 live:=fun b ⟨ob,eb⟩=>⟨ob,Heap.get?_push_of_some _ eb⟩
theorem nG (x:Heap.SlotsOnly F h h'):Noted F lo h h' where
 low:=fun b ob eb _=>⟨x.2.2 b ob eb,fun hF=>(x.2.1 b hF).trans eb⟩
 data:=fun b ob eb _=>⟨x.2.2 b ob eb,fun hF=>(x.2.1 b hF).trans eb⟩
 live:=fun b ⟨ob,eb⟩=>let ⟨_,e⟩:=x.2.2 b ob eb; ⟨_,e⟩
theorem oX
  (hfr:A.frames=some (env :: outer)) (hl:s.heap.FunFrames base (env :: outer)) (hf:env.frame=some L) (hlo:∀ b,aQ lo b→aQ s.heap b)
  (he:s.heap.get? e=some oe) (hc:oe.cls=cls) (hdi:oe.dict=none) (hd:oe.data=.fields vs) (hle:lo.get? e=none) (hsz:1 < vs.size)
  (h:∀ h',Noted (aY (env :: outer)) lo s.heap h'→ExcAt h' lo e cls (rawInt L)→Q () { s with heap:=h' }) :
  wpAny M A (do let a ← frameOf env; let pl ← entryPlaceOf L hadNext; let b ← EntryCells.newEntry head a .none (rawInt L) .none pl; setField (.ref e) 1 b) Q E s:=by
 have hene:e∉(env :: outer).filterMap (·.frame):=fun hm=>by
  obtain ⟨_,o,ho,hnf⟩:=hl.mem hm
  rw [he] at ho; injection ho with ho; subst ho; exact hnf vs hd
 refine zC1 (wpAny_frameOf_fun hfr hl hf fun h₁ hs₁=>?_)
 refine zC1 (wpAny_entryPlaceOf fun pl hpl=>?_)
 skip
 refine zC1 (wpAny_newObj_type ?_ (hpl.sizeOk5 _ _ _ _ _))
 have he₁:h₁.get? e=some oe:=(hs₁.2.1 e hene).trans he
 have he₂:=Heap.get?_push_of_some (h:=h₁) { cls:=.type "traceback",dict:=none,data:=.fields ([head,.ref L,.none,rawInt L,.none]++(if pl.isEmpty then List.replicate 6 Value.none else pl)).toArray } he₁
 refine wpAny_setField he₂ hd hsz (h _ ?_ ?_)
 ·exact ((nG hs₁).trans (pK _)).trans (dX he₂ hd hle _)
 ·have hTe:h₁.objs.size≠e:=Nat.ne_of_gt (Heap.lt_size he₁)
  have hd₃:=Obj.data_mapFields hd (·.setIfInBounds 1 (Value.ref h₁.objs.size))
  have he₃:=Heap.get?_update_self (Obj.mapFields (·.setIfInBounds 1 (Value.ref h₁.objs.size))) he₂ (Obj.isFreed_of_fields hd₃)
  have hT₃:=(Heap.get?_update_other (h₁.push { cls:=.type "traceback",dict:=none,data:=.fields ([head,.ref L,.none,rawInt L,.none]++(if pl.isEmpty then List.replicate 6 Value.none else pl)).toArray })
   (Obj.mapFields (·.setIfInBounds 1 (Value.ref h₁.objs.size))) (Ne.symm hTe)).trans (Heap.get?_push_size h₁ rfl)
  refine ⟨_,_,he₃,(Obj.cls_mapFields _ _).trans hc,?_,hd₃,hle,by simpa using hsz,.inr ⟨h₁.objs.size,_,_,by simp [hsz],hTe,by rw [hs₁.1]; exact aM (hlo _) (ak _),hT₃,rfl,?_⟩⟩
  ·obtain ⟨c,d,dt,sl⟩:=oe; simp only at hd hdi; subst hd; exact hdi
  ·first | (simp; done) | (rcases hpl with rfl | ⟨_,_,_,_,_,_,_,rfl⟩ <;> simp)
theorem rF (hfr:A.frames=some (env :: outer)) (hl:s.heap.FunFrames base (env :: outer)) (hf:env.frame=some L) (hlo:∀ b,aQ lo b→aQ s.heap b) (x:ExcAt s.heap lo e cls .none)
  (h:∀ h',Noted (aY (env :: outer)) lo s.heap h'→ExcAt h' lo e cls (rawInt L)→Q () { s with heap:=h' }):wpAny M A (noteFrame (.ref e) env) Q E s:=by
 obtain ⟨oe,vs,he,hc,hdi,hd,hle,hsz,hh⟩:=x
 unfold noteFrame
 simp only [hf]
 rcases hh with h1 | ⟨T,oT,ts,h1,hTe,hlT,hT,hdT,h3⟩
 ·refine zC1 (wpAny_field he hd h1 ?_)
  refine bw (by decide) ?_
  exact oX hfr hl hf hlo he hc hdi hd hle hsz h
 ·refine zC1 (wpAny_field he hd h1 ?_)
  refine dH (show (Value.ref T != Value.none)=true from by simp) ?_
  refine zC1 (wpAny_field hT hdT h3 ?_)
  refine bw ((by simp [rawInt]):¬ ((Value.none==rawInt L)=true)) ?_
  refine zC1 (wpAny_setField hT hdT (Array.getElem?_eq_some_iff.mp h3).1 ?_)
  have w:=dX (F:=aY (env :: outer)) (lo:=lo) hT hdT hlT (·.setIfInBounds 3 Value.none)
  exact oX (s:={ s with heap:=_ }) hfr (w.frames hl) hf (fun b l=>w.live b (hlo b l)) ((Heap.get?_update_ne _ _ _ _ (Ne.symm hTe)).trans he) hc hdi hd hle hsz
   fun h' n x=>h h' (w.trans n) x
theorem gK (x:ExcAt s.heap lo e cls fl)
  (h:∀ h',Noted F lo s.heap h'→ExcAt h' lo e cls .none→Q () { s with heap:=h' }):wpAny M A (setFlight (.ref e) none) Q E s:=by
 refine ar fun Z8 kZ8=>?_
 obtain ⟨oe,vs,he,hc,hdi,hd,hle,hsz,hh⟩:=x
 refine kZ8 ?_
 unfold setFlight
 rcases hh with h1 | ⟨T,oT,ts,h1,hTe,hlT,hT,hdT,h3⟩
 ·refine zC1 (wpAny_field he hd h1 ?_)
  refine bw (by decide) ?_
  exact zC2 (h s.heap (.refl _ _ _) ⟨oe,vs,he,hc,hdi,hd,hle,hsz,.inl h1⟩)
 ·refine zC1 (wpAny_field he hd h1 ?_)
  refine dH (show (Value.ref T != Value.none)=true from by simp) ?_
  have hsz3:3 < ts.size:=(Array.getElem?_eq_some_iff.mp h3).1
  refine wpAny_setField hT hdT hsz3 (h _ (dX hT hdT hlT _) ?_)
  exact ⟨oe,vs,(Heap.get?_update_ne _ _ _ _ (Ne.symm hTe)).trans he,hc,hdi,hd,hle,hsz,.inr ⟨T,_,_,h1,hTe,hlT,Heap.get?_update_self _ hT (Obj.isFreed_of_fields (Obj.data_mapFields hdT _)),Obj.data_mapFields hdT _,by simp [hsz3]⟩⟩
theorem pQ (hfr:A.frames=some (env :: outer)) (hl:s.heap.FunFrames base (env :: outer)) (hf:env.frame=some L) (hlo:∀ b,aQ lo b→aQ s.heap b) (x:ExcAt s.heap lo e cls .none)
  (h:∀ h',Noted (aY (env :: outer)) lo s.heap h'→ExcAt h' lo e cls .none→Q () { s with heap:=h' }):wpAny M A (leaving env (.ref e)) Q E s:=by
 unfold leaving
 exact zC1 (rF hfr hl hf hlo x fun h₁ n₁ x₁=>gK (s:={ s with heap:=h₁ }) x₁ fun h₂ n₂ x₂=>h h₂ (n₁.trans n₂) x₂)
end
section
variable {g:Gl} {A:Around} {s s₁:Shared} {h':Heap} {F:List Addr}
theorem gx.funs:∀ {l:List Env},gx h0 h l→h.FunFrames h0 l
 | [],_=>trivial
 | env :: l,f=>by
  obtain ⟨hk,L,o,hf,hn,ho,hc,hd⟩:=f env (.head _)
  exact ⟨hk,⟨L,o,hf,hn,ho,hd⟩,gx.funs fun e m=>f e (.tail _ m)⟩
theorem gx.frame (f:gx h0 h l) (m:b∈aY l):h0.get? b=none∧∃ o,h.get? b=some o∧o.cls=.type "frame":=by
 refine ar fun Z11 kZ11=>?_
 obtain ⟨env,me,e⟩:=List.mem_filterMap.mp m
 obtain ⟨_,L,o,hf,hn,ho,hc,_⟩:=f env me
 refine kZ11 ?_
 obtain rfl:=Option.some.inj (hf.symm.trans e)
 exact ⟨hn,o,ho,hc⟩
theorem oB (k:bz s₁.heap b o) (lo:aQ s.heap b) (f:gx g.h0 s₁.heap l) (n:Noted (aY l) s.heap s₁.heap h'):bz h' b o:=k.step fun o₁ e₁=>by
 obtain ⟨⟨sl,e₂⟩,q⟩:=n.low b o₁ e₁ lo
 refine ⟨sl,e₂,fun nf=>?_⟩
 have:=q fun m=>by obtain ⟨_,o',e',c'⟩:=f.frame m; replace e':=e₁▸e'; (injection e' with e'; subst e'); exact nf c'
 rw [e₂] at this
 exact congrArg Obj.slots (Option.some.inj this)
theorem dY (k:aG s.heap s₁.heap) (f:gx g.h0 s₁.heap l) (n:Noted (aY l) s.heap s₁.heap h'):aG s.heap h':=fun b o e=>oB (k b o e) ⟨o,e⟩ f n
theorem dB (B₀:Base g s) (B:Base g s₁) (f:gx g.h0 s₁.heap l) (n:Noted (aY l) s.heap s₁.heap h'):Base g { s₁ with heap:=h' }:=
 ⟨fun b o e=>(n.low b o (B.stays b o e) ⟨o,B₀.stays b o e⟩).2 (fun m=>by have:=(f.frame m).1; replace this:=e▸this; (injection this; done)),B.os,B.gens⟩
end
section
variable {fx:Fx} {Φ:Ct} {s s₁:Shared}
structure FxTop (fx:Fx):Prop where
 top:∃ outer L,fx.A.frames=some (fx.env :: outer)∧fx.env.frame=some L
theorem uC (h:noX y=true):lW y=none:=Option.isNone_iff_eq_none.mp h
theorem fU (ok:FxOk fx) (hn:fx.ρ.lookup n=some k) (hnl:fx.env.kindOf n=some .local):fx.pl k=.ns fx.env.locals n:=by
 rcases ok.vis n k hn with ⟨_,hp⟩ | ⟨q,_⟩
 ·exact hp
 ·rcases q with q | q <;> rw [hnl] at q <;> cases q
theorem t9 [Hm Φ.fx] {oa':Nat→Option Addr} {Q:Unit→Shared→Prop} {E:Value→Shared→Prop} {K:Option V→Gs→Prop} (ok:FxOk Φ.fx) (hn:Φ.fx.ρ.lookup n=some k) (hnl:Φ.fx.env.kindOf n=some .local)
  (hns:∃ m,s₁.heap.Ns Φ.fx.env.locals m) (h0:Φ.fx.g.h0.get? Φ.fx.env.locals=none) (B:Base Φ.fx.g s₁) (t:Tr Φ s (Φ.wi oa' G') s₁) (nx:noX x=true) (rp:(Φ.wi oa' G').rp s₁.heap v x) (nv:Φ.fx.nw=true→lj s.heap v) (hk:K (some x) (G'.set k .unset)) (hu:isI (getSlot (G'.set k .unset) k)→False)
  (hQ:∀ s',PostS Φ s K (.ret v) s'→Q () s'):wpAny (model Φ.fx.g.prog Φ.fx.g.w) A (do bindName Φ.fx.env n .none; unbindBehindTheSuite Φ.fx.env n hpos) Q E s₁:=by
 obtain ⟨m,hm⟩:=hns
 have hp:=fU ok hn hnl
 refine wpAny_nameGoes hnl hm (by rw [ok.kind]; rfl) fun h₇ m₇ hn₇ hs₇=>hQ _ ?_
 have hown:(Φ.wi oa' G').own Φ.fx.env.locals:=.inl ⟨k,by refine (?_:(Φ.fx.pl k).addr=_); rw [hp]; rfl⟩
 have hown':Φ.own Φ.fx.env.locals:=.inl ⟨k,by rw [hp]; rfl⟩
 have kp:∀ b o,b≠Φ.fx.env.locals→s₁.heap.get? b=some o→h₇.get? b=some o:=fun b o q e=>hs₇.extBut b o q e
 refine ⟨oa',G'.set k .unset,some x,fun q=>q.elim nofun fun q=>(nomatch (Hm.no (fx:=Φ.fx)).symm.trans q),⟨fun b o e=>kp b o (fun q=>au h0 (q▸e)) (B.stays b o e),B.os,B.gens⟩,⟨rfl,fun b o e nb=>(t.keep b o e nb).step fun o' e'=>.of (kp b o' (fun q=>nb (q▸hown')) e'),fun b l=>?_,t.grow,fun j a e q=>?_⟩,⟨nx,v,rfl,rp.map fun b o e _ nb=>⟨nb,kp b o (fun q=>nb (.inr (q▸hown))) e⟩,nv⟩,hk⟩
 ·obtain ⟨o,e⟩:=t.live b l
  by_cases q:b=Φ.fx.env.locals
  ·subst q; obtain ⟨o',_,_,e',_⟩:=hn₇; exact ⟨o',e'⟩
  ·exact ⟨o,kp b o q e⟩
 ·by_cases z:j=k
  ·subst z; exact (hu q).elim
  ·have q:isI (getSlot (G'.set k .unset) j):=q
   rw [cD z] at q
   exact t.inst j a e q
theorem Inv.mark (I:Inv ⟨fx,oa,G⟩ s) (e:Value):Inv ⟨{ fx with A:=fx.A.mark (some e),hm:=true },oa,G⟩ s:=
 ⟨⟨I.ok.gr,nofun,I.ok.kind,I.ok.globals,I.ok.builtins,I.ok.vis,I.ok.inj,I.ok.apart,I.ok.offs,I.ok.nfs,I.ok.room,I.ok.units,I.ok.call,I.ok.mo0⟩,I.base,I.slot,I.new,I.inj,I.off,I.gl,I.mo,I.fr⟩
theorem Tr.unmark (t:Tr ⟨{ fx with A:=A,hm:=true },oa,G⟩ s ⟨{ fx with A:=A,hm:=true },oa',G'⟩ s₁):Tr ⟨fx,oa,G⟩ s ⟨fx,oa',G'⟩ s₁:=⟨rfl,t.keep,t.live,t.grow,t.inst⟩
theorem raised (top:FxTop fx) (I:Inv ⟨fx,oa,G⟩ s) (I₁:Inv ⟨fx,oa,G⟩ s₁) (k₁:aG s.heap s₁.heap) (xa:ExcAt s₁.heap s.heap e (.ref (fx.g.cls d)) .none)
  (h:∀ h₃ fl,aG s.heap h₃→Base fx.g { s₁ with heap:=h₃ }→ExcAt h₃ s.heap e (.ref (fx.g.cls d)) fl→wpAny (model fx.g.prog fx.g.w) fx.A (handleBy (.ref e) fx.env hs) Q X { s₁ with heap:=h₃ }) :
  wpAny (model fx.g.prog fx.g.w) fx.A (noteFrame (.ref e) fx.env) (fun _ s₂=>wpAny (model fx.g.prog fx.g.w) fx.A (setFlight (.ref e) none) (fun _ s₃=>wpAny (model fx.g.prog fx.g.w) fx.A (handleBy (.ref e) fx.env hs) Q X s₃) X s₂) X s₁:=by
 obtain ⟨outer,L,hfr,hL⟩:=top.top
 have fr:=I₁.fr.of hfr
 refine rF (lo:=s.heap) hfr fr.funs hL (fun b l=>k₁.live l) xa fun h₂ n₂ x₂=>?_
 have k₂:=dY k₁ fr n₂
 have B₂:=dB I.base I₁.base fr n₂
 have I₂:Inv ⟨fx,oa,G⟩ { s₁ with heap:=h₂ }:=I.keep B₂ k₂
 refine gK (s:={ s₁ with heap:=h₂ }) (F:=aY (fx.env :: outer)) x₂ fun h₃ n₃ x₃=>?_
 have fr₂:=I₂.fr.of hfr
 exact h h₃ _ (dY (s:=s) (s₁:={ s₁ with heap:=h₂ }) k₂ fr₂ n₃) (dB (s₁:={ s₁ with heap:=h₂ }) I.base B₂ fr₂ n₃) x₃
theorem xw [Hm fx] {qs:Gs→List (Expr×DV)} (top:FxTop fx) (hes:∀ G,(qs G).map Prod.fst=es) (hx:bn fx.env.scope.names fnm=true) (hf:fx.g.fns.lookup fnm=some f) (hfn:keepIn fx.g.K (.ref (fx.g.fn f))=true)
  (hnw:fx.nw=false) (hC:bn fx.env.scope.names C=true) (hCl:fx.g.clss.lookup C=some c) (hn:fx.ρ.lookup n=some k) (hnl:fx.env.kindOf n=some .local) (hne:hbody≠[])
  (hq:∀ oa G,∀ q∈qs G,ao q.1=true∧be ⟨fx,oa,G⟩ q) (hh:∀ A,A.frames=fx.A.frames→A.depth=fx.A.depth→A.units=fx.A.units→ExB { fx with A:=A,hm:=true } (execs hbody fx.env) X) :
  ExB fx (exec (.Try [.Return (some (.Call (.Name fnm fp) es [] cpos)) rpos] [.ExceptHandler (some (.Name C np)) (some n) hbody hpos] [] [] pos) fx.env) (fun G K=>bo ((qs G).map Prod.snd) fun xs=>al fx.g.P fx.d f xs fun y=>match lW y with
   | none=>K (some y) G
   | some d=>fx.g.P.sup d c=true∧X (G.set k (.v y)) fun fl G'=>(match fl with | some x=>noX x=true | none=>False)∧K fl (G'.set k .unset)):=fun oa G K s hd I=>by
 obtain ⟨outer,L,hfr,hL⟩:=top.top
 cases hbody with
 | nil=>exact absurd rfl hne
 | cons b₀ hbody'=>
 refine wpAny_Try_except (wpAny_execs_cons ?_)
 rw [exec_Return_some,← hes G]
 refine zC1 (wpAny_standAt (zC1 (mq (Φ:=⟨fx,oa,G⟩) hx hf hfn (fun q=>nomatch (Hm.no (fx:=fx)).symm.trans q) (hq oa G) hd I (fun v s' y I' k hy nx r nv=>zC2 ?_) fun s₁ d e I₁ k₁ hd₁ hy xa=>?_)))
 ·rw [uC nx] at hy
  exact ⟨oa,G,some y,fun _=>I',I'.base,.of_keeps k,⟨nx,v,rfl,r,fun q=>nomatch hnw.symm.trans q⟩,hy⟩
 have hy:fx.g.P.sup d c=true∧X (G.set k (.v (fA d))) fun fl G'=>(match fl with | some x=>noX x=true | none=>False)∧K fl (G'.set k .unset):=hy
 refine raised top I I₁ k₁ xa fun h₃ fl k₃ B₃ x₃=>?_
 have I₃:Inv ⟨fx,oa,G⟩ { s₁ with heap:=h₃ }:=I.keep B₃ k₃
 refine wpAny_handleBy_cons (codeAny_handlers_test ?_) nofun
 have hcl':=I.ok.gr.clss C c hCl
 refine bG (Φ:=⟨{ fx with A:=fx.A.mark (some (.ref e)),hm:=true },oa,G⟩) (I₃.mark _) hC hcl'.2 ?_ _
 refine x₃.el fun oe vs he hcl _ _ _=>(hy.1▸I.ok.gr.catches d c hd₁ hcl'.1:mD fx.g d c true) _ _ _ _ e oe B₃.stays he hcl ?_
 clear he hcl
 refine (?_:codeAny _ _ _ _ _)
 refine codeAny_handlers_suite_as (gK (s:={ s₁ with heap:=h₃ }) (F:=aY (fx.env :: outer)) x₃ fun h₄ n₄ x₄=>?_)
 have fr₃:=I₃.fr.of hfr
 have k₄:=dY (s:=s) (s₁:={ s₁ with heap:=h₃ }) k₃ fr₃ n₄
 have B₄:=dB (s₁:={ s₁ with heap:=h₃ }) I.base B₃ fr₃ n₄
 have I₄:Inv ⟨fx,oa,G⟩ { s₁ with heap:=h₄ }:=I.keep B₄ k₄
 have Ih:=I₄.mark (.ref e)
 clear n₄ x₃ k₃ B₃ I₃ fr₃
 refine d4 (Φ:=⟨{ fx with A:=fx.A.mark (some (.ref e)),hm:=true },oa,G⟩) Ih hn (fun q=>nomatch (show fx.env.kindOf n=some .free from q).symm.trans hnl) (fun h₅ tk ps=>?_) _
 obtain ⟨I₅,t₅⟩:=x₄.el fun oe vs he hcl hdi hdat hnew=>iK (tk:=tk) Ih ps (.exc hd₁ (fun q=>(I.badLive (Φ:=⟨fx,oa,G⟩) q).elim fun o e=>au hnew e) he ⟨hcl,hdi⟩ hdat)
 refine wpAny_mono (hh (fx.A.mark (some (.ref e))) rfl rfl rfl _ _ _ _ hy.2 I₅) (fun fl s₆ p=>?_) fun v s₆ p=>?_
 ·refine ar fun Z kZ=>?_
  obtain ⟨oa₆,G₆,fl,I₆,B₆,t₆,hf₆,hk⟩:=p
  cases fl with
  | none=>exact hk.1.elim
  | some x=>
   obtain ⟨nx,v,ef,rv,nv⟩:=hf₆
   refine kZ ?_
   subst ef
   have I₆:=I₆ (.inr rfl)
   have tt:Tr ⟨fx,oa,G⟩ s ⟨fx,oa₆,G₆⟩ s₆:=(Tr.of_keeps k₄).trans ((Tr.unmark (oa':=fun j=>if j=k then none else oa j) (G':=G.set k (.v (fA d))) t₅).trans (Tr.unmark t₆))
   have hns:∃ m,s₆.heap.Ns fx.env.locals m:=by
    obtain ⟨u,pr,_⟩:=I₆.slot k
    exact ((fU I.ok hn hnl▸pr:aZ s₆.heap (.ns fx.env.locals n) u)).imp fun _ z=>z.1
   have hloc:(Ct.mk fx oa G).own fx.env.locals:=.inl ⟨k,by refine (?_:(fx.pl k).addr=_); rw [fU I.ok hn hnl]; rfl⟩
   refine t9 (Φ:=⟨fx,oa,G⟩) (K:=K) (oa':=oa₆) (G':=G₆) I.ok hn hnl hns (I.new _ hloc).2.1 B₆ tt nx rv (fun q=>(nv q).le fun b l=>t₅.live b (k₄.live l)) hk.2 (fun q=>?_) fun s' p=>p
   rw [bM (show k < G₆.length by rw [I₆.gl]; exact Nat.lt_of_lt_of_le (Nat.lt_of_not_le fun z=>by have:=fU I.ok hn hnl; rw [I.ok.offs k z] at this; (injection this; done)) I.ok.nfs)] at q
   exact q
 ·obtain ⟨_,_,_,_,_,_,_,_,_,hk⟩:=p
  exact nB hk.1
end
theorem tm (e:lW x=some c):∃ i:Int,x=.dict [(.int i,.none)]∧i.toNat=c:=by
 revert e
 cases x with
 | dict kvs=>cases kvs with
  | nil=>exact fun e=>nN e.symm
  | cons p r=>
   obtain ⟨a,b⟩:=p
   cases a with
   | int i=>cases b with
    | none=>cases r with
     | nil=>exact fun e=>⟨i,rfl,Option.some.inj e⟩
     | cons=>exact fun e=>nN e.symm
    | _=>exact fun e=>nN e.symm
   | _=>exact fun e=>nN e.symm
 | _=>exact fun e=>nN e.symm
theorem xm {prog:Program} {w:World} {A:Around} {E:Value→Shared→Prop} {s:Shared} {x D:Addr} {ox:Obj} {od:Option Obj} {Q:Value→Shared→Prop} (I:InstAt s.heap x ox D od) (h:Q (.bool true) s):wpAny (model prog w) A (call (.builtin "isinstance") [.ref x,.ref D]) Q E s:=by
 refine call_isinstance (S:=fun _ R s=>InstAt s.heap x ox D od∧R (.ok (.ret (.bool true))) s) (fun prog w A R s hs=>isinstance_outer ?_ (by intro q; (injection q; done))) ⟨I,h⟩
 obtain ⟨I,h⟩:=hs
 obtain ⟨h0,g,d,tt,os⟩:=s
 have L0:=I.type (M:=model prog w)
 skip
 refine zC1 (L0.at ?_)
 refine dH (beq_self_eq_true _) ?_
 refine zC1 (wpAny_rule ?_)
 first
  | exact wpAny_pure h
  | exact zC2 (wpAny_pure h)
  | (refine zC1 ?_; exact zC2 (wpAny_pure h))
section
variable {Φ:Ct} {s:Shared} {v u:Value} {x y z:V} {d:DV}
theorem u0 {c:Nat} {tb:List Bool} (hx:bn Φ.fx.env.scope.names "isinstance"=true) (hy:bn Φ.fx.env.scope.names C=true) (hp:ao q.1=true) (hC:Φ.fx.g.clss.lookup C=some c∨(C="ValueError"∧c=Φ.fx.g.nc)) (ht:∀ e,e < Φ.fx.g.nc→tb[e]?=some (Φ.fx.g.P.sup e c)) (h:be Φ q) :
  Ev Φ (eval (.Call (.Name "isinstance" fp) [q.1,.Name C pT] [] pos) Φ.fx.env) (fun K=>q.2 fun x=>okK ((lW x).bind fun e=>tb[e]?) fun b=>K (.bool b)):=fun K s hd I E=>by
 refine (?_:wpAny _ _ (eval (.Name "isinstance" fp) Φ.fx.env >>= fun F=>callWith pos F [] (backTo pos (starEach [q.1,.Name C pT] Φ.fx.env)) []) _ _ s)
 refine zC1 (bB (v:=.builtin "isinstance") I hx rfl ?_ E)
 refine (aK hp).symm▸?_
 refine callWith_builtin rfl (Calls.evalArgs_plain ?_)
 have q':spliced (backTo pos ((false,eval q.1 Φ.fx.env) :: starEach [.Name C pT] Φ.fx.env))=(eval q.1 Φ.fx.env >>= fun v=>holding [v] (eval (.Name C pT) Φ.fx.env >>= fun u=>holding [u] (pure []) >>= fun vs=>pure (u :: vs)) >>= fun vs=>pure (v :: vs)):=rfl
 refine (?_:wpAny _ _ (spliced (backTo pos ((false,eval q.1 Φ.fx.env) :: starEach [.Name C pT] Φ.fx.env))) _ _ _)
 refine q'.symm▸?_
 refine zC1 (wpAny_mono (h _ s hd I E) (fun v s₁ ⟨B,k,x,hx,r⟩=>?_) fun _ _ z=>z)
 have I₁:=I.keep B k
 have hcn:c≤Φ.fx.g.nc:=hC.elim (fun e=>Nat.le_of_lt (I.ok.gr.clss C c e).1) fun e=>zB2 e.2
 have nameC:∀ Q:Value→Shared→Prop,Q (im Φ.fx.g c) s₁→wpAny (model Φ.fx.g.prog Φ.fx.g.w) Φ.fx.A (eval (.Name C pT) Φ.fx.env) Q E s₁:=fun Q hQ=>by
  rcases hC with e | ⟨rfl,e⟩
  ·obtain ⟨hlt,hm⟩:=I.ok.gr.clss C c e
   unfold im at hQ
   rw [if_neg (Nat.ne_of_lt hlt)] at hQ
   exact bG I₁ hy hm hQ E
  ·unfold im at hQ
   rw [if_pos e] at hQ
   exact bB I₁ hy rfl hQ E
 refine zC1 (wpAny_holding (zC1 (nameC _ ?_)))
 refine zC1 (wpAny_holding (zC2 (zC2 (zC2 ?_))))
 refine ag hx fun b e kb=>?_
 obtain ⟨c',e',eb⟩:=Option.bind_eq_some_iff.mp e
 obtain ⟨i,rfl,rfl⟩:=tm e'
 cases r with
 | inst _ _ _ _ _ _ q=>(injection q; done)
 | dict _ _ _ _ _ he=>exact absurd he.1 nofun
 | exc hn nb ha hc hd=>
  have eb:=(ht _ hn).symm.trans eb
  (injection eb with eb; subst eb)
  exact I.ok.gr.isi _ c hn hcn _ _ _ s₁ _ _ I₁.base.stays ha hc.1 hc.2 ⟨_,hd⟩ fun n=>⟨I₁.base.grown (.toks _ _),k,_,kb,.bool _⟩
theorem u1 (hx:bn Φ.fx.env.scope.names "isinstance"=true) (hy:bn Φ.fx.env.scope.names C=true) (hp:ao q.1=true) (hC:Φ.fx.g.fns.lookup C=some f) (hf:Φ.fx.g.fn f=Φ.fx.g.C) (h:be Φ q) :
  Ev Φ (eval (.Call (.Name "isinstance" fp) [q.1,.Name C pT] [] pos) Φ.fx.env) (fun K=>q.2 fun x=>ij x=true∧K (.bool true)):=fun K s hd I E=>by
 refine (?_:wpAny _ _ (eval (.Name "isinstance" fp) Φ.fx.env >>= fun F=>callWith pos F [] (backTo pos (starEach [q.1,.Name C pT] Φ.fx.env)) []) _ _ s)
 refine zC1 (bB (v:=.builtin "isinstance") I hx rfl ?_ E)
 rw [aK hp]
 refine callWith_builtin rfl (Calls.evalArgs_plain ?_)
 have q':spliced (backTo pos ((false,eval q.1 Φ.fx.env) :: starEach [.Name C pT] Φ.fx.env))=(eval q.1 Φ.fx.env >>= fun v=>holding [v] (eval (.Name C pT) Φ.fx.env >>= fun u=>holding [u] (pure []) >>= fun vs=>pure (u :: vs)) >>= fun vs=>pure (v :: vs)):=rfl
 refine (?_:wpAny _ _ (spliced (backTo pos ((false,eval q.1 Φ.fx.env) :: starEach [.Name C pT] Φ.fx.env))) _ _ _)
 rw [q']
 refine zC1 (wpAny_mono (h _ s hd I E) (fun v s₁ ⟨B,k,x,hx,r⟩=>?_) fun _ _ z=>z)
 have I₁:=I.keep B k
 refine zC1 (wpAny_holding (zC1 (bG I₁ hy (I.ok.gr.fns C f hC) ?_ E)))
 refine zC1 (wpAny_holding (zC2 (zC2 (zC2 ?_))))
 rw [hf]
 cases x with
 | dict kvs=>
  refine Rp.inst_elim (C:=fun v=>wpAny _ _ (call (.builtin "isinstance") [v,.ref Φ.fx.g.C]) _ E s₁) r hx.1 fun a dd o ws nb nb' ha hdd hfl _ hl=>?_
  exact xm (od:=some o) ⟨ha,rfl,rfl,hdd⟩ ⟨B,k,_,hx.2,.bool _⟩
 | _=>(injection hx.1; done)
theorem qr {qs:List (Expr×DV)} (hx:bn Φ.fx.env.scope.names "tuple"=true) (hq:∀ q∈qs,ao q.1=true∧be Φ q):Ev Φ (eval (.Call (.Name "tuple" fp) (qs.map Prod.fst) [] pos) Φ.fx.env) (fun K=>bo (qs.map Prod.snd) fun xs=>okK (opN .tupleOf xs) K):=
 oU (op:=opN .tupleOf) hx rfl (.inr ⟨_,rfl⟩) hq fun s vs xs z I rs e=>dj (C:=fun vs=>Φ.wp (call (.type "tuple") vs) (Φ.Gives s z) s) e rs fun v x r e=>bW (C:=fun x=>Φ.rp s.heap v x→Φ.wp (call (.type "tuple") [v]) (Φ.Gives s z) s) e (fun l e r=>fit_elim e fun hz=>r.list_elim fun a o vs n _ ha hc hd hl E=>call_tuple_list ⟨_,ha,hc.1,_,hd⟩ (fun h' hk=>by
   have k2:aH s.heap (h'.push { cls:=.type "tuple",data:=.seq vs }):=fun b o e=>Heap.get?_push_of_some _ (hk b o e)
   refine ⟨jI (tk:=s.toks) k2,.tuple (fun q=>?_) (Heap.get?_push_size _ rfl) rfl rfl (hl.keep k2.keeps)⟩
   obtain ⟨o',e'⟩:=I.badLive q
   exact au (ak _) (hk _ _ e')) (by rw [aO hl]; exact cK hz)) r
end
end Mine
end
noncomputable section
namespace Mine
open PySem PySem.SetTable
theorem yG {G:Prop} (h:∀ P:Prop,(G→P)→P):G:=h G id
def mC (xs:Array Nat):Prop:=∀ i j a b:Nat,i < j→xs[i]?=some a→xs[j]?=some b→a < b
theorem AN (h:lo < hi):(lo+hi) / 2 < hi:=Nat.div_lt_of_lt_mul (by rw [Nat.two_mul]; exact Nat.add_lt_add_right h hi)
theorem Ca (h:lo≤hi):lo≤(lo+hi) / 2:=(Nat.le_div_iff_mul_le (by decide)).mpr (by rw [Nat.mul_two]; exact Nat.add_le_add_left h lo)
theorem jM (r:mC xs):∀ fuel lo hi,lo≤hi→hi≤xs.size→hi≤lo+fuel→(∀ i a:Nat,i < lo→xs[i]?=some a→a < j)→(∀ i a:Nat,hi≤i→xs[i]?=some a→j≤a) →
  below.go xs j fuel lo hi≤xs.size∧(∀ i a:Nat,i < below.go xs j fuel lo hi→xs[i]?=some a→a < j)∧∀ i a:Nat,below.go xs j fuel lo hi≤i→xs[i]?=some a→j≤a
 | 0,lo,hi,h1,h2,h3,h4,h5=>⟨zB1 h1 h2,h4,fun i a q=>h5 i a (zB1 h3 q)⟩
 | fuel+1,lo,hi,h1,h2,h3,h4,h5=>by
  rw [show below.go xs j (fuel+1) lo hi=if lo < hi then (if xs.getD ((lo+hi) / 2) j < j then below.go xs j fuel ((lo+hi) / 2+1) hi else below.go xs j fuel lo ((lo+hi) / 2)) else lo from rfl]
  by_cases h:lo < hi
  ·rw [if_pos h]
   have hm:(lo+hi) / 2 < xs.size:=Nat.lt_of_lt_of_le (AN h) h2
   have e:xs[(lo+hi) / 2]?=some (xs.getD ((lo+hi) / 2) j):=by simp [hm]
   by_cases c:xs.getD ((lo+hi) / 2) j < j
   ·rw [if_pos c]
    refine jM r fuel _ hi (AN h) h2 (zB1 h3 (zB1 (Nat.add_le_add_right (Ca h1) (fuel+1)) (zB2 (Nat.add_right_comm _ 1 fuel).symm))) (fun i a q ea=>?_) h5
    by_cases q':i=(lo+hi) / 2
    ·subst q'; rw [e] at ea; (injection ea with ea; subst ea); exact c
    ·exact Nat.lt_trans (r _ _ _ _ (Nat.lt_of_le_of_ne (Nat.le_of_lt_succ q) q') ea e) c
   ·rw [if_neg c]
    refine jM r fuel lo _ (Ca h1) (Nat.le_of_lt hm) (Nat.le_of_lt_succ (Nat.lt_of_lt_of_le (AN h) h3)) h4 fun i a q ea=>?_
    by_cases q':i=(lo+hi) / 2
    ·subst q'; rw [e] at ea; (injection ea with ea; subst ea); exact Nat.le_of_not_lt c
    ·exact Nat.le_of_lt (Nat.lt_of_le_of_lt (Nat.le_of_not_lt c) (r _ _ _ _ (Nat.lt_of_le_of_ne q (Ne.symm q')) e ea))
  ·rw [if_neg h]
   exact ⟨zB1 h1 h2,h4,fun i a q=>h5 i a (by exact zB1 (Nat.not_lt.mp h) q)⟩
theorem d9 (r:mC xs) (j:Nat):below xs j≤xs.size∧(∀ i a:Nat,i < below xs j→xs[i]?=some a→a < j)∧∀ i a:Nat,below xs j≤i→xs[i]?=some a→j≤a:=
 jM r _ _ _ (Nat.zero_le _) (Nat.le_refl _) (Nat.le_add_left _ _) (fun _ _ q=>absurd q (Nat.not_lt_zero _)) fun i a q e=>by rw [Array.getElem?_eq_none q] at e; (injection e; done)
theorem jN (r:mC xs) (e:xs[i]?=some j):below xs j=i:=by
 obtain ⟨_,h1,h2⟩:=d9 r j
 rcases Nat.lt_trichotomy i (below xs j) with q | q | q
 ·exact absurd (h1 _ _ q e) (Nat.lt_irrefl _)
 ·exact q.symm
 ·have hb:below xs j < xs.size:=by
   have:i < xs.size:=by rcases Nat.lt_or_ge i xs.size with q | q; exact q; rw [Array.getElem?_eq_none q] at e; (injection e; done)
   exact Nat.lt_trans q this
  have e':xs[below xs j]?=some xs[below xs j]:=by simp
  have a1:=h2 _ _ (Nat.le_refl _) e'
  have a2:=r _ _ _ _ q e' e
  exact absurd a1 (Nat.not_le.mpr a2)
theorem om {xs:Array Nat} (r:mC xs) {i k j:Nat} (e:xs[i]?=some j) (e':xs[k]?=some j):i=k:=(jN r e).symm.trans (jN r e')
theorem rW (r:mC xs):∃ e,e≤xs.size∧∀ i:Nat,xs[i]?≠some e:=by
 refine Classical.byContradiction fun c=>?_
 have all:∀ e,e≤xs.size→∃ i:Nat,xs[i]?=some e:=fun e h=>Classical.byContradiction fun q=>c ⟨e,h,fun i z=>q ⟨i,z⟩⟩
 have up:∀ e,e≤xs.size→∀ i:Nat,xs[i]?=some e→e≤i:=fun e=>by
  induction e with
  | zero=>exact fun _ _ _=>Nat.zero_le _
  | succ e ih=>
   intro h i z
   obtain ⟨k,hk⟩:=all e (Nat.le_of_succ_le h)
   have:=ih (Nat.le_of_succ_le h) k hk
   rcases Nat.lt_trichotomy i k with q | q | q
   ·exact absurd (r _ _ _ _ q z hk) (Nat.not_lt.mpr (Nat.le_succ e))
   ·subst q; rw [z] at hk; cases hk
   ·exact Nat.lt_of_le_of_lt this q
 obtain ⟨i,hi⟩:=all _ (Nat.le_refl _)
 have:=up _ (Nat.le_refl _) i hi
 rw [Array.getElem?_eq_none this] at hi; (injection hi; done)
theorem insertAt_list:(insertAt xs p x).toList=xs.toList.take p++x :: xs.toList.drop p:=by
 unfold insertAt
 rw [Array.toList_append,Array.toList_push,Array.toList_extract,Array.toList_extract,List.append_assoc,List.extract_eq_take_drop,List.extract_eq_take_drop,List.drop_zero,Nat.sub_zero,List.take_of_length_le (i:=xs.size - p) (by rw [List.length_drop,zB3]; exact Nat.le_refl _)]; rfl
theorem fz (h:p≤xs.size) (i:Nat):(insertAt xs p x)[i]?=if i < p then xs[i]? else if i=p then some x else xs[i - 1]?:=by
 have lp:(xs.toList.take p).length=p:=by rw [List.length_take,zB3]; exact Nat.min_eq_left h
 rw [← Array.getElem?_toList,insertAt_list]
 rcases Nat.lt_trichotomy i p with hi | rfl | hi
 ·rw [if_pos hi,List.getElem?_append_left (Nat.lt_of_lt_of_eq hi lp.symm),List.getElem?_take_of_lt hi,Array.getElem?_toList]
 ·rw [if_neg (Nat.lt_irrefl _),if_pos rfl,List.getElem?_append_right (zB2 lp),lp,Nat.sub_self]; rfl
 ·rw [if_neg (Nat.lt_asymm hi),if_neg (Nat.ne_of_gt hi),List.getElem?_append_right (zB1 (zB2 lp) (Nat.le_of_lt hi)),lp]
  obtain ⟨k,rfl⟩:=Nat.exists_eq_add_of_lt hi
  rw [Nat.add_assoc,Nat.add_sub_cancel_left,List.getElem?_cons_succ,List.getElem?_drop,Array.getElem?_toList]; rfl
theorem cP (h:p≤xs.size):(insertAt xs p x).size=xs.size+1:=by
 rw [← zB3,insertAt_list,zB5,List.length_take,zB3,Nat.min_eq_left h,zB4,List.length_drop,zB3,← Nat.add_assoc,Nat.add_sub_cancel' h]
theorem insertAt_cases (h:p≤xs.size) (e:(insertAt xs p x)[i]?=some y):(i=p∧x=y)∨(i≠p∧xs[if i < p then i else i - 1]?=some y):=by
 rw [fz h] at e
 by_cases h1:i < p
 ·rw [if_pos h1] at e; exact .inr ⟨by exact Nat.ne_of_lt h1,by rw [if_pos h1]; exact e⟩
 ·rw [if_neg h1] at e
  by_cases h2:i=p
  ·rw [if_pos h2] at e; (injection e with e; subst e); exact .inl ⟨h2,rfl⟩
  ·rw [if_neg h2] at e; exact .inr ⟨h2,by rw [if_neg h1]; exact e⟩
theorem lx (h:p≤xs.size) (e:xs[i]?=some y):(insertAt xs p x)[if i < p then i else i+1]?=some y:=by
 rw [fz h]
 by_cases h1:i < p
 ·rw [if_pos h1,if_pos h1]; exact e
 ·rw [if_neg h1,if_neg (by exact Nat.not_lt.mpr (Nat.le_add_right_of_le (Nat.not_lt.mp h1))),if_neg (by exact Nat.ne_of_gt (Nat.lt_succ_of_le (Nat.not_lt.mp h1)))]; exact e
theorem nE (r:mC xs) (h:∀ i:Nat,xs[i]?≠some j):mC (insertAt xs (below xs j) j):=fun i k a b hik ea eb=>by
 obtain ⟨hp,h1,h2⟩:=d9 r j
 have le:∀ i a:Nat,below xs j≤i→xs[i]?=some a→j < a:=fun i a q e=>Nat.lt_of_le_of_ne (h2 i a q e) fun z=>h i (z▸e)
 rcases insertAt_cases hp ea with ⟨rfl,rfl⟩ | ⟨q1,z1⟩ <;> rcases insertAt_cases hp eb with ⟨rfl,rfl⟩ | ⟨q2,z2⟩
 ·exact absurd hik (Nat.lt_irrefl _)
 ·rw [if_neg (by exact Nat.not_lt.mpr (Nat.le_of_lt hik))] at z2; exact le _ _ (Nat.le_sub_one_of_lt hik) z2
 ·rw [if_pos hik] at z1; exact h1 _ _ hik z1
 ·refine r _ _ _ _ ?_ z1 z2
  by_cases c1:i < below xs j
  ·rw [if_pos c1]
   by_cases c2:k < below xs j
   ·rw [if_pos c2]; exact hik
   ·rw [if_neg c2]; exact Nat.lt_of_lt_of_le c1 (Nat.le_sub_one_of_lt (Nat.lt_of_le_of_ne (Nat.le_of_not_lt c2) (Ne.symm q2)))
  ·have c2:¬ k < below xs j:=fun q=>c1 (Nat.lt_trans hik q)
   rw [if_neg c1,if_neg c2]
   exact Nat.sub_lt_sub_right (Nat.succ_le_of_lt (Nat.lt_of_le_of_lt (Nat.zero_le _) (Nat.lt_of_le_of_ne (Nat.le_of_not_lt c1) (Ne.symm q1)))) hik
theorem slot_is {t:SetTable} (hd:t.dummies=#[]) (r:mC t.place) (j:Nat):(∃ i:Nat,t.place[i]?=some j∧t.slot j=.live i)∨(∀ i:Nat,t.place[i]?≠some j)∧t.slot j=.empty:=by
 unfold slot
 by_cases h:∃ i:Nat,t.place[i]?=some j
 ·obtain ⟨i,e⟩:=h
  refine .inl ⟨i,e,?_⟩
  simp only [jN r e,e,beq_self_eq_true,if_true]
 ·have h:∀ i:Nat,t.place[i]?≠some j:=fun i e=>h ⟨i,e⟩
  refine .inr ⟨h,?_⟩
  have:(t.place[below t.place j]?==some j)=false:=by simpa using h _
  simp only [this,hd,has,Bool.false_eq_true,if_false]
  simp
noncomputable def adv (m:Nat) (p:Probe):Probe:=
 if p.more > 0 then { p with j:=p.j+1,more:=p.more - 1 } else
 { p with j:=(leap m p.i p.perturb).1,more:=runEnd m (leap m p.i p.perturb).1 - (leap m p.i p.perturb).1,i:=(leap m p.i p.perturb).1,perturb:=(leap m p.i p.perturb).2 }
noncomputable def it (m:Nat):Nat→Probe→Probe
 | 0,p=>p
 | n+1,p=>it m n (adv m p)
theorem it_add (m:Nat):∀ a b p,it m (a+b) p=it m b (it m a p)
 | 0,b,p=>by rw [Nat.zero_add]; rfl
 | a+1,b,p=>by rw [Nat.succ_add]; exact it_add m a b (adv m p)
noncomputable def beg (m i pt:Nat):Probe:={ j:=i,more:=runEnd m i - i,i:=i,perturb:=pt,dummy:=none }
noncomputable def lp (m:Nat) (q:Nat×Nat):Nat×Nat:=leap m q.1 q.2
theorem m7 (m:Nat):∀ k p,p.more=k→p.dummy=none→it m (k+1) p=beg m (lp m (p.i,p.perturb)).1 (lp m (p.i,p.perturb)).2
 | 0,p,h,hd=>by
  refine (?_:adv m p=_)
  unfold adv; rw [if_neg (by rw [h]; exact Nat.lt_irrefl _),hd]; rfl
 | k+1,p,h,hd=>by
  have e:adv m p={ p with j:=p.j+1,more:=p.more - 1 }:=if_pos (by rw [h]; exact Nat.succ_pos _)
  refine (?_:it m (k+1) (adv m p)=_)
  rw [m7 m k (adv m p) (by rw [e]; refine (?_:p.more - 1=k); rw [h]; rfl) (by rw [e]; exact hd),e]
theorem lL (m i:Nat):runEnd m i - i≤9:=by
 unfold runEnd
 split
 ·exact zB2 (Nat.add_sub_cancel_left _ _)
 ·rw [Nat.sub_self]; exact Nat.zero_le _
noncomputable def lps (m:Nat):Nat→Nat×Nat→Nat×Nat
 | 0,q=>q
 | r+1,q=>lps m r (lp m q)
theorem rU (m:Nat):∀ r p,p.more≤9→p.dummy=none→∃ N,N≤10 * (r+1)∧it m N p=beg m (lps m (r+1) (p.i,p.perturb)).1 (lps m (r+1) (p.i,p.perturb)).2
 | 0,p,h,hd=>⟨p.more+1,Nat.succ_le_succ h,m7 m _ p rfl hd⟩
 | r+1,p,h,hd=>by
  obtain ⟨N,h1,h2⟩:=rU m r (beg m (lp m (p.i,p.perturb)).1 (lp m (p.i,p.perturb)).2) (lL _ _) rfl
  refine ⟨p.more+1+N,zB1 (Nat.add_le_add (Nat.succ_le_succ h) h1) (zB2 (Nat.add_comm 10 _)),?_⟩
  rw [it_add,m7 m _ p rfl hd]; exact h2
theorem lps_add (m:Nat):∀ a b q,lps m (a+b) q=lps m b (lps m a q)
 | 0,b,q=>by rw [Nat.zero_add]; rfl
 | a+1,b,q=>by rw [Nat.succ_add]; exact lps_add m a b (lp m q)
theorem rM (m:Nat):∀ r q,(lps m r q).2=q.2 / 32 ^ r
 | 0,q=>(Nat.div_one _).symm
 | r+1,q=>(rM m r (lp m q)).trans (by refine (?_:q.2 / 32 / 32 ^ r=_); rw [Nat.div_div_eq_div_mul,Nat.pow_succ,Nat.mul_comm])
theorem rO (m:Nat):∀ r q,q.1≤m→(lps m r q).1≤m
 | 0,q,h=>h
 | r+1,q,_=>rO m r (lp m q) (Nat.le_of_lt_succ (Nat.mod_lt _ (Nat.succ_pos _)))
noncomputable def orb (m:Nat):Nat→Nat
 | 0=>0
 | n+1=>(orb m n * 5+1) % (m+1)
def Msk (m:Nat):Prop:=m=7∨m=31∨m=127∨m=511∨m=2047∨m=8191
theorem Msk.pow {m:Nat} (h:Msk m):∃ k,m+1=2 ^ k:=by
 rcases h with rfl | rfl | rfl | rfl | rfl | rfl
 ·exact ⟨3,rfl⟩
 ·exact ⟨5,rfl⟩
 ·exact ⟨7,rfl⟩
 ·exact ⟨9,rfl⟩
 ·exact ⟨11,rfl⟩
 ·exact ⟨13,rfl⟩
noncomputable def gs:Nat→Nat
 | 0=>0
 | n+1=>gs n * 5+1
theorem orb_gs (m:Nat):∀ n,orb m n=gs n % (m+1)
 | 0=>(Nat.zero_mod _).symm
 | n+1=>by
  refine (?_:(orb m n * 5+1) % (m+1)=(gs n * 5+1) % (m+1))
  rw [orb_gs m n,Nat.add_mod,Nat.mod_mul_mod,← Nat.add_mod]
theorem qH (a:Nat):∀ b,gs (a+b)=gs b+5 ^ b * gs a
 | 0=>by rw [Nat.add_zero,Nat.pow_zero,Nat.one_mul]; exact (Nat.zero_add _).symm
 | b+1=>by
  refine (?_:gs (a+b) * 5+1=(gs b * 5+1)+5 ^ (b+1) * gs a)
  rw [qH a b,Nat.pow_succ]
  grind
theorem oR:∀ n,5 ^ n % 4=1
 | 0=>rfl
 | n+1=>by rw [Nat.pow_succ,Nat.mul_mod,oR n]
theorem vU:∀ n,gs n % 2=n % 2
 | 0=>rfl
 | n+1=>by
  have:=vU n
  show (gs n * 5+1) % 2=_
  omega
theorem vV:∀ k n,2 ^ k ∣ gs n→2 ^ k ∣ n
 | 0,n,_=>⟨n,(Nat.one_mul n).symm⟩
 | k+1,n,h=>by
  have h2:n % 2=0:=by
   rw [← vU n]
   exact Nat.mod_eq_zero_of_dvd (Nat.dvd_trans ⟨2 ^ k,by rw [Nat.pow_succ,Nat.mul_comm]⟩ h)
  obtain ⟨m,rfl⟩:∃ m,n=m+m:=⟨n / 2,by omega⟩
  rw [qH m m] at h
  obtain ⟨q,hq⟩:∃ q,5 ^ m+1=2 * (2 * q+1):=⟨5 ^ m / 4,by have:=oR m; omega⟩
  have e:gs m+5 ^ m * gs m=2 * ((2 * q+1) * gs m):=by
   rw [← Nat.mul_assoc,← hq,Nat.add_mul,Nat.one_mul,Nat.add_comm]
  rw [e,Nat.pow_succ,Nat.mul_comm (2 ^ k) 2] at h
  have h:=Nat.dvd_of_mul_dvd_mul_left (by decide:0 < 2) h
  have c:Nat.Coprime (2 ^ k) (2 * q+1):=Nat.Coprime.pow_left k (by
   rw [Nat.coprime_iff_gcd_eq_one]
   have:Nat.gcd 2 (2 * q+1) ∣ 1:=by
    have h1:=Nat.gcd_dvd_left 2 (2 * q+1)
    have h2:=Nat.gcd_dvd_right 2 (2 * q+1)
    exact (Nat.dvd_add_right (Nat.dvd_trans h1 ⟨q,rfl⟩)).mp h2
   exact Nat.eq_one_of_dvd_one this)
  have h:=vV k m (c.dvd_of_dvd_mul_left h)
  obtain ⟨r,hr⟩:=h
  exact ⟨r,by rw [Nat.pow_succ,Nat.mul_right_comm,← hr]; omega⟩
theorem rC {m k a b:Nat} (hm:m+1=2 ^ k) (h:orb m a=orb m (a+b)):2 ^ k ∣ b:=by
 rw [orb_gs,orb_gs,hm,Nat.add_comm a b,qH b a] at h
 have z:=Nat.sub_mod_eq_zero_of_mod_eq h.symm
 rw [Nat.add_sub_cancel_left] at z
 exact vV k b ((Nat.Coprime.pow k a (by decide:Nat.Coprime 2 5)).dvd_of_dvd_mul_left (Nat.dvd_of_mod_eq_zero z))
theorem zw (m n:Nat):orb m n < m+1:=by rw [orb_gs]; exact Nat.mod_lt _ (Nat.succ_pos _)
theorem zv {m k i j:Nat} (hm:m+1=2 ^ k) (h:i < j) (hj:j < i+(m+1)):orb m i≠orb m j:=fun e=>by
 obtain ⟨d,rfl⟩:=Nat.exists_eq_add_of_lt h
 have q:=rC hm (b:=d+1) e
 rw [← hm] at q
 exact absurd (Nat.le_of_dvd (Nat.succ_pos _) q) (Nat.not_le.mpr (Nat.lt_of_add_lt_add_left (by rw [← Nat.add_assoc]; exact hj)))
theorem kO {m k e:Nat} (hm:m+1=2 ^ k) (he:e≤m):∃ b,b≤m∧e=orb m (b+1):=by
 refine Classical.byContradiction fun no=>?_
 have nd:(e :: (List.range (m+1)).map fun b=>orb m (b+1)).Nodup:=by
  refine List.nodup_cons.mpr ⟨fun z=>?_,List.pairwise_map.mpr (List.pairwise_lt_range.imp_of_mem fun {i j} mi mj h=>?_)⟩
  ·obtain ⟨b,mb,q⟩:=zA7 z
   exact no ⟨b,Nat.le_of_lt_succ (List.mem_range.mp mb),q.symm⟩
  ·exact zv hm (Nat.succ_lt_succ h) (Nat.lt_of_lt_of_le (Nat.succ_lt_succ (List.mem_range.mp mj)) (by rw [Nat.add_comm (i+1)]; exact Nat.add_le_add_left (Nat.le_add_left 1 i) _))
 have l:=nd.length_le_of_subset (l₂:=List.range (m+1)) fun x mx=>by
  rcases List.mem_cons.mp mx with rfl | mx
  ·exact List.mem_range.mpr (Nat.lt_succ_of_le he)
  ·obtain ⟨b,_,rfl⟩:=zA7 mx
   exact List.mem_range.mpr (zw _ _)
 rw [zB4,zA4,List.length_range] at l
 exact absurd l (Nat.not_succ_le_self _)
theorem uz {m k:Nat} (hm:m+1=2 ^ k):orb m (m+1)=0:=by
 obtain ⟨b,hb,e⟩:=kO hm (Nat.zero_le m)
 have q:=rC hm (a:=0) (b:=b+1) (by rw [Nat.zero_add]; exact e)
 rw [← hm] at q
 have z:m=b:=Nat.le_antisymm (Nat.le_of_succ_le_succ (Nat.le_of_dvd (Nat.succ_pos _) q)) hb
 exact (congrArg (fun x=>orb m (x+1)) z).trans e.symm
theorem rD {m e:Nat} (h:Msk m) (he:e≤m):∃ b,b≤m∧e=orb m (b+1):=h.pow.elim fun _ q=>kO q he
theorem rN (m:Nat):∀ r a,lps m r (orb m a,0)=(orb m (a+r),0)
 | 0,_=>rfl
 | r+1,a=>by
  have e:lp m (orb m a,0)=(orb m (a+1),0):=by unfold lp leap; rw [Nat.zero_div]; rfl
  refine (?_:lps m r (lp m (orb m a,0))=_)
  rw [e,rN m r (a+1),Nat.add_right_comm a 1 r]; rfl
theorem iQ (h:Msk m):∀ b,orb m (b+(m+1))=orb m b
 | 0=>by rw [Nat.zero_add]; exact h.pow.elim fun _ q=>uz q
 | b+1=>by rw [Nat.add_right_comm b 1 (m+1)]; refine (?_:(_ * 5+1) % (m+1)=_); rw [iQ h b]; rfl
theorem yr (h:Msk m) (hi:i≤m) (hp:pt < 2 ^ 64) (he:e≤m):∃ r,r≤m+13∧(lps m (r+1) (i,pt)).1=e:=by
 have z:lps m 13 (i,pt)=((lps m 13 (i,pt)).1,0):=Prod.ext rfl ((rM m 13 (i,pt)).trans (Nat.div_eq_of_lt (Nat.lt_of_lt_of_le hp (by decide))))
 obtain ⟨a,ha,ea⟩:=rD h (rO m 13 (i,pt) hi)
 obtain ⟨b,hb,eb⟩:=rD h he
 rw [ea] at z
 have go:∀ r,(lps m (13+r) (i,pt)).1=orb m (a+1+r):=fun r=>by rw [lps_add,z,rN]
 by_cases c:a < b
 ·exact ⟨12+(b - a),Nat.add_comm 13 m▸Nat.add_le_add (by decide:12≤13) (zB1 (Nat.sub_le b a) hb),by rw [show 12+(b - a)+1=13+(b - a) by exact Nat.add_right_comm _ _ _,go,eb,Nat.add_right_comm a,Nat.add_sub_cancel' (Nat.le_of_lt c)]⟩
 ·refine ⟨12+(m+1+b - a),zB1 (Nat.add_le_add_left (Nat.sub_le_of_le_add (Nat.add_le_add_left (Nat.le_of_not_lt c) (m+1))) 12) (zB2 (Nat.add_comm 12 (m+1))),?_⟩
  rw [show 12+(m+1+b - a)+1=13+(m+1+b - a) by exact Nat.add_right_comm _ _ _,go,eb,← iQ h (b+1),Nat.add_right_comm a,Nat.add_sub_cancel' (zB1 ha (zB1 (Nat.le_succ m) (Nat.le_add_right _ _))),Nat.add_assoc,Nat.add_comm]
theorem zY (h:Msk m) (hi:p.i≤m) (hp:p.perturb < 2 ^ 64) (hm:p.more≤9) (hd:p.dummy=none) (he:e≤m):∃ N,N < 10 * turns m∧(it m N p).j=e:=by
 obtain ⟨r,hr,q⟩:=yr h hi hp he
 obtain ⟨N,h1,h2⟩:=rU m r p hm hd
 exact ⟨N,by unfold turns; exact Nat.lt_of_le_of_lt h1 (Nat.mul_lt_mul_of_pos_left (Nat.succ_lt_succ (Nat.lt_succ_of_le hr)) (by decide)),by rw [h2]; exact q⟩
theorem sx (h:Int):bits h < 2 ^ 64:=by unfold bits; exact (Int.toNat_lt (Int.emod_nonneg _ (by decide))).mpr (Int.emod_lt_of_pos _ (by decide))
noncomputable def pos (m:Nat) (h:Int) (n:Nat):Probe:=it m n (beg m (bits h % (m+1)) (bits h))
def In (t:SetTable) (j:Nat):Prop:=∃ i:Nat,t.place[i]?=some j
def Way (t:SetTable) (h:Int) (j:Nat):Prop:=∃ n,(pos t.mask h n).j=j∧∀ n',n' < n→In t (pos t.mask h n').j
structure Tab {β:Type} (t:SetTable) (es:Array (Int×β)):Prop where
 msk:Msk t.mask
 dm:t.dummies=#[]
 sz:t.place.size=es.size
 rise:mC t.place
 le:∀ i j:Nat,t.place[i]?=some j→j≤t.mask
 way:∀ (i j:Nat) e,t.place[i]?=some j→es[i]?=some e→Way t e.1 j
theorem yA:∀ {n:Nat} {p:Probe},p.dummy=none→(it m n p).dummy=none
 | 0,_,h=>h
 | n+1,p,h=>yA (n:=n) (p:=adv m p) (by unfold adv; split <;> exact h)
theorem xr (hd:t.dummies=#[]) (r:mC t.place):∀ N fuel p,N < fuel→p.dummy=none→¬ In t (it t.mask N p).j →
  ∃ n,n≤N∧(∀ n',n' < n→∃ i:Nat,t.place[i]?=some (it t.mask n' p).j∧hashAt i≠h) ∧
   (¬ In t (it t.mask n p).j∧probe.go t hashAt h fuel p=some (.empty (it t.mask n p).j none) ∨
    ∃ i:Nat,t.place[i]?=some (it t.mask n p).j∧hashAt i=h∧probe.go t hashAt h fuel p=some (.candidate (it t.mask n p).j i (it t.mask (n+1) p))):=by
 intro N
 induction N with
 | zero=>
  intro fuel p hf hp he
  obtain ⟨fuel,rfl⟩:=Nat.exists_eq_succ_of_ne_zero (Nat.ne_of_gt hf)
  refine ⟨0,Nat.le_refl _,fun _ q=>absurd q (Nat.not_lt_zero _),.inl ⟨he,?_⟩⟩
  rcases slot_is hd r p.j with ⟨i,e,_⟩ | ⟨_,e⟩
  ·exact absurd ⟨i,e⟩ he
  ·unfold probe.go; rw [e]; refine (?_:some (Met.empty p.j p.dummy)=_); rw [hp]; rfl
 | succ N ih=>
  intro fuel p hf hp he
  obtain ⟨fuel,rfl⟩:=Nat.exists_eq_succ_of_ne_zero (Nat.ne_of_gt (Nat.lt_of_le_of_lt (Nat.zero_le _) hf))
  rcases slot_is hd r p.j with ⟨i,e,es⟩ | ⟨e,es⟩
  ·by_cases c:hashAt i=h
   ·refine ⟨0,Nat.zero_le _,fun _ q=>absurd q (Nat.not_lt_zero _),.inr ⟨i,e,c,?_⟩⟩
    unfold probe.go; rw [es]; exact if_pos (beq_iff_eq.mpr c)
   ·obtain ⟨n,h1,h2,h3⟩:=ih fuel (adv t.mask p) (Nat.lt_of_succ_lt_succ hf) (yA (n:=1) hp) he
    have hg:probe.go t hashAt h (fuel+1) p=probe.go t hashAt h fuel (adv t.mask p):=by
     rw [probe.go]; rw [es]; exact if_neg fun q=>c (beq_iff_eq.mp q)
    refine ⟨n+1,Nat.succ_le_succ h1,fun n' q=>?_,?_⟩
    ·cases n' with
     | zero=>exact ⟨i,e,c⟩
     | succ n'=>exact h2 n' (Nat.lt_of_succ_lt_succ q)
    ·rw [hg]; exact h3
  ·refine ⟨0,Nat.zero_le _,fun _ q=>absurd q (Nat.not_lt_zero _),.inl ⟨fun ⟨i,q⟩=>e i q,?_⟩⟩
   unfold probe.go; rw [es]; refine (?_:some (Met.empty p.j p.dummy)=_); rw [hp]; rfl
theorem yy:∀ n p,p.i≤m→p.perturb < 2 ^ 64→p.more≤9→(it m n p).i≤m∧(it m n p).perturb < 2 ^ 64∧(it m n p).more≤9
 | 0,p,h1,h2,h3=>⟨h1,h2,h3⟩
 | n+1,p,h1,h2,h3=>by
  refine yy n (adv m p) ?_ ?_ ?_ <;> unfold adv <;> split
  ·exact h1
  ·exact Nat.le_of_lt_succ (Nat.mod_lt _ (Nat.succ_pos _))
  ·exact h2
  ·exact Nat.lt_of_le_of_lt (Nat.div_le_self _ _) h2
  ·exact zB1 (Nat.sub_le _ _) h3
  ·exact lL _ _
section
variable {β:Type} {t:SetTable} {es:Array (Int×β)}
theorem Tab.gap (T:Tab t es) (hf:t.place.size≤t.mask) (h:Int) (k:Nat):∃ N,N < 10 * turns t.mask∧¬ In t (it t.mask N (pos t.mask h k)).j:=by
 obtain ⟨e,he,q⟩:=rW T.rise
 have o:=yy (m:=t.mask) k (beg t.mask (bits h % (t.mask+1)) (bits h)) (Nat.le_of_lt_succ (Nat.mod_lt _ (Nat.succ_pos _))) (sx h) (lL _ _)
 obtain ⟨N,h1,h2⟩:=zY (p:=pos t.mask h k) T.msk o.1 o.2.1 o.2.2 (yA rfl) (zB1 he hf)
 exact ⟨N,h1,fun ⟨i,z⟩=>q i (by rw [z,h2])⟩
theorem Tab.put (T:Tab t es) (hw:Way t h j) (hj:¬ In t j) (hl:j≤t.mask):(t.put j).1.mask=t.mask∧(t.put j).1.place.size=es.size+1∧Tab (t.put j).1 (insertAt es (t.put j).2 (h,x)):=by
 have hp:=(d9 T.rise j).1
 have ep:(t.put j).1.place=insertAt t.place (below t.place j) j:=rfl
 have ed:(t.put j).1.dummies=#[]:=by refine (?_:(if has t.dummies j then _ else t.dummies)=_); rw [T.dm]; rfl
 have hp':below t.place j≤es.size:=T.sz▸hp
 have up:∀ {k},In t k→In (t.put j).1 k:=fun ⟨i,e⟩=>⟨_,lx hp e⟩
 have upw:∀ {k h},Way t h k→Way (t.put j).1 h k:=fun ⟨n,a,b⟩=>⟨n,a,fun n' q=>up (b n' q)⟩
 refine ⟨rfl,by rw [ep,cP hp,T.sz],T.msk,ed,by rw [ep,cP hp]; exact T.sz▸(cP hp').symm,nE T.rise fun i e=>hj ⟨i,e⟩,fun i k e=>?_,fun i k e ek ee=>?_⟩
 ·rcases insertAt_cases hp e with ⟨_,rfl⟩ | ⟨_,e⟩
  ·exact hl
  ·exact T.le _ _ e
 ·rcases insertAt_cases hp ek with ⟨rfl,rfl⟩ | ⟨q,ek⟩
  ·rcases insertAt_cases hp' ee with ⟨_,rfl⟩ | ⟨q,_⟩
   ·exact upw hw
   ·exact absurd rfl q
  ·rcases insertAt_cases hp' ee with ⟨q',_⟩ | ⟨_,ee⟩
   ·exact absurd q' q
   ·exact upw (T.way _ _ _ ek ee)
end
def Occ (O:Array (Option Nat)) (j:Nat):Prop:=∃ c,O[j]?=some (some c)
theorem yB:∀ {k:Nat} {p:Probe},k≤p.more→(it m k p).j=p.j+k
 | 0,_,_=>rfl
 | k+1,p,h=>by
  have e:adv m p={ p with j:=p.j+1,more:=p.more - 1 }:=if_pos (Nat.lt_of_lt_of_le (Nat.succ_pos _) h)
  refine (?_:(it m k (adv m p)).j=_)
  rw [yB (p:=adv m p) (by rw [e]; exact Nat.le_sub_of_add_le h),e]
  refine (?_:p.j+1+k=_); lia
theorem vy (h:i≤m):i≤runEnd m i∧runEnd m i≤m:=by unfold runEnd; split <;> lia
theorem occ_or (hs:O.size=m+1) (hj:j≤m):(Occ O j∧(O.getD j (some 0)).isNone=false)∨¬ Occ O j∧(O.getD j (some 0)).isNone=true:=by
 have e:O[j]?=some (O.getD j (some 0)):=by rw [Array.getD_eq_getD_getElem?,Array.getElem?_eq_getElem (by lia)]; rfl
 unfold Occ
 refine e.symm▸?_
 cases O.getD j (some 0) with
 | none=>exact .inr ⟨(fun ⟨c,q⟩=>nomatch q),rfl⟩
 | some c=>exact .inl ⟨⟨c,rfl⟩,rfl⟩
theorem tf (hs:O.size=m+1):∀ r fuel i pt,r < fuel→i≤m→¬ Occ O (lps m r (i,pt)).1 →
  ∃ n j,layClean.free m O fuel i pt=some j∧(it m n (beg m i pt)).j=j∧j≤m∧¬ Occ O j∧∀ n',n' < n→Occ O (it m n' (beg m i pt)).j:=by
 intro r fuel
 induction fuel generalizing r with
 | zero=>exact fun _ _ h=>absurd h (Nat.not_lt_zero _)
 | succ fuel ih=>
  intro i pt hr hi he
  have hre:=vy hi
  have er:runEnd m i+1 - i=runEnd m i - i+1:=Nat.succ_sub hre.1
  have inr:∀ k,k < runEnd m i+1 - i→(it m k (beg m i pt)).j=i+k∧i+k≤m:=fun k hk=>have hk:k≤runEnd m i - i:=Nat.le_of_lt_succ (Nat.lt_of_lt_of_eq hk er); ⟨yB (p:=beg m i pt) hk,zB1 (Nat.add_le_of_le_sub' hre.1 hk) hre.2⟩
  unfold layClean.free
  cases hf:(List.range (runEnd m i+1 - i)).find? fun k=>(O.getD (i+k) (some 0)).isNone with
  | some k=>
   obtain ⟨h1,h2,h3⟩:=List.find?_range_eq_some.mp hf
   have hk:=inr k (List.mem_range.mp h2)
   refine ⟨k,i+k,rfl,hk.1,hk.2,?_,fun n' q=>?_⟩
   ·rcases occ_or hs hk.2 with ⟨_,z⟩ | ⟨z,_⟩
    ·replace h1:=z▸h1; (injection h1; done)
    ·exact z
   ·have hn:=inr n' (Nat.lt_trans q (List.mem_range.mp h2))
    rcases occ_or hs hn.2 with ⟨z,_⟩ | ⟨_,z⟩
    ·rw [hn.1]; exact z
    ·have:=h3 n' q; replace this:=z▸this; (injection this; done)
  | none=>
   have hn:=List.find?_range_eq_none.mp hf
   have occ:∀ n',n' < runEnd m i+1 - i→Occ O (it m n' (beg m i pt)).j:=fun n' q=>by
    rcases occ_or hs (inr n' q).2 with ⟨z,_⟩ | ⟨_,z⟩
    ·rw [(inr n' q).1]; exact z
    ·have:=hn n' q; replace this:=z▸this; (injection this; done)
   cases r with
   | zero=>exact absurd (occ 0 (er▸Nat.succ_pos _)) he
   | succ r=>
    obtain ⟨n,j,e1,e2,e3,e4,e5⟩:=ih r (lp m (i,pt)).1 (lp m (i,pt)).2 (Nat.lt_of_succ_lt_succ hr) (Nat.le_of_lt_succ (Nat.mod_lt _ (Nat.succ_pos _))) he
    have hrun:=m7 m (runEnd m i - i) (beg m i pt) rfl rfl
    refine ⟨runEnd m i - i+1+n,j,e1,?_,e3,e4,fun n' q=>?_⟩
    ·rw [it_add,hrun]; exact e2
    ·by_cases c:n' < runEnd m i+1 - i
     ·exact occ n' c
     ·have c:=er▸Nat.le_of_not_lt c
      have:=e5 (n' - (runEnd m i - i+1)) (Nat.sub_lt_left_of_lt_add c q)
      rw [← Nat.add_sub_cancel' c,it_add,hrun]; exact this
structure LInv (m:Nat) (H:Nat→Int) (O:Array (Option Nat)) (k:Nat):Prop where
 sz:O.size=m+1
 way:∀ j c:Nat,O[j]?=some (some c)→c < k∧∃ n,(pos m (H c) n).j=j∧∀ n',n' < n→Occ O (pos m (H c) n').j
 all:∀ c,c < k→Exists fun j:Nat=>O[j]?=some (some c)
 inj:∀ j j' c:Nat,O[j]?=some (some c)→O[j']?=some (some c)→j=j'
noncomputable def live (m:Nat) (O:Array (Option Nat)):List (Nat×Nat):=(List.range (m+1)).filterMap fun j=>(O.getD j none).map (j,·)
section
variable {m:Nat} {H:Nat→Int} {O:Array (Option Nat)} {k:Nat}
theorem ch (hs:O.size=m+1):(j,c)∈live m O ↔ O[j]?=some (some c):=by
 unfold live
 rw [List.mem_filterMap]
 constructor
 ·rintro ⟨j',_,e⟩
  obtain ⟨c',ec,q⟩:=Option.map_eq_some_iff.mp e
  cases q
  replace ec:=(Array.getD_eq_getD_getElem?)▸ec
  cases h:O[j]? with
  | none=>replace ec:=h▸ec; cases ec
  | some v=>rw [h] at ec; exact congrArg some ec
 ·intro e
  have hj:j < O.size:=by rcases Nat.lt_or_ge j O.size with q | q; exact q; replace e:=(Array.getElem?_eq_none q)▸e; cases e
  exact ⟨j,List.mem_range.mpr (hs▸hj),by rw [Array.getD_eq_getD_getElem?,e]; rfl⟩
theorem kQ:(live m O).Pairwise fun a b=>a.1 < b.1:=by
 refine List.Pairwise.filterMap _ (fun a a' h b hb b' hb'=>?_) List.pairwise_lt_range
 obtain ⟨c,_,rfl⟩:=Option.map_eq_some_iff.mp hb
 obtain ⟨c',_,rfl⟩:=Option.map_eq_some_iff.mp hb'
 exact h
theorem eH (L:LInv m H O k):((live m O).map (·.2)).Perm (List.range k):=by
 refine (List.perm_ext_iff_of_nodup ?_ List.nodup_range).mpr fun c=>?_
 ·refine List.Pairwise.map _ (fun a b h=>h) ((kQ (m:=m) (O:=O)).imp_of_mem fun {a b} ha hb h e=>?_)
  have e1:=(ch L.sz).mp (ha:(a.1,a.2)∈live m O)
  have e2:=(ch L.sz).mp (hb:(b.1,b.2)∈live m O)
  rw [← e] at e2
  exact absurd (L.inj _ _ _ e1 e2) (Nat.ne_of_lt h)
 ·rw [List.mem_map,List.mem_range]
  constructor
  ·rintro ⟨⟨j,c⟩,hm,rfl⟩; exact (L.way _ _ ((ch L.sz).mp hm)).1
  ·intro hc
   obtain ⟨j,e⟩:=L.all c hc
   exact ⟨(j,c),(ch L.sz).mpr e,rfl⟩
noncomputable def cX (m:Nat) (O:Array (Option Nat)):Array Nat:=((live m O).map (·.1)).toArray
theorem c8 {i j:Nat} (e:(cX m O)[i]?=some j):∃ c,(live m O)[i]?=some (j,c):=by
 unfold cX at e
 replace e:=(List.getElem?_map)▸(List.getElem?_toArray)▸e
 obtain ⟨q,h,rfl⟩:=Option.map_eq_some_iff.mp e
 exact ⟨_,h⟩
theorem place_rise:mC (cX m O):=fun i j a b h ea eb=>by
 obtain ⟨c,ec⟩:=c8 ea
 obtain ⟨d,ed⟩:=c8 eb
 obtain ⟨hi,qi⟩:=List.getElem?_eq_some_iff.mp ec
 obtain ⟨hj,qj⟩:=List.getElem?_eq_some_iff.mp ed
 have:=List.pairwise_iff_getElem.mp (kQ (m:=m) (O:=O)) i j hi hj h
 rw [qi,qj] at this; exact this
theorem iM (L:LInv m H O k):(cX m O).size=k:=by
 have:=(eH L).length_eq
 rw [zA4,List.length_range] at this
 unfold cX; rw [List.size_toArray,zA4,this]
theorem ot (L:LInv m H O k) {j:Nat}:(∃ i:Nat,(cX m O)[i]?=some j) ↔ Occ O j:=by
 constructor
 ·rintro ⟨i,e⟩
  obtain ⟨c,ec⟩:=c8 e
  exact ⟨c,(ch L.sz).mp (List.mem_of_getElem? ec)⟩
 ·rintro ⟨c,e⟩
  obtain ⟨i,hi⟩:=List.getElem?_of_mem ((ch L.sz).mpr e)
  exact ⟨i,by unfold cX; rw [List.getElem?_toArray,List.getElem?_map,hi]; rfl⟩
theorem LInv.step (hm:Msk m) (L:LInv m H O k) (hk:k≤m):∃ j,layClean.free m O (turns m) (bits (H k) % (m+1)) (bits (H k))=some j∧LInv m H (O.setIfInBounds j (some k)) (k+1):=by
 obtain ⟨e,he,q⟩:=rW (place_rise (m:=m) (O:=O))
 replace he:=(iM L)▸he
 have hb:bits (H k) % (m+1)≤m:=Nat.le_of_lt_succ (Nat.mod_lt _ (Nat.succ_pos _))
 obtain ⟨r,hr,hl⟩:=yr hm hb (sx (H k)) (zB1 he hk)
 have hq:¬ Occ O e:=fun z=>by obtain ⟨i,z⟩:=(ot L).mpr z; exact q i z
 obtain ⟨n,j,e1,e2,e3,e4,e5⟩:=tf L.sz (r+1) (turns m) _ _ (by unfold turns; lia) hb (by rw [hl]; exact hq)
 have hj:j < O.size:=by rw [L.sz]; exact Nat.lt_succ_of_le e3
 have gs:(O.setIfInBounds j (some k))[j]?=some (some k):=by rw [Array.getElem?_setIfInBounds,if_pos rfl,if_pos hj]
 have gn:∀ i,i≠j→(O.setIfInBounds j (some k))[i]?=O[i]?:=fun i h=>by rw [Array.getElem?_setIfInBounds,if_neg (Ne.symm h)]
 have up:∀ {i},Occ O i→Occ (O.setIfInBounds j (some k)) i:=fun {i} h=>by
  by_cases c:i=j
  ·subst c; exact ⟨k,gs⟩
  ·obtain ⟨c',z⟩:=h; exact ⟨c',(gn i c).trans z⟩
 refine ⟨j,e1,by rw [Array.size_setIfInBounds]; exact L.sz,fun i c z=>?_,fun c hc=>?_,fun i i' c z z'=>?_⟩
 ·by_cases h:i=j
  ·subst h; replace z:=gs▸z; cases z
   exact ⟨Nat.lt_succ_self _,n,e2,fun n' h=>up (e5 n' h)⟩
  ·rw [gn i h] at z
   obtain ⟨a,n,b,d⟩:=L.way _ _ z
   exact ⟨Nat.lt_succ_of_lt a,n,b,fun n' h=>up (d n' h)⟩
 ·rcases Nat.lt_or_eq_of_le (Nat.le_of_lt_succ hc) with h | h
  ·obtain ⟨i,z⟩:=L.all c h
   exact ⟨i,(gn i fun q=>e4 ⟨c,q▸z⟩).trans z⟩
  ·subst h; exact ⟨j,gs⟩
 ·by_cases h:i=j <;> by_cases h':i'=j
  ·exact h.trans h'.symm
  ·subst h; rw [gs] at z; cases z; rw [gn i' h'] at z'; exact absurd (L.way _ _ z').1 (Nat.lt_irrefl _)
  ·subst h'; rw [gs] at z'; cases z'; rw [gn i h] at z; exact absurd (L.way _ _ z).1 (Nat.lt_irrefl _)
  ·rw [gn i h] at z; rw [gn i' h'] at z'; exact L.inj _ _ _ z z'
end
noncomputable def w9 (m:Nat) (acc:Option (Array (Option Nat)×Nat)) (h:Int):Option (Array (Option Nat)×Nat):=do
  let (owner,k) ← acc
  let j ← layClean.free m owner (turns m) (bits h % (m+1)) (bits h)
  pure (owner.setIfInBounds j (some k),k+1)
theorem oH (hm:Msk m):∀ (l:List Int) (O:Array (Option Nat)) (k:Nat),(∀ i h,l[i]?=some h→H (k+i)=h)→k+l.length≤m+1→LInv m H O k →
  ∃ O',l.foldl (w9 m) (some (O,k))=some (O',k+l.length)∧LInv m H O' (k+l.length)
 | [],O,k,_,_,L=>⟨O,rfl,L⟩
 | h :: l,O,k,hH,hk,L=>by
  have e0:H k=h:=hH 0 h rfl
  obtain ⟨j,e,L'⟩:=L.step hm (by rw [zB4] at hk; lia)
  obtain ⟨O',e',L''⟩:=oH hm l _ (k+1) (fun i x z=>by rw [Nat.add_right_comm]; exact hH (i+1) x z) (by rw [zB4] at hk; lia) L'
  rw [Nat.add_right_comm] at e' L''
  refine ⟨O',?_,L''⟩
  rw [List.foldl_cons]
  refine Eq.trans (congrArg (List.foldl _ · l) ?_) e'
  rw [e0] at e
  refine (?_:(layClean.free m O (turns m) (bits h % (m+1)) (bits h)).bind _=_)
  rw [e]; rfl
theorem b7:∀ l:List α,(List.range l.length).filterMap (l[·]?)=l
 | []=>rfl
 | x :: l=>by
  rw [zB4,List.range_succ_eq_map,List.filterMap_cons,List.filterMap_map]
  exact congrArg (x :: ·) (b7 l)
theorem cS {α β:Type} {f:α→Option β}:∀ {l:List α},(∀ a∈l,(f a).isSome)→∀ i:Nat,(l.filterMap f)[i]?=l[i]?.bind f
 | [],_,_=>rfl
 | a :: l,h,i=>by
  obtain ⟨b,hb⟩:=Option.isSome_iff_exists.mp (h a (.head _))
  refine List.filterMap_cons.symm▸hb.symm▸?_
  cases i with
  | zero=>exact hb.symm
  | succ i=>exact cS (fun a q=>h a (.tail _ q)) i
theorem xe {β:Type} {es:Array (Int×β)} {m:Nat} (hm:Msk m) (hk:es.size≤m) (fi mv:Nat) (led pl:Bool):∃ t order,laid m fi mv led pl (es.map (·.1))=some (t,order)∧t.mask=m ∧
  (order.filterMap (es[·]?)).toList.Perm es.toList∧Tab t (order.filterMap (es[·]?))∧order.toList.Perm (List.range es.size):=by
 have e0:LInv m (fun i=>(es[i]?.map (·.1)).getD 0) (Array.replicate (m+1) none) 0:=by
  have no:∀ j c:Nat,(Array.replicate (m+1) (none:Option Nat))[j]?≠some (some c):=fun j c z=>by
   rw [Array.getElem?_replicate] at z
   split at z <;> cases z
  exact ⟨Array.size_replicate,fun j c z=>absurd z (no j c),fun c h=>absurd h (Nat.not_lt_zero _),fun j _ c z=>absurd z (no j c)⟩
 obtain ⟨O,e1,L⟩:=oH hm (es.toList.map (·.1)) _ 0 (fun i h z=>by rw [List.getElem?_map,Array.getElem?_toList] at z; rw [Nat.zero_add,z]; rfl) (by rw [zA4,zB3]; lia) e0
 rw [Nat.zero_add,zA4,zB3] at e1 L
 have e2:layClean m (es.map (·.1))=some O:=by
  unfold layClean
  rw [← Array.foldl_toList,Array.toList_map]
  exact (congrArg (Option.map _) e1).trans rfl
 have P:(((live m O).map (·.2)).toArray.filterMap (es[·]?)).toList.Perm es.toList:=by
  rw [Array.toList_filterMap]
  refine (List.Perm.filterMap _ (eH L)).trans (.of_eq ?_)
  have:=b7 es.toList
  simpa only [Array.getElem?_toList,zB3] using this
 refine ⟨{ mask:=m,place:=cX m O,dummies:=#[],finger:=fi,led:=led,moves:=mv,plain:=pl },((live m O).map (·.2)).toArray,?_,rfl,P,?_,eH L⟩
 ·unfold laid; rw [e2]; rfl
 ·have hs:∀ c∈(live m O).map (·.2),(es[c]?).isSome:=fun c hc=>by
   rw [Array.getElem?_eq_getElem (List.mem_range.mp ((eH L).mem_iff.mp hc))]; rfl
  have hg:∀ i:Nat,((((live m O).map (·.2)).toArray.filterMap (es[·]?)))[i]?=((live m O)[i]?.map (·.2)).bind (es[·]?):=fun i=>by
   rw [← Array.getElem?_toList,Array.toList_filterMap,cS hs,List.getElem?_map]
  refine ⟨hm,rfl,?_,place_rise,fun i j e=>?_,fun i j e ej ee=>?_⟩
  ·exact (iM L).trans ((Array.length_toList.symm.trans P.length_eq.symm).trans zB3)
  ·obtain ⟨c,ec⟩:=c8 e
   have:=Array.getElem?_eq_some_iff.mp ((ch L.sz).mp (List.mem_of_getElem? ec))
   exact Nat.le_of_lt_succ (Nat.lt_of_lt_of_eq this.1 L.sz)
  ·obtain ⟨c,ec⟩:=c8 ej
   rw [hg,ec] at ee
   have ee:es[c]?=some e:=ee
   obtain ⟨_,n,a,b⟩:=L.way _ _ ((ch L.sz).mp (List.mem_of_getElem? ec))
   rw [ee] at a b
   exact ⟨n,a,fun n' q=>(ot L).mpr (b n' q)⟩
theorem v4 (m x pt:Nat):(beg m (x % (m+1)) pt).j+(beg m (x % (m+1)) pt).more≤m:=by
 have h:=vy (Nat.le_of_lt_succ (Nat.mod_lt x (Nat.succ_pos m)):x % (m+1)≤m)
 exact zB1 (zB2 (Nat.add_sub_cancel' h.1)) h.2
theorem yz:∀ n p,p.j+p.more≤m→(it m n p).j+(it m n p).more≤m
 | 0,_,h=>h
 | n+1,p,h=>by
  refine yz n (adv m p) ?_
  unfold adv
  split
  ·rename_i q
   refine (?_:p.j+1+(p.more - 1)≤m)
   rw [Nat.add_assoc,Nat.add_sub_cancel' q]; exact h
  ·exact v4 m (p.i * 5+1+p.perturb / 32) 0
theorem zq (m:Nat) (h:Int) (n:Nat):(pos m h n).j≤m:=
 zB1 (Nat.le_add_right _ _) (yz n (beg m (bits h % (m+1)) (bits h)) (v4 m _ _))
theorem vT (m:Nat) (h:Int) (a b:Nat):it m b (pos m h a)=pos m h (a+b):=(it_add m a b _).symm
theorem uA (h:Msk m):(m % 2==0)=false:=by rcases h with rfl | rfl | rfl | rfl | rfl | rfl <;> rfl
section
variable {prog:Program} {w:World} {K:Type} [DecidableEq K] {kd:KeyKind prog w K} {A:Around} {E:Value→Shared→Prop} {s:Shared}
def yW (kd:KeyKind prog w K) (h:Heap) (es:List (Int×Value)):Prop:=∀ e∈es,∃ ks c,e=(tupleKeyHash kd ks,.ref c)∧IsTupleKey kd h ks c
def IsK (kd:KeyKind prog w K) (h:Heap) (ks:List K) (e:Int×Value):Prop:=∃ c,e=(tupleKeyHash kd ks,.ref c)∧IsTupleKey kd h ks c
theorem Tab.fits (T:Tab t es) (hf:es.size≤t.mask):t.fits es.size=true:=by
 unfold SetTable.fits SetTable.fill
 rw [T.sz,T.dm]
 simpa using hf
theorem gS (hk:IsTupleKey kd s.heap ks b) (h:Q false s):wpAny (model prog w) A (ofAClassStatement 8 (.ref b)) Q E s:=by
 have hT:=hk.typeIs
 obtain ⟨o,items,n,ho,_,hd,hi⟩:=hk
 unfold ofAClassStatement
 refine zC1 (wpAny_typeOf hT ?_)
 refine (?_:wpAny _ _ (pure true >>= _) _ _ s)
 refine zC1 (zC2 ?_)
 refine (?_:wpAny _ _ (seqItems? (.ref b) >>= _) _ _ s)
 refine zC1 (wpAny_seqItems ho hd ?_)
 dsimp only
 refine zC1 ?_
 rw [← Array.forIn_toList]
 refine wpAny_forIn_list _ (fun rest r s'=>r.1=none∧s'=s∧∀ v∈rest,carriedByValue v=true) _ ?_ ?_ _ _ ⟨rfl,rfl,hi.byValue⟩
 ·rintro v rest r s' ⟨hr,rfl,hall⟩
  have hv:=hall v List.mem_cons_self
  have e:ofAClassStatement 7 v=pure false:=by cases v <;> first | rfl | (unfold ofAClassStatement; rfl) | (injection hv; done)
  rw [e]
  refine zC1 (zC2 ?_)
  exact zC2 ⟨rfl,rfl,fun u hu=>hall u (List.mem_cons_of_mem _ hu)⟩
 ·rintro ⟨r1,r2⟩ s' ⟨hr,rfl,_⟩
  subst hr
  exact wpAny_pure h
theorem y7 (hk:IsTupleKey kd s.heap ks b) (hl:∀ v∈l,∃ ks' c,v=.ref c∧IsTupleKey kd s.heap ks' c) (h:Q false s) :
  wpAny (model prog w) A (searchCouldBeSeen (.ref b) l) Q E s:=by
 unfold searchCouldBeSeen
 refine zC1 ?_
 refine wpAny_forIn_list _ (fun rest r s'=>r.1=none∧s'=s∧∀ v∈rest,v∈l) _ ?_ ?_ _ _ ⟨rfl,rfl,fun _ h=>h⟩
 ·rintro v rest r s' ⟨hr,rfl,hall⟩
  obtain ⟨ks',c,rfl,hc⟩:=hl v (hall v List.mem_cons_self)
  have nx:∀ u∈rest,u∈l:=fun u hu=>hall u (List.mem_cons_of_mem _ hu)
  dsimp only
  by_cases q:(b==c||(carriedByValue (.ref b)&&carriedByValue (.ref c)))=true
  ·rw [if_pos q]; exact zC2 ⟨rfl,rfl,nx⟩
  ·rw [if_neg q]
   refine zC1 (wpAny_eqIsQuiet_tuple hk ?_)
   refine zC1 (wpAny_eqIsQuiet_tuple hc ?_)
   refine zC1 (gS hk ?_)
   refine zC1 (gS hc ?_)
   exact zC2 ⟨rfl,rfl,nx⟩
 ·rintro ⟨r1,r2⟩ s' ⟨hr,rfl,_⟩
  subst hr
  exact wpAny_pure h
theorem wP (t:SetTable):t.sameMemory t.moves t.mask=some true:=by unfold sameMemory; rw [beq_self_eq_true]; rfl
theorem y5 [Decidable c] (hm:∀ Q':Bool→Shared→Prop,Q' false s→wpAny M A m Q' E s) (h:wpAny M A y Q E s):wpAny M A (if c then m >>= fun r=>if r=true then u else y else y) Q E s:=
 wpAny_ite_split (fun _=>zC1 (hm _ (wpAny_ite_false rfl h))) fun _=>h
theorem sL {S:Addr} (hu:A.units < cLine) (ho:s.heap.get? S=some o) (hd:o.data=.set es ep t) (T:Tab t es) (hf:es.size≤t.mask)
  (he:yW kd s.heap es.toList) (hk:IsTupleKey kd s.heap ks b) (hthere:(∃ e∈es.toList,IsK kd s.heap ks e)→Q (.there none) s)
  (hfree:∀ j,Way t (tupleKeyHash kd ks) j→¬ In t j→j≤t.mask→(∀ e∈es.toList,¬ IsK kd s.heap ks e)→Q (.free j false) s) :
  ∀ d fuel n stand,d < fuel→¬ In t (pos t.mask (tupleKeyHash kd ks) (n+d)).j→stand.getD (t.probeStart (tupleKeyHash kd ks))=pos t.mask (tupleKeyHash kd ks) n →
   (∀ n',n' < n→∃ i:Nat,t.place[i]?=some (pos t.mask (tupleKeyHash kd ks) n').j∧∀ e,es[i]?=some e→¬ IsK kd s.heap ks e)→wpAny (model prog w) A (setSearchFrom S (.ref b) (tupleKeyHash kd ks) true fuel stand) Q E s:=by
 intro d
 induction d using Nat.strongRecOn with
 | _ d ih=>
 intro fuel n stand hfu hem hst hpast
 obtain ⟨fuel,rfl⟩:=Nat.exists_eq_succ_of_ne_zero (Nat.ne_of_gt (Nat.lt_of_le_of_lt (Nat.zero_le _) hfu))
 have hfit:=T.fits hf
 refine zC1 (wpAny_setState_of ho hd hfit ?_)
 refine wpAny_ite_false (c:=t.gaveWay=true) (by rw [show t.gaveWay=false from uA T.msk]; rfl) ?_
 generalize hm:t.probe _ _ _=met
 replace hm:=hm.symm.trans (congrArg (t.probe _ _) hst)
 obtain ⟨N,hN,hNe⟩:=T.gap (T.sz▸hf) (tupleKeyHash kd ks) n
 obtain ⟨n1,_,h2,h3⟩:=xr (hashAt:=fun i=>(es[i]?.map (·.1)).getD 0) (h:=tupleKeyHash kd ks) T.dm T.rise N (10 * turns t.mask) (pos t.mask (tupleKeyHash kd ks) n) hN (yA rfl) hNe
 simp only [vT] at h2 h3
 have past:∀ n',n' < n+n1→∃ i:Nat,t.place[i]?=some (pos t.mask (tupleKeyHash kd ks) n').j∧∀ e,es[i]?=some e→¬ IsK kd s.heap ks e:=fun n' q=>by
  by_cases c:n' < n
  ·exact hpast n' c
  ·obtain ⟨i,e1,e2⟩:=h2 (n' - n) (Nat.sub_lt_left_of_lt_add (Nat.le_of_not_lt c) q)
   rw [Nat.add_sub_cancel' (Nat.le_of_not_lt c)] at e1
   refine ⟨i,e1,fun e ee=>?_⟩
   rintro ⟨c,rfl,_⟩
   exact e2 (by rw [ee]; rfl)
 rcases h3 with ⟨h3,h4⟩ | ⟨i,h3,h5,h4⟩
 ·have hm:=hm.trans h4
  subst hm
  refine zC2 (hfree _ ⟨_,rfl,fun n' q=>(past n' q).imp fun _ z=>z.1⟩ h3 (zq _ _ _) fun e hme ⟨c,hec,hc⟩=>?_)
  obtain ⟨i,hi⟩:=List.getElem?_of_mem hme
  rw [Array.getElem?_toList] at hi
  have hp:t.place[i]?=some (t.place.getD i 0):=by
   have:i < t.place.size:=by rw [T.sz]; exact (Array.getElem?_eq_some_iff.mp hi).1
   simp [this]
  obtain ⟨n0,e0,a0⟩:=T.way _ _ _ hp hi
  subst hec
  by_cases q:n0 < n+n1
  ·obtain ⟨i',e1,e2⟩:=past n0 q
   rw [e0] at e1
   obtain rfl:=om T.rise e1 hp
   exact e2 _ hi ⟨c,rfl,hc⟩
  ·by_cases q':n0=n+n1
   ·exact h3 ⟨i,by rw [← q',e0]; exact hp⟩
   ·exact h3 (a0 _ (Nat.lt_of_le_of_ne (Nat.le_of_not_lt q) (Ne.symm q')))
 ·have hm:=hm.trans h4
  subst hm
  have hlt:n1 < d:=by
   rcases Nat.lt_or_ge n1 d with q | q
   ·exact q
   ·refine absurd ?_ hem
    by_cases q':d=n1
    ·rw [q']; exact ⟨i,h3⟩
    ·exact (past (n+d) (Nat.add_lt_add_left (Nat.lt_of_le_of_ne q q') n)).imp fun _ z=>z.1
  have hie:∃ e,es[i]?=some e:=⟨_,Array.getElem?_eq_getElem (by rw [← T.sz]; exact (Array.getElem?_eq_some_iff.mp h3).1)⟩
  obtain ⟨e,hi⟩:=hie
  have hme:e∈es.toList:=List.mem_of_getElem? (Array.getElem?_toList▸hi)
  obtain ⟨ks',c,rfl,hc⟩:=he e hme
  refine y5 (fun Q' h=>y7 hk (fun v hv=>?_) h) ?_
  ·obtain ⟨e,he',rfl⟩:=zA7 hv
   rw [Array.toList_filter] at he'
   obtain ⟨ks2,c2,rfl,hc2⟩:=he e (List.mem_filter.mp he').1
   exact ⟨ks2,c2,rfl,hc2⟩
  refine hi.symm▸zC1 (wpAny_holding (wpAny_eqBool_tuple hu hc hk ?_))
  refine zC1 (wpAny_setState_of ho hd hfit ?_)
  by_cases q:ks'=ks
  ·subst q
   exact wpAny_ite_true (decide_eq_true (decide_eq_true rfl)) (zC2 (hthere ⟨_,hme,c,rfl,hc⟩))
  ·refine wpAny_ite_false (decide_eq_false (Bool.eq_false_iff.mp (decide_eq_false q))) ?_
   have hs:t.slot (pos t.mask (tupleKeyHash kd ks) (n+n1)).j=.live i:=by
    rcases slot_is T.dm T.rise (pos t.mask (tupleKeyHash kd ks) (n+n1)).j with ⟨i',e1,e2⟩ | ⟨e1,_⟩
    ·rw [e2,om T.rise e1 h3]
    ·exact absurd h3 (e1 i)
   refine (wP t).symm▸?_
   dsimp only
   refine ((if_pos rfl).trans hs).symm▸?_
   dsimp only
   refine hi.symm▸?_
   refine zC1 (wpAny_isSame_ref_self (zC1 (zC2 ?_)))
   refine wpAny_ite_false (decide_eq_false (Bool.eq_false_iff.mp (decide_eq_false q))) ?_
   have hdd:d - (n1+1) < d:=Nat.sub_lt (Nat.lt_of_le_of_lt (Nat.zero_le _) hlt) (Nat.succ_pos _)
   refine ih (d - (n1+1)) hdd fuel (n+n1+1) _ (Nat.lt_of_lt_of_le hdd (Nat.le_of_lt_succ hfu)) (by rw [show n+n1+1+(d - (n1+1))=n+d from (Nat.add_assoc n (n1+1) _).trans (congrArg (n + ·) (Nat.add_sub_cancel' hlt))]; exact hem) rfl fun n' z=>?_
   by_cases c':n' < n+n1
   ·exact past n' c'
   ·rw [Nat.le_antisymm (Nat.le_of_lt_succ z) (Nat.le_of_not_lt c')]
    refine ⟨i,h3,fun e ee=>?_⟩
    rw [hi] at ee; (injection ee with ee; subst ee)
    rintro ⟨c2,hc2,hk2⟩
    exact q (hc.inj (Value.ref.inj (congrArg Prod.snd hc2)▸hk2))
end
section
variable {prog:Program} {w:World} {A:Around} {E:Value→Shared→Prop} {s:Shared}
theorem qg (hk:IsTupleKey (aA prog w) s.heap (.inr x :: ks) b) (h:Q false s):wpAny (model prog w) A (hashByValue 8 (.ref b)) Q E s:=by
 have hT:=hk.typeIs
 obtain ⟨o,items,n,ho,_,hd,hi⟩:=hk
 unfold hashByValue
 refine zC1 (wpAny_specialOf hT F.slot_tuple_hash.lookup ?_)
 dsimp only
 refine zC1 (wpAny_seqItems ho hd ?_)
 obtain ⟨l⟩:=items
 cases hi with
 | cons hv _=>
  obtain ⟨t,rfl⟩:=Value.isStrOf_shape hv
  rw [← Array.forIn_toList]
  refine zC1 ?_
  refine (?_:wpAny _ _ (forIn (_ :: _) _ _) _ _ _)
  rw [List.forIn_cons]
  exact zC1 (zC2 (zC2 (wpAny_pure h)))
inductive TS (h:Heap) (S:Addr) (es:Array (Int×Value)) (L:Bool):Prop
 | mk (o:Obj) (ep:Nat) (t:SetTable) (ho:h.get? S=some o) (hex:o.ExactSet) (hd:o.data=.set es ep t) (T:Tab t es) (hr:es.size * 5 < t.mask * 3) (hl:t.led=L):TS h S es L
theorem TS.to {h h':Heap} {S:Addr} {es:Array (Int×Value)} {L:Bool} (x:TS h S es L) (e:h'.get? S=h.get? S):TS h' S es L:=x.casesOn fun o ep t ho hex hd T hr hl=>⟨o,ep,t,e.trans ho,hex,hd,T,hr,hl⟩
theorem nJ:(insertAt es p x).toList.Perm (x :: es.toList):=by
 unfold insertAt
 rw [Array.toList_append,Array.toList_push,Array.toList_extract,Array.toList_extract,List.append_assoc,List.extract_eq_take_drop,List.extract_eq_take_drop,List.drop_zero,Nat.sub_zero,← zB3,← List.length_drop,List.take_length]
 exact List.perm_middle.trans (.cons _ (.of_eq (List.take_append_drop p es.toList)))
theorem Tab.off (T:Tab t es):Tab { t with plain:=false } es:=⟨T.msk,T.dm,T.sz,T.rise,T.le,T.way⟩
theorem zB {t:SetTable} (h:t.plain=false):{ t with plain:=false }=t:=by cases t; subst h; rfl
theorem xu (T:Tab t es):t.tooFull=decide (t.mask * 3≤es.size * 5):=by
 unfold SetTable.tooFull SetTable.fill
 rw [T.sz,T.dm]; rfl
theorem bD [Decidable c] (h:¬ c) (x:wpAny M A e Q E s):wpAny M A (if c then t else e) Q E s:=by rw [if_neg h]; exact x
theorem xq (hm:Msk m) (h:n * 5 < m * 3) (q:m * 3≤(n+1) * 5) (hn:n < 4500):∃ m',sizeAbove (grown (n+1))=m' + 1∧Msk m'∧(n+1) * 5 < m' * 3∧m' + 1≤sizeLine:=by
 rcases hm with rfl | rfl | rfl | rfl | rfl | rfl
 ·obtain rfl:n=4:=by omega
  exact ⟨31,by decide,.inr (.inl rfl),by decide,by decide⟩
 ·obtain rfl:n=18:=by omega
  exact ⟨127,by decide,.inr (.inr (.inl rfl)),by decide,by decide⟩
 ·obtain rfl:n=76:=by omega
  exact ⟨511,by decide,.inr (.inr (.inr (.inl rfl))),by decide,by decide⟩
 ·obtain rfl:n=306:=by omega
  exact ⟨2047,by decide,.inr (.inr (.inr (.inr (.inl rfl)))),by decide,by decide⟩
 ·obtain rfl:n=1228:=by omega
  exact ⟨8191,by decide,.inr (.inr (.inr (.inr (.inr rfl)))),by decide,by decide⟩
 ·omega
theorem Ce (h:a * 5 < b * 3):a≤b:=Nat.le_of_lt (Nat.lt_of_mul_lt_mul_right (Nat.lt_of_lt_of_le h (Nat.mul_le_mul_left b (by decide:3≤5))))
theorem th (hm:Msk m) (h:N < 10 * turns m):N < 100000:=by rcases hm with rfl | rfl | rfl | rfl | rfl | rfl <;> exact Nat.lt_of_lt_of_le h (by decide)
noncomputable def rd (S:Addr) (is:Array (Int×Value)) (t:SetTable) (n:Nat):Sem Bool:=do
 storeSet S is t
 if !false&&t.tooFull then setRelay S (SetTable.grown n)
 return true
theorem rX {h:Heap} {S:Addr} {o:Obj} {es is:Array (Int×Value)} {ep:Nat} {t t1:SetTable} (ho:h.get? S=some o) (hd:o.data=.set es ep t):(h.update S (Obj.putSet is t1)).get? S=some { o with data:=.set is (ep+1) t1 }:=
 putSet_of _ _ hd▸Heap.get?_update_self (Obj.putSet is t1) ho (by rw [putSet_of _ _ hd]; rfl)
theorem sI {S:Addr} {o:Obj} {es is:Array (Int×Value)} {ep:Nat} {t t1:SetTable} {L:Bool} {Q:Bool→Shared→Prop} (ho:s.heap.get? S=some o) (hex:o.ExactSet) (hd:o.data=.set es ep t) (T:Tab t1 is) (hle:t1.led=L)
  (hs:is.size=es.size+1) (hr:es.size * 5 < t1.mask * 3) (hn:es.size < 4500) (hnew:∀ h' es',Heap.SameBut S s.heap h'→TS h' S es' L→es'.toList.Perm is.toList→Q true { s with heap:=h' }) :
  wpAny (model prog w) A (rd S is t1 (es.size+1)) Q E s:=by
 have hz:is.size≤4500:=hs▸hn
 refine zC1 (wpAny_storeSet_of ho hd ?_ (zB1 hz (by decide)))
 have hg1:(s.heap.update S (Obj.putSet is t1)).get? S=some { o with data:=.set is (ep+1) t1 }:=rX ho hd
 have sb1:Heap.SameBut S s.heap (s.heap.update S (Obj.putSet is t1)):=.update ..
 have hfu:=xu T
 by_cases q:t1.mask * 3≤is.size * 5
 ·refine wpAny_ite_true (c:=(!false&&t1.tooFull)=true) (by rw [hfu,decide_eq_true q]; rfl) ?_
  obtain ⟨m',e1,e2,e3,e4⟩:=xq T.msk hr (hs▸q) hn
  refine zC1 (zC1 (wpAny_setState_of hg1 rfl (T.fits (hs▸Nat.lt_of_mul_lt_mul_right (Nat.lt_of_lt_of_le hr (Nat.mul_le_mul_left _ (by decide:3≤5))))) ?_))
  refine bD (c:=sizeAbove (grown (es.size+1)) > sizeLine) (e1▸Nat.not_lt.mpr e4) ?_
  obtain ⟨t3,order,e5,e6,e7,T3,_⟩:=xe (es:=is) e2 (hs▸Ce e3) t1.finger (movedTo t1 m') t1.led t1.plain
  have e9:t3.led=t1.led:=by
   obtain ⟨a,_,e5⟩:=Option.bind_eq_some_iff.mp e5
   cases e5; rfl
  refine zC1 ?_
  rw [show t1.relaid (is.map (·.1)) (grown (es.size+1))=_ from (congrArg (fun z=>laid (z - 1) t1.finger (movedTo t1 (z - 1)) t1.led t1.plain _) e1).trans e5]
  have e8:(order.filterMap (is[·]?)).size=is.size:=by rw [← zB3,e7.length_eq,zB3]
  refine bD (by rw [e8,bne_self_eq_false]; exact Bool.false_ne_true) (zC2 ?_)
  refine wpAny_storeSet_of hg1 rfl (zC2 ?_) (zB1 (e8▸hz) (by decide))
  exact hnew _ _ (sb1.trans (.update _ S (Obj.putSet (order.filterMap (is[·]?)) t3))) ⟨_,_,_,rX hg1 rfl,hex,rfl,T3,by rw [e8,hs,e6]; exact e3,e9.trans hle⟩ e7
 ·exact wpAny_ite_false (c:=(!false&&t1.tooFull)=true) (by rw [hfu,decide_eq_false q]; rfl) (zC1 (zC2 (zC2 (hnew _ is sb1 ⟨_,_,_,hg1,hex,rfl,T,Nat.not_le.mp q,hle⟩ (.refl _)))))
theorem pH {S b:Addr} {es:Array (Int×Value)} {L:Bool} {ks:List Sc} {x:Str} {Q:Bool→Shared→Prop} (hu:A.units < cLine) (T:TS s.heap S es L) (he:yW (aA prog w) s.heap es.toList) (hk:IsTupleKey (aA prog w) s.heap (.inr x :: ks) b) (hn:es.size < 4500)
  (hold:(∃ e∈es.toList,IsK (aA prog w) s.heap (.inr x :: ks) e)→∀ tk,Q false { s with toks:=tk })
  (hnew:∀ h' es' tk,Heap.SameBut S s.heap h'→TS h' S es' L→es'.toList.Perm ((tupleKeyHash (aA prog w) (.inr x :: ks),.ref b) :: es.toList)→(∀ e∈es.toList,¬ IsK (aA prog w) s.heap (.inr x :: ks) e)→Q true { s with heap:=h',toks:=tk }) :
  wpAny (model prog w) A (setAdd S (.ref b)) Q E s:=by
 obtain ⟨o,ep,t,ho,hex,hd,T,hr,hL⟩:=T
 have hf:=Ce hr
 have hfit:=T.fits hf
 refine wpAny_holding (zC1 (wpAny_pyHash_tuple hu hk ?_))
 generalize s.toks+_=tk0
 refine wpAny_holding (zC1 (wpAny_setState_of ho hd hfit ?_))
 refine bD (c:=byScan (.ref b) es=true) Bool.false_ne_true ?_
 obtain ⟨N,hN,hg⟩:=T.gap (T.sz▸hf) (tupleKeyHash (aA prog w) (.inr x :: ks)) 0
 rw [vT] at hg
 refine zC1 (sL (kd:=aA prog w) (s:={ s with toks:=tk0 }) (n:=0) (stand:=none) hu ho hd T hf he hk (fun q=>zC2 (hold q _)) (fun j hw hj hl hnot=>?_) N 100000 (th T.msk hN) hg rfl fun _ q=>absurd q (Nat.not_lt_zero _))
 refine zC1 (wpAny_setState_of ho hd hfit ?_)
 obtain ⟨em,es1,T1⟩:=T.put (x:=Value.ref b) hw hj hl
 have key:∀ tk,wpAny (model prog w) A (rd S (insertAt es (t.put j).2 (tupleKeyHash (aA prog w) (.inr x :: ks),.ref b)) { (t.put j).1 with plain:=false } (es.size+1)) Q E { s with toks:=tk }:=fun tk=>
  sI (s:={ s with toks:=tk }) ho hex hd T1.off hL (T1.sz.symm.trans es1) (em.symm▸hr) hn fun h' es' sb ts pe=>hnew h' es' tk sb ts (pe.trans nJ) hnot
 cases hpt:t.plain with
 | false=>exact wpAny_ite_false (c:=(t.put j).1.plain=true) (decide_eq_false (by refine (?_:¬ t.plain=true); rw [hpt]; exact Bool.false_ne_true)) (zC1 (zC2 (zB (t:=(t.put j).1) hpt▸key tk0)))
 | true=>exact wpAny_ite_true (c:=(t.put j).1.plain=true) (decide_eq_true hpt) (zC1 (qg (s:={ s with toks:=tk0 }) hk (key _)))
end
end Mine
end
noncomputable section
namespace Mine
open PySem PySem.Calls PyProof.Rows
section
variable {prog:Program} {w:World} {A:Around} {E:Value→Shared→Prop} {s:Shared}
noncomputable abbrev fJ (w:World):Obj:={ cls:=.type "set",dict:=none,data:=.set #[] 0 (.fresh 0 0 (!w.params.followText "set-order")) }
theorem j4 (a:Value) (h:Q₁ (.ref s.heap.objs.size) { s with heap:=s.heap.push (fJ w) }) :
  codeAny (model prog w) A (.call (.builtin "set.__new__") ⟨[.type "set",a],[]⟩) (wants Q₁ E) s:=by
 refine codeAny_of_tree ?_
 (refine (?_:wpAny _ A.in1 (do checkBuiltinCall "set.__new__" ⟨[.type "set",a],[]⟩; again (.builtin "set.__new__" ⟨[.type "set",a],[]⟩)) _ _ s))
 refine zC1 (wpAny_of_eq (PySem.F.newCall_set_1 a) (zC2 ⟨plainId_quiet PySem.F.plain_set_new _,codeAny_builtin PySem.F.entry_set_new ?_⟩))
 rw [Around.under_plainId PySem.F.plain_set_new _]
 unfold Builtin.«set.__new__» Builtin.Frozenset.newClass
 have hsub:=sub_set_self
 obtain ⟨hp,g,d,tk,os⟩:=s
 dsimp only
 wp_walk
 refine wpAny_askSetting (zC2 ?_)
 dsimp only
 simp only [newObj]
 refine zC1 (wpAny_alloc (zC2 ?_))
 exact wpAny_pure h
structure Fills (prog:Program) (w:World) (h₀:Heap) (S:Addr) (P:Nat→Value→Prop) (n:Nat) (Z:Nat→Heap→Prop):Prop where
 frame:∀ i h h',Z i h→h'.get? S=h.get? S→Z i h'
 live:∀ i h,Z i h→aQ h S
 start:∀ h:Heap,h.get? S=some (fJ w)→Z 0 h
 add:∀ i v (s:Shared) (A:Around),A.units < cLine→i < n→P i v→aH h₀ s.heap→Z i s.heap→∀ (Q:Bool→Shared→Prop) (E:Value→Shared→Prop),
  (∀ b h' tk,Heap.SameBut S s.heap h'→Z (i+1) h'→Q b { s with heap:=h',toks:=tk })→wpAny (model prog w) A (setAdd S v) Q E s
theorem oI {l:List Addr} (k:aH h₀ h) (hl:∀ b∈l,h₀.get? b=none) (m:∀ b o,b∉l→h.get? b=some o→h'.get? b=some o):aH h₀ h':=fun b o e=>m b o (fun q=>by rw [hl b q] at e; (injection e; done)) (k b o e)
theorem ui {R:Result→Shared→Prop} {I S:Addr} {fp wr:List Addr} {P:Nat→Value→Prop} {St Z:Nat→Heap→Prop} {n:Nat} {h₀:Heap} (W:Walks prog w A.in1 I fp wr n P St) (hu:A.in1.units < cLine) (hSf:S∉fp) (hS0:h₀.get? S=none) (hw:∀ b∈wr,h₀.get? b=none)
  (Fl:Fills prog w h₀ S P n Z):∀ (k i:Nat) (s:Shared),n - i=k→i≤n→St i s.heap→Z i s.heap→aH h₀ s.heap →
   (∀ h' tk,aH h₀ h'→Z n h'→R (.ok (.ret .none)) { s with heap:=h',toks:=tk }) →
   codeAny (model prog w) A (.builtin "set.update.loop" ⟨[.ref S,.ref I],[]⟩) R s:=by
 have hSw:S∉wr:=fun h=>hSf (W.sub _ h)
 intro k
 induction k with
 | zero=>
  intro i s hk hi hst hZ hK hR
  obtain rfl:=show i=n from Nat.le_antisymm hi (Nat.sub_eq_zero_iff_le.mp hk)
  refine codeAny_builtin PyProof.Rows.F.entry_set_update_loop ?_
  rw [Around.under_plainId PyProof.Rows.F.plain_set_update_loop _]
  refine (?_:wpAny _ A.in1 (pyNext (.ref I) >>= _) _ _ s)
  refine zC1 (W.done s _ _ hst fun h' tk hm=>?_)
  refine (?_:wpAny _ A.in1 (ret Value.none) _ _ _)
  obtain ⟨o,ho⟩:=Fl.live _ _ hZ
  exact zC2 (hR h' tk (oI hK hw hm) (Fl.frame _ _ _ hZ ((hm S o hSw ho).trans ho.symm)))
 | succ k ih=>
  intro i s hk hi hst hZ hK hR
  have hlt:i < n:=Nat.lt_of_sub_eq_succ hk
  refine codeAny_builtin PyProof.Rows.F.entry_set_update_loop ?_
  rw [Around.under_plainId PyProof.Rows.F.plain_set_update_loop _]
  refine (?_:wpAny _ A.in1 (pyNext (.ref I) >>= _) _ _ s)
  refine zC1 (W.item i s _ _ hlt hst fun v h₁ tk₁ hP hst' hm=>?_)
  obtain ⟨o,ho⟩:=Fl.live _ _ hZ
  have hl1:=hm S o hSw ho
  have hK1:=oI hK hw hm
  refine (?_:wpAny _ A.in1 (holding [v] (setAdd S v) >>= _) _ _ _)
  refine zC1 (wpAny_holding (Fl.add i v _ _ hu hlt hP hK1 (Fl.frame _ _ _ hZ (hl1.trans ho.symm)) _ _ fun b h' tk hsb hZ'=>?_))
  have hK2:aH h₀ h':=fun b o e=>by
   by_cases q:b=S
   ·subst q; rw [hS0] at e; (injection e; done)
   ·exact (hsb.2 b q).trans (hK1 b o e)
  refine zC2 ⟨plainId_quiet PyProof.Rows.F.plain_set_update_loop _,ih (i+1) { s with heap:=h',toks:=tk } (by grind) hlt (W.frame _ _ _ hst' fun b hb o e=>(hsb.2 b fun q=>hSf (q▸hb)).trans e) hZ' hK2 hR⟩
def AX (prog:Program) (w:World) (h₀:Heap) (x:Value) (n:Nat) (P:Nat→Value→Prop):Prop:=∀ (s:Shared) (A:Around) (Q:Value→Shared→Prop) (E:Value→Shared→Prop),aH h₀ s.heap →
 (∀ I fp wr St h',aH s.heap h'→(∀ b∈wr,s.heap.get? b=none)→(∀ b∈fp,s.heap.get? b=none∨aQ h₀ b)→(∀ A:Around,A.handled=none→Walks prog w A I fp wr n P St)→St 0 h'→Q (.ref I) { s with heap:=h' })→wpAny (model prog w) A (pyIter x) Q E s
set_option maxHeartbeats 3200000 in
theorem gd {x:Value} {T:String} {n:Nat} {P:Nat→Value→Prop} {Z:Nat→Heap→Prop} {Q:Value→Shared→Prop} (hh:A.handled=none) (hu:A.units+100 < cLine) (hT:∀ s':Shared,aH s.heap s'.heap→s'.TypeIs x T) (hs1:isSubtype (.type T) (.type "set")=pure false) (hs2:isSubtype (.type T) (.type "frozenset")=pure false)
  (hne:(Value.type T==Value.type "dict")=false) (go:AX prog w s.heap x n P) (Fl:Fills prog w s.heap s.heap.objs.size P n Z)
  (h:∀ (h':Heap) (tk:Nat),Z n h'→aH s.heap h'→Q (.ref s.heap.objs.size) { s with heap:=h',toks:=tk }):wpAny (model prog w) A (call (.type "set") [x]) Q E s:=by
 obtain ⟨c,tl,hmro⟩:=PySem.F.called_set.mro
 have hmade:=PySem.F.called_set.made
 have hsub:=PySem.F.called_set.sub
 refine wpAny_call (codeAny_of_tree ?_)
 refine (?_:wpAny _ _ (callAny (.type "set") _) _ _ _)
 refine zC2 ⟨Code.quiet_builtin _ (by decide +kernel),codeAny_builtin PySem.F.entry_type_call ?_⟩
 rw [Around.under_plain (weight_type_call_type "set" [x] []) rfl]
 have h1:=PySem.F.called_set.notType
 have h2:=PySem.F.called_set.canCreate
 have hct:=PySem.F.typeCall_set_1 x
 repeat (any_goals (first | assumption | wp_step))
 refine codeAny_mono (j4 x (E:=E) (Q₁:=fun obj s₁=>obj=.ref s.heap.objs.size∧s₁={ s with heap:=s.heap.push (fJ w) }) ⟨rfl,rfl⟩) fun r s₁ hr=>?_
 cases r with
 | error e=>exact hr
 | ok fl=>
  cases fl with
  | ret obj=>
   obtain ⟨rfl,rfl⟩:=hr
   have hS:(s.heap.push (fJ w)).get? s.heap.objs.size=some (fJ w):=Heap.get?_push_size _ rfl
   have hT1:Shared.TypeIs { s with heap:=s.heap.push (fJ w) } (.ref s.heap.objs.size) "set":=⟨_,hS,rfl⟩
   have hli:=PySem.F.called_set.init.lookup
   have hbi:=PySem.F.called_set.init.bind (.ref s.heap.objs.size)
   have hTx:=hT { s with heap:=s.heap.push (fJ w) } (av _ _)
   repeat (any_goals (first | assumption | wp_step))
   refine codeAny_mono (codeAny_call_builtin (R:=wants (fun r s₂=>r=.none∧∃ h' tk,s₂={ s with heap:=h',toks:=tk }∧Z n h'∧aH s.heap h') E) PySem.F.called_set.init.plain PySem.F.entry_set_init (check_set_init_1 hT1 ?_)) fun r₂ s₂ hr₂=>?_
   ·unfold Builtin.«set.__init__» noKeywords Builtin.Frozenset.updateFrom
    generalize hPI:pyIter=PI
    wp_walk
    subst hPI
    refine go _ _ _ _ (av _ _) fun I fp wr St h' hk hw hf W hst=>?_
    refine zC1 (wpAny_runValue ?_)
    have hh3:A.in1.in1.in1.handled=none:=by simp [hh]
    have n0:s.heap.get? s.heap.objs.size=none:=ak _
    refine ui (W _ hh3) (show A.units+3 < cLine from Nat.lt_of_le_of_lt (Nat.add_le_add_left (by decide) _) hu) (fun q=>?_) n0 (fun b q=>aM (av _ _).live (hw b q)) Fl (n - 0) 0 _ rfl (Nat.zero_le _) hst (Fl.start _ (hk _ _ hS)) ((av _ _).trans hk) ?_
    ·rcases hf _ q with q | ⟨o,q⟩
     ·rw [hS] at q; (injection q; done)
     ·rw [n0] at q; (injection q; done)
    ·intro h'' tk hk' hz
     refine (?_:wpAny _ _ _ _ _ _)
     refine zC2 ?_
     refine (?_:wpAny _ _ (ret Value.none) _ _ _)
     exact zC2 ⟨rfl,h'',tk,rfl,hz,hk'⟩
   ·cases r₂ with
    | error e=>exact hr₂
    | ok fl₂=>
     cases fl₂ with
     | ret r=>
      obtain ⟨rfl,h',tk,rfl,hz,hk'⟩:=hr₂
      repeat (any_goals (first | assumption | wp_step))
      exact h _ _ hz hk'
     | _=>exact hr₂.elim
  | _=>exact hr.elim
end
end Mine
end
noncomputable section
namespace Mine
open PySem PySem.Calls PyProof.Rows PySem.W
section
variable {prog:Program} {w:World} {A:Around} {E:Value→Shared→Prop} {s:Shared} {h₀:Heap}
theorem gG (hl:h₀.IsList l items):AX prog w h₀ (.ref l) items.size (fun i v=>items[i]?=some v):=fun s A Q E hk hQ=>by
 have hl1:s.heap.IsList l items:=hl.at (hk l)
 have hlt:l≠s.heap.objs.size:=by obtain ⟨o,ho,_⟩:=hl1; exact cy ho
 refine wpAny_pyIter_list hl1 (hQ _ _ _ _ _ (av _ _) (fun b q=>?_) (fun b q=>?_) (fun A' hh=>Walks.list hh _ l hlt items) ⟨⟨_,Heap.get?_push_size _ rfl,rfl,rfl⟩,hl1.push _⟩)
 ·obtain rfl:=zA6 q; exact ak _
 ·rcases List.mem_cons.mp q with rfl | q
  ·exact .inl (ak _)
  ·obtain rfl:=zA6 q; obtain ⟨o,ho,_⟩:=hl; exact .inr ⟨o,ho⟩
theorem uS:AX prog w h₀ (.str x t) x.cps.size (SignAt x):=fun s A Q E hk hQ=>by
 cases ha:x.cps.all (· < 128)
 ·exact wpAny_pyIter_wide ha (hQ _ _ _ _ _ (av _ _) (fun b q=>by obtain rfl:=zA6 q; exact ak _) (fun b q=>by obtain rfl:=zA6 q; exact .inl (ak _)) (fun A' hh=>Walks.strWide hh _ x t) ⟨_,Heap.get?_push_size _ rfl,rfl,rfl⟩)
 ·exact wpAny_pyIter_ascii ha (hQ _ _ _ _ _ (av _ _) (fun b q=>by obtain rfl:=zA6 q; exact ak _) (fun b q=>by obtain rfl:=zA6 q; exact .inl (ak _)) (fun A' hh=>Walks.strAscii hh _ x t) ⟨_,Heap.get?_push_size _ rfl,rfl,rfl⟩)
theorem gR {K:Type} [DecidableEq K] {knd:KeyKind prog w K} {S:Addr} {P:Nat→Value→Prop} {ks:List K} (hP:∀ i v,P i v→∃ k,ks[i]?=some k∧knd.is k v=true∧v.scannable=true) (nd:ks.Nodup) (hn:ks.length+1 < scanBound) :
  Fills prog w h₀ S P ks.length (fun i h=>h.SetOf knd S (fun k=>decide (k∈ks.take i)) i) where
 frame:=fun i h h' q e=>q.elim fun o q=>q.elim fun es q=>q.elim fun ep q=>q.elim fun t q=>⟨o,es,ep,t,e.trans q.1,q.2⟩
 live:=fun i h q=>q.elim fun o q=>q.elim fun _ q=>q.elim fun _ q=>q.elim fun _ q=>⟨o,q.1⟩
 start:=fun h ho=>SetOf_congr ((setObjOf_fresh (knd:=knd) _).setOf ho (by unfold scanBound; exact Nat.succ_pos _)) (fun _=>(decide_eq_false List.not_mem_nil).symm) rfl
 add:=fun i v s A hu hi hp hk hZ Q E hQ=>by
  obtain ⟨k,ek,hkey,hsc⟩:=hP i v hp
  have hnew:k∉ks.take i:=fun q=>by
   obtain ⟨j,hj⟩:=List.getElem?_of_mem q
   have hji:j < i:=Nat.lt_of_lt_of_le (List.getElem?_eq_some_iff.mp hj).1 (List.length_take_le _ _)
   rw [List.getElem?_take_of_lt hji] at hj
   exact absurd ((List.getElem?_inj (Nat.lt_trans hji hi) nd).mp (hj.trans ek.symm)) (Nat.ne_of_lt hji)
  unfold setAdd
  refine wpAny_holding (zC1 (knd.pyHash hkey (wpAny_setAddHashed_of (s:={ s with toks:=s.toks+1 }) hkey hsc hZ (Nat.lt_of_le_of_lt (Nat.add_le_add_right (Nat.le_of_lt hi) 1) hn) fun h' hsb hS=>hQ _ h' _ hsb (SetOf_congr hS (fun k'=>?_) ?_))))
  ·rw [List.take_add_one,ek]
   by_cases q:k'=k <;> simp [q]
  ·rw [if_neg (by rw [decide_eq_false hnew]; exact Bool.false_ne_true)]
theorem w8 {K:Type} [DecidableEq K] {knd:KeyKind prog w K} {a:Addr} {S:K→Bool} {n:Nat} {Q:Value→Shared→Prop} (hS:s.heap.SetOf knd a S n) (h:∀ t tk,Q (.int n t) { s with toks:=tk }):wpAny (model prog w) A (call (.builtin "len") [.ref a]) Q E s:=by
 obtain ⟨o,es,ep,t,ho,hex,hd,hel,hmem,hb,hf,hn⟩:=hS
 subst hn
 refine Calls.call_function_entry kind_len plain_len entry_len (args_len1 _) ?_
 exact wpAny_len_body_set ho hex hd hf (Int.lt_trans (Int.ofNat_lt.mpr hb) (by decide)) (h _ _)
end
theorem kOf_inj (hx:aN x=true) (hy:aN y=true) (e:kOf x=kOf y):x=y:=by
 cases x <;> first | ((injection hx; done); done) | (cases y <;> first | ((injection hy; done); done) | ((first | (injection e; done) | (injection e with e; subst e)); done) | ((injection e with e; subst e); rfl))
theorem oJ:∀ {l m:List V},l.all aN=true→m.all aN=true→l.map kOf=m.map kOf→l=m
 | [],[],_,_,_=>rfl
 | [],_ :: _,_,_,e=>nomatch e
 | _ :: _,[],_,_,e=>nomatch e
 | x :: l,y :: m,hl,hm,e=>by
  have hl:=zA2 hl
  have hm:=zA2 hm
  have e:=zA5 e
  rw [kOf_inj hl.1 hm.1 e.1,oJ hl.2 hm.2 e.2]
section
variable {g:Gl} {bad:Addr→Prop} {h h':Heap} {v:Value} {x:V} {vs ws:List Value} {l m:List V}
theorem uO (r:RpAll g bad h vs l):l.all aN=true→ItemsAre (aA g.prog g.w) (l.map kOf) vs:=
 r.ind (D:=fun vs l=>l.all aN=true→ItemsAre (aA g.prog g.w) (l.map kOf) vs) (fun _=>.nil) fun v vs x l r _ ih q=>by
  have q:=zA2 q
  refine .cons ?_ (ih q.2)
  cases r with
  | int i t=>exact (by simp [Value.isInt]:Value.isInt i (.int i t)=true)
  | str y t=>exact (by simp [Value.isStrOf]:Value.isStrOf y (.str y t)=true)
  | _=>(injection q.1; done)
theorem zT (r:Rp g bad h v (.tuple l)) (q:l.all aN=true):∃ c,v=.ref c∧IsTupleKey (aA g.prog g.w) h (l.map kOf) c:=
 r.tuple_elim fun a o vs n _ ha hc hd hl=>⟨a,rfl,o,vs,n,ha,hc,hd,uO hl q⟩
theorem d5 (k:aH h h') (x:IsTupleKey (aA g.prog g.w) h ks c):IsTupleKey (aA g.prog g.w) h' ks c:=let ⟨o,vs,n,ho,r⟩:=x; ⟨o,vs,n,k _ _ ho,r⟩
theorem RpAll.of_mem (r:RpAll g bad h vs l):v∈vs→∃ y∈l,Rp g bad h v y:=r.ind (D:=fun vs l=>v∈vs→∃ y∈l,Rp g bad h v y) (fun q=>nM q) fun u vs y l r _ ih q=>by
 rcases List.mem_cons.mp q with rfl | q
 ·exact ⟨y,.head _,r⟩
 ·obtain ⟨z,m,p⟩:=ih q; exact ⟨z,.tail _ m,p⟩
theorem RpAll.mem (r:RpAll g bad h vs l):x∈l→∃ u∈vs,Rp g bad h u x:=r.ind (D:=fun vs l=>x∈l→∃ u∈vs,Rp g bad h u x) (fun q=>nM q) fun u vs y l r _ ih q=>by
 rcases List.mem_cons.mp q with rfl | q
 ·exact ⟨u,.head _,r⟩
 ·obtain ⟨z,m,p⟩:=ih q; exact ⟨z,.tail _ m,p⟩
theorem RpAll.perm (p:ws.Perm vs):∀ {l},RpAll g bad h vs l→∃ m,m.Perm l∧RpAll g bad h ws m:=by
 induction p with
 | nil=>exact fun r=>⟨_,.refl _,r⟩
 | cons v _ ih=>
  intro l r
  cases r with
  | cons a r=>obtain ⟨m,p,q⟩:=ih r; exact ⟨_,.cons _ p,.cons a q⟩
 | swap v u _=>
  intro l r
  cases r with
  | cons a r=>cases r with
   | cons b r=>exact ⟨_,.swap _ _ _,.cons b (.cons a r)⟩
 | trans _ _ ih1 ih2=>
  intro l r
  refine yG fun Z4 kZ4=>?_
  obtain ⟨m,p,r⟩:=ih2 r
  obtain ⟨n,p',r⟩:=ih1 r
  refine kZ4 ?_
  exact ⟨n,p'.trans p,r⟩
theorem fN {C:V→Prop} (e:eZ x=true) (k:∀ t l,(PyData.str t :: l).all aN=true→C (.tuple (.str t :: l))):C x:=by
 revert e
 cases x with
 | tuple l=>cases l with
  | nil=>exact fun e=>nB e
  | cons y l=>cases y with
   | str t=>exact fun e=>k _ _ e
   | _=>exact fun e=>nB e
 | _=>exact fun e=>nB e
theorem gi (e:eZ x=true) (r:Rp g bad h v x):∃ c,v=.ref c∧IsTupleKey (aA g.prog g.w) h (aP x) c:=fN (C:=fun x=>Rp g bad h v x→∃ c,v=.ref c∧IsTupleKey (aA g.prog g.w) h (aP x) c) e (fun t l q r=>zT r q) r
theorem keys_inj (e:eZ x=true) (e':eZ y=true) (q:aP y=aP x):y=x:=
 fN (C:=fun x=>aP y=aP x→y=x) e (fun t l hl q=>fN (C:=fun y=>aP y=aP (.tuple (.str t :: l))→y=.tuple (.str t :: l)) e' (fun t' l' hl' q=>congrArg _ (oJ hl' hl q)) q) q
theorem kS (e:eZ x=true):∃ t ks,aP x=.inr t :: ks:=fN (C:=fun x=>∃ t ks,aP x=.inr t :: ks) e fun t l _=>⟨t,l.map kOf,rfl⟩
theorem qD {α:Type} {i:Nat} {a:α} {C:Prop} (e:(#[]:Array α)[i]?=some a):C:=by simp at e
theorem tab0 {L:Bool}:Tab (SetTable.fresh 0 0 L) (#[]:Array (Int×Value)):=⟨.inl rfl,rfl,rfl,fun _ _ _ _ _ e=>qD e,fun _ _ e=>qD e,fun _ _ _ e=>qD e⟩
def AG (g:Gl) (bad:Addr→Prop) (h₀:Heap) (S:Addr) (l:List V) (i:Nat) (h:Heap):Prop:=
 ∃ es r,TS h S es (!g.w.params.followText "set-order")∧yW (aA g.prog g.w) h₀ es.toList∧RpAll g bad h₀ (es.toList.map (·.2)) r∧r.Nodup∧∀ y,y∈r ↔ y∈l.take i
theorem jB {es:Array (Int×Value)} {r:List V} (q:RpAll g bad h (es.toList.map (·.2)) r):es.size=r.length:=by
 have:=q.length
 rwa [zA4,zB3] at this
theorem ja {S:Addr} {vs:Array Value} (r:RpAll g bad h vs.toList l) (hw:∀ x∈l,eZ x=true) {few:List V} (hfw:∀ x∈l,x∈few) (hn:few.length < 4500):Fills g.prog g.w h S (fun i v=>vs[i]?=some v) vs.size (AG g bad h S l) where
 frame:=fun i h h' q e=>q.elim fun es q=>q.elim fun r q=>⟨es,r,q.1.to e,q.2⟩
 live:=fun i h q=>q.elim fun es q=>q.elim fun r q=>q.1.casesOn fun o _ _ ho _ _ _ _ _=>⟨o,ho⟩
 start:=fun h ho=>⟨#[],[],⟨_,_,_,ho,⟨rfl,rfl,rfl⟩,rfl,tab0,Nat.zero_lt_succ 20,rfl⟩,fun e m=>(nM m),.nil,.nil,fun y=>⟨fun q=>(nM q),fun q=>(nM q)⟩⟩
 add:=fun i v s A hu hi hp hk hZ Q E hQ=>by
  refine hZ.elim fun es Zq5=>Zq5.elim fun R Zq6=>Zq6.elim fun T Zq7=>Zq7.elim fun he Zq8=>Zq8.elim fun hr Zq9=>Zq9.elim fun hd hm=>?_
  have hsz:=r.length
  rw [zB3] at hsz
  obtain ⟨x,hx⟩:∃ x,l[i]?=some x:=⟨_,List.getElem?_eq_getElem (hsz▸hi)⟩
  obtain ⟨v',ev,rv⟩:=r.get hx
  replace ev:=hp▸(Array.getElem?_toList)▸ev
  (injection ev with ev; subst ev)
  have hxw:=hw x (List.mem_of_getElem? hx)
  obtain ⟨c,rfl,k⟩:=gi hxw rv
  obtain ⟨t,ks,eh⟩:=kS hxw
  have mem1:∀ y,y∈l.take (i+1) ↔ y∈R∨y=x:=fun y=>by rw [List.take_add_one,hx,List.mem_append,hm]; simp
  have he':yW (aA g.prog g.w) s.heap es.toList:=fun e me=>let ⟨ks,c,q,z⟩:=he e me; ⟨ks,c,q,d5 hk z⟩
  have inR:x∈R ↔ ∃ e∈es.toList,IsK (aA g.prog g.w) s.heap (.inr t :: ks) e:=by
   refine eh▸?_
   constructor
   ·intro q
    obtain ⟨u,mu,ru⟩:=hr.mem q
    obtain ⟨e,me,rfl⟩:=zA7 mu
    obtain ⟨ks',c',rfl,z⟩:=he e me
    obtain ⟨c2,e2,k2⟩:=gi hxw ru
    (injection e2 with e2; subst e2)
    obtain rfl:=z.inj k2
    exact ⟨_,me,c',rfl,d5 hk z⟩
   ·rintro ⟨e,me,c',rfl,z⟩
    obtain ⟨y,my,ry⟩:=hr.of_mem (List.mem_map.mpr ⟨_,me,rfl⟩)
    have hy:=hw y (List.mem_of_mem_take ((hm y).mp my))
    obtain ⟨c2,e2,k2⟩:=gi hy ry
    (injection e2 with e2; subst e2)
    exact keys_inj hxw hy ((d5 hk k2).inj z)▸my
  replace k:=eh▸k
  refine pH hu T he' (d5 hk k) (by have:=hd.length_le_of_subset (l₂:=few) fun y q=>hfw y (List.mem_of_mem_take ((hm y).mp q)); rw [jB hr]; exact Nat.lt_of_le_of_lt this hn) (fun q tk=>?_) fun h' es' tk sb T' p q=>?_
  ·have q:=inR.mpr q
   exact hQ _ s.heap tk (.refl _ _) ⟨es,R,T,he,hr,hd,fun y=>by rw [mem1]; exact ⟨.inl,fun z=>z.elim id fun z=>z▸q⟩⟩
  ·refine (RpAll.perm (p.map Prod.snd) (RpAll.cons rv hr)).elim fun R' Zq23=>Zq23.elim fun pR rR=>?_
   refine hQ _ h' tk sb ⟨es',R',T',fun e me=>?_,rR,pR.nodup_iff.mpr (List.nodup_cons.mpr ⟨fun z=>?_,hd⟩),fun y=>?_⟩
   ·rcases List.mem_cons.mp (p.mem_iff.mp me) with rfl | me
    ·exact ⟨_,c,rfl,k⟩
    ·exact he e me
   ·obtain ⟨e,me,ie⟩:=inR.mp z; exact q e me ie
   ·rw [pR.mem_iff,mem1,List.mem_cons]; exact or_comm
end
theorem bA:PySem.Slot "set_iterator" "__next__" "set_iterator.__next__":=
 .of (owner:="set_iterator") (n:="__next__") (by rw [typeLookup_type,builtinLookup_eq_fast]; kernel_rfl) (by decide +kernel) (by decide +kernel) (by decide +kernel)
  (by first | exact .inl (by decide +kernel) | exact .inr (by decide +kernel)) (by rw [isSubtype_type]; kernel_rfl)
theorem gq:entryFor table "set_iterator.__next__"=some Builtin.«set_iterator.__next__»:=entryFor_of_tree (by kernel_rfl)
theorem g6 (a:Value):argsOk "set_iterator.__next__" ⟨[a],[]⟩:=by unfold argsOk; kernel_rfl
theorem iz:entryFor table "set.__iter__"=some Builtin.«frozenset.__iter__»:=entryFor_alias (id':="frozenset.__iter__") (by kernel_rfl) rfl (by decide +kernel) (by kernel_rfl)
section
variable {prog:Program} {w:World} {A:Around} {E:Value→Shared→Prop} {s:Shared}
noncomputable abbrev jR (ff:Value) (i:Nat) (S:Addr) (n ep:Nat):Obj:={ cls:=.type "set_iterator",data:=.fields #[ff,.int i 0,.ref S,.int n 0,.int ep 0] }
theorem re {Q:Option Value→Shared→Prop} {P:Fin→Shared→Prop} (hh:A.handled=none) (h:∀ h',aH s.heap h'→Q none { s with heap:=h' }) :
  wpAny (model prog w) A.in1 (newExc (.type "StopIteration") [] >>= fun e=>raiseNew e) P (fun e s'=>wpAny (model prog w) A (isInstance e (.type "StopIteration") >>= fun b=>if b=true then pure none else throw e) Q E s') s:=by
 refine zC1 (zC1 (wpAny_newObj_type (zC1 (wpAny_of_eq (a:=Value.none) rfl (wpAny_newObj_type ?_ (by size_fits)))) (by size_fits)))
 refine wpAny_raiseNew_none (hh:A.in1.handled=none) ?_
 refine zC1 (wpAny_isInstance (T:="StopIteration") (b:=true) ⟨_,Heap.get?_push_size _ rfl,rfl⟩ isSubtype_stop ?_)
 exact zC2 (h _ ((av _ _).trans (av _ _)))
theorem eP (ho:s.heap.get? I=some { cls:=.type "set_iterator",data:=.fields vs }) (hj:j < vs.size) (h:∀ h',h'.get? I=some { cls:=.type "set_iterator",data:=.fields (vs.setIfInBounds j v) }→Heap.SameBut I s.heap h'→Q () { s with heap:=h' }) :
  wpAny (model prog w) A (setField (.ref I) j v) Q E s:=
 wpAny_setField ho rfl hj (h _ (Heap.get?_update_self _ ho rfl) (Heap.SameBut.update ..))
theorem fT {I S:Addr} {o:Obj} {es:Array (Int×Value)} {ep i:Nat} {t:SetTable} {ff f':Value} {r:Option Value} {Q:Option Value→Shared→Prop} (hh:A.handled=none)
  (hI:s.heap.get? I=some (jR ff i S es.size ep)) (ho:s.heap.get? S=some o) (hd:o.data=.set es ep t) (hf:t.fits es.size=true)
  (hn:(∃ (slot nx:Nat) (tk:Tok),ff=.int slot tk∧f'=.int nx 0∧∀ (A:Around) (Q:Option (Value×Nat)→Shared→Prop) (E:Value→Shared→Prop),Q (r.map fun x=>(x,nx)) s→wpAny (model prog w) A (setNext S slot i ep) Q E s) ∨
   ∃ F ol items n',ff=.ref F∧f'=ff∧s.heap.get? F=some ol∧ol.data=.seq items n'∧((r=none∧items[i]?=none)∨∃ (p:Nat) (tk:Tok) (x:Value) (e:Int),r=some x∧items[i]?=some (.int p tk)∧es[p]?=some (e,x)))
  (hQ:∀ x,r=some x→∀ h',h'.get? I=some (jR f' (i+1) S es.size ep)→Heap.SameBut I s.heap h'→Q (some x) { s with heap:=h' })
  (hE:r=none→∀ h',(∀ b o,b≠I→s.heap.get? b=some o→h'.get? b=some o)→Q none { s with heap:=h' }):wpAny (model prog w) A (pyNext (.ref I)) Q E s:=by
 have hT:s.TypeIs (.ref I) "set_iterator":=⟨_,hI,rfl⟩
 refine zC1 (wpAny_attempt (wpAny_callSpecial?_slot (name:=Str.ofString "__next__") hT bA (wpAny_call_entry bA hT gq ?_ (g6 _))))
 refine zC1 (zC2 ?_)
 refine zC1 (wpAny_fieldsOf hI rfl ?_)
 refine zC1 (zC1 (wpAny_setState_of ho hd hf (zC2 ?_)))
 refine bD (by simp) ?_
 have ext:∀ {h1 h2:Heap},Heap.SameBut I s.heap h1→aH h1 h2→∀ b o,b≠I→s.heap.get? b=some o→h2.get? b=some o:=fun a k b o q e=>k b o ((a.2 b q).trans e)
 rcases hn with ⟨slot,nx,tk,rfl,rfl,hn⟩ | ⟨F,ol,items,n',rfl,rfl,hol,hdl,hn⟩
 ·refine zC1 (hn _ _ _ ?_)
  cases r with
  | none=>exact zC1 (eP hI (by simp) fun h1 _ sb=>re hh fun h2 k=>hE rfl _ (ext sb k))
  | some x=>exact zC1 (eP hI (by simp) fun h1 g1 sb=>zC1 (eP g1 (by simp) fun h2 g2 sb2=>zC2 ⟨x,rfl,zC2 (hQ x rfl h2 g2 (sb.trans sb2))⟩))
 ·refine zC1 (wpAny_seqItems hol hdl ?_)
  dsimp only
  rcases hn with ⟨rfl,hi⟩ | ⟨p,tk,x,e,rfl,hi,he⟩
  ·exact (hi:items[(i:Int).toNat]?=_).symm▸zC1 (eP hI (by simp) fun h1 g1 sb=>zC1 (eP g1 (by simp) fun h2 g2 sb2=>re hh fun h3 k=>hE rfl _ (ext (sb.trans sb2) k)))
  ·refine (hi:items[(i:Int).toNat]?=_).symm▸zC1 (zC1 (wpAny_setState_of ho hd hf (bD (by simp) ?_)))
   exact (he:es[(p:Int).toNat]?=_).symm▸zC2 (zC1 (eP hI (by simp) fun h1 g1 sb=>zC2 ⟨x,rfl,zC2 (hQ x rfl h1 g1 sb)⟩))
theorem lq (hn:n≠0) (h:∀ i d,i < n→Q i { s with drawn:=d }):wpAny M A (choose src n) Q E s:=fun Γ p hΓ=>by
 unfold choose
 rw [Sem.wp_choose]
 exact ⟨hn,h _ _ (Nat.mod_lt _ (Nat.pos_of_ne_zero hn))⟩
theorem cT:∀ {l:List α} {i:Nat},l[i]?=some x→(x :: l.eraseIdx i).Perm l
 | [],_,h=>nomatch h
 | y :: l,0,h=>by (injection h with h; subst h); exact .refl _
 | y :: l,i+1,h=>(List.Perm.swap y x _).trans (.cons y (cT (l:=l) h))
theorem se:∀ (n:Nat) (xs:List α) (s:Shared) {Q:List α→Shared→Prop},xs.length=n→(∀ ys d,ys.Perm xs→Q ys { s with drawn:=d })→wpAny M A (drawOrder n xs) Q E s
 | 0,xs,s,Q,hl,h=>by obtain rfl:=List.length_eq_zero_iff.mp hl; exact zC2 (h [] s.drawn (.refl _))
 | n+1,[],s,Q,hl,h=>nomatch hl
 | n+1,x :: xs,s,Q,hl,h=>by
  refine zC1 (lq (by rw [hl]; exact Nat.succ_ne_zero n) fun i d hi=>?_)
  have e:(x :: xs)[i]?=some (x :: xs)[i]:=List.getElem?_eq_getElem hi
  rw [e]
  refine zC1 (se n _ _ (by rw [List.length_eraseIdx_of_lt hi,hl]; rfl) fun ys d' p=>zC2 (h _ d' ((List.Perm.cons _ p).trans (cT e))))
theorem rn (f:Nat→Nat):∀ (n k:Nat) (l:List α) (o:Array α),l.length=n→(pickOrder.go f n k l o).toList.Perm (o.toList++l)
 | 0,k,l,o,h=>by obtain rfl:=List.length_eq_zero_iff.mp h; refine (?_:o.toList.Perm _); rw [List.append_nil]
 | n+1,k,l,o,h=>by
  have hi:f k % l.length < l.length:=Nat.mod_lt _ (by rw [h]; exact Nat.succ_pos n)
  have e:l[f k % l.length]?=some l[f k % l.length]:=List.getElem?_eq_getElem hi
  rw [show pickOrder.go f (n+1) k l o=(match l[f k % l.length]? with | some x=>pickOrder.go f n (k+1) (l.eraseIdx (f k % l.length)) (o.push x) | none=>o) from rfl,e]
  refine (rn f n (k+1) _ _ (by rw [List.length_eraseIdx_of_lt hi,h]; rfl)).trans ?_
  rw [Array.toList_push,List.append_assoc]
  exact .append_left _ (cT e)
theorem sS (f:Nat→Nat) (xs:Array α):(pickOrder f xs).toList.Perm xs.toList:=rn f _ 0 _ #[] Array.length_toList
end
theorem dz:PySem.Slot "set_iterator" "__iter__" "set_iterator.__iter__":=
 .of (owner:="set_iterator") (n:="__iter__") (by rw [typeLookup_type,builtinLookup_eq_fast]; kernel_rfl) (by decide +kernel) (by decide +kernel) (by decide +kernel)
  (by first | exact .inl (by decide +kernel) | exact .inr (by decide +kernel)) (by rw [isSubtype_type]; kernel_rfl)
theorem gt:entryFor table "set_iterator.__iter__"=some Builtin.«dict_keyiterator.__iter__»:=entryFor_alias (id':="dict_keyiterator.__iter__") (by kernel_rfl) rfl (by decide +kernel) (by kernel_rfl)
theorem g7 (a:Value):argsOk "set_iterator.__iter__" ⟨[a],[]⟩:=by unfold argsOk; kernel_rfl
section
variable {prog:Program} {w:World} {A:Around} {E:Value→Shared→Prop} {s:Shared} {I S:Addr} {o:Obj} {es:Array (Int×Value)} {ep:Nat} {t:SetTable} {ord:List Value}
theorem iI (hI:s.heap.get? I=some ob) (hc:ob.cls=.type "set_iterator") (h:Q (.ref I) s):wpAny (model prog w) A (pyIter (.ref I)) Q E s:=by
 have hT:s.TypeIs (.ref I) "set_iterator":=⟨_,hI,hc⟩
 refine wpAny_pyIter_slot hT dz (wpAny_call_entry dz hT gt ?_ (g7 _))
 refine zC1 (zC2 ?_)
 exact zC2 ⟨_,rfl, "set_iterator",_,hT,bA.lookup,h⟩
abbrev nt (prog:Program) (w:World) (S:Addr) (o:Obj) (i ep slot:Nat) (r:Option (Value×Nat)):Prop:=∀ (s:Shared),s.heap.get? S=some o→∀ (A:Around) (Q:Option (Value×Nat)→Shared→Prop) (E:Value→Shared→Prop),Q r s→wpAny (model prog w) A (setNext S slot i ep) Q E s
theorem AP {C:Addr→Prop} (m:c∈[a,b]) (ha:C a) (hb:C b):C c:=by
 rcases List.mem_cons.mp m with rfl | m
 ·exact ha
 ·obtain rfl:=zA6 m; exact hb
theorem ku (hh:A.handled=none) (hne:S≠I) (hd:o.data=.set es ep t) (hf:t.fits es.size=true) (Sl:Nat→Nat→Prop)
  (hs:∀ i slot,Sl slot i→i < es.size→∃ x nx,ord[i]?=some x∧Sl nx (i+1)∧nt prog w S o i ep slot (some (x,nx))) (he:∀ slot,Sl slot es.size→nt prog w S o es.size ep slot none) :
  Walks prog w A I [I,S] [I] es.size (fun i v=>ord[i]?=some v) (fun i h=>h.get? S=some o∧∃ slot tk,Sl slot i∧h.get? I=some (jR (.int slot tk) i S es.size ep)) where
 sub:=fun b m=>by obtain rfl:=zA6 m; exact .head _
 frame:=fun i h h' Zq1 k=>Zq1.elim fun a Zq2=>Zq2.elim fun slot Zq3=>Zq3.elim fun tk Zq4=>Zq4.elim fun b c=>⟨k S (.tail _ (.head _)) _ a,slot,tk,b,k I (.head _) _ c⟩
 item:=fun i s Q E hi ⟨a,slot,tk,b,c⟩ hQ=>by
  refine yG fun Z1 kZ1=>?_
  obtain ⟨x,nx,e1,e2,e3⟩:=hs i slot b hi
  refine kZ1 ?_
  refine fT (r:=some x) (f':=.int nx 0) hh c a hd hf (.inl ⟨slot,nx,tk,rfl,rfl,e3 s a⟩) (fun y ey h' hI sb=>?_) fun q=>nN q
  (injection ey with ey; subst ey)
  exact hQ x h' s.toks e1 ⟨(sb.2 S hne).trans a,nx,0,e2,hI⟩ fun b o m e=>(sb.2 b fun q=>m (q▸.head _)).trans e
 done:=fun s Q E Zq9 hQ=>Zq9.elim fun a Zq10=>Zq10.elim fun slot Zq11=>Zq11.elim fun tk Zq12=>Zq12.elim fun b c=>fT (r:=none) (f':=.int 0 0) hh c a hd hf (.inl ⟨slot,0,tk,rfl,rfl,he slot b s a⟩) (fun y ey=>nN ey.symm) fun _ h' k=>hQ h' s.toks fun b o m e=>k b o (fun q=>m (q▸.head _)) e
 self:=fun i s Q E ⟨a,slot,tk,b,c⟩ h=>iI c rfl h
theorem sE (hh:A.handled=none) (hne:S≠I) (hd:o.data=.set es ep t) (hf:t.fits es.size=true) (hF:F≠I) (hdl:ol.data=.seq items n') (hz:items.size=es.size)
  (hs:∀ i,i < es.size→∃ (p:Nat) (tk:Tok) (x:Value) (e:Int),ord[i]?=some x∧items[i]?=some (.int p tk)∧es[p]?=some (e,x)) :
  Walks prog w A I [I,S,F] [I] es.size (fun i v=>ord[i]?=some v) (fun i h=>h.get? S=some o∧h.get? F=some ol∧h.get? I=some (jR (.ref F) i S es.size ep)) where
 sub:=fun b m=>by obtain rfl:=zA6 m; exact .head _
 frame:=fun i h h' Zq17 k=>Zq17.elim fun a Zq18=>Zq18.elim fun b c=>⟨k S (.tail _ (.head _)) _ a,k F (.tail _ (.tail _ (.head _))) _ b,k I (.head _) _ c⟩
 item:=fun i s Q E hi ⟨a,b,c⟩ hQ=>by
  refine yG fun Z2 kZ2=>?_
  obtain ⟨p,tk,x,e,e1,e2,e3⟩:=hs i hi
  refine kZ2 ?_
  refine fT (r:=some x) (f':=.ref F) hh c a hd hf (.inr ⟨F,ol,items,n',rfl,rfl,b,hdl,.inr ⟨p,tk,x,e,rfl,e2,e3⟩⟩) (fun y ey h' hI sb=>?_) fun q=>nN q
  (injection ey with ey; subst ey)
  exact hQ x h' s.toks e1 ⟨(sb.2 S hne).trans a,(sb.2 F hF).trans b,hI⟩ fun b o m e=>(sb.2 b fun q=>m (q▸.head _)).trans e
 done:=fun s Q E Zq21 hQ=>Zq21.elim fun a Zq22=>Zq22.elim fun b c=>fT (r:=none) (f':=.ref F) hh c a hd hf (.inr ⟨F,ol,items,n',rfl,rfl,b,hdl,.inl ⟨rfl,Array.getElem?_eq_none (zB2 hz)⟩⟩) (fun y ey=>nN ey.symm) fun _ h' k=>hQ h' s.toks fun b o m e=>k b o (fun q=>m (q▸.head _)) e
 self:=fun i s Q E ⟨a,b,c⟩ h=>iI c rfl h
theorem kP (hB:w.params.followText "set-order"=true) (hd:o.data=.set es ep t) (hf:t.fits es.size=true) (e:((pickOrder (w.params.setOrder S ep) es)[i]?).map (fun e=>(e.2,slot))=r):nt prog w S o i ep slot r:=fun s ho A Q E h=>by
 skip
 refine zC1 (wpAny_setState_of ho hd hf ?_)
 refine zC1 (zC1 (wpAny_askSetting (zC2 ?_)))
 rw [show (Setting.mk (model prog w).prog (model prog w).w.params).params.followText "set-order"=true from hB,if_pos rfl,if_neg (by simp)]
 unfold setWalk
 refine zC1 (zC1 (wpAny_setState_of ho hd hf ?_))
 refine zC1 (zC1 (wpAny_askSetting (zC2 ?_)))
 refine (show (Setting.mk (model prog w).prog (model prog w).w.params).params.followText "set-order"=true from hB).symm▸(if_pos rfl).symm▸?_
 refine zC1 (wpAny_askSetting (zC2 (zC2 ?_)))
 exact e▸h
theorem oD (hB:w.params.followText "set-order"=false) (hd:o.data=.set es ep t) (hf:t.fits es.size=true) (hl:t.led=true) (hn:(!t.plain&&decide (es.size > 1))=false)
  (e:(match es[SetTable.below t.place slot]?,t.place[SetTable.below t.place slot]? with | some (_,x),some j=>some (x,j+1) | _,_=>none)=r):nt prog w S o i ep slot r:=fun s ho A Q E h=>by
 skip
 refine zC1 (wpAny_setState_of ho hd hf ?_)
 refine zC1 (zC1 (wpAny_askSetting (zC2 ?_)))
 refine (show (Setting.mk (model prog w).prog (model prog w).w.params).params.followText "set-order"=false from hB).symm▸(if_neg Bool.false_ne_true).symm▸?_
 refine bD (ne_true_of_eq_false hn) ?_
 refine zC1 (bD (show ¬ (!t.led&&!es.isEmpty)=true by simp [hl]) (zC2 ?_))
 refine zC2 ?_
 subst e; exact h
theorem uN (hL:L = !w.params.followText "set-order") (T:TS s.heap S es L)
  (h:∀ (ord:List Value) I fp wr St h' d,ord.Perm (es.toList.map (·.2))→aH s.heap h'→(∀ b∈wr,s.heap.get? b=none)→(∀ b∈fp,s.heap.get? b=none∨b=S)→(∀ A:Around,A.handled=none→Walks prog w A I fp wr es.size (fun i v=>ord[i]?=some v) St)→St 0 h'→Q (.ref I) { s with heap:=h',drawn:=d }) :
  wpAny (model prog w) A (pyIter (.ref S)) Q E s:=by
 refine yG fun Z3 kZ3=>?_
 obtain ⟨o,ep,t,ho,hex,hd,T,hr,hl⟩:=T
 refine kZ3 ?_
 have hm:es.size≤t.mask:=Nat.le_of_lt (Nat.lt_of_mul_lt_mul_right (Nat.lt_of_le_of_lt (Nat.mul_le_mul_left es.size (by decide:3≤5)) hr))
 have hf:t.fits es.size=true:=T.fits hm
 have hT:s.TypeIs (.ref S) "set":=⟨_,ho,hex.1⟩
 refine wpAny_pyIter_slot hT PySem.F.slot_set_iter (wpAny_call_entry PySem.F.slot_set_iter hT iz ?_ (PySem.F.args_set_iter_1 _))
 unfold Builtin.«frozenset.__iter__»
 refine zC1 (zC1 (zC2 (zC2 ?_)))
 refine zC1 (zC1 (zC1 (wpAny_setState_of ho hd hf (zC2 (zC2 ?_)))))
 skip
 refine zC1 (zC1 (wpAny_setState_of ho hd hf ?_))
 refine zC1 (zC1 (wpAny_askSetting (zC2 (zC2 ?_))))
 have hle:es.size≤8191:=zB1 hm (by rcases T.msk with q | q | q | q | q | q <;> rw [q] <;> decide)
 extract_lets jp
 have hjp:∀ (s1:Shared) ff,s1.heap.get? S=some o→(∀ h',h'.get? s1.heap.objs.size=some (jR ff 0 S es.size ep)→aH s1.heap h'→Q (.ref s1.heap.objs.size) { s1 with heap:=h' }) →
   wpAny (model prog w) A.in1 (jp ff) (fun fin s'=>∃ v,fin=.done (.ret v)∧∃ T' r,s'.TypeIs v T'∧typeLookup (.type T') (Str.ofString "__next__")=pure (some r)∧Q v s') E s1:=fun s1 ff h1 hq=>by
  refine zC1 (wpAny_setEpoch_of h1 hd hf ?_)
  refine zC1 (wpAny_newObj_type ?_)
  exact zC2 ⟨_,rfl, "set_iterator",_,⟨_,Heap.get?_push_size _ rfl,rfl⟩,bA.lookup,hq _ (Heap.get?_push_size _ rfl) (av _ _)⟩
 have nI:∀ (h1:Heap),aH s.heap h1→s.heap.get? h1.objs.size=none:=fun h1 k=>aM k.live (ak _)
 refine wpAny_ite_split (fun c=>?_) fun c=>?_
 ·refine zC1 (se _ _ _ List.length_range fun ys d py=>?_)
  refine zC1 (wpAny_newTuple ?_ (by rw [zA4,py.length_eq,List.length_range]; exact zB1 hle (by decide)))
  have k1:aH s.heap (s.heap.push { cls:=.type "tuple",data:=.seq (ys.map fun (i:Nat)=>rawInt i).toArray 0 }):=av _ _
  have hy:∀ a∈ys,(es.toList[a]?).isSome:=fun a m=>by
   rw [List.getElem?_eq_getElem (by rw [zB3]; exact List.mem_range.mp (py.mem_iff.mp m))]; rfl
  refine hjp _ _ (k1 _ _ ho) fun h' hI k=>h ((ys.filterMap (es.toList[·]?)).map (·.2)) _ _ _ _ h' d ?_ (k1.trans k) (fun b m=>?_) (fun b m=>?_) (fun A hh=>sE hh (cy (k1 _ _ ho)) hd hf (F:=s.heap.objs.size) (Nat.ne_of_lt (by rw [Heap.size_push]; exact Nat.lt_succ_self _)) (rfl:Obj.data { cls:=.type "tuple",data:=.seq (ys.map fun (i:Nat)=>rawInt i).toArray 0 }=_) (by simp [py.length_eq]) fun i hi=>?_) ⟨(k1.trans k) _ _ ho,k _ _ (Heap.get?_push_size _ rfl),hI⟩
  ·refine (List.Perm.map _ ((List.Perm.filterMap _ py).trans (.of_eq ?_)))
   exact Array.length_toList▸b7 _
  ·obtain rfl:=zA6 m; exact nI _ k1
  ·rcases List.mem_cons.mp m with rfl | m
   ·exact .inl (nI _ k1)
   ·exact AP (C:=fun b=>s.heap.get? b=none∨b=S) m (.inr rfl) (.inl (ak _))
  ·have hl':i < ys.length:=by rw [py.length_eq,List.length_range]; exact hi
   have ep:ys[i] < es.size:=List.mem_range.mp (py.mem_iff.mp (List.getElem_mem hl'))
   refine ⟨ys[i],0,es[ys[i]].2,es[ys[i]].1,?_,?_,Array.getElem?_eq_getElem ep⟩
   ·rw [List.getElem?_map,cS hy,List.getElem?_eq_getElem hl']
    refine (?_:((es.toList[ys[i]]?).map _)=_)
    rw [Array.getElem?_toList,Array.getElem?_eq_getElem ep]; rfl
   ·simp [hl',rawInt]
 ·refine zC1 (zC2 ?_)
  cases hB:w.params.followText "set-order" with
  | true=>
   have pk:=sS (w.params.setOrder S ep) es
   refine hjp s _ ho fun h' hI k=>h ((pickOrder (w.params.setOrder S ep) es).toList.map (·.2)) _ _ _ _ h' s.drawn (pk.map _) k (fun b m=>by obtain rfl:=zA6 m; exact ak _) (fun b m=>AP (C:=fun b=>s.heap.get? b=none∨b=S) m (.inl (ak _)) (.inr rfl))
    (fun A hh=>ku hh (cy ho) hd hf (fun _ _=>True) (fun i slot _ hi=>?_) fun slot _=>?_) ⟨k _ _ ho,0,0,trivial,hI⟩
   ·have hl':i < (pickOrder (w.params.setOrder S ep) es).size:=by exact Array.length_toList▸pk.length_eq.symm▸Array.length_toList.symm▸hi
    exact ⟨(pickOrder (w.params.setOrder S ep) es)[i].2,slot,by rw [List.getElem?_map,Array.getElem?_toList,Array.getElem?_eq_getElem hl']; rfl,trivial,kP hB hd hf (by rw [Array.getElem?_eq_getElem hl']; rfl)⟩
   ·exact kP hB hd hf (by rw [Array.getElem?_eq_none (by rw [← zB3,pk.length_eq,zB3]; exact Nat.le_refl _)]; rfl)
  | false=>
   have hl2:t.led=true:=by rw [hl,hL,hB]; rfl
   have hn:(!t.plain&&decide (es.size > 1))=false:=by
    have c:¬ (!w.params.followText "set-order"&&(!t.plain&&decide (es.size > 1)))=true:=c
    rw [hB] at c
    exact Bool.eq_false_iff.mpr c
   refine hjp s _ ho fun h' hI k=>h (es.toList.map (·.2)) _ _ _ _ h' s.drawn (.refl _) k (fun b m=>by obtain rfl:=zA6 m; exact ak _) (fun b m=>AP (C:=fun b=>s.heap.get? b=none∨b=S) m (.inl (ak _)) (.inr rfl))
    (fun A hh=>ku hh (cy ho) hd hf (fun slot i=>SetTable.below t.place slot=i) (fun i slot e hi=>?_) fun slot e=>oD hB hd hf hl2 hn (by rw [e,Array.getElem?_eq_none (Nat.le_refl _)])) ⟨k _ _ ho,0,0,?_,hI⟩
   ·obtain ⟨j,ej⟩:∃ j,t.place[i]?=some j:=⟨_,Array.getElem?_eq_getElem (by rw [T.sz]; exact hi)⟩
    refine ⟨es[i].2,j+1,by rw [List.getElem?_map,Array.getElem?_toList,Array.getElem?_eq_getElem hi]; rfl,?_,oD hB hd hf hl2 hn (by rw [e,Array.getElem?_eq_getElem hi,ej])⟩
    have b:=d9 T.rise (j+1)
    rcases Nat.lt_trichotomy (SetTable.below t.place (j+1)) (i+1) with q | q | q
    ·exact absurd (b.2.2 i j (Nat.le_of_lt_succ q) ej) (Nat.not_succ_le_self j)
    ·exact q
    ·obtain ⟨j',ej'⟩:∃ j,t.place[i+1]?=some j:=⟨_,Array.getElem?_eq_getElem (Nat.lt_of_lt_of_le q b.1)⟩
     exact absurd (Nat.le_of_lt_succ (b.2.1 _ _ q ej')) (Nat.not_le.mpr (T.rise _ _ _ _ (Nat.lt_succ_self i) ej ej'))
   ·have b:=d9 T.rise 0
    rcases Nat.eq_zero_or_pos (SetTable.below t.place 0) with q | q
    ·exact q
    ·have b1:=b.1
     obtain ⟨j,ej⟩:∃ j,t.place[0]?=some j:=⟨_,Array.getElem?_eq_getElem (Nat.lt_of_lt_of_le q b1)⟩
     exact absurd (b.2.1 0 j q ej) (Nat.not_lt_zero _)
end
noncomputable abbrev KKd:=PyProof.Rows.KeyKind
structure SI (k₀:SortKind) (a₀:Array Keyed) (st:SortSt):Prop where
 perm:(arrOf st).Perm a₀
 kind:kindOf st=k₀
 failed:failedOf st=none
 pend:pendingOf st=#[]
section
variable {M:Model} {A:Around} {s:Shared} {k₀:SortKind} {a₀:Array Keyed} {st:SortSt} {E:Value→Shared→Prop} {κ:KKd}
noncomputable def rS (κ:KKd) (x:Keyed):κ.α:=(κ.keyOf x.1).getD κ.dflt
def v7 (M:Model) (A:Around) (s:Shared) (k₀:SortKind) (κ:KKd) (a₀:Array Keyed):Prop:=∀ x y:Keyed,x∈a₀.toList→y∈a₀.toList→∀ (E:Value→Shared→Prop) (Q:Bool→Shared→Prop),Q (κ.blt (rS κ x) (rS κ y)) s→wpAny M A (keyLt' k₀ x.1 y.1) Q E s
theorem SI.size (I:SI k₀ a₀ st):(arrOf st).size=a₀.size:=I.perm.size_eq
theorem SI.setArr (I:SI k₀ a₀ st) (h:xs.Perm (arrOf st)):SI k₀ a₀ (setArr st xs):=⟨h.trans I.perm,I.kind,I.failed,I.pend⟩
theorem SI.mem (I:SI k₀ a₀ st) (h:x∈(arrOf st).toList):x∈a₀.toList:=(Array.perm_iff_toList_perm.mp I.perm).mem_iff.mp h
theorem wg (e:xs[i]?=some x):KK κ xs i=rS κ x:=by unfold KK; rw [e]; rfl
theorem wpS_ltAt (L:v7 M A s k₀ κ a₀) (I:SI k₀ a₀ st) (hi:i < a₀.size) (hj:j < a₀.size) (h:∀ b,κ.blt (KK κ (arrOf st) i) (KK κ (arrOf st) j)=b→Q (some b) st):wpS M A E s (ltAt' i j) Q st:=by
 rw [ltAt'_eq]
 refine wpS_bind (wpS_get ?_)
 have ei:=getElem?_pos (arrOf st) i (I.size▸hi)
 have ej:=getElem?_pos (arrOf st) j (I.size▸hj)
 dsimp only
 rw [elem'_eq,elem'_eq,ei,ej]
 refine wpS_bind (wpS_pure (wpS_bind (wpS_pure ?_)))
 rw [lt'_eq]
 refine wpS_bind (wpS_get ?_)
 rw [I.kind]
 exact wpS_bind (wpS_lift (wpAny_attempt (L _ _ (I.mem (by simp)) (I.mem (by simp)) _ _ ⟨rfl,wpS_pure (h _ (by rw [wg ei,wg ej]))⟩)))
theorem wpS_rev (I:SI k₀ a₀ st) (h:∀ st',SI k₀ a₀ st'→arrOf st'=mirror (arrOf st) i j ((j - i) / 2)→Q () st'):wpS M A E s (reverseSlice' i j) Q st:=by
 rw [reverseSlice'_eq]; exact wpS_modify (h _ (I.setArr (mirror_perm _ _ _ _)) rfl)
theorem ue (h:SortedToK κ xs x) (q:κ.kle (KK κ xs (x - 1)) (KK κ xs x)):SortedToK κ xs (x+1):=fun i j hij hj=>by
 rcases Nat.lt_or_ge j x with z | z
 ·exact h i j hij z
 ·cases Nat.le_antisymm (Nat.le_of_lt_succ hj) z
  rcases Nat.lt_or_ge i x with z | z
  ·exact KeyOrd.kle_trans (h i (x - 1) (Nat.le_sub_one_of_lt z) (Nat.sub_one_lt (Nat.ne_of_gt (Nat.zero_lt_of_lt z)))) q
  ·cases Nat.le_antisymm hij z; exact KeyOrd.kle_refl _
theorem gA (h:NonIncK κ xs x) (q:κ.kle (KK κ xs x) (KK κ xs (x - 1))):NonIncK κ xs (x+1):=fun i j hij hj=>by
 rcases Nat.lt_or_ge j x with z | z
 ·exact h i j hij z
 ·cases Nat.le_antisymm (Nat.le_of_lt_succ hj) z
  rcases Nat.lt_or_ge i x with z | z
  ·exact KeyOrd.kle_trans q (h i (x - 1) (Nat.le_sub_one_of_lt z) (Nat.sub_one_lt (Nat.ne_of_gt (Nat.zero_lt_of_lt z))))
  ·cases Nat.le_antisymm hij z; exact KeyOrd.kle_refl _
theorem wpS_asc {f:Nat→Option (Option Nat)×Nat→StateT SortSt Sem (ForInStep (Option (Option Nat)×Nat))} {Q:Option (Option Nat)×Nat→SortSt→Prop} {g:Nat→Option Bool→StateT SortSt Sem (ForInStep (Option (Option Nat)×Nat))}
  (L:v7 M A s k₀ κ a₀) (hf:∀ x,f x (none,x)=(ltAt' (0+x) (0+x - 1) >>= g x)) (g1:∀ x,g x (some true)=pure (.done (none,x))) (g0:∀ x,g x (some false)=pure (.yield (none,x+1)))
  (hn:nrem≤a₀.size) (h1:1≤a) (h2:a≤nrem) (I:SI k₀ a₀ st) (hs:SortedToK κ (arrOf st) a) (h:∀ m,1≤m→m≤nrem→SortedToK κ (arrOf st) m→(m < nrem→κ.klt (KK κ (arrOf st) m) (KK κ (arrOf st) (m - 1)))→Q (none,m) st):wpS M A E s (forIn [a:nrem] (none,a) f) Q st:=by
 refine wpS_forRange (I:=fun x c st'=>c=(none,x)∧st'=st∧SortedToK κ (arrOf st) x) ?_ ?_ ⟨rfl,rfl,hs⟩
 ·rintro x c st' q1 q2 ⟨rfl,rfl,hs⟩
  rw [hf,Nat.zero_add]
  refine wpS_bind (wpS_ltAt L I (Nat.lt_of_lt_of_le q2 hn) (Nat.lt_of_le_of_lt (Nat.sub_le _ _) (Nat.lt_of_lt_of_le q2 hn)) fun b e=>?_)
  cases b
  ·rw [g0]; exact wpS_pure ⟨rfl,rfl,ue hs e⟩
  ·rw [g1]; exact wpS_pure (h x (zB1 h1 q1) (Nat.le_of_lt q2) hs fun _=>e)
 ·rintro c st' ⟨rfl,rfl,hs⟩
  rw [Nat.max_eq_right h2] at hs ⊢
  exact h _ (zB1 h1 h2) (Nat.le_refl _) hs fun q=>absurd q (Nat.lt_irrefl _)
def EqB (κ:KKd) (xs:Array Keyed) (i j:Nat):Prop:=∀ k,i≤k→k < j→KK κ xs k=KK κ xs (j - 1)
theorem qZ (hj:j≤xs.size) (e:EqB κ xs i j):KK κ (mirror xs i j ((j - i) / 2))=KK κ xs:=funext fun k=>KK_mirror_equal hj e k
theorem mP (e:KK κ ys=KK κ xs):(SortedToK κ xs n→SortedToK κ ys n)∧(NonIncK κ xs n→NonIncK κ ys n):=⟨fun h i j a b=>by rw [e]; exact h i j a b,fun h i j a b=>by rw [e]; exact h i j a b⟩
theorem sU (hn:n≤xs.size) (h:NonIncK κ xs n):SortedToK κ (mirror xs 0 n ((n - 0) / 2)) n:=fun i j hij hj=>by
 rw [KK_mirror hn,KK_mirror hn,if_pos ⟨Nat.zero_le _,Nat.lt_of_le_of_lt hij hj⟩,if_pos ⟨Nat.zero_le _,hj⟩]
 exact h _ _ (Nat.sub_le_sub_left hij _) (by rw [Nat.zero_add]; exact Nat.lt_of_le_of_lt (Nat.sub_le _ _) (Nat.sub_lt (Nat.lt_of_le_of_lt (Nat.zero_le _) hj) (by decide)))
theorem jx [Decidable c] (I:SI k₀ a₀ st) (hj:j≤a₀.size) (e:EqB κ (arrOf st) i j) (h:∀ st',SI k₀ a₀ st'→KK κ (arrOf st')=KK κ (arrOf st)→wpS M A E s X Q st'):wpS M A E s (if c then reverseSlice' i j >>= fun _=>X else X) Q st:=by
 split
 ·exact wpS_bind (wpS_rev I fun st' I' e'=>h st' I' (by rw [e']; exact qZ (I.size▸hj) e))
 ·exact h st I rfl
theorem zA (a:x - (0+1)≤k) (b:k < x):k=x - 1:=Nat.le_antisymm (Nat.le_sub_one_of_lt b) a
theorem Az (a:x+1 - (q+1+1)≤k):x - (q+1)≤k:=Nat.add_sub_add_right x 1 (q+1)▸a
theorem lm {Q:Option Nat→SortSt→Prop} (L:v7 M A s k₀ κ a₀) (hn:nrem≤a₀.size) (h1:1≤nrem) (I:SI k₀ a₀ st)
  (h:∀ m st',SI k₀ a₀ st'→1≤m→m≤nrem→SortedToK κ (arrOf st') m→(EqB κ (arrOf st) 0 nrem→m=nrem∧arrOf st'=arrOf st)→Q (some m) st'):wpS M A E s (countRun' 0 nrem) Q st:=by
 rw [countRun'_eq]
 have hz:nrem≤(arrOf st).size:=I.size▸hn
 refine wpS_bind (wpS_asc L (fun _=>rfl) (fun _=>rfl) (fun _=>rfl) hn (Nat.le_refl 1) h1 I (fun i j a b=>by cases Nat.lt_one_iff.mp b; obtain rfl:=Nat.le_zero.mp a; exact KeyOrd.kle_refl _) fun n hn1 hn2 hs hlt=>?_)
 dsimp only
 by_cases e:n=nrem
 ·rw [if_pos (by simpa using e)]; exact wpS_pure (h n st I hn1 hn2 hs fun _=>⟨e,rfl⟩)
 rw [if_neg (by simpa using e)]
 have hlt:=hlt (Nat.lt_of_le_of_ne hn2 e)
 have hno:¬ EqB κ (arrOf st) 0 nrem:=fun q=>by
  rw [q n (Nat.zero_le _) (Nat.lt_of_le_of_ne hn2 e),q (n - 1) (Nat.zero_le _) (Nat.lt_of_lt_of_le (Nat.sub_lt hn1 (by decide)) hn2)] at hlt
  exact absurd hlt (by unfold KeyOrd.klt; rw [κ.irrefl]; exact Bool.false_ne_true)
 have fin:∀ m st',SI k₀ a₀ st'→1≤m→m≤nrem→SortedToK κ (arrOf st') m→Q (some m) st':=fun m st' I' a b c=>h m st' I' a b c fun q=>absurd q hno
 clear h
 -- a run that went down is turned round,and goes on
 have turn:∀ {n':Nat} {st':SortSt} {f:Nat→Option (Option Nat)×Nat→StateT SortSt Sem (ForInStep (Option (Option Nat)×Nat))} {F:Option (Option Nat)×Nat→StateT SortSt Sem (Option Nat)} {g:Nat→Option Bool→StateT SortSt Sem (ForInStep (Option (Option Nat)×Nat))},
   (∀ x,f x (none,x)=(ltAt' (0+x) (0+x - 1) >>= g x))→(∀ x,g x (some true)=pure (.done (none,x)))→(∀ x,g x (some false)=pure (.yield (none,x+1)))→(∀ m,F (none,m)=pure (some m))→SI k₀ a₀ st'→1≤n'→n'≤nrem→NonIncK κ (arrOf st') n' →
   wpS M A E s (reverseSlice' 0 (0+n') >>= fun _=>forIn [n':nrem] (none,n') f >>= F) Q st':=fun hf g1 g0 hF I' q1 q2 hd=>by
  rw [Nat.zero_add]
  refine wpS_bind (wpS_rev I' fun st4 I4 e4=>wpS_bind (wpS_asc L hf g1 g0 hn q1 q2 I4 (by rw [e4]; exact sU (zB1 q2 (I'.size▸hn)) hd) fun m a b c _=>?_))
  rw [hF]; exact wpS_pure (fin m st4 I4 a b c)
 have hlt':n < nrem:=Nat.lt_of_le_of_ne hn2 e
 have go:∀ {α:Type} {c:Prop} [Decidable c] {i j:Nat} {X:StateT SortSt Sem α} {F:Option Bool→StateT SortSt Sem α} {Q:α→SortSt→Prop},(c ↔ n > 1)→i=0→j=n - 1→wpS M A E s (F (some true)) Q st→F (some false)=(reverseSlice' 0 (0+n) >>= fun _=>X) →
   (∀ st2,SI k₀ a₀ st2→NonIncK κ (arrOf st2) (n+1)→wpS M A E s X Q st2)→wpS M A E s (if c then ltAt' i j >>= F else X) Q st:=fun hc hi hj ht hF hX=>by
  subst hi hj
  have dn:∀ {ys:Array Keyed},KK κ ys=KK κ (arrOf st)→NonIncK κ (arrOf st) n→NonIncK κ ys (n+1):=fun e h=>(mP e).2 (gA h (KeyOrd.kle_of_klt hlt))
  split
  ·refine wpS_bind (wpS_ltAt L I (Nat.lt_of_lt_of_le (Nat.zero_lt_of_lt hlt') hn) (Nat.lt_of_le_of_lt (Nat.sub_le _ _) (Nat.lt_of_lt_of_le hlt' hn)) fun b eb=>?_)
   cases b
   ·have eqs:∀ k,k < n→KK κ (arrOf st) k=KK κ (arrOf st) (n - 1):=fun k hk=>KeyOrd.kle_antisymm (hs k (n - 1) (Nat.le_sub_one_of_lt hk) (Nat.sub_one_lt_of_lt hn1)) (KeyOrd.kle_trans eb (hs 0 k (Nat.zero_le _) hk))
    rw [hF,Nat.zero_add]
    exact wpS_bind (wpS_rev I fun st' I' e'=>hX st' I' (dn (by rw [e']; exact qZ (zB1 hn2 hz) fun k _ hk=>eqs k hk) fun i j hij hj=>by rw [eqs i (Nat.lt_of_le_of_lt hij hj),eqs j hj]; exact KeyOrd.kle_refl _))
   ·exact ht
  ·rename_i hc'
   have:n=1:=Nat.le_antisymm (Nat.le_of_not_lt fun q=>hc' (hc.mpr q)) hn1
   exact hX st I (dn rfl fun i j hij hj=>by rw [this] at hj; obtain rfl:=Nat.lt_one_iff.mp hj; obtain rfl:=Nat.le_zero.mp hij; exact KeyOrd.kle_refl _)
 refine go Iff.rfl rfl (by rw [Nat.zero_add]) (wpS_pure (fin n st I hn1 hn2 hs)) rfl fun st2 I2 d2=>?_
 refine wpS_bind (wpS_lift (wpAny_rule ⟨rfl,?_⟩))
 have one:∀ {xs:Array Keyed} {x:Nat},EqB κ xs (x - (0+1)) x:=fun {xs x} k a b=>congrArg (KK κ xs) (zA a b)
 refine wpS_bind (wpS_forRange (I:=fun x c st'=>∃ q,c=(none,x,q)∧SI k₀ a₀ st'∧NonIncK κ (arrOf st') x∧EqB κ (arrOf st') (x - (q+1)) x) ?_ ?_ ⟨0,rfl,I2,d2,one⟩)
 ·rintro x c st' hx1 hx2 ⟨q,rfl,I',d',e'⟩
  have hxa:=Nat.lt_of_lt_of_le hx2 hn
  have hx0:x - 1 < a₀.size:=Nat.lt_of_le_of_lt (Nat.sub_le _ _) hxa
  have z0:0+x=x:=Nat.zero_add x
  refine wpS_bind (wpS_ltAt L I' (z0.symm▸hxa) (z0.symm▸hx0) fun b eb=>?_)
  dsimp only at eb
  rw [z0] at eb
  cases b
  ·refine wpS_bind (wpS_ltAt L I' (z0.symm▸hx0) (z0.symm▸hxa) fun b eb'=>?_)
   dsimp only at eb'
   rw [z0] at eb'
   cases b
   ·have ek:KK κ (arrOf st') x=KK κ (arrOf st') (x - 1):=KeyOrd.kle_antisymm eb' eb
    refine wpS_pure ⟨q+1,rfl,I',gA d' eb',fun k a b=>?_⟩
    rw [Nat.add_sub_cancel,ek]
    rcases Nat.lt_or_ge k x with z | z
    ·exact e' k (Az a) z
    ·rw [Nat.le_antisymm (Nat.le_of_lt_succ b) z,ek]
   ·exact wpS_pure (jx I' (z0.symm▸Nat.le_of_lt hxa) (z0.symm▸e') fun st3 I3 k3=>
     turn (fun _=>rfl) (fun _=>rfl) (fun _=>rfl) (fun _=>rfl) I3 (zB1 (Nat.succ_le_succ (Nat.zero_le _)) hx1) (Nat.le_of_lt hx2) ((mP k3).2 d'))
  ·exact jx I' (z0.symm▸Nat.le_of_lt hxa) (z0.symm▸e') fun st3 I3 k3=>wpS_pure ⟨0,rfl,I3,(mP k3).2 (gA d' (KeyOrd.kle_of_klt eb)),one⟩
 ·rintro c st' ⟨q,rfl,I',d',e'⟩
  rw [Nat.max_eq_right hlt'] at d' e'
  have z0:0+max (n+1) nrem=nrem:=by rw [Nat.zero_add,Nat.max_eq_right hlt']
  have z1:max (n+1) nrem=nrem:=Nat.max_eq_right hlt'
  exact jx I' (z0.symm▸hn) (z0.symm▸e') fun st3 I3 k3=>turn (fun _=>rfl) (fun _=>rfl) (fun _=>rfl) (fun _=>rfl) I3 (z1.symm▸h1) (zB2 z1) (z1.symm▸(mP k3).2 d')
end
section
variable {M:Model} {A:Around} {s:Shared} {k₀:SortKind} {a₀:Array Keyed} {st:SortSt} {E:Value→Shared→Prop} {κ:KKd}
theorem qe (hk:k < xs.size) (hl:l≤k) (h:SortedToK κ xs k) (a:∀ i,i < l→κ.kle (KK κ xs i) (KK κ xs k)) (b:∀ i,l≤i→i < k→κ.kle (KK κ xs k) (KK κ xs i)):SortedToK κ (bubble xs k (k - l)) (k+1):=fun i j hij hj=>by
 rw [KK_bubble hk (Nat.sub_le _ _),KK_bubble hk (Nat.sub_le _ _),Nat.sub_sub_self hl]
 have hj:=Nat.le_of_lt_succ hj
 rcases Nat.lt_trichotomy i l with qi | rfl | qi
 ·rw [if_neg (Nat.ne_of_lt qi),if_neg fun z=>Nat.lt_asymm z.1 qi]
  rcases Nat.lt_trichotomy j l with qj | rfl | qj
  ·rw [if_neg (Nat.ne_of_lt qj),if_neg fun z=>Nat.lt_asymm z.1 qj]; exact h i j hij (Nat.lt_of_lt_of_le qj hl)
  ·rw [if_pos rfl]; exact a i qi
  ·rw [if_neg (Nat.ne_of_gt qj),if_pos ⟨qj,hj⟩]; exact h i (j - 1) (Nat.le_sub_one_of_lt (Nat.lt_trans qi qj)) (Nat.lt_of_lt_of_le (Nat.sub_one_lt_of_lt qj) hj)
 ·rw [if_pos rfl]
  rcases Nat.lt_or_ge i j with qj | qj
  ·rw [if_neg (Nat.ne_of_gt qj),if_pos ⟨qj,hj⟩]; exact b (j - 1) (Nat.le_sub_one_of_lt qj) (Nat.lt_of_lt_of_le (Nat.sub_one_lt_of_lt qj) hj)
  ·obtain rfl:=Nat.le_antisymm hij qj; rw [if_pos rfl]; exact KeyOrd.kle_refl _
 ·have qj:l < j:=Nat.lt_of_lt_of_le qi hij
  rw [if_neg (Nat.ne_of_gt qi),if_pos ⟨qi,zB1 hij hj⟩,if_neg (Nat.ne_of_gt qj),if_pos ⟨qj,hj⟩]
  exact h (i - 1) (j - 1) (Nat.sub_le_sub_right hij 1) (Nat.lt_of_lt_of_le (Nat.sub_one_lt_of_lt qj) hj)
theorem zL (h:¬ l ≥ r) (hr:r≤k) (hf:r - l≤k - x):(l+r) / 2 < k∧l≤(l+r) / 2∧(l+r) / 2 < r∧(l+r) / 2 - l≤k - (x+1)∧r - ((l+r) / 2+1)≤k - (x+1):=
 have h:=Nat.not_le.mp h
 have a:(l+r) / 2 < r:=Nat.div_lt_of_lt_mul (Nat.two_mul r▸Nat.add_lt_add_right h r)
 have b:l≤(l+r) / 2:=(Nat.le_div_iff_mul_le Nat.two_pos).mpr (Nat.mul_two l▸Nat.add_le_add_left (Nat.le_of_lt h) l)
 ⟨Nat.lt_of_lt_of_le a hr,b,a,Nat.le_pred_of_lt (Nat.lt_of_lt_of_le (Nat.sub_lt_sub_right b a) hf),Nat.le_pred_of_lt (Nat.lt_of_lt_of_le (Nat.sub_lt_sub_left h (Nat.lt_succ_of_le b)) hf)⟩
theorem ir (L:v7 M A s k₀ κ a₀) (hn:n≤a₀.size) (h1:1≤ok) (h2:ok≤n) (I:SI k₀ a₀ st) (hs:SortedToK κ (arrOf st) ok) (h:∀ st',SI k₀ a₀ st'→SortedToK κ (arrOf st') n→Q true st'):wpS M A E s (binarySort' 0 n ok) Q st:=by
 rw [binarySort'_eq]
 have hm:max ok 1=ok:=Nat.max_eq_left h1
 refine wpS_bind (wpS_forRange (I:=fun k c st'=>c=(none,())∧SI k₀ a₀ st'∧SortedToK κ (arrOf st') k) ?_ (fun c st' ⟨e,I',hs'⟩=>by subst e; rw [hm,Nat.max_eq_right h2] at hs'; exact wpS_pure (h st' I' hs')) ⟨rfl,I,hm.symm▸hs⟩)
 rintro k c st' hk1 hk2 ⟨rfl,I',hs'⟩
 have hka:=Nat.lt_of_lt_of_le hk2 hn
 have fin:∀ l,l≤k→(∀ i,i < l→κ.kle (KK κ (arrOf st') i) (KK κ (arrOf st') k))→(∀ i,l≤i→i < k→κ.kle (KK κ (arrOf st') k) (KK κ (arrOf st') i))→SI k₀ a₀ (setArr st' (bubble (arrOf st') (0+k) (0+k - (0+l))))∧SortedToK κ (arrOf (setArr st' (bubble (arrOf st') (0+k) (0+k - (0+l))))) (k+1):=fun l hl a b=>
  ⟨I'.setArr (bubble_perm _ _ _),by show SortedToK κ (bubble (arrOf st') (0+k) (0+k - (0+l))) (k+1); rw [Nat.zero_add,Nat.zero_add]; exact qe (I'.size▸hka) hl hs' a b⟩
 refine wpS_bind (wpS_forRange (I:=fun x c st''=>st''=st'∧∃ l r,c=(none,l,r)∧l≤r∧r≤k∧r - l≤k - x∧(∀ i,i < l→κ.kle (KK κ (arrOf st') i) (KK κ (arrOf st') k))∧∀ i,r≤i→i < k→κ.kle (KK κ (arrOf st') k) (KK κ (arrOf st') i)) ?_ ?_ ⟨rfl,0,k,rfl,Nat.zero_le _,Nat.le_refl _,Nat.le_refl _,fun i q=>absurd q (Nat.not_lt_zero _),fun i q z=>absurd z (Nat.not_lt.mpr q)⟩)
 ·rintro x c st'' _ _ ⟨rfl,l,r,rfl,hlr,hr,hf,a,b⟩
  dsimp only
  split
  ·rename_i q
   cases Nat.le_antisymm hlr q
   exact wpS_pure (wpS_bind (by rw [moveDown'_eq]; exact wpS_modify (wpS_pure ⟨rfl,fin l hr a b⟩)))
  ·rename_i q
   obtain ⟨m1,m2,m3,m4,m5⟩:=zL q hr hf
   refine wpS_bind (wpS_ltAt L I' (by rw [Nat.zero_add]; exact hka) (by rw [Nat.zero_add]; exact Nat.lt_trans m1 hka) fun bb e=>?_)
   rw [Nat.zero_add,Nat.zero_add] at e
   cases bb
   ·exact wpS_pure ⟨rfl,_,r,rfl,m3,hr,m5,fun i hi=>KeyOrd.kle_trans (hs' i _ (Nat.le_of_lt_succ hi) m1) e,b⟩
   ·exact wpS_pure ⟨rfl,l,_,rfl,m2,Nat.le_of_lt m1,m4,a,fun i hi hk=>KeyOrd.kle_trans (KeyOrd.kle_of_klt e) (hs' _ i hi hk)⟩
 ·rintro c st'' ⟨rfl,l,r,rfl,hlr,hr,hf,a,b⟩
  have:l=r:=Nat.le_antisymm hlr (by have:r - l≤k - max 0 k:=hf; rw [Nat.max_eq_right (Nat.zero_le _),Nat.sub_self] at this; exact Nat.sub_eq_zero_iff_le.mp (Nat.le_zero.mp this))
  subst this
  exact wpS_bind (by rw [moveDown'_eq]; exact wpS_modify (wpS_pure ⟨rfl,fin l hr a b⟩))
theorem wpS_ite [Decidable c] (h1:c→wpS M A E s t Q st) (h2:¬ c→wpS M A E s e Q st):wpS M A E s (if c then t else e) Q st:=by
 split
 ·exact h1 ‹_›
 ·exact h2 ‹_›
theorem pM (h2:2≤n) (h:n < 64):minRun' n n 0=n:=by
 obtain ⟨f,rfl⟩:∃ f,n=f+2:=⟨n - 2,(Nat.sub_add_cancel h2).symm⟩
 rw [minRun'_succ,if_pos h]
theorem SI.out (I:SI k₀ a₀ st):∃ xs g,st=SortSt.mk' k₀ xs #[] g none∧xs.Perm a₀:=by
 obtain ⟨hp,hk,hf,hd⟩:=I
 obtain ⟨k,xs,p,g,f⟩:=st
 subst hk; subst hf; subst hd
 exact ⟨_,_,rfl,hp⟩
theorem ll (L:v7 M A s k₀ κ a₀) (I:SI k₀ a₀ st) (h2:2≤a₀.size) (hq:a₀.size < 64∨EqB κ (arrOf st) 0 a₀.size) (h:∀ st',(arrOf st').Perm a₀→failedOf st'=none→SortedToK κ (arrOf st') a₀.size→Q () st'):wpS M A E s sortRuns' Q st:=by
 refine wpS_bind (wpS_get ?_)
 extract_lets size mr lo
 have hs:size=a₀.size:=I.size
 have hm:a₀.size < 64→mr=size:=fun q=>pM (hs▸h2) (hs▸q)
 clear_value mr size
 subst hs
 refine wpS_bind (wpS_mono (wpS_forRange (I:=fun x c st'=>(x=0∧c=(none,0)∧st'=st)∨(c=(none,a₀.size)∧(arrOf st').Perm a₀∧failedOf st'=none∧(pendingOf st').size≤1∧SortedToK κ (arrOf st') a₀.size)) (Q:=fun c st'=>c=(none,a₀.size)∧(arrOf st').Perm a₀∧failedOf st'=none∧(pendingOf st').size≤1∧SortedToK κ (arrOf st') a₀.size) ?_ ?_ (.inl ⟨rfl,rfl,rfl⟩)) ?_)
 ·rintro x c st' _ hx (⟨rfl,rfl,rfl⟩ | ⟨rfl,R⟩)
  ·refine wpS_ite (fun hl=>absurd (zB1 h2 (hl:a₀.size≤0)) (by decide)) fun hl=>?_
   refine wpS_bind (lm (nrem:=a₀.size) L (Nat.le_refl _) (Nat.le_of_succ_le h2) I fun m st1 I1 hm1 hm2 hs1 hall=>?_)
   dsimp (zeta:=false) only
   extract_lets n jp force n'
   let RR:ForInStep (Option Unit×Nat)→SortSt→Prop:=fun r s''=>match r with
    | .done c'=>c'=(none,a₀.size)∧(arrOf s'').Perm a₀∧failedOf s''=none∧(pendingOf s'').size≤1∧SortedToK κ (arrOf s'') a₀.size
    | .yield c'=>(0+1=0∧c'=(none,0)∧s''=st')∨(c'=(none,a₀.size)∧(arrOf s'').Perm a₀∧failedOf s''=none∧(pendingOf s'').size≤1∧SortedToK κ (arrOf s'') a₀.size)
   have hjp:∀ n st1,SI k₀ a₀ st1→n=a₀.size→SortedToK κ (arrOf st1) a₀.size→wpS M A E s (jp () n) RR st1:=by
    intro n st1 I1 e hs1
    obtain ⟨xs,g,rfl,hp⟩:=I1.out
    subst e
    refine wpS_bind (wpS_get ?_)
    exact wpS_bind (wpS_modify (wpS_pure (.inr ⟨by rw [Nat.zero_add],hp,rfl,Nat.le_refl 1,hs1⟩)))
   refine wpS_mono (?_:wpS M A E s _ RR st1) fun r _ q=>by cases r <;> exact q
   refine wpS_ite (fun q=>?_) fun q=>?_
   ·refine wpS_bind (wpS_lift (wpAny_rule ⟨rfl,?_⟩))
    have q:m < mr:=q
    have hf:min (a₀.size - 0) mr=a₀.size:=hq.elim (fun hq=>by rw [hm hq]; exact Nat.min_self _) fun hq=>Nat.min_eq_left (Nat.le_of_lt ((hall hq).1▸q:a₀.size < mr))
    show wpS M A E s (binarySort' 0 (min (a₀.size - 0) mr) m >>= _) _ _
    rw [hf]
    exact wpS_bind (ir L (Nat.le_refl _) hm1 hm2 I1 hs1 fun st2 I2 hs2=>hjp _ st2 I2 hf hs2)
   ·have q:¬ m < mr:=q
    have e:m=a₀.size:=hq.elim (fun hq=>Nat.le_antisymm hm2 (Nat.le_of_not_lt fun z=>q (hm hq▸z))) fun hq=>(hall hq).1
    exact hjp m st1 I1 e (e▸hs1)
  ·exact wpS_ite (fun hl=>wpS_pure ⟨rfl,R⟩) fun hl=>absurd (Nat.le_refl a₀.size) hl
 ·rintro c st' (⟨q,_⟩ | q)
  ·exact absurd q (by rw [Nat.zero_max]; exact Nat.ne_of_gt (Nat.lt_of_lt_of_le (by decide) h2))
  ·exact q
 ·rintro c st' ⟨rfl,hp,hf,hd,hs⟩
  refine wpS_bind (wpS_forRange (I:=fun _ c st''=>c=(none,())∧st''=st') ?_ ?_ ⟨rfl,rfl⟩)
  ·rintro y c st1 _ _ ⟨rfl,rfl⟩
   refine wpS_bind (wpS_get ?_)
   exact wpS_ite (fun _=>wpS_pure (wpS_pure (h _ hp hf hs))) fun q'=>absurd hd q'
  ·rintro c st1 ⟨rfl,rfl⟩
   exact wpS_pure (h _ hp hf hs)
end
theorem wL:typeLookup (.type "set") "__len__"=pure (some (.builtin "set.__len__")):=by rw [typeLookup_type,builtinLookup_eq_fast]; kernel_rfl
section
variable {prog:Program} {w:World} {A:Around} {E:Value→Shared→Prop} {s:Shared} {S:Addr} {es:Array (Int×Value)} {L:Bool}
theorem uQ (hT:s.TypeIs (.ref S) "set") (h:Q false s):wpAny (model prog w) A (Builtin.List.listLengthHint (.ref S)) Q E s:=by
 unfold Builtin.List.listLengthHint
 refine zC1 (wpAny_specialOf hT wL ?_)
 wp_delta
 refine zC1 (wpAny_isInstance hT sub_set_self ?_)
 refine (?_:wpAny _ A (typeOf (Value.ref S) >>= _) _ _ _)
 exact zC1 (wpAny_typeOf hT (wpAny_pure h))
theorem nL (hh:A.handled=none) (hL:L = !w.params.followText "set-order") (T:TS s.heap S es L)
  (h:∀ (out:List Value) h' d tk,out.Perm (es.toList.map (·.2))→aH s.heap h'→Q out { s with heap:=h',drawn:=d,toks:=tk }):wpAny (model prog w) A (collect (.ref S)) Q E s:=by
 have hn:es.size≤sizeLine:=by
  obtain ⟨o,ep,t,ho,hex,hd,T,hr,hl⟩:=T
  refine zB1 (?_:es.size≤8191) (by decide)
  exact zB1 (Nat.le_of_lt (Nat.lt_of_mul_lt_mul_right (Nat.lt_of_le_of_lt (Nat.mul_le_mul_left es.size (by decide:3≤5)) hr))) (by rcases T.msk with q | q | q | q | q | q <;> rw [q] <;> decide)
 have T0:=T
 obtain ⟨o,ep,t,ho,hex,hd,_⟩:=T
 have hT:∀ s':Shared,s'.heap.get? S=some o→s'.TypeIs (.ref S) "set":=fun s' e=>⟨o,e,hex.1⟩
 have hSI:s.heap.objs.size≠S:=(cy ho).symm
 unfold collect
 refine zC1 (wpAny_runValue (codeAny_builtin PySem.F.entry_proto_collect ?_))
 rw [Around.under_plainId PySem.F.plain_proto_collect _]
 refine (?_:wpAny _ A.in1 (newList [] >>= fun l=>again (.builtin "list.__iadd__" ⟨[l,.ref S],[]⟩)) _ _ s)
 refine zC1 (wpAny_newObj_type ?_)
 refine zC2 ⟨plainId_quiet PySem.F.plain_list_iadd _,codeAny_builtin PySem.F.entry_list_iadd ?_⟩
 rw [Around.under_plainId PySem.F.plain_list_iadd _]
 refine (?_:wpAny _ A.in1 (Builtin.List.listExtendWith (.ref s.heap.objs.size) (.ref S) (.ref s.heap.objs.size)) _ _ _)
 have k1:=av s.heap { cls:=.type "list",data:=.seq ([]:List Value).toArray }
 refine qm (R:=wants _ E) (C:=fun out=>out.Perm (es.toList.map (·.2))) (s:={ s with heap:=s.heap.push { cls:=.type "list",data:=.seq ([]:List Value).toArray } }) hh (Heap.get?_push_size _ rfl) hSI (.inl rfl) (hT _ (k1 _ _ ho)) (fun s' Q E k hq=>uQ (hT _ (k _ _ (k1 _ _ ho))) hq) (fun Q E hQ=>?_) fun out h' d tk c' hC k hD=>?_
 ·refine uN hL (s:={ s with heap:=s.heap.push { cls:=.type "list",data:=.seq ([]:List Value).toArray } }) (?_:TS _ S es L) fun ord I fp wr St h' d py k2 hw hf W hst=>?_
  ·obtain ⟨o,ep,t,ho,q1,q2,q3,q4,q5⟩:=T0; exact ⟨o,ep,t,k1 _ _ ho,q1,q2,q3,q4,q5⟩
  have hl:ord.length=es.size:=by rw [py.length_eq,zA4,zB3]
  exact hQ ord I fp wr St h' d py (hl▸hn) k2 hw (fun q=>(hf _ q).elim (fun e=>by rw [Heap.get?_push_size _ rfl] at e; (injection e; done)) hSI) (hl▸W A.in1 hh) hst
 ·refine (?_:wpAny _ A (load s.heap.objs.size >>= _) _ _ _)
  refine zC1 (wpAny_load hD ?_)
  exact zC2 (h out h' d tk hC fun b ob e=>k b ob (cy e) (k1 _ _ e))
end
noncomputable abbrev dI:Bool→SortKind:=sortPriv% PySem.Builtin.KeyKind.tuples
section
variable {prog:Program} {w:World} {A:Around} {E:Value→Shared→Prop} {s:Shared}
theorem zz (hp:wO k p=true) (hq:wO m q=true) (hk:(k.isLeft==m.isLeft)=true) (h:Q (gO k m) s):wpAny (model prog w) A (oneLt' b p q) Q E s:=
 bu (C:=fun k p=>(k.isLeft==m.isLeft)=true→Q (gO k m) s→wpAny (model prog w) A (oneLt' b p q) Q E s) hp
  (fun i t hk h=>bu (C:=fun m q=>(true==m.isLeft)=true→Q (gO (.inl i) m) s→wpAny (model prog w) A (oneLt' b (.int i t) q) Q E s) hq (fun j u _ h=>by
    cases b
    ·rw [oneLt'_eq]; exact zC1 (P.lt_int (wpAny_truthy_bool h))
    ·exact oneLt_int h) (fun _ _ hk=>nB hk) hk h)
  (fun x t hk h=>bu (C:=fun m q=>(false==m.isLeft)=true→Q (gO (.inr x) m) s→wpAny (model prog w) A (oneLt' b (.str x t) q) Q E s) hq (fun _ _ hk=>nB hk) (fun y u _ h=>by
    cases b
    ·rw [oneLt'_eq]; exact zC1 (lt_str (wpAny_truthy_bool h))
    ·exact oneLt_str h) hk h) hk h
inductive KLt (prog:Program) (w:World) (s:Shared) (sz:Bool) (Q:Bool→Shared→Prop) (rest:List ((Value×Value)×Nat)) (o:Option Bool) (s':Shared):Prop
 | mk (hr:o=none) (es:s'=s) (ks ms:List Sc) (vs us:List Value) (j:Nat) (er:rest=(vs.zip us).zipIdx j) (hv:ItemsAre (aA prog w) ks vs) (hu:ItemsAre (aA prog w) ms us) (hk:ltK ks ms=true) (h:Q (bE ks ms) s) (hz:sz=decide (vs.length < us.length)):KLt prog w s sz Q rest o s'
set_option tactic.hygienic true in
theorem zU (hc:IsTupleKey (aA prog w) s.heap ks c) (hc':IsTupleKey (aA prog w) s.heap ms c') (hk:ltK ks ms=true) (h:Q (bE ks ms) s):wpAny (model prog w) A (keyLt' (dI b) (.ref c) (.ref c')) Q E s:=by
 obtain ⟨o,items,n,ho,_,hd,hi⟩:=hc
 obtain ⟨o',items',n',ho',_,hd',hi'⟩:=hc'
 refine zC1 (listItems_at ho hd ?_)
 refine zC1 (listItems_at ho' hd' ?_)
 refine zC1 (wpAny_forIn_list _ (fun rest r s'=>KLt prog w s (decide (items.size < items'.size)) Q rest r.1 s') _ ?_ ?_ _ _ ⟨rfl,rfl,ks,ms,items.toList,items'.toList,0,rfl,hi,hi',hk,h,rfl⟩)
 ·rintro v rest r s' ⟨hr,rfl,ks,ms,vs,us,j,e,hv,hu,hk,h,hsz⟩
  cases hv with
  | nil=>(injection e; done)
  | cons h1 hv=>
   cases hu with
   | nil=>(injection e; done)
   | cons h2 hu=>
    cases e
    refine zC1 ((aA prog w).eqBool h1 h2 ?_)
    rename_i k p ks vs m q ms us
    rw [zM] at hk
    rw [lex_cc] at h
    by_cases e:k=m
    ·rw [decide_eq_true e]
     rw [if_pos e] at hk h
     exact zC2 ⟨rfl,rfl,ks,ms,vs,us,j+1,rfl,hv,hu,hk,h,hsz.trans (decide_eq_decide.mpr Nat.succ_lt_succ_iff)⟩
    ·rw [decide_eq_false e]
     rw [if_neg e] at hk h
     exact zC1 (zz h1 h2 hk (zC2 (wpAny_pure h)))
 ·rintro ⟨r1,r2⟩ s' ⟨hr,rfl,ks,ms,vs,us,j,e,hv,hu,hk,h,hsz⟩
  subst hr
  refine zC2 ?_
  show Q (decide (items.size < items'.size)) s'
  rw [hsz]
  have:bE ks ms=decide (vs.length < us.length):=by
   cases hv with
   | nil=>cases hu <;> rfl
   | cons h1 hv=>
    cases hu with
    | nil=>rfl
    | cons h2 hu=>(injection e; done)
  rw [← this]; exact h
theorem rI {α β:Type} {f:α→Sem β} {C:β→Prop}:∀ {l:List α} {Q:List β→Shared→Prop},(∀ a∈l,∀ Q:β→Shared→Prop,(∀ b,C b→Q b s)→wpAny M A (f a) Q E s)→(∀ bs,(∀ b∈bs,C b)→Q bs s)→wpAny M A (l.mapM f) Q E s
 | [],Q,_,h=>by rw [List.mapM_nil]; exact zC2 (h [] fun _ q=>nM q)
 | a :: l,Q,hf,h=>by
  rw [List.mapM_cons]
  refine zC1 (hf a (.head _) _ fun b hb=>zC1 (rI (fun a q=>hf a (.tail _ q)) fun bs hbs=>zC2 (h _ fun b' q=>?_)))
  rcases List.mem_cons.mp q with rfl | q
  ·exact hb
  ·exact hbs _ q
theorem pd {α β:Type} {f:α→Sem β} {C:β→Prop} {xs:Array α} {Q:Array β→Shared→Prop} (hf:∀ a∈xs.toList,∀ Q:β→Shared→Prop,(∀ b,C b→Q b s)→wpAny M A (f a) Q E s) (h:∀ bs,(∀ b∈bs.toList,C b)→Q bs s):wpAny M A (xs.mapM f) Q E s:=by
 rw [Array.mapM_eq_mapM_toList]
 exact zC1 (rI hf fun bs hb=>zC2 (h _ hb))
theorem uL {vs:Array Value} {Q:SortKind→Shared→Prop} (hv:∀ v∈vs.toList,∃ c x ks,v=.ref c∧IsTupleKey (aA prog w) s.heap (.inr x :: ks) c) (h:∀ b,Q (dI b) s):wpAny (model prog w) A (keyKind' vs) Q E s:=by
 refine zC1 (pd (C:=fun r=>∃ x t,r=some (.str x t)) (fun v m Q hQ=>?_) fun fs hfs=>?_)
 ·obtain ⟨c,x,ks,rfl,k⟩:=hv v m
  have hT:=k.typeIs
  obtain ⟨o,items,n,ho,_,hd,hi⟩:=k
  refine zC1 (wpAny_typeOf hT ?_)
  refine zC1 (listItems_at ho hd (zC2 (hQ _ ?_)))
  obtain ⟨l⟩:=items
  cases hi with
  | cons hx _=>obtain ⟨t,rfl⟩:=Value.isStrOf_shape hx; exact ⟨x,t,rfl⟩
 ·have ha:fs.all (·.isSome)=true:=by
   rw [← Array.all_toList,List.all_eq_true]; intro f m; obtain ⟨x,t,rfl⟩:=hfs f m; rfl
  rw [if_pos ha]
  refine zC1 (wpAny_rule ?_)
  refine zC1 (zC1 (pd (C:=fun _=>True) (fun v m Q hQ=>?_) fun ts _=>?_))
  ·rw [Array.toList_filterMap] at m
   obtain ⟨f,mf,e⟩:=List.mem_filterMap.mp m
   obtain ⟨x,t,rfl⟩:=hfs f mf
   (injection e with e; subst e)
   exact wpAny_typeOf (typeIs_str s x t) (hQ _ trivial)
  ·split
   ·exact zC2 (zC2 (h _))
   ·exact zC2 (zC2 (h _))
end
theorem sN (a:Sc):gO a a=false:=by
 cases a with
 | inl i=>exact decide_eq_false (Int.lt_irrefl i)
 | inr x=>exact decide_eq_false (List.lt_irrefl _)
theorem uj (h1:gO a b=true) (h2:gO b c=true):gO a c=true:=by
 cases a with
 | inl i=>cases b with
  | inl j=>cases c with
   | inl k=>exact decide_eq_true (Int.lt_trans (of_decide_eq_true h1) (of_decide_eq_true h2))
   | inr z=>rfl
  | inr y=>cases c with
   | inl k=>(injection h2; done)
   | inr z=>rfl
 | inr x=>cases b with
  | inl j=>(injection h1; done)
  | inr y=>cases c with
   | inl k=>(injection h2; done)
   | inr z=>exact decide_eq_true (List.lt_trans (of_decide_eq_true h1) (of_decide_eq_true h2))
theorem uk (h:a≠b) (h1:gO a b=false):gO b a=true:=by
 cases a with
 | inl i=>cases b with
  | inl j=>exact decide_eq_true (Int.lt_iff_le_and_ne.mpr ⟨Int.not_lt.mp (of_decide_eq_false h1),fun e=>h (congrArg _ e.symm)⟩)
  | inr y=>(injection h1; done)
 | inr x=>cases b with
  | inl j=>rfl
  | inr y=>
   refine decide_eq_true (Classical.byContradiction fun q=>h (congrArg _ ?_))
   have:=List.le_antisymm (List.not_lt.mp q) (List.not_lt.mp (of_decide_eq_false h1))
   obtain ⟨⟨x⟩⟩:=x; obtain ⟨⟨y⟩⟩:=y
   exact congrArg _ (congrArg _ this)
theorem iW:∀ l:List Sc,bE l l=false
 | []=>rfl
 | k :: ks=>by rw [lex_cc,if_pos rfl]; exact iW ks
theorem gD:∀ {a b c:List Sc},bE a b=true→bE b c=true→bE a c=true
 | [],[],_,h,_=>nB h
 | [],_ :: _,[],_,h=>nB h
 | [],_ :: _,_ :: _,_,_=>rfl
 | _ :: _,[],_,h,_=>nB h
 | _ :: _,_ :: _,[],_,h=>nB h
 | x :: a,y :: b,z :: c,h1,h2=>by
  rw [lex_cc] at h1 h2 ⊢
  by_cases e1:x=y
  ·subst e1
   rw [if_pos rfl] at h1
   by_cases e2:x=z
   ·rw [if_pos e2] at h2 ⊢; exact gD h1 h2
   ·rw [if_neg e2] at h2 ⊢; exact h2
  ·rw [if_neg e1] at h1
   by_cases e2:y=z
   ·subst e2; rw [if_neg e1]; exact h1
   ·rw [if_neg e2] at h2
    have:=uj h1 h2
    rw [if_neg fun e=>by rw [e,sN] at this; (injection this; done)]; exact this
theorem gE:∀ {a b:List Sc},a≠b→bE a b=false→bE b a=true
 | [],[],h,_=>absurd rfl h
 | [],_ :: _,_,h=>nB h.symm
 | _ :: _,[],_,_=>rfl
 | x :: a,y :: b,h,h1=>by
  rw [lex_cc] at h1 ⊢
  by_cases e:x=y
  ·subst e; rw [if_pos rfl] at h1 ⊢; exact gE (fun e=>h (by rw [e])) h1
  ·rw [if_neg e] at h1; rw [if_neg (Ne.symm e)]; exact uk e h1
open Classical in
noncomputable def fW (prog:Program) (w:World) (h:Heap):Value→Option (List Sc)
 | .ref c=>if q:∃ ks,IsTupleKey (aA prog w) h ks c then some q.choose else none
 | _=>none
theorem d6 (k:IsTupleKey (aA prog w) h ks c):fW prog w h (.ref c)=some ks:=by
 have q:∃ ks,IsTupleKey (aA prog w) h ks c:=⟨ks,k⟩
 exact (dif_pos q).trans (congrArg some (q.choose_spec.inj k))
noncomputable def cW (prog:Program) (w:World) (h:Heap):KKd where
 α:=List Sc
 blt:=bE
 irrefl:=iW
 trans:=fun _ _ _=>gD
 negTrans:=fun a b c h=>by
  by_cases e:a=b
  ·subst e; exact .inr h
  ·cases q:bE a b with
   | true=>exact .inl rfl
   | false=>exact .inr (gD (gE e q) h)
 total:=fun a b h1 h2=>Classical.byContradiction fun e=>by rw [gE e h1] at h2; (injection h2; done)
 keyOf:=fW prog w h
 dflt:=[]
end Mine
end
noncomputable section
namespace Mine.Pm
open PySem PySem.Calls PyProof.Rows PySem.W
structure SI (k₀:SortKind) (a₀:Array Keyed) (p:Array (Nat×Nat×Nat)) (st:SortSt):Prop where
 perm:(arrOf st).Perm a₀
 kind:kindOf st=k₀
 failed:failedOf st=none
 pend:pendingOf st=p
section
variable {M:Model} {A:Around} {s:Shared} {k₀:SortKind} {a₀:Array Keyed} {p:Array (Nat×Nat×Nat)} {st:SortSt} {E:Value→Shared→Prop}
def j7 (M:Model) (A:Around) (s:Shared) (k₀:SortKind) (a₀:Array Keyed):Prop:=∀ x y:Keyed,x∈a₀.toList→y∈a₀.toList→∀ (E:Value→Shared→Prop) (Q:Bool→Shared→Prop),(∀ b,Q b s)→wpAny M A (keyLt' k₀ x.1 y.1) Q E s
theorem SI.size (I:SI k₀ a₀ p st):(arrOf st).size=a₀.size:=I.perm.size_eq
theorem SI.setArr (I:SI k₀ a₀ p st) (h:xs.Perm (arrOf st)):SI k₀ a₀ p (setArr st xs):=⟨h.trans I.perm,I.kind,I.failed,I.pend⟩
theorem SI.mem (I:SI k₀ a₀ p st) (h:x∈(arrOf st).toList):x∈a₀.toList:=(Array.perm_iff_toList_perm.mp I.perm).mem_iff.mp h
theorem aE (hi:i < a.size) (h:∀ x,x∈a.toList→a[i]?=some x→Q x st):wpS M A E s (elem' a i) Q st:=by
 rw [elem'_eq,getElem?_pos a i hi]
 exact wpS_pure (h _ (by simp) (getElem?_pos a i hi))
theorem mH (L:j7 M A s k₀ a₀) (hk:kindOf st=k₀) (hx:x∈a₀.toList) (hy:y∈a₀.toList) (h:∀ b,Q (some b) st):wpS M A E s (lt' x y) Q st:=by
 rw [lt'_eq]
 refine wpS_bind (wpS_get ?_)
 exact hk.symm▸wpS_bind (wpS_lift (wpAny_attempt (L x y hx hy _ _ fun b=>⟨rfl,wpS_pure (h b)⟩)))
theorem wpS_ltAt (L:j7 M A s k₀ a₀) (I:SI k₀ a₀ p st) (hi:i < a₀.size) (hj:j < a₀.size) (h:∀ b,Q (some b) st):wpS M A E s (ltAt' i j) Q st:=by
 rw [ltAt'_eq]
 exact wpS_bind (wpS_get (wpS_bind (aE (I.size▸hi) fun x hx _=>wpS_bind (aE (I.size▸hj) fun y hy _=>mH L I.kind (I.mem hx) (I.mem hy) h))))
theorem wpS_rev (I:SI k₀ a₀ p st) (h:∀ st',SI k₀ a₀ p st'→Q () st'):wpS M A E s (reverseSlice' i j) Q st:=by
 rw [reverseSlice'_eq]; exact wpS_modify (h _ (I.setArr (mirror_perm _ _ _ _)))
theorem fo (I:SI k₀ a₀ p st) (h:∀ st',SI k₀ a₀ p st'→Q () st'):wpS M A E s (moveDown' i j) Q st:=by
 rw [moveDown'_eq]; exact wpS_modify (h _ (I.setArr (bubble_perm _ _ _)))
theorem eJ {a b n z:Nat} (h:b < n) (hn:a+n≤z):a+b < z:=Nat.lt_of_lt_of_le (Nat.add_lt_add_left h a) hn
theorem wpS_asc {lo a nrem:Nat} {f:Nat→Option (Option Nat)×Nat→StateT SortSt Sem (ForInStep (Option (Option Nat)×Nat))} {Q:Option (Option Nat)×Nat→SortSt→Prop} {g:Nat→Option Bool→StateT SortSt Sem (ForInStep (Option (Option Nat)×Nat))}
  (L:j7 M A s k₀ a₀) (hf:∀ x,f x (none,x)=(ltAt' (lo+x) (lo+x - 1) >>= g x)) (g1:∀ x,g x (some true)=pure (.done (none,x))) (g0:∀ x,g x (some false)=pure (.yield (none,x+1)))
  (hn:lo+nrem≤a₀.size) (h1:1≤a) (h2:a≤nrem) (I:SI k₀ a₀ p st) (h:∀ m st',SI k₀ a₀ p st'→1≤m→m≤nrem→Q (none,m) st'):wpS M A E s (forIn [a:nrem] (none,a) f) Q st:=by
 refine wpS_forRange (I:=fun x c st'=>c=(none,x)∧SI k₀ a₀ p st') ?_ ?_ ⟨rfl,I⟩
 ·rintro x c st' g1' g2 ⟨rfl,I'⟩
  rw [hf]
  refine wpS_bind (wpS_ltAt L I' (eJ g2 hn) (Nat.lt_of_le_of_lt (Nat.sub_le _ _) (eJ g2 hn)) fun b=>?_)
  cases b
  ·rw [g0]; exact wpS_pure ⟨rfl,I'⟩
  ·rw [g1]; exact wpS_pure (h x st' I' (zB1 h1 g1') (Nat.le_of_lt g2))
 ·rintro c st' ⟨rfl,I'⟩
  exact h _ st' I' (zB1 h1 (Nat.le_max_left _ _)) (Nat.max_le.mpr ⟨h2,Nat.le_refl _⟩)
theorem lF [Decidable c] (I:SI k₀ a₀ p st) (h:∀ st',SI k₀ a₀ p st'→wpS M A E s X Q st'):wpS M A E s (if c then reverseSlice' i j >>= fun _=>X else X) Q st:=by
 split
 ·exact wpS_bind (wpS_rev I h)
 ·exact h st I
theorem tV [Decidable c] (L:j7 M A s k₀ a₀) (I:SI k₀ a₀ p st) (hi:i < a₀.size) (hj:j < a₀.size)
  (h1:wpS M A E s (F (some true)) Q st) (h0:F (some false)=(reverseSlice' a b >>= fun _=>X)) (h:∀ st',SI k₀ a₀ p st'→wpS M A E s X Q st'):wpS M A E s (if c then ltAt' i j >>= F else X) Q st:=by
 split
 ·refine wpS_bind (wpS_ltAt L I hi hj fun b=>?_)
  cases b
  ·rw [h0]; exact wpS_bind (wpS_rev I h)
  ·exact h1
 ·exact h st I
theorem jO {lo nrem:Nat} {Q:Option Nat→SortSt→Prop} (L:j7 M A s k₀ a₀) (hn:lo+nrem≤a₀.size) (h1:1≤nrem) (I:SI k₀ a₀ p st) (h:∀ m st',SI k₀ a₀ p st'→1≤m→m≤nrem→Q (some m) st'):wpS M A E s (countRun' lo nrem) Q st:=by
 rw [countRun'_eq]
 refine wpS_bind (wpS_asc L (fun _=>rfl) (fun _=>rfl) (fun _=>rfl) hn (Nat.le_refl 1) h1 I fun n st1 I1 hn1 hn2=>?_)
 dsimp only
 by_cases e:n=nrem
 ·rw [if_pos (by simpa using e)]; exact wpS_pure (h n st1 I1 hn1 hn2)
 rw [if_neg (by simpa using e)]
 refine tV L I1 (Nat.lt_of_lt_of_le (Nat.lt_add_of_pos_right h1) hn) (Nat.lt_of_lt_of_le (Nat.sub_lt (Nat.lt_of_lt_of_le hn1 (Nat.le_add_left _ _)) (by decide)) (zB1 (Nat.add_le_add_left hn2 lo) hn)) (wpS_pure (h n st1 I1 hn1 hn2)) rfl fun st2 I2=>?_
 refine wpS_bind (wpS_lift (wpAny_rule ⟨rfl,?_⟩))
 refine wpS_bind (wpS_forRange (I:=fun x c st'=>∃ q,c=(none,x,q)∧SI k₀ a₀ p st') ?_ ?_ ⟨0,rfl,I2⟩)
 ·rintro x c st' hx1 hx2 ⟨q,rfl,I'⟩
  refine wpS_bind (wpS_ltAt L I' (eJ hx2 hn) (Nat.lt_of_le_of_lt (Nat.sub_le _ _) (eJ hx2 hn)) fun b=>?_)
  cases b
  ·refine wpS_bind (wpS_ltAt L I' (Nat.lt_of_le_of_lt (Nat.sub_le _ _) (eJ hx2 hn)) (eJ hx2 hn) fun b=>?_)
   cases b
   ·exact wpS_pure ⟨_,rfl,I'⟩
   ·refine wpS_pure ?_
    exact lF I' fun st3 I3=>wpS_bind (wpS_rev I3 fun st4 I4=>wpS_bind (wpS_asc L (fun _=>rfl) (fun _=>rfl) (fun _=>rfl) hn (by dsimp only; exact zB1 (Nat.le_add_right_of_le hn1) hx1) (by dsimp only; exact Nat.le_of_lt hx2) I4 fun m st5 I5 hm1 hm2=>wpS_pure (h m st5 I5 hm1 hm2)))
  ·exact lF I' fun st3 I3=>wpS_pure ⟨0,rfl,I3⟩
 ·rintro c st' ⟨q,rfl,I'⟩
  exact lF I' fun st3 I3=>wpS_bind (wpS_rev I3 fun st4 I4=>wpS_bind (wpS_asc L (fun _=>rfl) (fun _=>rfl) (fun _=>rfl) hn (zB1 h1 (Nat.le_max_right _ _)) (Nat.max_le.mpr ⟨Nat.lt_of_le_of_ne hn2 e,Nat.le_refl _⟩) I4 fun m st5 I5 hm1 hm2=>wpS_pure (h m st5 I5 hm1 hm2)))
theorem gV {lo n ok:Nat} {Q:Bool→SortSt→Prop} (L:j7 M A s k₀ a₀) (hn:lo+n≤a₀.size) (I:SI k₀ a₀ p st) (h:∀ st',SI k₀ a₀ p st'→Q true st'):wpS M A E s (binarySort' lo n ok) Q st:=by
 rw [binarySort'_eq]
 refine wpS_bind (wpS_forRange (I:=fun k c st'=>c=(none,())∧SI k₀ a₀ p st') ?_ (fun c st' Zq1=>Zq1.elim fun e I'=>by subst e; exact wpS_pure (h st' I')) ⟨rfl,I⟩)
 rintro k c st' hk1 hk2 ⟨rfl,I'⟩
 refine wpS_bind (wpS_forRange (I:=fun x c st''=>st''=st'∧∃ l r,c=(none,l,r)∧r≤k) ?_ ?_ ⟨rfl,0,k,rfl,Nat.le_refl _⟩)
 ·rintro x c st'' _ _ ⟨rfl,l,r,rfl,hr⟩
  dsimp only
  split
  ·exact wpS_pure (wpS_bind (fo I' fun st3 I3=>wpS_pure ⟨rfl,I3⟩))
  ·rename_i q
   have md:(l+r) / 2 < r:=Nat.div_lt_of_lt_mul (by rw [Nat.two_mul]; exact Nat.add_lt_add_right (Nat.not_le.mp q) r)
   refine wpS_bind (wpS_ltAt L I' (eJ hk2 hn) (eJ (Nat.lt_of_lt_of_le md (zB1 hr (Nat.le_of_lt hk2))) hn) fun b=>?_)
   cases b
   ·exact wpS_pure ⟨rfl,_,r,rfl,hr⟩
   ·exact wpS_pure ⟨rfl,l,_,rfl,zB1 (Nat.le_of_lt md) hr⟩
 ·rintro c st'' ⟨rfl,l,r,rfl,hr⟩
  exact wpS_bind (fo I' fun st3 I3=>wpS_pure ⟨rfl,I3⟩)
end
noncomputable def xt:Bool→Keyed→Array Keyed→Nat→Nat→Nat→StateT SortSt Sem (Option Nat):=sortPriv% PySem.Builtin.gallop
section
variable {M:Model} {A:Around} {s:Shared} {k₀:SortKind} {a₀:Array Keyed} {p:Array (Nat×Nat×Nat)} {st:SortSt} {E:Value→Shared→Prop}
theorem dy (L:j7 M A s k₀ a₀) (hk:kindOf st=k₀) (hx:key∈a₀.toList) (ha:∀ x∈arr.toList,x∈a₀.toList) (hi:i < arr.size) (h:∀ b,Q (some b) st) :
  wpS M A E s (elem' arr i >>= fun x=>if left=true then lt' x key else lt' key x >>= fun r=>pure (r.map (!·))) Q st:=by
 refine wpS_bind (aE hi fun x hm _=>?_)
 cases left
 ·exact wpS_bind (mH L hk hx (ha x hm) fun b=>wpS_pure (h _))
 ·exact mH L hk (ha x hm) hx h
theorem eO {n lo hi:Nat} {f:Nat→Option (Option Nat)×Nat×Nat→StateT SortSt Sem (ForInStep (Option (Option Nat)×Nat×Nat))} {F:Option (Option Nat)×Nat×Nat→StateT SortSt Sem (Option Nat)} {Q:Option Nat→SortSt→Prop}
  (hf:∀ x l h,h≤n→wpS M A E s (f x (none,l,h)) (fun r st'=>st'=st∧∃ l' h',h'≤n∧(r=.done (none,l',h')∨r=.yield (none,l',h'))) st) (hF:∀ l h,F (none,l,h)=pure (some h)) (hh:hi≤n) (h:∀ k,k≤n→Q (some k) st):wpS M A E s (forIn [:n] (none,lo,hi) f >>= F) Q st:=by
 refine wpS_bind (wpS_forRange (I:=fun x c st'=>st'=st∧∃ l h,c=(none,l,h)∧h≤n) ?_ ?_ ⟨rfl,lo,hi,rfl,hh⟩)
 ·rintro x c st' _ _ ⟨rfl,l,h',rfl,q⟩
  refine wpS_mono (hf x l h' q) fun r st'' w=>?_
  obtain ⟨rfl,l',h',q,rfl | rfl⟩:=w
  ·show wpS _ _ _ _ (F _) _ _
   rw [hF]; exact wpS_pure (h _ q)
  ·exact ⟨rfl,l',h',rfl,q⟩
 ·rintro c st' ⟨rfl,l,h',rfl,q⟩
  rw [hF]; exact wpS_pure (h _ q)
theorem bS {left:Bool} {arr:Array Keyed} {base n hint:Nat} {Q:Option Nat→SortSt→Prop} (L:j7 M A s k₀ a₀) (hk:kindOf st=k₀) (hx:key∈a₀.toList) (ha:∀ x∈arr.toList,x∈a₀.toList) (hb:base+n≤arr.size) (hh:hint < n)
  (h:∀ k,k≤n→Q (some k) st):wpS M A E s (xt left key arr base n hint) Q st:=by
 have hm:∀ o,hint+min o (n - hint)≤n:=fun o=>zB1 (Nat.add_le_add_left (Nat.min_le_right _ _) _) (zB2 (Nat.add_sub_cancel' (Nat.le_of_lt hh)))
 refine wpS_bind (dy L hk hx ha (eJ hh hb) fun b=>?_)
 have two:∀ l h',h'≤n→wpS M A E s ((if l ≥ h' then pure (.done (none,l,h')) else (elem' arr (base+(l+(h' - l) / 2)) >>= fun x=>if left=true then lt' x key else lt' key x >>= fun r=>pure (r.map (!·))) >>= fun r=>match r with
   | some more=>if more=true then pure (.yield (none,l+(h' - l) / 2+1,h')) else pure (.yield (none,l,l+(h' - l) / 2))
   | _=>pure (.done (some none,l,h'))):StateT SortSt Sem (ForInStep (Option (Option Nat)×Nat×Nat))) (fun r st'=>st'=st∧∃ l' h',h'≤n∧(r=.done (none,l',h')∨r=.yield (none,l',h'))) st:=by
  intro l h' q
  split
  ·exact wpS_pure ⟨rfl,l,h',q,.inl rfl⟩
  ·rename_i z
   have md:l+(h' - l) / 2 < h':=Nat.add_lt_of_lt_sub' (Nat.div_lt_self (Nat.sub_pos_of_lt (Nat.not_le.mp z)) (by decide))
   refine wpS_bind (dy L hk hx ha (eJ (Nat.lt_of_lt_of_le md q) hb) fun b=>?_)
   cases b
   ·exact wpS_pure ⟨rfl,_,_,zB1 (Nat.le_of_lt md) q,.inr rfl⟩
   ·exact wpS_pure ⟨rfl,_,_,q,.inr rfl⟩
 cases b
 ·refine wpS_bind (wpS_forRange (I:=fun x c st'=>st'=st∧∃ l o,c=(none,l,o)) ?_ ?_ ⟨rfl,0,1,rfl⟩)
  ·rintro x c st' _ _ ⟨rfl,l,o,rfl⟩
   dsimp only
   split
   ·exact wpS_pure (eO (fun x l h' q=>two l h' q) (fun l h=>rfl) (by dsimp only; exact zB1 (Nat.sub_le _ _) (Nat.le_of_lt hh)) h)
   ·refine wpS_bind (dy L hk hx ha (eJ (Nat.lt_of_le_of_lt (Nat.sub_le _ _) hh) hb) fun b=>?_)
    cases b
    ·exact wpS_pure ⟨rfl,_,_,rfl⟩
    ·exact wpS_pure (eO (fun x l h' q=>two l h' q) (fun l h=>rfl) (by dsimp only; exact zB1 (Nat.sub_le _ _) (Nat.le_of_lt hh)) h)
  ·rintro c st' ⟨rfl,l,o,rfl⟩
   exact eO (fun x l h' q=>two l h' q) (fun l h=>rfl) (by dsimp only; exact zB1 (Nat.sub_le _ _) (Nat.le_of_lt hh)) h
 ·refine wpS_bind (wpS_forRange (I:=fun x c st'=>st'=st∧∃ l o,c=(none,l,o)) ?_ ?_ ⟨rfl,0,1,rfl⟩)
  ·rintro x c st' _ _ ⟨rfl,l,o,rfl⟩
   dsimp only
   split
   ·exact wpS_pure (eO (fun x l h' q=>two l h' q) (fun l h=>rfl) (hm _) h)
   ·rename_i z
    refine wpS_bind (dy L hk hx ha (eJ (Nat.add_lt_of_lt_sub' (Nat.not_le.mp z)) hb) fun b=>?_)
    cases b
    ·exact wpS_pure (eO (fun x l h' q=>two l h' q) (fun l h=>rfl) (hm _) h)
    ·exact wpS_pure ⟨rfl,_,_,rfl⟩
  ·rintro c st' ⟨rfl,l,o,rfl⟩
   exact eO (fun x l h' q=>two l h' q) (fun l h=>rfl) (hm _) h
end
noncomputable def uE:Array Keyed→Array Keyed→StateT SortSt Sem (Array Keyed):=sortPriv% PySem.Builtin.mergeLo
noncomputable def uF:Array Keyed→Array Keyed→StateT SortSt Sem (Array Keyed):=sortPriv% PySem.Builtin.mergeHi
structure Same (st st':SortSt):Prop where
 arr:arrOf st'=arrOf st
 kind:kindOf st'=kindOf st
 failed:failedOf st'=failedOf st
 pend:pendingOf st'=pendingOf st
theorem Same.refl (st:SortSt):Same st st:=⟨rfl,rfl,rfl,rfl⟩
theorem Same.trans (x:Same a b) (y:Same b c):Same a c:=⟨y.arr.trans x.arr,y.kind.trans x.kind,y.failed.trans x.failed,y.pend.trans x.pend⟩
section
variable {α:Type} {o o' P P' R R' X:List α} {a:Array α} {x:α} {i j:Nat}
theorem mgA (h:o.Perm (P++R)) (p:P'.Perm (P++X)) (q:o'=o++X):o'.Perm (P'++R):=by
 subst q
 refine (h.append_right X).trans (.trans ?_ (p.symm.append_right R))
 rw [List.append_assoc,List.append_assoc]
 exact List.Perm.append_left P List.perm_append_comm
theorem mgB (h:o.Perm (P++R)) (p:R'.Perm (R++X)) (q:o'=o++X):o'.Perm (P++R'):=by
 subst q
 refine (h.append_right X).trans ?_
 rw [List.append_assoc]
 exact List.Perm.append_left P p.symm
end
section
variable {a b o:Array Keyed} {i j k:Nat} {x:Keyed}
structure JLo (a b o:Array Keyed) (i j:Nat):Prop where
 perm:o.toList.Perm (a.toList.take i++b.toList.take j)
 hi:i≤a.size
 hj:j≤b.size
theorem nU (l:Array Keyed) (h:i≤j):l.toList.take j=l.toList.take i++(l.extract i j).toList:=by
 rw [Array.toList_extract,← List.take_add]; congr 1; exact (Nat.add_sub_cancel' h).symm
theorem JLo.moreA (J:JLo a b o i j) (h:i≤k) (hk:k≤a.size):JLo a b (o++a.extract i k) k j:=⟨mgA J.perm (.of_eq (nU a h)) (by rw [Array.toList_append]),hk,J.hj⟩
theorem JLo.moreB (J:JLo a b o i j) (h:j≤k) (hk:k≤b.size):JLo a b (o++b.extract j k) i k:=⟨mgB J.perm (.of_eq (nU b h)) (by rw [Array.toList_append]),J.hi,hk⟩
theorem JLo.pushA (J:JLo a b o i j) (e:a[i]?=some x):JLo a b (o.push x) (i+1) j:=
 ⟨mgA J.perm (by rw [List.take_add_one,Array.getElem?_toList,e]; exact .refl _) Array.toList_push,(Array.getElem?_eq_some_iff.mp e).1,J.hj⟩
theorem JLo.pushB (J:JLo a b o i j) (e:b[j]?=some x):JLo a b (o.push x) i (j+1):=
 ⟨mgB J.perm (by rw [List.take_add_one,Array.getElem?_toList,e]; exact .refl _) Array.toList_push,J.hi,(Array.getElem?_eq_some_iff.mp e).1⟩
theorem JLo.all (J:JLo a b o a.size b.size):o.toList.Perm (a.toList++b.toList):=by
 have:=J.perm
 rwa [← zB3,List.take_length,← zB3,List.take_length] at this
theorem JLo.done (J:JLo a b o i j):(o++a.extract i++b.extract j).toList.Perm (a.toList++b.toList):=((J.moreA J.hi (Nat.le_refl _)).moreB J.hj (Nat.le_refl _)).all
theorem JLo.last (J:JLo a b o i j):(o++b.extract j++a.extract i).toList.Perm (a.toList++b.toList):=((J.moreB J.hj (Nat.le_refl _)).moreA J.hi (Nat.le_refl _)).all
end
section
variable {M:Model} {A:Around} {s:Shared} {k₀:SortKind} {a₀:Array Keyed} {p:Array (Nat×Nat×Nat)} {st st':SortSt} {E:Value→Shared→Prop}
theorem wpS_ite [Decidable c] (h1:c→wpS M A E s t Q st) (h2:¬ c→wpS M A E s e Q st):wpS M A E s (if c then t else e) Q st:=by
 split
 ·exact h1 ‹_›
 ·exact h2 ‹_›
theorem iA (S:Same st st') (h:∀ st'',Same st st''→Q () st''):wpS M A E s ((sortPriv% PySem.Builtin.setMinGallop) m) Q st':=wpS_modify (h _ (S.trans ⟨rfl,rfl,rfl,rfl⟩))
def Gd {δ:Type} (st:SortSt) (F:List Keyed) (J:Nat→δ→Prop) (n:Nat) (c:Option (Array Keyed)×δ) (st':SortSt):Prop:=Same st st'∧((∃ r,c.1=some r∧r.toList.Perm F)∨(c.1=none∧J n c.2))
def Sq {δ:Type} (st:SortSt) (F:List Keyed) (J:Nat→δ→Prop) (n n':Nat) (r:ForInStep (Option (Array Keyed)×δ)) (st':SortSt):Prop:=match r with
 | .done c'=>Gd st F J n' c' st'
 | .yield c'=>c'.1=none∧Gd st F J n c' st'
theorem gB {i j:Nat} (h:¬ (i==j)=true):i≠j:=fun e=>h (by simpa using e)
theorem Gd.elim {δ:Type} {F:List Keyed} {J:Nat→δ→Prop} {n:Nat} {c:Option (Array Keyed)×δ} {P:Option (Array Keyed)×δ→Prop} (G:Gd st F J n c st') (h1:∀ r d,r.toList.Perm F→P (some r,d)) (h0:∀ d,J n d→P (none,d)):P c:=by
 obtain ⟨r,d⟩:=c
 obtain ⟨_,⟨r',e,p⟩ | ⟨e,G⟩⟩:=G
 ·cases (show r=_ from e); exact h1 _ _ p
 ·cases (show r=_ from e); exact h0 _ G
theorem cu {δ β:Type} {t n':Nat} {f:Nat→Option (Array Keyed)×δ→StateT SortSt Sem (ForInStep (Option (Array Keyed)×δ))} {H:Option (Array Keyed)×δ→StateT SortSt Sem β} {Q:β→SortSt→Prop} {F:List Keyed} {d:δ} (J:Nat→δ→Prop)
  (N:Nat→Nat) (S:Same st st') (j0:J (N 0) d) (fin:∀ d,J (N t) d→J n' d)
  (step:∀ y d st',Same st st'→J (N y) d→wpS M A E s (f y (none,d)) (Sq st F J (N (y+1)) n') st') (ret:∀ r d st',Same st st'→r.toList.Perm F→wpS M A E s (H (some r,d)) Q st')
  (go:∀ d st',Same st st'→J n' d→wpS M A E s (H (none,d)) Q st'):wpS M A E s (forIn [:t] (none,d) f >>= H) Q st':=by
 refine wpS_bind (wpS_mono (wpS_forRange (I:=fun y c st'=>c.1=none∧Gd st F J (N y) c st') (Q:=Gd st F J n') ?_ ?_ ⟨rfl,S,.inr ⟨rfl,j0⟩⟩) ?_)
 ·rintro y c st1 _ _ ⟨e,G⟩
  refine wpS_mono (Q:=Sq st F J (N (y+1)) n') (Gd.elim (P:=fun c=>c.1=none→wpS M A E s (f y c) _ st1) G (fun _ _ _ e=>nN e) (fun d j _=>step y d st1 G.1 j) e) fun r _ q=>by cases r <;> exact q
 ·rintro c st1 ⟨e,G⟩
  rw [Nat.max_eq_right (Nat.zero_le _)] at G
  exact ⟨G.1,G.2.imp id fun ⟨a,b⟩=>⟨a,fin _ b⟩⟩
 ·intro c st1 G
  exact G.elim (P:=fun c=>wpS M A E s (H c) Q st1) (fun r d p=>ret r d st1 G.1 p) fun d j=>go d st1 G.1 j
theorem qS (L:j7 M A s k₀ a₀) (hk:kindOf st=k₀) (hx:x∈a₀.toList) (hy:y∈a₀.toList) (h1:Q (some true) st) (h0:Q (some false) st):wpS M A E s (lt' x y) Q st:=mH L hk hx hy fun b=>by
 cases b
 ·exact h0
 ·exact h1
theorem cB {n:Nat} {o:Array Keyed} (h:n≤o.size):n+1≤(o.push x).size:=by rw [Array.size_push]; exact Nat.succ_le_succ h
theorem ci {n:Nat} {o:Array Keyed} (h:n≤o.size):n≤(o.push x).size:=Nat.le_of_succ_le (cB h)
theorem iX {n:Nat} {o e:Array Keyed} (h:n≤o.size):n≤(o++e).size:=by rw [Array.size_append]; exact Nat.le_add_right_of_le h
theorem JLo.size (J:JLo a b o i j):o.size=i+j:=by
 have:=J.perm.length_eq
 rwa [zB5,List.length_take,List.length_take,zB3,zB3,zB3,Nat.min_eq_left J.hi,Nat.min_eq_left J.hj] at this
def LoJ {γ:Type} (a b:Array Keyed) (n:Nat) (d:Array Keyed×Nat×Nat×γ):Prop:=JLo a b d.1 d.2.1 d.2.2.1∧d.2.1+1 < a.size∧d.2.2.1 < b.size∧n≤d.1.size
theorem LoJ.le (h:m≤n) (J:LoJ a b n d):LoJ a b m d:=⟨J.1,J.2.1,J.2.2.1,zB1 h J.2.2.2⟩
theorem LoJ.lt (J:LoJ a b (a.size+b.size+1) d):False:=by obtain ⟨J,h1,h2,h3⟩:=J; rw [J.size] at h3; exact absurd h3 (Nat.not_le.mpr (Nat.lt_succ_of_le (Nat.add_le_add J.hi J.hj)))
theorem bP {i n:Nat} (h:i≤n) (e:¬ (i==n)=true):i < n:=Nat.lt_of_le_of_ne h (gB e)
theorem sW {i n:Nat} (h:i≤n) (e:¬ (i+1==n)=true) (e':¬ (i==n)=true):i+1 < n:=bP (bP h e') e
theorem nC {a b:Array Keyed} {Q:Array Keyed→SortSt→Prop} (L:j7 M A s k₀ a₀) (hk:kindOf st=k₀) (ha:∀ x∈a.toList,x∈a₀.toList) (hb:∀ x∈b.toList,x∈a₀.toList) (h1:1≤a.size) (h2:1≤b.size)
  (h:∀ out st',Same st st'→out.toList.Perm (a.toList++b.toList)→Q out st'):wpS M A E s (uE a b) Q st:=by
 refine wpS_bind (wpS_lift (wpAny_rule ⟨rfl,?_⟩))
 refine wpS_bind (aE (a:=b) h2 fun x hx ex=>?_)
 have J0:JLo a b #[x] 0 1:=JLo.pushB (o:=#[]) (j:=0) ⟨.refl _,Nat.zero_le _,Nat.zero_le _⟩ ex
 refine wpS_ite (fun _=>wpS_pure (h _ _ (.refl _) J0.done)) fun e1=>?_
 refine wpS_ite (fun _=>wpS_pure (h _ _ (.refl _) J0.last)) fun e2=>?_
 refine wpS_bind (wpS_get ?_)
 refine cu (LoJ a b) (F:=a.toList++b.toList) (fun x=>x+1) (.refl _) ⟨J0,bP h1 e2,bP h2 e1,Nat.le_refl _⟩ (fun _ j=>j) ?_ (fun r d st' S p=>wpS_pure (h _ _ S p)) fun d st' S J=>J.lt.elim
 intro x d st1 S1 J1
 refine cu (st:=st) (LoJ a b) (F:=a.toList++b.toList) (n':=x+1+1) (fun y=>x+1+y) S1 J1 (fun _ j=>j.le (Nat.add_le_add_left (Nat.le_add_right_of_le h1) _)) ?_ (fun r d st' S p=>wpS_pure ⟨S,.inl ⟨_,rfl,p⟩⟩) ?_
 ·intro y d st1 S1 J1
  obtain ⟨J1,hi,hj,n1⟩:=J1
  refine wpS_bind (aE (a:=b) hj fun v hv ev=>wpS_bind (aE (a:=a) (Nat.lt_of_succ_lt hi) fun u hu eu=>?_))
  refine wpS_bind (qS L (S1.kind.trans hk) (hb v hv) (ha u hu) ?_ ?_)
  ·refine wpS_bind (aE (a:=b) hj fun v hv ev=>?_)
   have J2:=J1.pushB ev
   refine wpS_ite (fun _=>wpS_pure ⟨S1,.inl ⟨_,rfl,J2.done⟩⟩) fun e3=>?_
   have hj':=bP hj e3
   exact wpS_ite (fun _=>wpS_pure ⟨S1,.inr ⟨rfl,J2,hi,hj',cB (Nat.le_of_add_right_le n1)⟩⟩) fun _=>wpS_pure ⟨rfl,S1,.inr ⟨rfl,J2,hi,hj',cB n1⟩⟩
  ·refine wpS_bind (aE (a:=a) (Nat.lt_of_succ_lt hi) fun u hu eu=>?_)
   have J2:=J1.pushA eu
   refine wpS_ite (fun _=>wpS_pure ⟨S1,.inl ⟨_,rfl,J2.last⟩⟩) fun e3=>?_
   have hi':=bP hi e3
   exact wpS_ite (fun _=>wpS_pure ⟨S1,.inr ⟨rfl,J2,hi',hj,cB (Nat.le_of_add_right_le n1)⟩⟩) fun _=>wpS_pure ⟨rfl,S1,.inr ⟨rfl,J2,hi',hj,cB n1⟩⟩
 intro d st1 S1 J1
 refine wpS_bind (wpS_lift (wpAny_rule ⟨rfl,?_⟩))
 refine cu (st:=st) (LoJ a b) (F:=a.toList++b.toList) (n':=x+1+1) (fun y=>x+1+1) S1 J1 (fun _ j=>j) ?_ (fun r d st' S p=>wpS_pure ⟨S,.inl ⟨_,rfl,p⟩⟩) fun d st' S J=>wpS_bind (iA S fun st2 S2=>wpS_pure ⟨rfl,S2,.inr ⟨rfl,J⟩⟩)
 intro y d st1 S1 J1
 extract_lets z1 o' z2 i' z3 j' z4 g' z5 c1' c2' j1 jp mg
 have hjp:∀ g,wpS M A E s (jp () g) (Sq st (a.toList++b.toList) (LoJ a b) (x+1+1) (x+1+1)) st1:=by
  intro g
  refine wpS_bind (iA S1 fun st2 S2=>wpS_bind (aE (a:=b) J1.2.2.1 fun v hv ev=>wpS_bind (bS L (S2.kind.trans hk) (hb v hv) ha (zB2 (Nat.add_sub_cancel' J1.1.hi)) (Nat.sub_pos_of_lt (Nat.lt_of_succ_lt J1.2.1)) fun k hk'=>?_)))
  dsimp (zeta:=false) only
  extract_lets ac jp2 o2 i2
  have hjp2:∀ o i,JLo a b o i d.2.2.1→i+1 < a.size→x+1+1≤o.size→wpS M A E s (jp2 () o i) (Sq st (a.toList++b.toList) (LoJ a b) (x+1+1) (x+1+1)) st2:=by
   intro o i Jx hi n2
   refine wpS_bind (aE (a:=b) J1.2.2.1 fun v hv ev=>?_)
   have J2:=Jx.pushB ev
   refine wpS_ite (fun _=>wpS_pure ⟨S2,.inl ⟨_,rfl,J2.done⟩⟩) fun e3=>?_
   have e3:d.2.2.1+1 < b.size:=bP J1.2.2.1 e3
   refine wpS_bind (aE (a:=a) (Nat.lt_of_succ_lt hi) fun u hu eu=>wpS_bind (bS L (S2.kind.trans hk) (ha u hu) hb (zB2 (Nat.add_sub_cancel' J2.hj)) (Nat.sub_pos_of_lt e3) fun k2 hk2=>?_))
   dsimp (zeta:=false) only
   extract_lets bc i3 jp3 o3 j3
   have hjp3:∀ o j,JLo a b o i j→j < b.size→x+1+1≤o.size→wpS M A E s (jp3 () o j) (Sq st (a.toList++b.toList) (LoJ a b) (x+1+1) (x+1+1)) st2:=by
    intro o j Jy hj n3
    refine wpS_bind (aE (a:=a) (Nat.lt_of_succ_lt hi) fun u hu eu=>?_)
    have J3:=Jy.pushA eu
    refine wpS_ite (fun _=>wpS_pure ⟨S2,.inl ⟨_,rfl,J3.last⟩⟩) fun e4=>?_
    have hi':=bP hi e4
    exact wpS_ite (fun _=>wpS_pure ⟨S2,.inr ⟨rfl,J3,hi',hj,ci n3⟩⟩) fun _=>wpS_pure ⟨rfl,S2,.inr ⟨rfl,J3,hi',hj,ci n3⟩⟩
   refine wpS_ite (fun _=>?_) fun _=>hjp3 _ _ J2 e3 (ci n2)
   have J4:=J2.moreB (k:=d.2.2.1+1+k2) (Nat.le_add_right _ _) (Nat.add_le_of_le_sub' J2.hj hk2)
   exact wpS_ite (fun _=>wpS_pure ⟨S2,.inl ⟨_,rfl,J4.done⟩⟩) fun e4=>hjp3 _ _ J4 (bP J4.hj e4) (iX (ci n2))
  refine wpS_ite (fun _=>?_) fun _=>hjp2 _ _ J1.1 J1.2.1 J1.2.2.2
  have J5:=J1.1.moreA (k:=d.2.1+k) (Nat.le_add_right _ _) (Nat.add_le_of_le_sub' J1.1.hi hk')
  exact wpS_ite (fun _=>wpS_pure ⟨S2,.inl ⟨_,rfl,J5.last⟩⟩) fun e4=>wpS_ite (fun _=>wpS_pure ⟨S2,.inl ⟨_,rfl,J5.done⟩⟩) fun e5=>hjp2 _ _ J5 (sW J5.hi e4 e5) (iX J1.2.2.2)
 exact wpS_ite (fun _=>hjp _) fun _=>hjp _
end
section
variable {a b o:Array Keyed} {i j k n m:Nat} {x:Keyed} {γ:Type}
structure JHi (a b o:Array Keyed) (i j:Nat):Prop where
 perm:o.toList.Perm (a.toList.drop i++b.toList.drop j)
 hi:i≤a.size
 hj:j≤b.size
theorem o6 (l:Array Keyed) (h:k≤i):(l.toList.drop k).Perm (l.toList.drop i++((l.extract k i).reverse).toList):=by
 rw [Array.toList_reverse,Array.toList_extract]
 refine .trans (.of_eq ?_) (List.perm_append_comm.trans (.append_left _ (List.reverse_perm _).symm))
 rw [show l.toList.drop i=(l.toList.drop k).drop (i - k) by rw [List.drop_drop,Nat.add_sub_cancel' h],List.take_append_drop]
theorem o5 (l:Array Keyed) (h:1≤i) (e:l[i - 1]?=some x):(l.toList.drop (i - 1)).Perm (l.toList.drop i++[x]):=by
 have q:=(Array.getElem?_eq_some_iff.mp e).1
 rw [List.drop_eq_getElem_cons (by rw [zB3]; exact q),Nat.sub_add_cancel h]
 refine .trans (.of_eq ?_) (List.perm_append_comm (l₁:=[x]))
 rw [Array.getElem_toList,(Array.getElem?_eq_some_iff.mp e).2]; rfl
theorem JHi.moreA (J:JHi a b o i j) (h:k≤i):JHi a b (o++(a.extract k i).reverse) k j:=⟨mgA J.perm (o6 a h) Array.toList_append,zB1 h J.hi,J.hj⟩
theorem JHi.moreB (J:JHi a b o i j) (h:k≤j):JHi a b (o++(b.extract k j).reverse) i k:=⟨mgB J.perm (o6 b h) Array.toList_append,J.hi,zB1 h J.hj⟩
theorem JHi.pushA (J:JHi a b o i j) (h:1≤i) (e:a[i - 1]?=some x):JHi a b (o.push x) (i - 1) j:=⟨mgA J.perm (o5 a h e) Array.toList_push,zB1 (Nat.sub_le _ _) J.hi,J.hj⟩
theorem JHi.pushB (J:JHi a b o i j) (h:1≤j) (e:b[j - 1]?=some x):JHi a b (o.push x) i (j - 1):=⟨mgB J.perm (o5 b h e) Array.toList_push,J.hi,zB1 (Nat.sub_le _ _) J.hj⟩
theorem JHi.all (J:JHi a b o 0 0):o.toList.Perm (a.toList++b.toList):=J.perm
theorem oq:(X++Y++o.reverse.toList).Perm (o.toList++X.reverse++Y.reverse):=by
 rw [Array.toList_reverse]
 refine (List.reverse_perm _).symm.trans ?_
 rw [List.reverse_append,List.reverse_append,List.reverse_reverse,← List.append_assoc,List.append_assoc,List.append_assoc]
 exact .append_left _ List.perm_append_comm
theorem JHi.done (J:JHi a b o i j):(a.extract 0 i++b.extract 0 j++o.reverse).toList.Perm (a.toList++b.toList):=by
 have q:=((J.moreA (Nat.zero_le _)).moreB (Nat.zero_le _)).all
 rw [Array.toList_append,Array.toList_append,Array.toList_reverse,Array.toList_reverse] at q
 rw [Array.toList_append,Array.toList_append]
 exact oq.trans q
theorem JHi.first (J:JHi a b o i j):(b.extract 0 j++a.extract 0 i++o.reverse).toList.Perm (a.toList++b.toList):=by
 have q:=((J.moreB (Nat.zero_le _)).moreA (Nat.zero_le _)).all
 rw [Array.toList_append,Array.toList_append,Array.toList_reverse,Array.toList_reverse] at q
 rw [Array.toList_append,Array.toList_append]
 exact oq.trans q
theorem JHi.size (J:JHi a b o i j):o.size=(a.size - i)+(b.size - j):=by
 have:=J.perm.length_eq
 rwa [zB5,List.length_drop,List.length_drop,zB3,zB3,zB3] at this
def HiJ (a b:Array Keyed) (n:Nat) (d:Nat×Nat×Array Keyed×γ):Prop:=JHi a b d.2.2.1 d.1 d.2.1∧1≤d.1∧2≤d.2.1∧n≤d.2.2.1.size
theorem HiJ.le (h:m≤n) (J:HiJ a b n d):HiJ a b m d:=⟨J.1,J.2.1,J.2.2.1,zB1 h J.2.2.2⟩
theorem HiJ.lt (J:HiJ a b (a.size+b.size+1) d):False:=by obtain ⟨J,h1,h2,h3⟩:=J; rw [J.size] at h3; have:=J.hi; exact absurd h3 (Nat.not_le.mpr (Nat.lt_succ_of_le (Nat.add_le_add (Nat.sub_le _ _) (Nat.sub_le _ _))))
theorem fG (e:¬ (i==0)=true):1≤i:=Nat.pos_of_ne_zero (gB e)
theorem mM (h:1≤i) (e:¬ (i==1)=true):2≤i:=Nat.lt_of_le_of_ne h (gB e).symm
end
section
variable {M:Model} {A:Around} {s:Shared} {k₀:SortKind} {a₀:Array Keyed} {p:Array (Nat×Nat×Nat)} {st st':SortSt} {E:Value→Shared→Prop}
theorem nD (L:j7 M A s k₀ a₀) (hk:kindOf st=k₀) (ha:∀ x∈a.toList,x∈a₀.toList) (hb:∀ x∈b.toList,x∈a₀.toList) (h1:1≤a.size) (h2:1≤b.size)
  (h:∀ out st',Same st st'→out.toList.Perm (a.toList++b.toList)→Q out st'):wpS M A E s (uF a b) Q st:=by
 refine wpS_bind (wpS_lift (wpAny_rule ⟨rfl,?_⟩))
 refine wpS_bind (aE (a:=a) (i:=a.size - 1) (Nat.sub_one_lt_of_lt h1) fun x hx ex=>?_)
 have J0:JHi a b #[x] (a.size - 1) b.size:=JHi.pushA (o:=#[]) (i:=a.size) ⟨by rw [← zB3,List.drop_length,← zB3,List.drop_length]; exact .refl _,Nat.le_refl _,Nat.le_refl _⟩ h1 ex
 refine wpS_ite (fun _=>wpS_pure (h _ _ (.refl _) J0.done)) fun e1=>?_
 refine wpS_ite (fun _=>wpS_pure (h _ _ (.refl _) J0.first)) fun e2=>?_
 refine wpS_bind (wpS_get ?_)
 refine cu (HiJ a b) (F:=a.toList++b.toList) (fun x=>x+1) (.refl _) ⟨J0,fG e1,mM h2 e2,Nat.le_refl _⟩ (fun _ j=>j) ?_ (fun r d st' S p=>wpS_pure (h _ _ S p)) fun d st' S J=>J.lt.elim
 intro x d st1 S1 J1
 refine cu (st:=st) (HiJ a b) (F:=a.toList++b.toList) (n':=x+1+1) (fun y=>x+1+y) S1 J1 (fun _ j=>j.le (Nat.add_le_add_left (Nat.le_add_right_of_le h1) _)) ?_ (fun r d st' S p=>wpS_pure ⟨S,.inl ⟨_,rfl,p⟩⟩) ?_
 ·intro y d st1 S1 J1
  obtain ⟨J1,hi,hj,n1⟩:=J1
  have hb1:d.2.1 - 1 < b.size:=Nat.lt_of_lt_of_le (Nat.sub_one_lt_of_lt hj) J1.hj
  have ha1:d.1 - 1 < a.size:=Nat.lt_of_lt_of_le (Nat.sub_one_lt_of_lt hi) J1.hi
  refine wpS_bind (aE (a:=b) hb1 fun v hv ev=>wpS_bind (aE (a:=a) ha1 fun u hu eu=>?_))
  refine wpS_bind (qS L (S1.kind.trans hk) (hb v hv) (ha u hu) ?_ ?_)
  ·refine wpS_bind (aE (a:=a) ha1 fun u hu eu=>?_)
   have J2:=J1.pushA hi eu
   refine wpS_ite (fun _=>wpS_pure ⟨S1,.inl ⟨_,rfl,J2.done⟩⟩) fun e3=>?_
   have hi':=fG e3
   exact wpS_ite (fun _=>wpS_pure ⟨S1,.inr ⟨rfl,J2,hi',hj,cB (Nat.le_of_add_right_le n1)⟩⟩) fun _=>wpS_pure ⟨rfl,S1,.inr ⟨rfl,J2,hi',hj,cB n1⟩⟩
  ·refine wpS_bind (aE (a:=b) hb1 fun v hv ev=>?_)
   have J2:=J1.pushB (Nat.le_of_succ_le hj) ev
   refine wpS_ite (fun _=>wpS_pure ⟨S1,.inl ⟨_,rfl,J2.first⟩⟩) fun e3=>?_
   have hj':=mM (Nat.le_sub_one_of_lt hj) e3
   exact wpS_ite (fun _=>wpS_pure ⟨S1,.inr ⟨rfl,J2,hi,hj',cB (Nat.le_of_add_right_le n1)⟩⟩) fun _=>wpS_pure ⟨rfl,S1,.inr ⟨rfl,J2,hi,hj',cB n1⟩⟩
 intro d st1 S1 J1
 refine wpS_bind (wpS_lift (wpAny_rule ⟨rfl,?_⟩))
 refine cu (st:=st) (HiJ a b) (F:=a.toList++b.toList) (n':=x+1+1) (fun y=>x+1+1) S1 J1 (fun _ j=>j) ?_ (fun r d st' S p=>wpS_pure ⟨S,.inl ⟨_,rfl,p⟩⟩) fun d st' S J=>wpS_bind (iA S fun st2 S2=>wpS_pure ⟨rfl,S2,.inr ⟨rfl,J⟩⟩)
 intro y d st1 S1 J1
 extract_lets z1 i' z2 j' z3 o' z4 g' z5 c1' c2' j1 jp mg
 have hjp:∀ g,wpS M A E s (jp () g) (Sq st (a.toList++b.toList) (HiJ a b) (x+1+1) (x+1+1)) st1:=by
  intro g
  have hb1:d.2.1 - 1 < b.size:=Nat.lt_of_lt_of_le (Nat.sub_one_lt_of_lt J1.2.2.1) J1.1.hj
  refine wpS_bind (iA S1 fun st2 S2=>wpS_bind (aE (a:=b) hb1 fun v hv ev=>wpS_bind (bS L (S2.kind.trans hk) (hb v hv) ha (zB1 (zB2 (Nat.zero_add _)) J1.1.hi) (Nat.sub_one_lt_of_lt J1.2.1) fun k hk'=>?_)))
  dsimp (zeta:=false) only
  extract_lets kk ac jp2 o2 i2
  have hjp2:∀ i o,JHi a b o i d.2.1→1≤i→x+1+1≤o.size→wpS M A E s (jp2 () i o) (Sq st (a.toList++b.toList) (HiJ a b) (x+1+1) (x+1+1)) st2:=by
   intro i o Jx hi n2
   have ha1:i - 1 < a.size:=Nat.lt_of_lt_of_le (Nat.sub_one_lt_of_lt hi) Jx.hi
   refine wpS_bind (aE (a:=b) hb1 fun v hv ev=>?_)
   have J2:=Jx.pushB (Nat.le_of_succ_le J1.2.2.1) ev
   refine wpS_ite (fun _=>wpS_pure ⟨S2,.inl ⟨_,rfl,J2.first⟩⟩) fun e3=>?_
   have e3:2≤d.2.1 - 1:=mM (Nat.le_sub_one_of_lt J1.2.2.1) e3
   refine wpS_bind (aE (a:=a) ha1 fun u hu eu=>wpS_bind (bS L (S2.kind.trans hk) (ha u hu) hb (zB1 (zB2 (Nat.zero_add _)) J2.hj) (Nat.sub_one_lt_of_lt e3) fun k2 hk2=>?_))
   dsimp (zeta:=false) only
   extract_lets kk2 bc i3 jp3 o3 j3
   have hjp3:∀ j o,JHi a b o i j→2≤j→x+1+1≤o.size→wpS M A E s (jp3 () j o) (Sq st (a.toList++b.toList) (HiJ a b) (x+1+1) (x+1+1)) st2:=by
    intro j o Jy hj n3
    refine wpS_bind (aE (a:=a) ha1 fun u hu eu=>?_)
    have J3:=Jy.pushA hi eu
    refine wpS_ite (fun _=>wpS_pure ⟨S2,.inl ⟨_,rfl,J3.done⟩⟩) fun e4=>?_
    have hi':=fG e4
    exact wpS_ite (fun _=>wpS_pure ⟨S2,.inr ⟨rfl,J3,hi',hj,ci n3⟩⟩) fun _=>wpS_pure ⟨rfl,S2,.inr ⟨rfl,J3,hi',hj,ci n3⟩⟩
   refine wpS_ite (fun _=>?_) fun _=>hjp3 _ _ J2 e3 (ci n2)
   have J4:=J2.moreB hk2
   exact wpS_ite (fun _=>wpS_pure ⟨S2,.inl ⟨_,rfl,J4.first⟩⟩) fun e4=>wpS_ite (fun _=>wpS_pure ⟨S2,.inl ⟨_,rfl,J4.done⟩⟩) fun e5=>hjp3 _ _ J4 (mM (fG e5) e4) (iX (ci n2))
  refine wpS_ite (fun _=>?_) fun _=>hjp2 _ _ J1.1 J1.2.1 J1.2.2.2
  have J5:=J1.1.moreA hk'
  exact wpS_ite (fun _=>wpS_pure ⟨S2,.inl ⟨_,rfl,J5.done⟩⟩) fun e4=>hjp2 _ _ J5 (fG e4) (iX J1.2.2.2)
 exact wpS_ite (fun _=>hjp _) fun _=>hjp _
end
section
variable {M:Model} {A:Around} {s:Shared} {k₀:SortKind} {a₀:Array Keyed} {p:Array (Nat×Nat×Nat)} {st st':SortSt} {E:Value→Shared→Prop}
theorem wz {σ:Type} {x y:σ} {Q:PUnit→σ→Prop} (h:Q ⟨⟩ x):wpS M A E s (set x:StateT σ Sem PUnit) Q y:=by
 unfold wpS; rw [StateT.run_set]; exact zC2 ⟨rfl,h⟩
theorem sy (sa:Nat):∀ (m:List Keyed) (k:Nat) (a:Array Keyed),sa+k+m.length≤a.size→((m.zipIdx k).foldl (fun a (p,j)=>a.setIfInBounds (sa+j) p) a).toList=a.toList.take (sa+k)++m++a.toList.drop (sa+k+m.length)
 | [],k,a,_=>by simp
 | x :: m,k,a,h=>by
  rw [zB4] at h
  rw [List.zipIdx_cons,List.foldl_cons]
  refine (?_:(List.foldl _ (a.setIfInBounds (sa+k) x) _).toList=_)
  rw [sy sa m (k+1) _ (by rw [Array.size_setIfInBounds]; exact zB1 (zB2 (Nat.add_right_comm (sa+k) 1 m.length)) h),Array.toList_setIfInBounds,zB4,← Nat.add_assoc,List.take_add_one,List.take_set_of_le (Nat.le_refl _),List.getElem?_set_self (by rw [zB3]; exact Nat.lt_of_lt_of_le (Nat.lt_add_of_pos_right (Nat.succ_pos _)) h),List.drop_set_of_lt (Nat.lt_of_lt_of_le (Nat.lt_succ_self (sa+k)) (Nat.le_add_right _ _)),List.append_assoc,List.append_assoc,List.append_assoc,show sa+k+1+m.length=sa+k+(m.length+1) from Nat.add_right_comm (sa+k) 1 m.length]
  rfl
theorem tB {a:Array Keyed} {i j k:Nat} {m:Array Keyed} (h1:i≤j) (h2:j≤k) (h3:k≤a.size) (h:m.toList.Perm ((a.extract i j).toList++(a.extract j k).toList)):(m.toList.zipIdx.foldl (fun a (p,j)=>a.setIfInBounds (i+j) p) a).Perm a:=by
 have e:(a.extract i j).toList++(a.extract j k).toList=(a.toList.drop i).take (k - i):=by
  rw [Array.toList_extract,Array.toList_extract,show k - i=(j - i)+(k - j) from ((Nat.add_comm _ _).trans (Nat.sub_add_sub_cancel h2 h1)).symm,List.take_add,List.drop_drop,Nat.add_sub_cancel' h1]
 rw [e] at h
 have l:=h.length_eq
 rw [List.length_take,List.length_drop,Array.length_toList (xs:=a),Nat.min_eq_left (Nat.sub_le_sub_right h3 i)] at l
 rw [Array.perm_iff_toList_perm,sy i m.toList 0 a (by rw [Nat.add_zero,l,Nat.add_sub_cancel' (zB1 h1 h2)]; exact h3),Nat.add_zero]
 refine ((h.append_left _).append_right _).trans (.of_eq ?_)
 rw [List.append_assoc,show a.toList.drop (i+m.toList.length)=(a.toList.drop i).drop (k - i) by rw [List.drop_drop,l],List.take_append_drop,List.take_append_drop]
theorem cM {a:Array Keyed} {i j:Nat} (h:x∈(a.extract i j).toList):x∈a.toList:=by
 rw [Array.toList_extract] at h
 exact List.mem_of_mem_drop (List.mem_of_mem_take h)
theorem SI.out (I:SI k₀ a₀ p st):∃ xs g,st=SortSt.mk' k₀ xs p g none∧xs.Perm a₀:=by
 obtain ⟨hp,hk,hf,hd⟩:=I
 cases st
 subst hk; subst hf; subst hd
 exact ⟨_,_,rfl,hp⟩
end
noncomputable def dW:List (Nat×Nat×Nat)→Nat→Nat→Prop
 | [],a,b=>a=b
 | x :: r,a,b=>x.1=a∧1≤x.2.1∧dW r (a+x.2.1) b
theorem rg:∀ {l:List (Nat×Nat×Nat)} {a b:Nat},dW l a b→a≤b
 | [],_,_,h=>zB2 h
 | _ :: _,_,_,h=>zB1 (Nat.le_add_right _ _) (rg h.2.2)
theorem kF {n w:Nat} (hn:1≤n):∀ {l:List (Nat×Nat×Nat)} {a b:Nat},dW l a b→dW (l++[(b,n,w)]) a (b+n)
 | [],_,_,h=>⟨h.symm,hn,congrArg (· + n) h⟩
 | _ :: _,_,_,h=>⟨h.1,h.2.1,kF hn h.2.2⟩
theorem ri:∀ {l:List (Nat×Nat×Nat)} {i a b:Nat} {x y:Nat×Nat×Nat},dW l a b→l[i]?=some x→l[i+1]?=some y→(y.1=x.1+x.2.1∧1≤x.2.1∧1≤y.2.1∧y.1+y.2.1≤b)∧∀ w,dW ((l.set i (x.1,x.2.1+y.2.1,w)).eraseIdx (i+1)) a b
 | [],_,_,_,_,_,_,e,_=>nomatch e
 | z :: l,0,a,b,x,y,h,e1,e2=>by
  obtain rfl:=Option.some.inj e1
  cases l with
  | nil=>exact nomatch e2
  | cons u l=>
   obtain rfl:=Option.some.inj (e2:some u=some y)
   obtain ⟨h1,h2,h3,h4,h5⟩:=h
   exact ⟨⟨by rw [h3,h1],h2,h4,by rw [h3]; exact rg h5⟩,fun w=>⟨h1,Nat.le_add_right_of_le h2,by rw [← Nat.add_assoc]; exact h5⟩⟩
 | z :: l,i+1,a,b,x,y,h,e1,e2=>by
  have q:=ri (l:=l) (i:=i) h.2.2 e1 e2
  exact ⟨q.1,fun w=>⟨h.1,h.2.1,q.2 w⟩⟩
theorem nY {f:Nat×Nat×Nat→Nat×Nat×Nat} (hf:∀ x,(f x).1=x.1∧(f x).2.1=x.2.1):∀ {l:List (Nat×Nat×Nat)} {i a b:Nat},dW l a b→dW (l.modify i f) a b
 | [],i,_,_,h=>by cases i <;> exact h
 | x :: l,0,_,_,h=>⟨(hf x).1.trans h.1,(hf x).2.symm▸h.2.1,(hf x).2.symm▸h.2.2⟩
 | x :: l,i+1,_,_,h=>⟨h.1,h.2.1,nY hf h.2.2⟩
section
variable {M:Model} {A:Around} {s:Shared} {k₀:SortKind} {a₀:Array Keyed} {p:Array (Nat×Nat×Nat)} {st st':SortSt} {E:Value→Shared→Prop}
theorem ft {i lo:Nat} {Q:Bool→SortSt→Prop} (L:j7 M A s k₀ a₀) (I:SI k₀ a₀ p st) (S:dW p.toList 0 lo) (hlo:lo≤a₀.size) (hi:i+1 < p.size)
  (h:∀ p' st',SI k₀ a₀ p' st'→dW p'.toList 0 lo→Q true st'):wpS M A E s (mergeAt' i) Q st:=by
 obtain ⟨xs,g,rfl,hp⟩:=I.out
 have mem:∀ x∈xs.toList,x∈a₀.toList:=fun x hx=>(Array.perm_iff_toList_perm.mp hp).mem_iff.mp hx
 obtain ⟨⟨sa,n0,p0⟩,e1⟩:∃ x,p[i]?=some x:=⟨_,Array.getElem?_eq_getElem (Nat.lt_of_succ_lt hi)⟩
 obtain ⟨⟨sb,n1,p1⟩,e2⟩:∃ x,p[i+1]?=some x:=⟨_,Array.getElem?_eq_getElem hi⟩
 obtain ⟨⟨hsb,h0,h1,hb⟩,S'⟩:=ri S (Array.getElem?_toList▸e1) (Array.getElem?_toList▸e2)
 have hsb:sb=sa+n0:=hsb
 have hb:sb+n1≤xs.size:=zB1 hb (hp.size_eq▸hlo)
 subst hsb
 refine wpS_bind (wpS_get ?_)
 dsimp (zeta:=false) only [SortSt.mk']
 rw [e1,e2]
 refine wpS_bind (wz ?_)
 generalize hP:Array.eraseIdxIfInBounds _ _=P
 have SP:dW P.toList 0 lo:=by
  rw [← hP,Array.toList_eraseIdxIfInBounds,Array.toList_setIfInBounds]; exact S' p0
 have I0:SI k₀ a₀ P (SortSt.mk' k₀ xs P g none):=⟨hp,rfl,rfl,rfl⟩
 refine wpS_bind (aE (a:=xs) (i:=sa+n0) (Nat.lt_of_lt_of_le (Nat.lt_add_of_pos_right h1) hb) fun v hv ev=>wpS_bind (bS L rfl (mem v hv) mem (show sa+n0≤xs.size from zB1 (Nat.le_add_right _ _) hb) h0 fun k hk=>?_))
 have hk:k≤n0:=hk
 refine wpS_ite (fun _=>wpS_pure (h _ _ I0 SP)) fun e1=>?_
 have e1:1≤n0 - k:=fG e1
 have ek:sa+k+(n0 - k)=sa+n0:=by rw [Nat.add_assoc,Nat.add_sub_cancel' hk]
 refine wpS_bind (aE (a:=xs) (i:=sa+k+(n0 - k) - 1) (by rw [ek]; exact Nat.lt_of_le_of_lt (Nat.sub_le _ _) (Nat.lt_of_lt_of_le (Nat.lt_add_of_pos_right h1) hb)) fun u hu eu=>wpS_bind (bS L rfl (mem u hu) mem hb (Nat.sub_one_lt_of_lt h1) fun m hm=>?_))
 refine wpS_ite (fun _=>wpS_pure (h _ _ I0 SP)) fun e2=>?_
 have e2:1≤m:=fG e2
 have hm:m≤n1:=hm
 have hle:sa+n0+m≤xs.size:=zB1 (Nat.add_le_add_left hm _) hb
 have fin:∀ (out:Array Keyed) (st':SortSt),Same (SortSt.mk' k₀ xs P g none) st'→out.toList.Perm ((xs.extract (sa+k) (sa+n0)).toList++(xs.extract (sa+n0) (sa+n0+m)).toList)→SI k₀ a₀ P (setArr st' (out.toList.zipIdx.foldl (fun a (p,j)=>a.setIfInBounds (sa+k+j) p) (arrOf st'))):=fun out st' S P=>
  ⟨by rw [S.arr]; exact (tB (Nat.add_le_add_left hk sa) (Nat.le_add_right _ _) hle P).trans hp,S.kind,S.failed,S.pend⟩
 have hx1:1≤(xs.extract (sa+k) (sa+n0)).size:=by rw [Array.size_extract,Nat.min_eq_left (zB1 (Nat.le_add_right _ _) hle),Nat.add_sub_add_left]; exact e1
 have hx2:1≤(xs.extract (sa+n0) (sa+n0+m)).size:=by rw [Array.size_extract,Nat.min_eq_left hle,Nat.add_sub_cancel_left]; exact e2
 extract_lets X Y jp
 have hjp:∀ (out:Array Keyed) (st':SortSt),Same (SortSt.mk' k₀ xs P g none) st'→out.toList.Perm ((xs.extract (sa+k) (sa+n0)).toList++(xs.extract (sa+n0) (sa+n0+m)).toList)→wpS M A E s (jp out) Q st':=fun out st' S Pm=>by
  have I:=fin out st' S Pm
  refine wpS_bind (wpS_modify (wpS_bind (wpS_get (wpS_pure ?_))))
  refine (?_:Q (failedOf (setArr st' (out.toList.zipIdx.foldl (fun a (p,j)=>a.setIfInBounds (sa+k+j) p) (arrOf st')))).isNone (setArr st' (out.toList.zipIdx.foldl (fun a (p,j)=>a.setIfInBounds (sa+k+j) p) (arrOf st'))))
  rw [I.failed]
  exact h _ _ I SP
 exact wpS_ite (fun _=>wpS_bind (nC L rfl (fun x hx=>mem x (cM hx)) (fun x hx=>mem x (cM hx)) hx1 hx2 hjp)) fun _=>wpS_bind (nD L rfl (fun x hx=>mem x (cM hx)) (fun x hx=>mem x (cM hx)) hx1 hx2 hjp)
theorem wpS_sortRunsG {Q:Unit→SortSt→Prop} (L:j7 M A s k₀ a₀) (I:SI k₀ a₀ #[] st) (h:∀ st',(arrOf st').Perm a₀→failedOf st'=none→Q () st'):wpS M A E s sortRuns' Q st:=by
 refine wpS_bind (wpS_get ?_)
 extract_lets size mr lo
 have hs:size=a₀.size:=I.size
 clear_value mr size
 subst hs
 refine wpS_bind (wpS_mono (wpS_forRange (I:=fun x c st'=>∃ lo p,c=(none,lo)∧SI k₀ a₀ p st'∧dW p.toList 0 lo∧lo≤a₀.size) (Q:=fun c st'=>∃ lo p,c=(none,lo)∧SI k₀ a₀ p st'∧dW p.toList 0 lo∧lo≤a₀.size) ?_ (fun _ _ h=>h) ⟨0,#[],rfl,I,rfl,Nat.zero_le _⟩) ?_)
 ·rintro x c st' _ hx ⟨lo,p,rfl,I',S,hlo⟩
  refine wpS_ite (fun hl=>wpS_pure ⟨lo,p,rfl,I',S,hlo⟩) fun hl=>?_
  have hl:¬ lo ≥ a₀.size:=hl
  refine wpS_bind (jO L (zB2 (Nat.add_sub_cancel' hlo)) (Nat.sub_pos_of_lt (Nat.not_le.mp hl)) I' fun m st1 I1 hm1 hm2=>?_)
  dsimp (zeta:=false) only
  extract_lets n jp force n'
  have hjp:∀ n st1,SI k₀ a₀ p st1→1≤n→n≤a₀.size - lo→wpS M A E s (jp () n) (fun r st'=>match r with | .done c'=>∃ lo p,c'=(none,lo)∧SI k₀ a₀ p st'∧dW p.toList 0 lo∧lo≤a₀.size | .yield c'=>∃ lo p,c'=(none,lo)∧SI k₀ a₀ p st'∧dW p.toList 0 lo∧lo≤a₀.size) st1:=by
   intro n st1 I1 hn1 hn3
   obtain ⟨xs,g,rfl,hp⟩:=I1.out
   refine wpS_bind (wpS_get ?_)
   extract_lets l1 jq
   have hq:∀ (u:Unit) p' st2,SI k₀ a₀ p' st2→dW p'.toList 0 lo→wpS M A E s (jq u) (fun r st'=>match r with | .done c'=>∃ lo p,c'=(none,lo)∧SI k₀ a₀ p st'∧dW p.toList 0 lo∧lo≤a₀.size | .yield c'=>∃ lo p,c'=(none,lo)∧SI k₀ a₀ p st'∧dW p.toList 0 lo∧lo≤a₀.size) st2:=by
    intro u p' st2 I2 S2
    obtain ⟨xs,g,rfl,hp⟩:=I2.out
    exact wpS_bind (wpS_modify (wpS_pure ⟨lo+n,_,rfl,⟨hp,rfl,rfl,rfl⟩,by rw [Array.toList_push]; exact kF hn1 S2,zB1 (Nat.add_le_add_left hn3 lo) (zB2 (Nat.add_sub_cancel' hlo))⟩))
   dsimp (zeta:=false) only [SortSt.mk']
   cases hb:p.back? with
   | none=>exact hq () p _ ⟨hp,rfl,rfl,rfl⟩ S
   | some z=>
    obtain ⟨s1,n1,w1⟩:=z
    dsimp (zeta:=false) only
    extract_lets pw
    refine wpS_bind (wpS_mono (wpS_forRange (I:=fun _ c st2=>c=(none,())∧∃ p',SI k₀ a₀ p' st2∧dW p'.toList 0 lo) (Q:=fun c st2=>c=(none,())∧∃ p',SI k₀ a₀ p' st2∧dW p'.toList 0 lo) ?_ (fun _ _ h=>h) ⟨rfl,p,⟨hp,rfl,rfl,rfl⟩,S⟩) ?_)
    ·rintro y c st2 _ _ ⟨rfl,p',I2,S2⟩
     obtain ⟨xs,g,rfl,hp⟩:=I2.out
     refine wpS_bind (wpS_get ?_)
     dsimp (zeta:=false) only [SortSt.mk']
     extract_lets q
     by_cases h1:q.size > 1
     ·rw [if_pos h1]
      cases e:q[q.size - 2]? with
      | none=>exact wpS_pure ⟨rfl,p',⟨hp,rfl,rfl,rfl⟩,S2⟩
      | some z=>
       obtain ⟨z1,z2,older⟩:=z
       refine wpS_ite (fun _=>wpS_pure ⟨rfl,p',⟨hp,rfl,rfl,rfl⟩,S2⟩) fun _=>wpS_bind (ft L (⟨hp,rfl,rfl,rfl⟩:SI k₀ a₀ p' _) S2 hlo (show p'.size - 2+1 < p'.size by have h1:p'.size > 1:=h1; omega) fun p3 st3 I3 S3=>wpS_pure ⟨rfl,p3,I3,S3⟩)
     ·rw [if_neg h1]
      exact wpS_pure ⟨rfl,p',⟨hp,rfl,rfl,rfl⟩,S2⟩
    ·rintro c st2 ⟨rfl,p',I2,S2⟩
     obtain ⟨xs,g,rfl,hp⟩:=I2.out
     refine wpS_bind (wpS_modify ?_)
     exact hq () _ _ ⟨hp,rfl,rfl,rfl⟩ (by rw [Array.toList_modify]; exact nY (f:=fun x=>(x.1,x.2.1,pw)) (fun _=>⟨rfl,rfl⟩) S2)
  refine wpS_mono (wpS_ite (fun q=>?_) fun q=>hjp n st1 I1 hm1 hm2) fun r _ q=>by cases r <;> exact q
  refine wpS_bind (wpS_lift (wpAny_rule ⟨rfl,?_⟩))
  refine wpS_bind (gV L (zB1 (Nat.add_le_add_left (Nat.min_le_left _ _) _) (zB2 (Nat.add_sub_cancel' hlo))) I1 fun st2 I2=>?_)
  exact hjp _ st2 I2 (Nat.le_min.mpr ⟨Nat.sub_pos_of_lt (Nat.not_le.mp hl),Nat.lt_of_le_of_lt (Nat.zero_le _) q⟩) (Nat.min_le_left _ _)
 ·rintro c st' ⟨lo,p,rfl,I',S,hlo⟩
  refine wpS_bind (wpS_mono (wpS_forRange (I:=fun _ c st2=>c=(none,())∧∃ p',SI k₀ a₀ p' st2∧dW p'.toList 0 lo) (Q:=fun c st2=>c=(none,())∧∃ p',SI k₀ a₀ p' st2∧dW p'.toList 0 lo) ?_ (fun _ _ h=>h) ⟨rfl,p,I',S⟩) ?_)
  ·rintro y c st2 _ _ ⟨rfl,p',I2,S2⟩
   obtain ⟨xs,g,rfl,hp⟩:=I2.out
   refine wpS_bind (wpS_get ?_)
   dsimp (zeta:=false) only [SortSt.mk']
   extract_lets q i before i2
   refine wpS_ite (fun _=>wpS_pure ⟨rfl,p',⟨hp,rfl,rfl,rfl⟩,S2⟩) fun z=>?_
   have hi:i2+1 < p'.size:=by
    have z:¬ p'.size≤1:=z
    have:i2≤i:=by unfold i2; split <;> omega
    have:i=p'.size - 2:=rfl
    omega
   exact wpS_bind (ft L (⟨hp,rfl,rfl,rfl⟩:SI k₀ a₀ p' _) S2 hlo hi fun p3 st3 I3 S3=>wpS_pure ⟨rfl,p3,I3,S3⟩)
  ·rintro c st2 ⟨rfl,p',I2,S2⟩
   exact wpS_pure (h _ I2.perm I2.failed)
end
end Mine.Pm
end
noncomputable section
namespace Mine
open PySem PySem.Calls PyProof.Rows PySem.W
section
variable {prog:Program} {w:World} {A:Around} {E:Value→Shared→Prop} {s:Shared}
structure Ordered (prog:Program) (w:World) (h:Heap) (vs:List Value):Prop where
 keys:∀ v∈vs,∃ c x ks,v=.ref c∧IsTupleKey (aA prog w) h (.inr x :: ks) c
 lt:∀ c c' ks ms,.ref c∈vs→.ref c'∈vs→IsTupleKey (aA prog w) h ks c→IsTupleKey (aA prog w) h ms c'→ltK ks ms=true
theorem Ordered.move (O:Ordered prog w h vs) (p:ws.Perm vs) (k:∀ ks c,IsTupleKey (aA prog w) h ks c→IsTupleKey (aA prog w) h' ks c):Ordered prog w h' ws where
 keys:=fun v m=>let ⟨c,x,ks,e,q⟩:=O.keys v (p.mem_iff.mp m); ⟨c,x,ks,e,k _ _ q⟩
 lt:=fun c c' ks ms m m' q q'=>by
  obtain ⟨_,x,ks',e,z⟩:=O.keys _ (p.mem_iff.mp m)
  obtain ⟨_,x',ks'',e',z'⟩:=O.keys _ (p.mem_iff.mp m')
  (injection e with e; subst e); (injection e' with e'; subst e')
  rw [q.inj (k _ _ z),q'.inj (k _ _ z')]
  exact O.lt c c' _ _ (p.mem_iff.mp m) (p.mem_iff.mp m') z z'
theorem kL {vs:List Value} {a:Array Keyed} (p:a.Perm (pairsOf vs)):(a.map (·.2)).toList.Perm vs:=by
 rw [Array.toList_map]
 refine ((Array.perm_iff_toList_perm.mp p).map _).trans (.of_eq ?_)
 rw [pairsOf_toList,List.map_snd_zip (Nat.le_refl _)]
theorem rL (O:Ordered prog w s.heap vs):v7 (model prog w) A s (dI b) (cW prog w s.heap) (pairsOf vs):=fun x y hx hy E Q h=>by
 rw [pairsOf_toList] at hx hy
 have mx:=(mem_zip_self hx).2
 have my:=(mem_zip_self hy).2
 refine ar fun Z3 kZ3=>?_
 obtain ⟨c,t,ks,e,k⟩:=O.keys _ mx
 obtain ⟨c',t',ks',e',k'⟩:=O.keys _ my
 refine kZ3 ?_
 have ex:rS (cW prog w s.heap) x=.inr t :: ks:=by unfold rS; exact e.symm▸congrArg (Option.getD · []) (d6 k)
 have ey:rS (cW prog w s.heap) y=.inr t' :: ks':=by unfold rS; rw [e']; exact congrArg (Option.getD · []) (d6 k')
 rw [ex,ey] at h
 rw [e] at mx ⊢
 rw [e'] at my ⊢
 exact zU k k' (O.lt _ _ _ _ mx my k k') h
def fL (prog:Program) (w:World) (h:Heap) (vs:List Value):Prop:=vs.Pairwise fun x y=>bE ((fW prog w h y).getD []) ((fW prog w h x).getD [])=false
theorem uo (p:xs.Perm (pairsOf vs)) (hs:SortedToK (cW prog w h) xs (pairsOf vs).size):fL prog w h (xs.map (·.2)).toList:=by
 have self:∀ x∈xs.toList,x.1=x.2:=fun x m=>by
  have:=(Array.perm_iff_toList_perm.mp p).mem_iff.mp m
  rw [pairsOf_toList] at this
  exact (mem_zip_self this).1
 refine List.pairwise_iff_getElem.mpr fun i j hi hj hij=>?_
 rw [Array.toList_map,zA4,zB3] at hi hj
 have q:=hs i j (Nat.le_of_lt hij) (p.size_eq▸hj)
 have key:∀ (i:Nat) (hi:i < xs.size) (hi':i < (xs.map (·.2)).toList.length),KK (cW prog w h) xs i=(fW prog w h (xs.map (·.2)).toList[i]).getD []:=fun i hi hi'=>by
  rw [wg (getElem?_pos xs i hi)]
  unfold rS
  rw [self _ (by simp)]
  simp only [Array.toList_map,List.getElem_map,Array.getElem_toList]
  rfl
 rw [← key i hi,← key j hj]
 exact q
theorem Ordered.same (O:Ordered prog w h vs) (k:∀ ks c,IsTupleKey (aA prog w) h ks c→IsTupleKey (aA prog w) h' ks c):∀ v∈vs,fW prog w h' v=fW prog w h v:=fun v m=>by
 obtain ⟨c,x,ks,rfl,q⟩:=O.keys v m
 rw [d6 q,d6 (k _ _ q)]
theorem fL.congr (r:fL prog w h' vs) (e:∀ v∈vs,fW prog w h' v=fW prog w h v):fL prog w h vs:=List.Pairwise.imp_of_mem (fun a b z=>by exact (e _ a)▸(e _ b)▸z) r
theorem sK (ho:s.heap.get? a=some (seqObj "list" vs.toArray n)) (O:Ordered prog w s.heap vs) (zl:vs.length≤sizeLine) (hz:vs.length < 4500)
  (h:∀ out:Array Value,out.toList.Perm vs→(vs.length < 64→fL prog w s.heap out.toList)→P (.done (.ret .none)) { s with heap:=sortedHeap s.heap a vs out }):wpAny (model prog w) A (Builtin.«list.sort» ⟨[.ref a],[]⟩) P E s:=by
 rw [list_sort_plain]
 have ha:a < s.heap.objs.size:=Heap.lt_size ho
 refine zC1 (listItems_at ho rfl ?_)
 refine zC1 (listUpdate_at ho rfl ?_ (by rw [List.size_toArray]; exact zl))
 obtain ⟨e1,ho1⟩:∃ e1,(s.heap.update a (Obj.mapSeq fun _=>#[])).get? a=some (seqObj "list" #[] e1):=⟨_,get?_update_seq ho (fun _=>#[])⟩
 refine zC1 (seqEpoch_at ho1 rfl ?_)
 refine zC1 (wpAny_newTuple ?_ zl)
 refine zC1 (wpAny_newList ?_)
 refine wpAny_holding ?_
 have oth:∀ b o,b≠a→s.heap.get? b=some o→(((s.heap.update a (Obj.mapSeq fun _=>#[])).push (seqObj "tuple" vs.toArray 0)).push (seqObj "list" #[] 0)).get? b=some o:=fun b o q e=>Heap.get?_push_of_some _ (Heap.get?_push_of_some _ ((Heap.get?_update_other _ _ (Ne.symm q)).trans e))
 have ho6:(((s.heap.update a (Obj.mapSeq fun _=>#[])).push (seqObj "tuple" vs.toArray 0)).push (seqObj "list" #[] 0)).get? a=some (seqObj "list" #[] e1):=Heap.get?_push_of_some _ (Heap.get?_push_of_some _ ho1)
 have k6:∀ ks c,IsTupleKey (aA prog w) s.heap ks c→IsTupleKey (aA prog w) (((s.heap.update a (Obj.mapSeq fun _=>#[])).push (seqObj "tuple" vs.toArray 0)).push (seqObj "list" #[] 0)) ks c:=fun ks c k=>by
  obtain ⟨o,it,n',hc,hcl,r⟩:=k
  exact ⟨o,it,n',oth c o (fun q=>by subst q; replace hc:=ho▸hc; (injection hc with hc; subst hc); exact absurd (Value.type.inj hcl) (by decide)) hc,hcl,r⟩
 have O6:=O.move (.refl _) k6
 have same:=O.same k6
 refine (?_:wpAny (model prog w) A _ P E { s with heap:=((s.heap.update a (Obj.mapSeq fun _=>#[])).push (seqObj "tuple" vs.toArray 0)).push (seqObj "list" #[] 0) })
 dsimp only
 have fin:∀ st':SortSt,(arrOf st').Perm (pairsOf vs)→failedOf st'=none→(vs.length < 64→SortedToK (cW prog w (((s.heap.update a (Obj.mapSeq fun _=>#[])).push (seqObj "tuple" vs.toArray 0)).push (seqObj "list" #[] 0))) (arrOf st') (pairsOf vs).size)→wpAny (model prog w) A (do
   let touched:=(← seqEpoch a) != e1
   Builtin.List.listUpdate (.ref a) fun _=>(arrOf st').map (·.2)
   if let some e:=failedOf st' then rule "list.sort.comparison-raised"; throw e
   if touched then rule "list.sort.modified"; raiseError "ValueError" "list modified during sort"
   ret .none) P E { s with heap:=((s.heap.update a (Obj.mapSeq fun _=>#[])).push (seqObj "tuple" vs.toArray 0)).push (seqObj "list" #[] 0) }:=fun st' hp hf hs=>by
  refine zC1 (seqEpoch_at ho6 rfl ?_)
  refine zC1 (listUpdate_at ho6 rfl ?_ (hsz2:=Nat.le_succ_of_le (by refine zB1 (zB2 ?_) zl; rw [Array.size_map,hp.size_eq,pairsOf_size])))
  refine hf.symm▸?_
  simp only [bne_self_eq_false,Bool.false_eq_true,if_false]
  exact zC2 (h _ (kL hp) fun q=>(uo hp (hs q)).congr fun v m=>same v ((kL hp).mem_iff.mp m))
 by_cases h2:vs.toArray.size < 2
 ·rw [if_pos h2,if_pos h2]
  refine zC1 (zC2 ?_)
  rw [StateT.run_pure]
  refine zC1 (zC2 ?_)
  refine fin (SortSt.mk' general' (vs.toArray.zip vs.toArray) #[] 7 none) (Array.Perm.refl _) rfl fun _ i j hij hj=>?_
  rw [pairsOf_size,← List.size_toArray] at hj
  obtain rfl:=Nat.le_zero.mp (Nat.le_of_lt_succ (Nat.lt_of_lt_of_le hj (Nat.le_of_lt_succ h2)))
  obtain rfl:=Nat.le_zero.mp hij
  exact KeyOrd.kle_refl _
 ·rw [if_neg h2,if_neg h2]
  refine zC1 (uL (fun v m=>O6.keys v m) fun b=>?_)
  have h2':2≤(pairsOf vs).size:=by rw [pairsOf_size]; simpa using h2
  by_cases h64:vs.length < 64
  ·refine zC1 (wpAny_mono (ll (k₀:=dI b) (κ:=cW prog w _) (a₀:=pairsOf vs) (st:=SortSt.mk' (dI b) (vs.toArray.zip vs.toArray) #[] 7 none) (Q:=fun _ st'=>(arrOf st').Perm (pairsOf vs)∧failedOf st'=none∧SortedToK (cW prog w _) (arrOf st') (pairsOf vs).size) (rL O6) ⟨Array.Perm.refl _,rfl,rfl,rfl⟩ h2' (.inl (by rw [pairsOf_size]; exact h64)) fun st' a1 a2 a3=>⟨a1,a2,a3⟩) ?_ fun _ _ e=>e)
   rintro ⟨⟨⟩,st'⟩ s' ⟨rfl,hp,hf,hs⟩
   exact fin st' hp hf fun _=>hs
  ·refine zC1 (wpAny_mono (Pm.wpS_sortRunsG (k₀:=dI b) (a₀:=pairsOf vs) (st:=SortSt.mk' (dI b) (vs.toArray.zip vs.toArray) #[] 7 none) (Q:=fun _ st'=>(arrOf st').Perm (pairsOf vs)∧failedOf st'=none) (fun x y hx hy E Q h=>rL (b:=b) O6 x y hx hy E Q (h _)) ⟨Array.Perm.refl _,rfl,rfl,rfl⟩ fun st' a1 a2=>⟨a1,a2⟩) ?_ fun _ _ e=>e)
   rintro ⟨⟨⟩,st'⟩ s' ⟨rfl,hp,hf⟩
   exact fin st' hp hf fun q=>absurd q h64
end
section
variable {prog:Program} {w:World} {A:Around} {E:Value→Shared→Prop} {s:Shared} {S:Addr} {es:Array (Int×Value)} {L:Bool}
theorem pF (hh:A.handled=none) (hL:L = !w.params.followText "set-order") (T:TS s.heap S es L) (O:Ordered prog w s.heap (es.toList.map (·.2))) (hz:es.size < 4500)
  (h:∀ (out:Array Value) h' d tk b e,out.toList.Perm (es.toList.map (·.2))→(es.size < 64→fL prog w s.heap out.toList)→aH s.heap h'→s.heap.get? b=none→lj s.heap (.ref b)→h'.get? b=some (seqObj "list" out e)→Q (.ref b) { s with heap:=h',drawn:=d,toks:=tk }):wpAny (model prog w) A (call (.builtin "sorted") [.ref S]) Q E s:=by
 refine Calls.call_function_entry kind_sorted plain_sorted entry_sorted (args_sorted1 _) ?_
 unfold Builtin.«sorted»
 refine wpAny_bind (m:=checkCount "sorted" 1 1 _) (zC2 ?_)
 refine zC1 (nL hh hL T fun vs h1 d tk p k=>?_)
 have vl':vs.length=es.size:=by rw [p.length_eq,zA4,zB3]
 have vl:vs.length < 4500:=vl'.symm▸hz
 refine zC1 (wpAny_newList ?_ (zB1 (Nat.le_of_lt vl) (by decide)))
 have k2:aH s.heap (h1.push (seqObj "list" vs.toArray 0)):=k.trans (av _ _)
 have hoL:(h1.push (seqObj "list" vs.toArray 0)).get? h1.objs.size=some (seqObj "list" vs.toArray 0):=Heap.get?_push_size _ rfl
 have kk:∀ ks c,IsTupleKey (aA prog w) s.heap ks c→IsTupleKey (aA prog w) (h1.push (seqObj "list" vs.toArray 0)) ks c:=fun ks c Zq1=>Zq1.elim fun o Zq2=>Zq2.elim fun vs Zq3=>Zq3.elim fun n Zq4=>Zq4.elim fun ho r=>⟨o,vs,n,k2 _ _ ho,r⟩
 have O2:=O.move p kk
 refine zC1 (wpAny_holding (wpAny_call_entry slot_list_sort ⟨_,hoL,rfl⟩ entry_list_sort (sK hoL O2 (zB1 (Nat.le_of_lt vl) (by decide)) vl fun out po ro=>⟨_,rfl,?_⟩) (args_list_sort _)))
 have n0:s.heap.get? h1.objs.size=none:=aM k.live (ak _)
 obtain ⟨e,he⟩:=sortedHeap_at (out:=out) hoL
 refine zC2 ⟨_,rfl,h out _ d tk _ e (po.trans p) (fun q=>(ro (vl'.symm▸q)).congr fun v m=>O.same kk v ((po.trans p).mem_iff.mp m)) (fun b o q=>?_) n0 (fun a b e Zq5=>Zq5.elim fun o q=>by (injection e with e; subst e); exact Heap.lt_size (k b o q)) he⟩
 rw [sortedHeap_old (fun q'=>by subst q'; rw [n0] at q; (injection q; done)) (Heap.lt_size (k2 _ _ q))]
 exact k2 _ _ q
end
theorem zO {S:Addr} {prog:Program} {w:World} {A:Around} {E:Value→Shared→Prop} {s:Shared} {Q:Value→Shared→Prop} (T:TS s.heap S es L) (h:∀ t tk,Q (.int es.size t) { s with toks:=tk }):wpAny (model prog w) A (call (.builtin "len") [.ref S]) Q E s:=by
 obtain ⟨o,ep,t,ho,hex,hd,T,hr,hl⟩:=T
 have hm:es.size≤t.mask:=Nat.le_of_lt (Nat.lt_of_mul_lt_mul_right (Nat.lt_of_le_of_lt (Nat.mul_le_mul_left es.size (by decide:3≤5)) hr))
 have hle:es.size≤8191:=zB1 hm (by rcases T.msk with q | q | q | q | q | q <;> rw [q] <;> decide)
 exact Calls.call_function_entry kind_len plain_len entry_len (args_len1 _) (wpAny_len_body_set ho hex hd (T.fits hm) (Int.lt_of_le_of_lt (Int.ofNat_le.mpr hle) (by decide)) (h _ _))
section
variable {Φ:Ct} [Hm Φ.fx] {s:Shared} {v u:Value} {x y z:V} {d:DV}
theorem um (hr:Φ.rps h vs r) (hw:∀ x∈r,eZ x=true) (R:fL Φ.fx.g.prog Φ.fx.g.w h vs):g8 r:=by
 have key:∀ (i:Nat) (hi:i < r.length) (hi':i < vs.length),(fW Φ.fx.g.prog Φ.fx.g.w h vs[i]).getD []=aP r[i]:=fun i hi hi'=>by
  obtain ⟨v,ev,rv⟩:=hr.get (List.getElem?_eq_getElem hi)
  (injection (List.getElem?_eq_getElem hi').symm.trans ev with Xq; subst Xq)
  obtain ⟨c,e,k⟩:=gi (hw _ (List.getElem_mem hi)) rv
  rw [e,d6 k]; rfl
 refine List.pairwise_iff_getElem.mpr fun i j hi hj hij=>?_
 have hl:=hr.length
 rw [← key i hi (hl▸hi),← key j hj (hl▸hj)]
 exact List.pairwise_iff_getElem.mp R i j (hl▸hi) (hl▸hj) hij
theorem r7 {f:Str} {id:String} {fp pos sp spos:Pos} {e:Expr} {P:Shared→Value→Shared→Prop} {dd:V→Prop} (hx:bn Φ.fx.env.scope.names f=true) (hF:bC.lookup f=some (.builtin id)) (hs:bn Φ.fx.env.scope.names "set"=true) (hp:ao e=true) (h:Ev Φ (eval e Φ.fx.env) d)
  (st:∀ s v x E,Inv Φ s→Φ.rp s.heap v x→dd x→wpAny (model Φ.fx.g.prog Φ.fx.g.w) Φ.fx.A (call (.type "set") [v]) (fun u s₁=>wpAny (model Φ.fx.g.prog Φ.fx.g.w) Φ.fx.A (call (.builtin id) [u]) (P s) E s₁) E s) (hP:∀ s s₁ v s',aG s.heap s₁.heap→P s₁ v s'→P s v s') (hd:d dd) (I:Inv Φ s) :
  Φ.wp (eval (.Call (.Name f fp) [.Call (.Name "set" sp) [e] [] spos] [] pos) Φ.fx.env) (P s) s:=fun E=>by
 refine (?_:wpAny _ _ (eval (.Name f fp) Φ.fx.env >>= fun F=>callWith pos F [] (backTo pos (starEach [.Call (.Name "set" sp) [e] [] spos] Φ.fx.env)) []) _ _ s)
 refine zC1 (bB I hx hF ?_ E)
 refine callWith_builtin rfl (Calls.evalArgs_plain ?_)
 refine (?_:wpAny _ _ (eval (.Call (.Name "set" sp) [e] [] spos) Φ.fx.env >>= fun v=>holding [v] (pure []) >>= fun vs=>pure (v :: vs)) _ _ s)
 refine zC1 ?_
 refine (?_:wpAny _ _ (eval (.Name "set" sp) Φ.fx.env >>= fun F=>callWith spos F [] (backTo spos (starEach [e] Φ.fx.env)) []) _ _ s)
 refine zC1 (bB (v:=.type "set") I hs rfl ?_ E)
 refine PySem.callWith_type (by rw [aK hp]; rfl) ?_
 refine cY (qs:=[(e,d)]) (K:=fun xs=>okK (one xs some) dd) (fun q m=>by obtain rfl:=zA6 m; exact ⟨hp,h⟩) hd I fun vs xs s₁ I₁ k₁ hx rs=>ag hx fun x e hx=>?_
 refine dj (C:=fun vs=>wpAny _ _ (call (.type "set") ([]++vs) []) _ _ s₁) e rs fun v x' r e=>?_
 cases e
 exact wpAny_mono (st s₁ _ x E I₁ r hx) (fun u s₂ p=>zC1 (wpAny_holding (zC2 (zC2 (wpAny_mono p (fun _ _ q=>hP _ _ _ _ k₁ q) fun _ _ z=>z))))) fun _ _ z=>z
theorem lA {fp pos sp spos:Pos} {e:Expr} (hx:bn Φ.fx.env.scope.names "sorted"=true) (hs:bn Φ.fx.env.scope.names "set"=true) (hp:ao e=true) (h:Ev Φ (eval e Φ.fx.env) d) :
  EvN Φ (eval (.Call (.Name "sorted" fp) [.Call (.Name "set" sp) [e] [] spos] [] pos) Φ.fx.env) (fun K=>d fun x=>okK (fV x some) fun l=>(l.all eZ&&decide (l.length≤am))=true∧(∀ x∈l,∀ y∈l,ltK (aP x) (aP y)=true)∧(∃ m:List V,m.length < 4500∧∀ x∈l,x∈m)∧∀ r:List V,r.Nodup→(∀ y,y∈r ↔ y∈l)→((∃ m:List V,m.length < 64∧∀ x∈l,x∈m)→g8 r)→K (.list r)):=fun K s hd I=>by
 refine r7 (P:=fun s=>g9 Φ s K) hx rfl hs hp h (fun s v x E I r hx=>?_) (fun _ _ _ _ k p=>p.lift k) hd I
 refine ag hx fun l e Zq6=>Zq6.elim fun q Zq7=>Zq7.elim fun hlt Zq8=>Zq8.elim fun Zq9 hK=>Zq9.elim fun few Zq10=>Zq10.elim fun hfl hfw=>?_
 refine bW (C:=fun x=>Φ.rp s.heap v x→wpAny _ _ (call (.type "set") [v]) _ E s) e (fun l' e r=>?_) r
 cases e
 have q:=zA2 q
 have hw:∀ x∈l,eZ x=true:=List.all_eq_true.mp q.1
 refine r.list_elim fun a o vs n _ ha hc hd hl=>?_
 have hu:=I.room
 have hsz:=aO hl
 refine gd (T:="list") (I.ok.hand Hm.no) hu (fun s' k=>⟨o,k _ _ ha,hc.1⟩) PySem.F.sub_list_set PySem.F.sub_list_frozenset (by decide) (gG ⟨o,ha,hc.1,n,hd⟩) (ja hl hw hfw (Nat.lt_of_lt_of_le hfl (by decide))) fun h' tk hZ k=>?_
 obtain ⟨es,r,T,he,hr,hnd,hm⟩:=hZ
 rw [hsz,List.take_length] at hm
 have O:Ordered Φ.fx.g.prog Φ.fx.g.w h' (es.toList.map (·.2)):=by
  have kk:∀ y∈r,∀ v,Φ.rp s.heap v y→∃ c x ks,v=.ref c∧aP y=.inr x :: ks∧IsTupleKey (aA Φ.fx.g.prog Φ.fx.g.w) h' (.inr x :: ks) c:=fun y my v ry=>by
   have hy:=hw y ((hm y).mp my)
   obtain ⟨c,e,z⟩:=gi hy ry
   obtain ⟨x,ks,eh⟩:=kS hy
   exact ⟨c,x,ks,e,eh,eh▸d5 k z⟩
  refine ⟨fun v m=>?_,fun c c' ks ms m m' q q'=>?_⟩
  ·obtain ⟨y,my,ry⟩:=hr.of_mem m
   obtain ⟨c,x,ks,e,_,z⟩:=kk y my v ry
   exact ⟨c,x,ks,e,z⟩
  ·obtain ⟨y,my,ry⟩:=hr.of_mem m
   obtain ⟨y',my',ry'⟩:=hr.of_mem m'
   obtain ⟨_,x,ks',e,eh,z⟩:=kk y my _ ry
   obtain ⟨_,x',ms',e',eh',z'⟩:=kk y' my' _ ry'
   (injection e with e; subst e); (injection e' with e'; subst e')
   rw [q.inj z,q'.inj z',← eh,← eh']
   exact hlt y ((hm y).mp my) y' ((hm y').mp my')
 have few':∀ {few:List V} {n:Nat},few.length < n→(∀ x∈l,x∈few)→es.size < n:=fun {few} n hfl hfw=>by
  rw [jB hr]; exact Nat.lt_of_le_of_lt (hnd.length_le_of_subset (l₂:=few) fun y q=>hfw y ((hm y).mp q)) hfl
 refine pF (s:={ s with heap:=h',toks:=tk }) (I.ok.hand Hm.no) rfl T O (few' hfl hfw) fun out h2 dr tk2 b e po ro k2 hb hnv ho=>?_
 obtain ⟨R,pR,rR⟩:=RpAll.perm po hr
 have nb:s.heap.get? b=none:=aM k.live hb
 have hRw:∀ x∈R,eZ x=true:=fun y q=>hw y ((hm y).mp (pR.mem_iff.mp q))
 refine ⟨⟨⟨I.base.stays.trans (k.trans k2),I.base.os,I.base.gens⟩,(k.trans k2).keeps,.list R,hK R (pR.nodup_iff.mpr hnd) (fun y=>pR.mem_iff.trans (hm y)) (fun Zq11=>Zq11.elim fun m Zq12=>Zq12.elim fun q1 q2=>um (rR.keep k.keeps) hRw (ro (few' q1 q2))),.list (fun q=>?_) ho ⟨rfl,rfl⟩ rfl (rR.keep (k.trans k2).keeps)⟩,hnv.le fun b l=>k.keeps.live l⟩
 obtain ⟨o',e'⟩:=I.badLive q
 rw [nb] at e'; (injection e'; done)
open Classical in
theorem tv {fp pos sp spos:Pos} {e:Expr} (hx:bn Φ.fx.env.scope.names "len"=true) (hs:bn Φ.fx.env.scope.names "set"=true) (hp:ao e=true) (h:Ev Φ (eval e Φ.fx.env) d) :
  Ev Φ (eval (.Call (.Name "len" fp) [.Call (.Name "set" sp) [e] [] spos] [] pos) Φ.fx.env) (fun K=>d fun x=>okK ((fF x).map fun n=>.int n) K):=fun K s hd I=>by
 refine r7 (P:=fun s=>Post Φ Φ.rp s K) hx rfl hs hp h (fun s v x E I r hx=>?_) (fun _ _ _ _ k p=>p.lift k) hd I
 refine ag hx fun z e kz=>map_elim (C:=fun z=>K z→_) e (fun n e kz=>?_) kz
 have fin:∀ {Kd:Type} [DecidableEq Kd] (kd:KeyKind Φ.fx.g.prog Φ.fx.g.w Kd) (S:Kd→Bool) (h':Heap) (tk:Nat),h'.SetOf kd s.heap.objs.size S n→aH s.heap h'→wpAny (model Φ.fx.g.prog Φ.fx.g.w) Φ.fx.A (call (.builtin "len") [.ref s.heap.objs.size]) (Post Φ Φ.rp s K) E { s with heap:=h',toks:=tk }:=fun kd S h' tk hS k=>
  w8 (s:={ s with heap:=h',toks:=tk }) hS fun t tk'=>⟨⟨I.base.stays.trans k,I.base.os,I.base.gens⟩,k.keeps,_,kz,.int _ _⟩
 cases x with
 | str t=>
  refine bi e fun q e=>?_
  (injection e with e; subst e)
  refine r.str_elim fun tk=>?_
  have F:=gR (knd:=PySem.strKind Φ.fx.g.prog Φ.fx.g.w) (h₀:=s.heap) (S:=s.heap.objs.size) (P:=SignAt t) (ks:=t.cps.toList.map fun c=>(⟨#[c]⟩:Str)) (fun i v ⟨c,u,hc,e⟩=>⟨⟨#[c]⟩,by rw [List.getElem?_map,Array.getElem?_toList,hc]; rfl,by subst e; simp [PySem.strKind,Value.isStrOf],by subst e; rfl⟩) (List.Pairwise.map _ (fun a b ne e=>ne (by injection e with e; exact (zA5 (congrArg Array.toList e)).1)) q.1) (by rw [zA4,zB3]; unfold scanBound; exact Nat.lt_of_le_of_lt q.2 (by decide))
  rw [zA4,zB3] at F
  exact gd (T:="str") (I.ok.hand Hm.no) I.room (fun s' k=>typeIs_str _ _ _) (by rw [isSubtype_type]; kernel_rfl) (by rw [isSubtype_type]; kernel_rfl) (by decide) uS F fun h' tk hZ k=>fin (PySem.strKind _ _) _ h' tk hZ k
 | list l=>
  have e:(if l.all eZ=true then (if l.Nodup∧l.length < 4500 then some l.length else none) else (eI l).bind fun is=>if is.Nodup∧is.length < 4000 then some is.length else none)=some n:=e
  by_cases hw:l.all eZ=true
  ·rw [if_pos hw] at e
   refine bi e fun q e=>?_
   (injection e with e; subst e)
   refine r.list_elim fun a o vs n _ ha hc hd hl=>?_
   refine gd (T:="list") (I.ok.hand Hm.no) I.room (fun s' k=>⟨o,k _ _ ha,hc.1⟩) PySem.F.sub_list_set PySem.F.sub_list_frozenset (by decide) (gG ⟨o,ha,hc.1,n,hd⟩) (ja hl (List.all_eq_true.mp hw) (fun _ m=>m) (Nat.lt_of_lt_of_le q.2 (by decide))) fun h' tk hZ k=>?_
   obtain ⟨es,r,T,he,hr,hnd,hm⟩:=hZ
   rw [aO hl,List.take_length] at hm
   have ez:es.size=l.length:=(jB hr).trans ((List.perm_ext_iff_of_nodup hnd q.1).mpr hm).length_eq
   exact zO (s:={ s with heap:=h',toks:=tk }) T fun t tk'=>ez▸⟨⟨I.base.stays.trans k,I.base.os,I.base.gens⟩,k.keeps,_,kz,ez▸.int _ _⟩
  rw [if_neg hw] at e
  obtain ⟨is,ei,e⟩:=Option.bind_eq_some_iff.mp e
  refine bi e fun q e=>?_
  (injection e with e; subst e)
  refine r.list_elim fun a o vs n _ ha hc hd hl=>?_
  have hi:=i6 ei hl
  have hli:vs.size=is.length:=by rw [← zB3,hi.nums.symm,zA4]
  have F:=gR (knd:=intKind Φ.fx.g.prog Φ.fx.g.w) (h₀:=s.heap) (S:=s.heap.objs.size) (P:=fun i v=>vs[i]?=some v) (ks:=is) (fun i v e=>?_) q.1 (by unfold scanBound; exact Nat.lt_of_le_of_lt q.2 (by decide))
  ·rw [← hli] at F
   exact gd (T:="list") (I.ok.hand Hm.no) I.room (fun s' k=>⟨o,k _ _ ha,hc.1⟩) PySem.F.sub_list_set PySem.F.sub_list_frozenset (by decide) (gG ⟨o,ha,hc.1,n,hd⟩) F fun h' tk hZ k=>fin (intKind _ _) _ h' tk (hli▸hZ) k
  ·obtain ⟨t,et⟩:=hi.int_at i v (Array.getElem?_toList▸e)
   have hlt:i < is.length:=hli▸(Array.getElem?_eq_some_iff.mp e).1
   refine ⟨is.getD i 0,by rw [List.getElem?_eq_getElem hlt]; simp [hlt],?_,by subst et; rfl⟩
   subst et; simp [intKind,Value.isInt]
 | _=>(injection e; done)
end
noncomputable def bF (fx:Fx):Sx:=⟨fx.env.scope.names,fx.ρ,fx.nf,fx.ns,fx.hm,fx.nw⟩
def ah (fx:Fx) (p:Pz) (x:Expr) (d:D):Prop:=match p with
 | .val=>∀ oa G,Ev ⟨fx,oa,G⟩ (eval x fx.env) (d G)
 | .test=>∀ oa G,EvT ⟨fx,oa,G⟩ (isTrue x fx.env (eval x fx.env)) (tst (d G))
 | .new=>∀ oa G,EvN ⟨fx,oa,G⟩ (eval x fx.env) (d G)
 | .src st T=>∀ oa G,eM ⟨fx,oa,G⟩ T st x (fun K=>d G fun v=>okK (bL v) K)
 | .asg y py sp=>∀ k,TgtOk fx.ρ fx.env y k→ExB fx (exec (.Assign [.Name y py] x sp) fx.env) (fun G K=>d G fun v=>K none (G.set k (.v v)))
def dT (g:Gl) (n:Nat) (t:Kid) (d:D):Prop:=∀ fx,fx.g=g→fx.d=n→bF fx=t.1→ah fx t.2.1 t.2.2 d
inductive Kids (g:Gl) (n:Nat):List Kid→List D→Prop
 | nil:Kids g n [] []
 | cons {t:Kid} {ts:List Kid} {d:D} {ds:List D}:dT g n t d→Kids g n ts ds→Kids g n (t :: ts) (d :: ds)
section
variable {g:Gl} {n:Nat} {ds:List D} {C:List D→Prop} {t u w:Kid}
@[elab_as_elim] theorem Kids.n0 (h:Kids g n [] ds) (k:C []):C ds:=by cases h; exact k
@[elab_as_elim] theorem Kids.nc {ts:List Kid} (h:Kids g n (t :: ts) ds) (k:∀ d ds,dT g n t d→Kids g n ts ds→C (d :: ds)):C ds:=by cases h with | cons a b=>exact k _ _ a b
@[elab_as_elim] theorem Kids.n1 (h:Kids g n [t] ds) (k:∀ d,dT g n t d→C [d]):C ds:=h.nc fun d ds a b=>b.n0 (k d a)
@[elab_as_elim] theorem Kids.n2 (h:Kids g n [t,u] ds) (k:∀ d e,dT g n t d→dT g n u e→C [d,e]):C ds:=h.nc fun d ds a b=>b.n1 fun e c=>k d e a c
@[elab_as_elim] theorem Kids.n3 (h:Kids g n [t,u,w] ds) (k:∀ d e f,dT g n t d→dT g n u e→dT g n w f→C [d,e,f]):C ds:=h.nc fun d ds a b=>b.n2 fun e f c q=>k d e f a c q
theorem Kids.pairs:∀ {ds:List D},Kids g n (xs.map fun x=>(X,p,x)) ds→∃ qs:List (Expr×D),qs.map Prod.fst=xs∧qs.map Prod.snd=ds∧∀ q∈qs,dT g n (X,p,q.1) q.2:=by
 induction xs with
 | nil=>intro ds h; exact h.n0 ⟨[],rfl,rfl,fun _ m=>nM m⟩
 | cons x xs ih=>
  intro ds h
  refine h.nc fun d ds a b=>?_
  obtain ⟨qs,e1,e2,hq⟩:=ih b
  exact ⟨(x,d) :: qs,congrArg (x :: ·) e1,congrArg (d :: ·) e2,fun q m=>by cases m with | head=>exact a | tail _ m=>exact hq q m⟩
end
section
variable {g:Gl} {n:Nat} {ds:List D} {fx:Fx} {xs:List Expr}
theorem Kids.vals (h:Kids g n (xs.map fun x=>(bF fx,.val,x)) ds) (hg:fx.g=g) (hn:fx.d=n):∃ qs:Gs→List (Expr×DV),(∀ G,(qs G).map Prod.fst=xs∧(qs G).map Prod.snd=ds.map (· G))∧∀ oa G,∀ q∈qs G,q.1∈xs∧be ⟨fx,oa,G⟩ q:=by
 obtain ⟨qs,rfl,rfl,hq⟩:=h.pairs
 refine ⟨fun G=>qs.map fun q=>(q.1,q.2 G),fun G=>⟨by rw [List.map_map]; rfl,by rw [List.map_map,List.map_map]; rfl⟩,fun oa G q m=>?_⟩
 obtain ⟨q',m',rfl⟩:=zA7 m
 exact ⟨List.mem_map.mpr ⟨q',m',rfl⟩,hq q' m' fx hg hn rfl oa G⟩
theorem Kids.items (h:Kids g n (xs.map fun x=>(bF fx,.val,x)) ds) (hg:fx.g=g) (hn:fx.d=n) (hp:ck xs=true):∃ qs:Gs→List (Expr×DV),(∀ G,(qs G).map Prod.fst=xs∧(qs G).map Prod.snd=ds.map (· G))∧∀ oa G,∀ q∈qs G,ao q.1=true∧be ⟨fx,oa,G⟩ q:=by
 obtain ⟨qs,h1,h2⟩:=h.vals hg hn
 exact ⟨qs,h1,fun oa G q m=>⟨List.all_eq_true.mp hp _ (h2 oa G q m).1,(h2 oa G q m).2⟩⟩
theorem Kids.tests (h:Kids g n (xs.map fun x=>(bF fx,.test,x)) ds) (hg:fx.g=g) (hn:fx.d=n):∃ qs:Gs→List (Expr×DV),(∀ G,(qs G).map Prod.fst=xs∧(qs G).map Prod.snd=ds.map (· G))∧∀ oa G,∀ q∈qs G,EvT ⟨fx,oa,G⟩ (isTrue q.1 fx.env (eval q.1 fx.env)) (tst q.2):=by
 obtain ⟨qs,rfl,rfl,hq⟩:=h.pairs
 refine ⟨fun G=>qs.map fun q=>(q.1,q.2 G),fun G=>⟨by rw [List.map_map]; rfl,by rw [List.map_map,List.map_map]; rfl⟩,fun oa G q m=>?_⟩
 obtain ⟨q',m',rfl⟩:=zA7 m
 exact hq q' m' fx hg hn rfl oa G
theorem Kids.node {f:List Expr→Expr} {op:List V→(V→Prop)→Prop} (h:Kids g n (xs.map fun x=>(bF fx,.val,x)) ds) (hg:fx.g=g) (hn:fx.d=n) (hp:ck xs=true)
  (k:∀ oa G (qs:List (Expr×DV)),(∀ q∈qs,ao q.1=true∧be ⟨fx,oa,G⟩ q)→EvC ⟨fx,oa,G⟩ nb (eval (f (qs.map Prod.fst)) fx.env) (fun K=>bo (qs.map Prod.snd) fun xs=>op xs K)):∀ oa G,EvC ⟨fx,oa,G⟩ nb (eval (f xs) fx.env) (fun K=>bJ ds G fun xs=>op xs K):=fun oa G=>by
 obtain ⟨qs,h1,h2⟩:=h.items hg hn hp
 have q:=k oa G (qs G) (h2 oa G)
 rw [(h1 G).1,(h1 G).2] at q
 rw [jF]
 exact q
end
theorem bp {f:Str×Pos→Bool} {C:Expr→Prop} (h:(ba x).any f=true) (k:∀ n p,f (n,p)=true→C (.Name n p)):C x:=
 if hi:x.ctorIdx=23 then Expr.Name.elim (motive_1:=fun x=>(ba x).any f=true→C x) x hi (fun n p h=>k n p h) h else by
  unfold ba at h; rw [dif_neg hi] at h; (injection h; done)
theorem xf {f:List Expr×Nat×Pos→Bool} {C:Expr→Prop} (h:(qX x).any f=true) (k:∀ xs k p,f (xs,k,p)=true→C (.Tuple xs k p)):C x:=
 if hi:x.ctorIdx=25 then Expr.Tuple.elim (motive_1:=fun x=>(qX x).any f=true→C x) x hi (fun xs j p h=>k xs j p h) h else by
  unfold qX at h; rw [dif_neg hi] at h; (injection h; done)
theorem Cf {f:List Expr×Pos→Bool} {C:Expr→Prop} (h:(wB x).any f=true) (k:∀ xs p,f (xs,p)=true→C (.List xs p)):C x:=
 if hi:x.ctorIdx=24 then Expr.List.elim (motive_1:=fun x=>(wB x).any f=true→C x) x hi (fun xs p h=>k xs p h) h else by
  unfold wB at h; rw [dif_neg hi] at h; (injection h; done)
theorem xg {f:Expr×Expr×Pos→Bool} {C:Expr→Prop} (h:(qY x).any f=true) (k:∀ v s p,f (v,s,p)=true→C (.Subscript v s p)):C x:=
 if hi:x.ctorIdx=21 then Expr.Subscript.elim (motive_1:=fun x=>(qY x).any f=true→C x) x hi (fun v s p h=>k v s p h) h else by
  unfold qY at h; rw [dif_neg hi] at h; (injection h; done)
theorem CE {f:Option Expr×Option Expr×Option Expr×Pos→Bool} {C:Expr→Prop} (h:(x0 x).any f=true) (k:∀ l u st p,f (l,u,st,p)=true→C (.Slice l u st p)):C x:=
 if hi:x.ctorIdx=26 then Expr.Slice.elim (motive_1:=fun x=>(x0 x).any f=true→C x) x hi (fun l u st p h=>k l u st p h) h else by
  unfold x0 at h; rw [dif_neg hi] at h; (injection h; done)
theorem tI {f:Expr×List Expr×List Keyword×Pos→Bool} {C:Expr→Prop} (h:(iD x).any f=true) (k:∀ u xs ks p,f (u,xs,ks,p)=true→C (.Call u xs ks p)):C x:=
 if hi:x.ctorIdx=16 then Expr.Call.elim (motive_1:=fun x=>(iD x).any f=true→C x) x hi (fun u xs ks p h=>k u xs ks p h) h else by
  unfold iD at h; rw [dif_neg hi] at h; (injection h; done)
theorem tJ {f:Expr×Str×Pos→Bool} {C:Expr→Prop} (h:(j9 x).any f=true) (k:∀ o n q,f (o,n,q)=true→C (.Attribute o n q)):C x:=
 if hi:x.ctorIdx=20 then Expr.Attribute.elim (motive_1:=fun x=>(j9 x).any f=true→C x) x hi (fun o n q h=>k o n q h) h else by
  unfold j9 at h; rw [dif_neg hi] at h; (injection h; done)
theorem Bd {f:List (Option Expr)×List Expr×Pos→Bool} {C:Expr→Prop} (h:(tF x).any f=true) (k:∀ ks vs p,f (ks,vs,p)=true→C (.Dict ks vs p)):C x:=
 if hi:x.ctorIdx=6 then Expr.Dict.elim (motive_1:=fun x=>(tF x).any f=true→C x) x hi (fun ks vs p h=>k ks vs p h) h else by
  unfold tF at h; rw [dif_neg hi] at h; (injection h; done)
theorem Ev.evC (h:Ev Φ t d):EvC Φ false t d:=fun K s hd I E=>wpAny_mono (h K s hd I E) (fun _ _ p=>⟨p,nofun⟩) fun _ _ z=>z
theorem EvN.evC (h:EvN Φ t d):EvC Φ b t d:=fun K s hd I E=>wpAny_mono (h K s hd I E) (fun _ _ p=>⟨p.1,fun _=>p.2⟩) fun _ _ z=>z
@[elab_as_elim] theorem l1 {α:Type} {xs:List α} {f:α→Bool} {C:List α→Prop} (h:(kD xs).any f=true) (k:∀ y,f y=true→C [y]):C xs:=by
 match xs,h with
 | [],h=>(injection h; done)
 | [y],h=>exact k y h
 | _ :: _ :: _,h=>(injection h; done)
@[elab_as_elim] theorem l2 {α:Type} {xs:List α} {f:α×α→Bool} {C:List α→Prop} (h:(two? xs).any f=true) (k:∀ y z,f (y,z)=true→C [y,z]):C xs:=by
 match xs,h with
 | [],h=>(injection h; done)
 | [y],h=>(injection h; done)
 | [y,z],h=>exact k y z h
 | _ :: _ :: _ :: _,h=>(injection h; done)
@[elab_as_elim] theorem ln {α:Type} {xs:List α} {C:List α→Prop} (h:xs.isEmpty=true) (k:C []):C xs:=by
 cases xs with
 | nil=>exact k
 | cons=>(injection h; done)
theorem a2 (h:(a&&b)=true):a=true∧b=true:=zA2 h
theorem gv (h:o.any f=true):∃ a,o=some a∧f a=true:=by
 cases o with
 | none=>(injection h; done)
 | some a=>exact ⟨a,rfl,h⟩
theorem uI (h:yq x y=true):y=x:=by
 cases x with
 | int i=>cases y with | int j=>rw [eq_of_beq h] | _=>(injection h; done)
 | str s=>cases y with | str t=>rw [eq_of_beq h] | _=>(injection h; done)
 | _=>(injection h; done)
theorem vR {f:Const×Nat×Pos→Bool} {C:Expr→Prop} (h:(jP x).any f=true) (k:∀ c k p,f (c,k,p)=true→C (.Constant c k p)):C x:=
 if hi:x.ctorIdx=19 then Expr.Constant.elim (motive_1:=fun x=>(jP x).any f=true→C x) x hi (fun c j p h=>k c j p h) h else by
  unfold jP at h; rw [dif_neg hi] at h; (injection h; done)
theorem CH {f:Expr×Operator×Expr×Pos→Bool} {C:Expr→Prop} (h:(x3 x).any f=true) (k:∀ l o r p,f (l,o,r,p)=true→C (.BinOp l o r p)):C x:=
 if hi:x.ctorIdx=2 then Expr.BinOp.elim (motive_1:=fun x=>(x3 x).any f=true→C x) x hi (fun l o r p h=>k l o r p h) h else by
  unfold x3 at h; rw [dif_neg hi] at h; (injection h; done)
theorem Ci {f:Expr×List CmpOp×List Expr×Pos→Bool} {C:Expr→Prop} (h:(wE x).any f=true) (k:∀ l o r p,f (l,o,r,p)=true→C (.Compare l o r p)):C x:=
 if hi:x.ctorIdx=15 then Expr.Compare.elim (motive_1:=fun x=>(wE x).any f=true→C x) x hi (fun l o r p h=>k l o r p h) h else by
  unfold wE at h; rw [dif_neg hi] at h; (injection h; done)
theorem yu {f:BoolOp×List Expr×Pos→Bool} {C:Expr→Prop} (h:(pu x).any f=true) (k:∀ o xs p,f (o,xs,p)=true→C (.BoolOp o xs p)):C x:=
 if hi:x.ctorIdx=0 then Expr.BoolOp.elim (motive_1:=fun x=>(pu x).any f=true→C x) x hi (fun o xs p h=>k o xs p h) h else by
  unfold pu at h; rw [dif_neg hi] at h; (injection h; done)
theorem lUn {f:UnaryOp×Expr×Pos→Bool} {C:Expr→Prop} (h:(vUn x).any f=true) (k:∀ o y p,f (o,y,p)=true→C (.UnaryOp o y p)):C x:=
 if hi:x.ctorIdx=3 then Expr.UnaryOp.elim (motive_1:=fun x=>(vUn x).any f=true→C x) x hi (fun o y p h=>k o y p h) h else by
  unfold vUn at h; rw [dif_neg hi] at h; (injection h; done)
theorem lIf {f:Expr×Expr×Expr×Pos→Bool} {C:Expr→Prop} (h:(vIf x).any f=true) (k:∀ t y z p,f (t,y,z,p)=true→C (.IfExp t y z p)):C x:=
 if hi:x.ctorIdx=5 then Expr.IfExp.elim (motive_1:=fun x=>(vIf x).any f=true→C x) x hi (fun t y z p h=>k t y z p h) h else by
  unfold vIf at h; rw [dif_neg hi] at h; (injection h; done)
theorem yt {f:Expr×List Comprehension×Scope×Pos→Bool} {C:Expr→Prop} (h:(pq x).any f=true) (k:∀ y gs sc p,f (y,gs,sc,p)=true→C (.ListComp y gs sc p)):C x:=
 if hi:x.ctorIdx=8 then Expr.ListComp.elim (motive_1:=fun x=>(pq x).any f=true→C x) x hi (fun y gs sc p h=>k y gs sc p h) h else by
  unfold pq at h; rw [dif_neg hi] at h; (injection h; done)
theorem ig {f:List Expr→Bool} {C:Expr→Prop} (h:nCall X nm x f=true) (k:∀ q xs p,bn X.sc nm=true→f xs=true→C (.Call (.Name nm q) xs [] p)):C x:=
 tI (by unfold nCall at h; exact h) fun u xs ks p h=>bp (C:=fun u=>C (.Call u xs ks p)) h fun n q h=>by
  have e:n=nm:=eq_of_beq (a2 h).1
  subst e
  exact ln (C:=fun ks=>C (.Call (.Name n q) xs ks p)) (a2 (a2 (a2 h).2).2).1 (k q xs p (a2 (a2 h).2).1 (a2 (a2 (a2 h).2).2).2)
theorem dN {f:Expr→Bool} {C:Expr→Prop} (h:eS X nm x f=true) (k:∀ q y p,bn X.sc nm=true→f y=true→C (.Call (.Name nm q) [y] [] p)):C x:=
 ig h fun q xs p hg h=>l1 (C:=fun xs=>C (.Call (.Name nm q) xs [] p)) h fun y h=>k q y p hg h
theorem m6 {f:Expr→Str→List Expr→Bool} {C:Expr→Prop} (h:mCall x f=true) (k:∀ y nm q xs p,(q.endLine==p.line)=true→f y nm xs=true→C (.Call (.Attribute y nm q) xs [] p)):C x:=
 tI (by unfold mCall at h; exact h) fun u xs ks p h=>tJ (C:=fun u=>C (.Call u xs ks p)) h fun y nm q h=>ln (C:=fun ks=>C (.Call (.Attribute y nm q) xs ks p)) (a2 h).1 (k y nm q xs p (a2 (a2 h).2).1 (a2 (a2 h).2).2)
theorem rP {k:List Kid→Bool} {C:Expr→Prop} (h:qF X k nm x=true) (f:∀ y q e p,(q.endLine==p.line)=true→b9 y=true→ao e=true→k [(X,.val,y),(X,.val,e)]=true→C (.Call (.Attribute y nm q) [e] [] p)):C x:=
 m6 h fun y n q xs p hl h=>by
  have e:n=nm:=eq_of_beq (a2 h).1
  subst e
  exact l1 (C:=fun xs=>C (.Call (.Attribute y n q) xs [] p)) (a2 (a2 h).2).2 fun z hz=>f y q z p hl (a2 (a2 h).2).1 (a2 hz).1 (a2 hz).2
theorem q8 (hk:fx.env.scope.kind=.function):bF (aD fx scope C x x' Y)=(bF fx).comp scope x x':=by
 unfold Sx.comp bF
 have:(aD fx scope C x x' Y).env.scope.names=gW fx.env.scope.names scope.names:=cN hk
 rw [this]
 rfl
theorem eL (ok:FxOk fx) (h:jg (bF fx) scope x x'=true):CompOk fx scope x x':=by
 obtain ⟨h1,h⟩:=a2 h
 obtain ⟨h2,h⟩:=a2 h
 obtain ⟨h3,h⟩:=a2 h
 obtain ⟨h5,h⟩:=a2 h
 obtain ⟨h6,h⟩:=a2 h
 obtain ⟨h7,h8⟩:=a2 h
 have h5:=List.all_eq_true.mp h5
 have h6:=List.all_eq_true.mp h6
 have h7:=List.all_eq_true.mp h7
 have fr:∀ n,(n,NameKind.free)∈scope.names→(fx.env.kindOf n=some .cell∨fx.env.kindOf n=some .free)∧∃ k,fx.ρ.lookup n=some k:=fun n hn=>by
  rcases (Bool.or_eq_true _ _).mp (h7 _ hn) with q | q
  ·exact absurd rfl (bne_iff_ne.mp q)
  ·obtain ⟨q1,q2⟩:=a2 q
   exact ⟨((Bool.or_eq_true _ _).mp q1).imp eq_of_beq eq_of_beq,Option.isSome_iff_exists.mp q2⟩
 refine ⟨eq_of_beq h1,eq_of_beq h2,eq_of_beq h3,fun y hy=>bne_iff_ne.mp (h5 y hy),fun y hy hl=>((Bool.or_eq_true _ _).mp (h6 y hy)).elim (fun q=>absurd hl (bne_iff_ne.mp q)) eq_of_beq,fun n hn=>(fr n hn).1,fun n hn=>?_,of_decide_eq_true h8⟩
 obtain ⟨q,k,hk⟩:=fr n hn
 rcases ok.vis n k hk with ⟨z,_⟩ | ⟨_,c,hc,_⟩
 ·rcases q with q | q <;> rw [z] at q <;> cases q
 ·exact ⟨c,hc⟩
theorem jX {k:List Expr→Bool} {C:Expr→Prop} (h:cCall Z X f x k=true) (h':∀ n q xs p,Z.fns.lookup n=some f→bn X.sc n=true→(X.hm=true→Z.safe f=true)→k xs=true→C (.Call (.Name n q) xs [] p)):C x:=
 tI (by unfold cCall at h; exact h) fun u xs ks p h=>bp (C:=fun u=>C (.Call u xs ks p)) h fun n q h=>by
  obtain ⟨h1,h⟩:=a2 h
  obtain ⟨h2,h⟩:=a2 h
  obtain ⟨h3,h⟩:=a2 h
  exact ln (C:=fun ks=>C (.Call (.Name n q) xs ks p)) (a2 h).1 (h' n q xs p (eq_of_beq h1) h2 (fun e=>by rw [e] at h3; exact h3) (a2 h).2)
section
variable (Z:Zx) (o:Op) (k:List Kid→Bool) (X:Sx)
end
structure GOk (g:Gl) (Z:Zx):Prop where
 fns:g.fns=Z.fns
 cons:g.cons=Z.cons
 flds:g.flds=Z.flds
 clss:g.clss=Z.clss
 nc:g.nc=Z.nc
 sup:g.P.sup=Z.sup
 safe:g.safe=Z.safe
 newf:g.newf=Z.newf
 cf:g.fn Z.cf=g.C
 keep:∀ x f,Z.fns.lookup x=some f→keepIn g.K (.ref (g.fn f))=true
 meths:∀ x f,Z.meths.lookup x=some f→x∉g.flds∧findIn g.K (.ref g.C) x=some (some (.ref (g.fn f)))∧typeIn g.K (.ref (g.fn f))=some (.type "function")∧keepIn g.K (.ref (g.fn f))=true
section
variable {g:Gl} {n:Nat} {Z:Zx} {o:Op} {k:List Kid→Bool} {ds:List D} {fx:Fx} {x:Expr}
theorem fh (e:fx.hm=b) (h:(!b)=true):Hm fx:=⟨by rw [e]; cases b with | false=>rfl | true=>(injection h; done)⟩
theorem a2e {a b:Bool} {C:Prop} (h:(a&&b)=true) (k:a=true→b=true→C):C:=k (a2 h).1 (a2 h).2
theorem rE {α β:Type} {o:Option α} {f:α→β} {K:β→Prop}:okK (o.map f) K=okK o fun a=>K (f a):=by cases o <;> rfl
theorem BQ (h:FxOk Φ.fx→Ev Φ t d):Ev Φ t d:=fun K s hd I=>h I.ok K s hd I
theorem pU (h:Kids fx.g fx.d (ifs.map fun x=>(bF fx,.test,x)) ts):∀ oa G,EvT ⟨fx,oa,G⟩ (dP ifs fx.env) (cq true ts G):=fun oa G=>by
 obtain ⟨qs,h1,h2⟩:=h.tests rfl rfl
 have q:=nS (Φ:=⟨fx,oa,G⟩) (h2 oa G)
 rw [(h1 G).1,(h1 G).2,← gL] at q
 exact q
theorem fB:∀ xs:List Expr,evalEach xs env=xs.map fun x=>eval x env
 | []=>rfl
 | x :: r=>congrArg (eval x env :: ·) (fB r)
theorem lg (hne:(!xs.isEmpty)=true) (h:Kids fx.g fx.d (xs.map fun x=>(bF fx,.val,x)) ds):∀ oa G,Ev ⟨fx,oa,G⟩ (eval (.BoolOp (bop b) xs p) fx.env) (fun K=>cq b ds G fun c=>K (.bool c)):=fun oa G=>by
 obtain ⟨qs,h1,h2⟩:=h.vals rfl rfl
 have q:=oW (Φ:=⟨fx,oa,G⟩) (b:=b) (pos:=p) (fun q m=>(h2 oa G q m).2) fun e=>by have:=(h1 G).1; rw [e] at this; rw [← this] at hne; (injection hne; done)
 rw [show (qs G).map (fun q=>eval q.1 fx.env)=xs.map fun x=>eval x fx.env by rw [← (h1 G).1,List.map_map]; rfl,(h1 G).2,← gL] at q
 have e:eval (.BoolOp (bop b) xs p) fx.env=boolOp p (bop b) (xs.map fun x=>eval x fx.env):=by
  rw [arm_eval_BoolOp,fB]
 rw [e]
 exact q
theorem Ae (h:FxOk fx→ExB fx t Y):ExB fx t Y:=fun oa G K s hd I=>h I.ok oa G K s hd I
theorem jl (h:Kids fx.g fx.d (xs.map fun x=>(bF fx,.test,x)) ds):∀ oa G,EvT ⟨fx,oa,G⟩ (isTrue (.BoolOp (bop b) xs p) fx.env w) (cq b ds G):=fun oa G=>by
 obtain ⟨qs,h1,h2⟩:=h.tests rfl rfl
 have q:=nT (Φ:=⟨fx,oa,G⟩) (b:=b) (h2 oa G)
 rw [(h1 G).1,(h1 G).2,← gL] at q
 exact q
def Vt (p:Pz):Prop:=p=.val∨p=.test
theorem gp (hp:Vt p) (h:ah fx .val x d) (e:isTrue x fx.env (eval x fx.env)=(do let v ← eval x fx.env; standAt x.pos; holding [v] (truthy v))):ah fx p x d:=by
 rcases hp with rfl | rfl
 ·exact h
 ·exact fun oa G=>xG (h oa G) e
def wy (fx:Fx) (b:Gs→V→Option Gs) (e:Expr) (ds:List D):Prop:=(∀ oa G,Ev ⟨fx,oa,G⟩ (eval e fx.env) (tO b ds G))∧∀ y py sp k,TgtOk fx.ρ fx.env y k→ExB fx (exec (.Assign [.Name y py] e sp) fx.env) (fun G K=>tO b ds G fun v=>K none (G.set k (.v v)))
theorem sr {b:Gs→V→Option Gs} {elt it T:Expr} {ifs:List Expr} {scope:Scope} {p:Pos} {m m':Str} [Hm fx] (hT:FxOk fx→∀ oa G,nA ⟨fx,oa,G⟩ scope T m m' b) (h1:jg (bF fx) scope m m'=true) (h3:bx it=true) (hk:Kids fx.g fx.d ((bF fx,.src false T,it) :: ((bF fx).comp scope m m',.val,elt) :: ifs.map fun x=>((bF fx).comp scope m m',.test,x)) ds) :
  wy fx b (.ListComp elt [⟨T,it,ifs,0⟩] scope p) ds:=by
 refine hk.nc (C:=fun ds=>wy fx b (.ListComp elt [⟨T,it,ifs,0⟩] scope p) ds) fun ds1 dr a b'=>b'.nc (C:=fun dr=>wy fx b (.ListComp elt [⟨T,it,ifs,0⟩] scope p) (ds1 :: dr)) fun de ts b' c=>?_
 have he:FxOk fx→∀ C Y oa G,Ev ⟨aD fx scope C m m' Y,oa,G⟩ (eval elt (aD fx scope C m m' Y).env) (de G):=fun ok C Y oa G=>b' (aD fx scope C m m' Y) rfl rfl (q8 ok.kind) oa G
 have ht:FxOk fx→∀ C Y oa G,EvT ⟨aD fx scope C m m' Y,oa,G⟩ (dP ifs (aD fx scope C m m' Y).env) (cq true ts G):=fun ok C Y oa G=>pU (fx:=aD fx scope C m m' Y) (by rw [q8 ok.kind]; exact c) oa G
 exact ⟨fun oa G=>BQ fun ok=>r9 (Φ:=⟨fx,oa,G⟩) (eL ok h1) (hT ok oa G) h3 (a fx rfl rfl rfl oa G) (he ok) (ht ok),fun y py sp k hy=>Ae fun ok=>iy (py:=py) (eL ok h1) (hT ok) h3 (a fx rfl rfl rfl) (he ok) (ht ok) hy⟩
theorem sq {j:Nat} (hk:∀ ts,k ts=true→Kids fx.g fx.d ts ds) (h:j5 Z (.comp j) k (bF fx) .val x=true):(ah fx .val x (bt (al fx.g.P fx.d) (.comp j) ds)∧isTrue x fx.env (eval x fx.env)=(do let v ← eval x fx.env; standAt x.pos; holding [v] (truthy v)))∧∀ y py sp,ah fx (.asg y py sp) x (bt (al fx.g.P fx.d) (.comp j) ds):=by
 refine a2e h fun hh h=>?_
 have:Hm fx:=fh rfl hh
 refine yt (C:=fun x=>(ah fx .val x _∧isTrue x fx.env (eval x fx.env)=(do let v ← eval x fx.env; standAt x.pos; holding [v] (truthy v)))∧∀ y py sp,ah fx (.asg y py sp) x _) h fun elt gs scope p h=>l1 (C:=fun gs=>(ah fx .val (.ListComp elt gs scope p) _∧isTrue (.ListComp elt gs scope p) fx.env _=_)∧∀ y py sp,ah fx (.asg y py sp) (.ListComp elt gs scope p) _) h fun c h=>?_
 obtain ⟨T,it,ifs,asy⟩:=c
 refine a2e h fun e h=>?_
 obtain rfl:asy=0:=eq_of_beq e
 refine bp (C:=fun T=>(ah fx .val (.ListComp elt [⟨T,it,ifs,0⟩] scope p) _∧_=_)∧∀ y py sp,ah fx (.asg y py sp) (.ListComp elt [⟨T,it,ifs,0⟩] scope p) _) h fun m pm h=>a2e h fun h1 h=>a2e h fun e h=>a2e h fun h3 hh=>?_
 obtain rfl:=eq_of_beq e
 have q:=sr (b:=jS fx.nf) (p:=p) (fun ok oa G=>Av (Φ:=⟨fx,oa,G⟩) (eL ok h1)) h1 h3 (hk _ hh)
 exact ⟨⟨q.1,rfl⟩,q.2⟩
theorem o9 {js:List Nat} (hk:∀ ts,k ts=true→Kids fx.g fx.d ts ds) (h:j5 Z (.compM js) k (bF fx) .val x=true):(ah fx .val x (bt (al fx.g.P fx.d) (.compM js) ds)∧isTrue x fx.env (eval x fx.env)=(do let v ← eval x fx.env; standAt x.pos; holding [v] (truthy v)))∧∀ y py sp,ah fx (.asg y py sp) x (bt (al fx.g.P fx.d) (.compM js) ds):=by
 refine a2e h fun hh h=>?_
 have:Hm fx:=fh rfl hh
 refine yt (C:=fun x=>(ah fx .val x _∧isTrue x fx.env (eval x fx.env)=(do let v ← eval x fx.env; standAt x.pos; holding [v] (truthy v)))∧∀ y py sp,ah fx (.asg y py sp) x _) h fun elt gs scope p h=>l1 (C:=fun gs=>(ah fx .val (.ListComp elt gs scope p) _∧isTrue (.ListComp elt gs scope p) fx.env _=_)∧∀ y py sp,ah fx (.asg y py sp) (.ListComp elt gs scope p) _) h fun c h=>?_
 obtain ⟨T,it,ifs,asy⟩:=c
 refine a2e h fun e h=>?_
 obtain rfl:asy=0:=eq_of_beq e
 refine xf (C:=fun T=>(ah fx .val (.ListComp elt [⟨T,it,ifs,0⟩] scope p) _∧_=_)∧∀ y py sp,ah fx (.asg y py sp) (.ListComp elt [⟨T,it,ifs,0⟩] scope p) _) h fun es kk tp h=>l2 (C:=fun es=>(ah fx .val (.ListComp elt [⟨.Tuple es kk tp,it,ifs,0⟩] scope p) _∧_=_)∧∀ y py sp,ah fx (.asg y py sp) (.ListComp elt [⟨.Tuple es kk tp,it,ifs,0⟩] scope p) _) h fun e1 e2 h=>?_
 refine bp (C:=fun e1=>(ah fx .val (.ListComp elt [⟨.Tuple [e1,e2] kk tp,it,ifs,0⟩] scope p) _∧_=_)∧∀ y py sp,ah fx (.asg y py sp) (.ListComp elt [⟨.Tuple [e1,e2] kk tp,it,ifs,0⟩] scope p) _) h fun m pm h=>bp (C:=fun e2=>(ah fx .val (.ListComp elt [⟨.Tuple [.Name m pm,e2] kk tp,it,ifs,0⟩] scope p) _∧_=_)∧∀ y py sp,ah fx (.asg y py sp) (.ListComp elt [⟨.Tuple [.Name m pm,e2] kk tp,it,ifs,0⟩] scope p) _) h fun m' pm' h=>a2e h fun h1 h=>a2e h fun hne h=>a2e h fun e h=>a2e h fun h3 hh=>?_
 obtain rfl:=eq_of_beq e
 have hne:m'≠m:=fun q=>by subst q; rw [beq_self_eq_true] at hne; (injection hne; done)
 have q:=sr (b:=aV [fx.nf,fx.nf+1]) (p:=p) (fun ok oa G=>Au (Φ:=⟨fx,oa,G⟩) (eL ok h1) hne ok.offs) h1 h3 (hk _ hh)
 exact ⟨⟨q.1,rfl⟩,q.2⟩
noncomputable def CJ (o:Op):Bool:=match o with
 | .tuple=>true
 | .listOf=>true
 | .sorted=>true
 | .sortedSet=>true
 | .call _=>true
 | .meth _=>true
 | _=>false
def nz (fx:Fx) (b:Bool) (x:Expr) (d:D):Prop:=∀ oa G,EvC ⟨fx,oa,G⟩ b (eval x fx.env) (d G)
def Nw (fx:Fx) (b:Bool) (x:Expr) (d:D):Prop:=nz fx b x d∧isTrue x fx.env (eval x fx.env)=(do let v ← eval x fx.env; standAt x.pos; holding [v] (truthy v))
theorem kg (H:GOk fx.g Z) (hk:∀ ts,k ts=true→Kids fx.g fx.d ts ds) (hn:CJ o=true) (h:j5 Z o k (bF fx) .val x=true) :
  Nw fx (B9 Z o) x (bt (al fx.g.P fx.d) o ds):=by
 cases o with
 | tuple=>exact xf (C:=fun x=>Nw fx true x _) h fun xs j q h=>a2e h fun hl h=>⟨(hk _ h).node (f:=fun xs=>.Tuple xs j q) (op:=fun xs K=>okK (opN .tuple xs) K) rfl rfl hl fun oa G qs hq=>uY hq,rfl⟩
 | listOf=>exact dN (C:=fun x=>Nw fx true x _) h fun q y r hx h=>⟨(hk _ (a2 h).2).n1 (C:=fun ds=>nz fx true _ (bt _ .listOf ds)) fun d a oa G=>(tu (d:=d G) hx (a2 h).1 (a fx rfl rfl rfl oa G)).evC,rfl⟩
 | sorted=>exact dN (C:=fun x=>Nw fx true x _) h fun q y r hx h=>⟨(hk _ (a2 h).2).n1 (C:=fun ds=>nz fx true _ (bt _ .sorted ds)) fun d a oa G=>(tr (d:=d G) hx (a2 h).1 (a fx rfl rfl rfl oa G)).evC,rfl⟩
 | sortedSet=>
  refine a2e h fun hh h=>?_
  have:Hm fx:=fh rfl hh
  exact dN (C:=fun x=>Nw fx true x _) h fun q y r hx h=>⟨dN (C:=fun y=>nz fx true (.Call _ [y] [] r) _) h fun p1 z p2 hs h=>(hk _ (a2 h).2).n1 (C:=fun ds=>nz fx true _ (bt _ .sortedSet ds)) fun d a oa G=>(lA (Φ:=⟨fx,oa,G⟩) (d:=d G) hx hs (a2 h).1 (a fx rfl rfl rfl oa G)).evC,rfl⟩
 | call f=>
  refine jX (C:=fun x=>Nw fx (Z.newf f) x _) h fun n q xs r hf hx hs h=>⟨?_,rfl⟩
  have q:=(hk _ (a2 h).2).node (nb:=fx.g.newf f) (f:=fun xs=>.Call (.Name n q) xs [] r) (op:=fun xs K=>al fx.g.P fx.d f xs fun y=>noX y=true∧K y) rfl rfl (a2 h).1 fun oa G qs hq=>xK (Φ:=⟨fx,oa,G⟩) hx (H.fns▸hf) (H.keep _ _ hf) (fun e=>by rw [H.safe]; exact hs e) hq
  rw [H.newf] at q
  exact q
 | meth f=>
  refine m6 (C:=fun x=>Nw fx (Z.newf f) x _) h fun y nm q xs r hl h=>a2e h fun hs h=>a2e h fun e h=>a2e h fun hsf h=>a2e h fun hm h=>?_
  obtain ⟨m1,m2,m3,m4⟩:=H.meths _ _ (eq_of_beq hm)
  refine ln (C:=fun xs=>Nw fx (Z.newf f) (.Call _ xs [] r) _) e ⟨(hk _ h).n1 (C:=fun ds=>nz fx (Z.newf f) _ (bt _ (.meth f) ds)) fun d a oa G=>?_,rfl⟩
  have q:=xH (Φ:=⟨fx,oa,G⟩) (d:=d G) hs hl m1 m2 m3 m4 (fun e=>by rw [H.safe]; have e:fx.hm=true:=e; have hsf:(!fx.hm||Z.safe f)=true:=hsf; rw [e] at hsf; exact hsf) (a fx rfl rfl rfl oa G)
  rw [H.newf] at q
  exact q
 | _=>(injection hn; done)
theorem tE {p:Pz} (H:GOk fx.g Z) (hp:Vt p) (hk:∀ ts,k ts=true→Kids fx.g fx.d ts ds) (h:j5 Z o k (bF fx) p x=true):ah fx p x (bt (al fx.g.P fx.d) o ds):=by
 cases o with
 | lit v=>
  refine ((Bool.or_eq_true _ _).mp h).elim (fun h=>vR (C:=fun x=>ah fx p x _) h fun c j q h=>gp hp (fun oa G=>Al (a2 h).1) rfl) fun h=>bp (C:=fun x=>ah fx p x _) h fun m q h=>a2e h fun hx h=>a2e h fun e h=>?_
  obtain ⟨y,e1,e2⟩:=gv e
  obtain rfl:=uI e2
  exact gp hp (fun oa G=>u3 hx (H.cons▸e1)) rfl
 | lend j=>
  refine (hk _ h).n1 (C:=fun ds=>ah fx p x (bt _ (.lend j) ds)) fun d a=>?_
  rcases hp with rfl | rfl
  ·exact fun oa G K s hd I E=>ag hd fun l e hk=>wpAny_mono (a fx rfl rfl rfl _ _ _ s hk (Inv.freeze (Φ:=⟨fx,oa,G⟩) I (cg e)).1 E) (fun v s' ⟨B,k,y,hy,r⟩=>by cases y with
   | bool b=>exact r.bool_elim ⟨B,k,_,hy,.bool b⟩
   | _=>exact hy.elim) fun _ _ z=>z
  ·exact fun oa G K s hd I E=>ag hd fun l e hk=>wpAny_mono (a fx rfl rfl rfl _ _ K s hk (Inv.freeze (Φ:=⟨fx,oa,G⟩) I (cg e)).1 E) (fun _ _ ⟨B,k,y,hy,r⟩=>⟨B,k,y,hy,r⟩) fun _ _ z=>z
 | ite=>
  refine lIf (C:=fun x=>ah fx p x _) h fun c a b q h=>a2e h fun i h=>(hk _ h).n3 (C:=fun ds=>ah fx p _ (bt _ .ite ds)) fun d e f a b c=>?_
  rcases hp with rfl | rfl
  ·exact fun oa G=>An (d1:=d G) (d2:=e G) (d3:=f G) (a fx rfl rfl rfl oa G) (b fx rfl rfl rfl oa G) (c fx rfl rfl rfl oa G)
  ·(injection i; done)
 | itemL j=>exact xg (C:=fun x=>ah fx p x _) h fun v s q h=>bp (C:=fun v=>ah fx p (.Subscript v s q) _) h fun m pm h=>a2e h fun h1 h=>a2e h fun h2 h=>gp hp ((hk _ h).n1 (C:=fun ds=>ah fx .val _ (bt _ (.itemL j) ds)) fun d a oa G=>uZ (Φ:=⟨fx,oa,G⟩) (d:=d G) (eq_of_beq h1) h2 (a fx rfl rfl rfl oa G)) rfl
 | tupleOf=>exact ig (C:=fun x=>ah fx p x _) h fun q xs r hx h=>gp hp (fun oa G=>((hk _ (a2 h).2).node (nb:=false) (f:=fun xs=>.Call (.Name "tuple" q) xs [] r) (op:=fun xs K=>okK (opN .tupleOf xs) K) rfl rfl (a2 h).1 (fun oa G qs hq=>(qr hx hq).evC) oa G).ev) rfl
 | isCls=>exact ig (C:=fun x=>ah fx p x _) h fun q xs r hx h=>l2 (C:=fun xs=>ah fx p (.Call _ xs [] r) _) h fun y z h=>a2e h fun hl h=>bp (C:=fun z=>ah fx p (.Call _ [y,z] [] r) _) h fun T pT h=>a2e h fun hT h=>a2e h fun hc hh=>gp hp ((hk _ hh).n1 (C:=fun ds=>ah fx .val _ (bt _ .isCls ds)) fun d a oa G=>u1 (Φ:=⟨fx,oa,G⟩) (q:=(y,d G)) hx hT hl (H.fns▸eq_of_beq hc) H.cf (a fx rfl rfl rfl oa G)) rfl
 | compM js=>exact (o9 (Z:=Z) hk h).1.elim fun a b=>gp hp a b
 | var j=>exact bp (C:=fun x=>ah fx p x _) h fun m q h=>a2e h fun e h=>gp hp (fun oa G=>Ah (eq_of_beq e) (a2 h).1) rfl
 | bin op=>
  refine CH (C:=fun x=>ah fx p x _) h fun l op' r q h=>a2e h fun e hh=>?_
  obtain rfl:=of_decide_eq_true e
  exact gp hp ((hk _ hh).n2 (C:=fun ds=>ah fx .val _ (bt _ (.bin op) ds)) fun d e a b oa G=>Ap (d1:=d G) (d2:=e G) (a fx rfl rfl rfl oa G) (b fx rfl rfl rfl oa G)) rfl
 | cmp c=>
  refine Ci (C:=fun x=>ah fx p x _) h fun l ops rs q h=>l1 (C:=fun ops=>ah fx p (.Compare l ops rs q) _) h fun c' h=>a2e h fun e hh=>?_
  obtain rfl:=of_decide_eq_true e
  refine l1 (C:=fun rs=>ah fx p (.Compare l _ rs q) _) hh fun r h=>a2e h fun hs h=>(hk _ h).n2 (C:=fun ds=>ah fx p _ (bt _ (.cmp c) ds)) fun d e a b=>?_
  rcases hp with rfl | rfl
  ·exact fun oa G=>v0 (d1:=d G) (d2:=e G) hs (a fx rfl rfl rfl oa G) (b fx rfl rfl rfl oa G)
  ·exact fun oa G=>uc (d1:=d G) (d2:=e G) hs (a fx rfl rfl rfl oa G) (b fx rfl rfl rfl oa G)
 | chain lt=>
  refine Ci (C:=fun x=>ah fx p x _) h fun l ops rs q h=>l2 (C:=fun ops=>ah fx p (.Compare l ops rs q) _) h fun c c' h=>a2e h fun e h=>a2e h fun e' hh=>?_
  obtain rfl:=of_decide_eq_true e
  obtain rfl:=of_decide_eq_true e'
  refine l2 (C:=fun rs=>ah fx p (.Compare l _ rs q) _) hh fun r r' h=>a2e h fun hs h=>(hk _ h).n3 (C:=fun ds=>ah fx p _ (bt _ (.chain lt) ds)) fun d e f a b c=>?_
  rcases hp with rfl | rfl
  ·exact fun oa G=>u4 (d1:=d G) (d2:=e G) (d3:=f G) hs (a fx rfl rfl rfl oa G) (b fx rfl rfl rfl oa G) (c fx rfl rfl rfl oa G)
  ·exact fun oa G=>pz (d1:=d G) (d2:=e G) (d3:=f G) hs (a fx rfl rfl rfl oa G) (b fx rfl rfl rfl oa G) (c fx rfl rfl rfl oa G)
 | and=>
  refine yu (C:=fun x=>ah fx p x _) h fun b xs q h=>a2e h fun e h=>a2e h fun hn hh=>?_
  obtain rfl:=of_decide_eq_true e
  rcases hp with rfl | rfl
  ·exact lg (b:=true) hn (hk _ hh)
  ·exact jl (b:=true) (hk _ hh)
 | or=>
  refine yu (C:=fun x=>ah fx p x _) h fun b xs q h=>a2e h fun e h=>a2e h fun hn hh=>?_
  obtain rfl:=of_decide_eq_true e
  rcases hp with rfl | rfl
  ·exact lg (b:=false) hn (hk _ hh)
  ·exact jl (b:=false) (hk _ hh)
 | not=>
  refine lUn (C:=fun x=>ah fx p x _) h fun u y q h=>a2e h fun e hh=>?_
  obtain rfl:=of_decide_eq_true e
  refine (hk _ hh).n1 (C:=fun ds=>ah fx p _ (bt _ .not ds)) fun d a=>?_
  rcases hp with rfl | rfl
  ·exact fun oa G=>Aj (d:=d G) (a fx rfl rfl rfl oa G)
  ·exact fun oa G=>ua (d:=d G) (a fx rfl rfl rfl oa G)
 | neg=>
  refine lUn (C:=fun x=>ah fx p x _) h fun u y q h=>a2e h fun e h=>a2e h fun i hh=>?_
  obtain rfl:=of_decide_eq_true e
  rcases hp with rfl | rfl
  ·exact (hk _ hh).n1 (C:=fun ds=>ah fx .val _ (bt _ .neg ds)) fun d a oa G=>Ak (d:=d G) (a fx rfl rfl rfl oa G)
  ·(injection i; done)
 | tuple=>exact (kg (o:=.tuple) H hk rfl h).elim fun a b=>gp hp (fun oa G=>(a oa G).ev) b
 | list=>exact Cf (C:=fun x=>ah fx p x _) h fun xs q h=>a2e h fun hl h=>gp hp (fun oa G=>((hk _ h).node (nb:=false) (f:=fun xs=>.List xs q) (op:=fun xs K=>okK (opN .list xs) K) rfl rfl hl (fun oa G qs hq=>(xI hq).evC) oa G).ev) rfl
 | sub=>exact xg (C:=fun x=>ah fx p x _) h fun v s q h=>gp hp ((hk _ h).n2 (C:=fun ds=>ah fx .val _ (bt _ .sub ds)) fun d e a b oa G=>Ai (d1:=d G) (d2:=e G) (a fx rfl rfl rfl oa G) (b fx rfl rfl rfl oa G)) rfl
 | slice bl bh=>
  refine xg (C:=fun x=>ah fx p x _) h fun v s q h=>CE (C:=fun s=>ah fx p (.Subscript v s q) _) h fun lo hi st q' h=>a2e h fun e0 h=>a2e h fun e1 h=>a2e h fun e2 hh=>?_
  obtain rfl:=eq_of_beq e1
  obtain rfl:=eq_of_beq e2
  obtain rfl:st=none:=Option.isNone_iff_eq_none.mp e0
  refine gp hp ?_ rfl
  cases lo with
  | none=>cases hi with
   | none=>exact (hk _ hh).n1 (C:=fun ds=>ah fx .val _ (bt _ (.slice false false) ds)) fun d a oa G=>fZ (d1:=d G) (a fx rfl rfl rfl oa G) jd jd
   | some e'=>exact (hk _ hh).n2 (C:=fun ds=>ah fx .val _ (bt _ (.slice false true) ds)) fun d e a b oa G=>fZ (d1:=d G) (a fx rfl rfl rfl oa G) jd (jc (d:=e G) (b fx rfl rfl rfl oa G))
  | some e'=>cases hi with
   | none=>exact (hk _ hh).n2 (C:=fun ds=>ah fx .val _ (bt _ (.slice true false) ds)) fun d e a b oa G=>fZ (d1:=d G) (a fx rfl rfl rfl oa G) (jc (d:=e G) (b fx rfl rfl rfl oa G)) jd
   | some e'=>exact (hk _ hh).n3 (C:=fun ds=>ah fx .val _ (bt _ (.slice true true) ds)) fun d e f a b c oa G=>fZ (d1:=d G) (a fx rfl rfl rfl oa G) (jc (d:=e G) (b fx rfl rfl rfl oa G)) (jc (d:=f G) (c fx rfl rfl rfl oa G))
 | attr j=>exact tJ (C:=fun x=>ah fx p x _) h fun y nm q h=>a2e h fun hs h=>a2e h fun e h=>gp hp ((hk _ h).n1 (C:=fun ds=>ah fx .val _ (bt _ (.attr j) ds)) fun d a oa G=>xL (Φ:=⟨fx,oa,G⟩) (d:=d G) hs (by rw [H.flds]; exact eq_of_beq e) (a fx rfl rfl rfl oa G)) rfl
 | comp j=>exact (sq (Z:=Z) hk h).1.elim fun a b=>gp hp a b
 | isinst t=>
  refine ig (C:=fun x=>ah fx p x _) h fun q xs r hx h=>l2 (C:=fun xs=>ah fx p (.Call _ xs [] r) _) h fun y z h=>a2e h fun hl h=>bp (C:=fun z=>ah fx p (.Call _ [y,z] [] r) _) h fun T pT h=>a2e h fun hT h=>a2e h fun ht hh=>?_
  obtain ⟨T',e1,e2⟩:=gv ht
  have e2:T=Str.ofString T':=eq_of_beq e2
  subst e2
  refine gp hp ((hk _ hh).n1 (C:=fun ds=>ah fx .val _ (bt _ (.isinst t) ds)) fun d a oa G=>?_) rfl
  have z:=Ao (Φ:=⟨fx,oa,G⟩) (fp:=q) (pos:=r) (pT:=pT) (q:=(y,d G)) e1 hx hT hl (a fx rfl rfl rfl oa G)
  have e:(fun K=>d G fun x=>okK (isT x t) fun b=>K (.bool b))=bt (al fx.g.P fx.d) (.isinst t) [d] G:=funext fun K=>congrArg (d G) (funext fun x=>rE.symm)
  exact e▸z
 | len=>exact dN (C:=fun x=>ah fx p x _) h fun q y r hx h=>gp hp ((hk _ (a2 h).2).n1 (C:=fun ds=>ah fx .val _ (bt _ .len ds)) fun d a oa G=>Am (q:=(y,d G)) hx ⟨(a2 h).1,a fx rfl rfl rfl oa G⟩) rfl
 | lenSet=>
  refine a2e h fun hh h=>?_
  have:Hm fx:=fh rfl hh
  exact dN (C:=fun x=>ah fx p x _) h fun q y r hx h=>gp hp (dN (C:=fun y=>ah fx .val (.Call _ [y] [] r) _) h fun p1 z p2 hs h=>(hk _ (a2 h).2).n1 (C:=fun ds=>ah fx .val _ (bt _ .lenSet ds)) fun d a oa G=>tv (Φ:=⟨fx,oa,G⟩) (d:=d G) hx hs (a2 h).1 (a fx rfl rfl rfl oa G)) rfl
 | isExc c tb=>
  refine ig (C:=fun x=>ah fx p x _) h fun q xs r hx h=>l2 (C:=fun xs=>ah fx p (.Call _ xs [] r) _) h fun y z h=>a2e h fun hl h=>bp (C:=fun z=>ah fx p (.Call _ [y,z] [] r) _) h fun T pT h=>a2e h fun hT h=>a2e h fun hc h=>a2e h fun ht hh=>?_
  have hc:fx.g.clss.lookup T=some c∨(T="ValueError"∧c=fx.g.nc):=by
   rw [H.clss,H.nc]
   exact ((Bool.or_eq_true _ _).mp hc).imp eq_of_beq fun q=>⟨eq_of_beq (a2 q).1,eq_of_beq (a2 q).2⟩
  have ht:∀ e,e < fx.g.nc→tb[e]?=some (fx.g.P.sup e c):=fun e q=>by
   rw [H.sup]
   exact eq_of_beq (List.all_eq_true.mp ht e (List.mem_range.mpr (H.nc▸q)))
  refine gp hp ((hk _ hh).n1 (C:=fun ds=>ah fx .val _ (bt _ (.isExc c tb) ds)) fun d a oa G=>?_) rfl
  have z:=u0 (Φ:=⟨fx,oa,G⟩) (fp:=q) (pos:=r) (pT:=pT) (q:=(y,d G)) hx hT hl hc ht (a fx rfl rfl rfl oa G)
  have e:(fun K=>d G fun x=>okK ((lW x).bind fun e=>tb[e]?) fun b=>K (.bool b))=bt (al fx.g.P fx.d) (.isExc c tb) [d] G:=funext fun K=>congrArg (d G) (funext fun x=>rE.symm)
  exact e▸z
 | listOf=>exact (kg (o:=.listOf) H hk rfl h).elim fun a b=>gp hp (fun oa G=>(a oa G).ev) b
 | sorted=>exact (kg (o:=.sorted) H hk rfl h).elim fun a b=>gp hp (fun oa G=>(a oa G).ev) b
 | sortedSet=>exact (kg (o:=.sortedSet) H hk rfl h).elim fun a b=>gp hp (fun oa G=>(a oa G).ev) b
 | call f=>exact (kg (o:=.call f) H hk rfl h).elim fun a b=>gp hp (fun oa G=>(a oa G).ev) b
 | join=>exact rP (C:=fun x=>ah fx p x _) h fun y q e r hl hs he h=>gp hp ((hk _ h).n2 (C:=fun ds=>ah fx .val _ (bt _ .join ds)) fun d e a b oa G=>xJ (d1:=d G) (d2:=e G) hs he hl (a fx rfl rfl rfl oa G) (b fx rfl rfl rfl oa G)) rfl
 | count=>exact rP (C:=fun x=>ah fx p x _) h fun y q e r hl hs he h=>gp hp ((hk _ h).n2 (C:=fun ds=>ah fx .val _ (bt _ .count ds)) fun d e a b oa G=>u2 (d1:=d G) (d2:=e G) hs he hl (a fx rfl rfl rfl oa G) (b fx rfl rfl rfl oa G)) rfl
 | meth f=>exact (kg (o:=.meth f) H hk rfl h).elim fun a b=>gp hp (fun oa G=>(a oa G).ev) b
 | _=>(injection h; done)
end
section
variable {g:Gl} {n:Nat} {Z:Zx} {o:Op} {k:List Kid→Bool} {ds:List D} {fx:Fx} {x:Expr}
theorem sw {st:Bool} {op:List V→Option V} (h:AV k (bF fx) f x=true) [Hm fx] (hk:∀ ts,k ts=true→Kids fx.g fx.d ts ds)
  (hs:∀ oa G fp pos (qs:List (Expr×DV)),bn fx.env.scope.names f=true→(∀ q∈qs,ao q.1=true∧be ⟨fx,oa,G⟩ q)→eM ⟨fx,oa,G⟩ T st (.Call (.Name f fp) (qs.map Prod.fst) [] pos) (fun K=>bo (qs.map Prod.snd) fun xs=>okK (op xs) fun z=>okK (bL z) K)) :
  ∀ oa G,eM ⟨fx,oa,G⟩ T st x (fun K=>bJ ds G fun xs=>okK (op xs) fun z=>okK (bL z) K):=by
 refine ig (C:=fun x=>∀ oa G,eM ⟨fx,oa,G⟩ T st x (fun K=>bJ ds G fun xs=>okK (op xs) fun z=>okK (bL z) K)) h fun q xs p hg h oa G=>?_
 obtain ⟨qs,h1,h2⟩:=(hk _ (a2 h).2).items rfl rfl (a2 h).1
 have z:=hs oa G q p (qs G) hg (h2 oa G)
 rw [(h1 G).1,(h1 G).2,← jF] at z
 exact z
theorem AC (H:GOk fx.g Z) (hk:∀ ts,k ts=true→Kids fx.g fx.d ts ds) (h:yR Z o k (bF fx) x=true):ah fx (.asg y py sp) x (bt (al fx.g.P fx.d) o ds):=by
 exact ((Bool.or_eq_true _ _).mp h).elim (fun h=>a2e h fun hn h k hT=>k4 (b8 hn) hT (tE H (.inl rfl) hk h)) fun h=>a2e h fun hc h=>((Bool.or_eq_true _ _).mp hc).elim (fun hc=>Op.comp.elim (motive:=fun o=>j5 Z o k (bF fx) .val x=true→ah fx (.asg y py sp) x (bt (al fx.g.P fx.d) o ds)) o (eq_of_beq hc) (fun j h=>(sq hk h).2 y py sp) h) fun hc=>Op.compM.elim (motive:=fun o=>j5 Z o k (bF fx) .val x=true→ah fx (.asg y py sp) x (bt (al fx.g.P fx.d) o ds)) o (eq_of_beq hc) (fun j h=>(o9 hk h).2 y py sp) h
theorem zc {st:Bool} (H:GOk fx.g Z) (hk:∀ ts,k ts=true→Kids fx.g fx.d ts ds) (h:yQ Z o k (bF fx) (.src st T) x=true):ah fx (.src st T) x (bt (al fx.g.P fx.d) o ds):=by
 obtain ⟨hh,h'⟩:=a2 h
 clear h
 have h:=h'
 clear h'
 have:Hm fx:=fh rfl hh
 have go:j5 Z o k (bF fx) .val x=true→ah fx (.src st T) x (bt (al fx.g.P fx.d) o ds):=fun h oa G=>A1 (Φ:=⟨fx,oa,G⟩) (tE H (.inl rfl) hk h oa G)
 cases o with
 | own j=>
  replace h:=a2 h
  have hs:=h.1
  replace h:=h.2
  cases st with
  | true=>(injection hs; done)
  | false=>
   refine bp (C:=fun x=>ah fx (.src false T) x _) h fun m p h2=>?_
   clear h
   have h:=h2
   clear h2
   exact fun oa G=>wK (Φ:=⟨fx,oa,G⟩) (eq_of_beq (a2 h).1) (a2 (a2 h).2).1
 | range=>exact sw (op:=opN .range) h hk fun oa G fp pos qs hg hq=>sJ (Φ:=⟨fx,oa,G⟩) hg hq
 | zip=>
  refine xf (C:=fun T=>ah fx (.src st T) x _) h fun es j p h2=>?_
  clear h
  have h:=h2
  clear h2
  exact sw (op:=opN .zip) h hk fun oa G fp pos qs hg hq=>wJ (Φ:=⟨fx,oa,G⟩) hg hq
 | _=>exact go h
theorem wW (H:GOk g Z) (hk:∀ ts,k ts=true→Kids g n ts ds) (h:yQ Z o k t.1 t.2.1 t.2.2=true):dT g n t (bt (al g.P n) o ds):=fun fx hg hn hX=>by
 subst hg hn
 obtain ⟨X,p,x⟩:=t
 subst hX
 cases p with
 | val=>exact tE H (.inl rfl) hk h
 | test=>exact tE H (.inr rfl) hk h
 | new=>exact a2e h fun hn h oa G=>((kg H hk (by cases o <;> first | rfl | (injection hn; done)) h).1 oa G).evN hn
 | src st T=>exact zc H hk h
 | asg y py sp=>exact AC H hk h
def kq (g:Gl) (n:Nat) (cs:List Ck) (ds:List D):Prop:=∀ ts,pW cs ts=true→Kids g n ts ds
theorem kq.nil:kq g n [] []:=fun ts h=>by
 cases ts with
 | nil=>exact .nil
 | cons=>(injection h; done)
theorem kq.cons (h1:∀ t,c t=true→dT g n t d) (h2:kq g n cs ds):kq g n (c :: cs) (d :: ds):=fun ts h=>by
 cases ts with
 | nil=>(injection h; done)
 | cons t r=>exact .cons (h1 t (a2 h).1) (h2 r (a2 h).2)
theorem CA (H:GOk g Z) (e:E):∀ t,xP Z e t=true→dT g n t (ev (al g.P n) e):=
 E.rec (motive_1:=fun e=>∀ t,xP Z e t=true→dT g n t (ev (al g.P n) e)) (motive_2:=fun es=>kq g n (E.rec_1 (motive_1:=fun _=>Ck) (motive_2:=fun _=>List Ck) (fun o _ ih t=>yQ Z o (pW ih) t.1 t.2.1 t.2.2) [] (fun _ _ i is=>i :: is) es) (E.rec_1 (motive_1:=fun _=>D) (motive_2:=fun _=>List D) (fun o _ ih=>bt (al g.P n) o ih) [] (fun _ _ i is=>i :: is) es))
  (fun o es ih t h=>wW H ih h) .nil (fun e es i is=>.cons i is) e
theorem yg (H:GOk g Z):∀ es:List E,kq g n (es.map (xP Z)) (es.map (ev (al g.P n)))
 | []=>.nil
 | e :: r=>.cons (CA H e) (yg H r)
end
theorem hO (h:kf (bF fx) m j=true):TgtOk fx.ρ fx.env m j:=
 ⟨eq_of_beq (a2 h).1,fun e=>by
  have h:=(a2 h).2
  have e:(bF fx).sc.lookup m=some .free:=e
  replace h:=e▸h; (injection h; done)⟩
theorem lG:∀ {es:List Expr} {js:List Nat},mO (bF fx) es js=true→TgtsOk fx.ρ fx.env es js
 | [],js,h=>ln (C:=fun js=>TgtsOk fx.ρ fx.env [] js) h .nil
 | t :: r,js,h=>bp (C:=fun t=>TgtsOk fx.ρ fx.env (t :: r) js) h fun m p h=>by
  cases js with
  | nil=>(injection h; done)
  | cons j q=>exact .cons (hO (a2 h).1) (lG (a2 h).2)
theorem pS {f:Expr→Expr→Pos→Bool} {C:Stmt→Prop} (h:kB x f=true) (k:∀ t v p,f t v p=true→C (.Assign [t] v p)):C x:=
 if hi:x.ctorIdx=5 then Stmt.Assign.elim (motive_2:=fun x=>kB x f=true→C x) x hi (fun ts v p h=>l1 (C:=fun ts=>C (.Assign ts v p)) h fun t h=>k t v p h) h else by
  unfold kB at h; replace h:=(dif_neg hi)▸h; (injection h; done)
theorem Ch {f:Expr→Bool} {C:Stmt→Prop} (h:wD x f=true) (k:∀ e p,f e=true→C (.Expr e p)):C x:=
 if hi:x.ctorIdx=24 then Stmt.Expr.elim (motive_2:=fun x=>wD x f=true→C x) x hi (fun e p h=>k e p h) h else by
  unfold wD at h; replace h:=(dif_neg hi)▸h; (injection h; done)
theorem AR {f:Expr→Bool} {C:Stmt→Prop} (h:vk x f=true) (k:∀ e p,f e=true→C (.Return (some e) p)):C x:=
 if hi:x.ctorIdx=3 then Stmt.Return.elim (motive_2:=fun x=>vk x f=true→C x) x hi (fun e p h=>by
  cases e with
  | none=>(injection h; done)
  | some e=>exact k e p h) h else by
  unfold vk at h; replace h:=(dif_neg hi)▸h; (injection h; done)
theorem CG {f:Expr→List Stmt→List Stmt→Bool} {C:Stmt→Prop} (h:x1 x f=true) (k:∀ c a b p,f c a b=true→C (.If c a b p)):C x:=
 if hi:x.ctorIdx=12 then Stmt.If.elim (motive_2:=fun x=>x1 x f=true→C x) x hi (fun c a b p h=>k c a b p h) h else by
  unfold x1 at h; replace h:=(dif_neg hi)▸h; (injection h; done)
theorem Cg {f:Expr→Expr→List Stmt→Bool} {C:Stmt→Prop} (h:wC x f=true) (k:∀ T it body p,f T it body=true→C (.For T it body [] p)):C x:=
 if hi:x.ctorIdx=9 then Stmt.For.elim (motive_2:=fun x=>wC x f=true→C x) x hi (fun T it body el p h=>ln (C:=fun el=>C (.For T it body el p)) (a2 h).1 (k T it body p (a2 h).2)) h else by
  unfold wC at h; replace h:=(dif_neg hi)▸h; (injection h; done)
theorem lRs {f:Expr→Bool} {C:Stmt→Prop} (h:vRs x f=true) (k:∀ e p,f e=true→C (.Raise (some e) none p)):C x:=
 if hi:x.ctorIdx=16 then Stmt.Raise.elim (motive_2:=fun x=>vRs x f=true→C x) x hi (fun e c p h=>by
  have h:(c.isNone&&e.any f)=true:=h
  obtain ⟨h1,h2⟩:=a2 h
  obtain rfl:c=none:=Option.isNone_iff_eq_none.mp h1
  obtain ⟨e',rfl,h3⟩:=gv h2
  exact k e' p h3) h else by
  unfold vRs at h; replace h:=(dif_neg hi)▸h; (injection h; done)
theorem CD {f:Stmt→Option Expr→Option Str→List Stmt→Bool} {C:Stmt→Prop} (h:xZ x f=true) (k:∀ b t n hb hp p,f b t n hb=true→C (.Try [b] [.ExceptHandler t n hb hp] [] [] p)):C x:=
 if hi:x.ctorIdx=17 then Stmt.Try.elim (motive_2:=fun x=>xZ x f=true→C x) x hi (fun bd hs el fi p h=>ln (C:=fun el=>C (.Try bd hs el fi p)) (a2 h).1 (ln (C:=fun fi=>C (.Try bd hs [] fi p)) (a2 (a2 h).2).1 (l1 (C:=fun bd=>C (.Try bd hs [] [] p)) (a2 (a2 h).2).2 fun b h=>l1 (C:=fun hs=>C (.Try [b] hs [] [] p)) h fun hd h=>by
  obtain ⟨t,n,hb,hp⟩:=hd
  exact k b t n hb hp p h))) h else by
  unfold xZ at h; replace h:=(dif_neg hi)▸h; (injection h; done)
theorem Bc {α:Type} {xs:List α} {f:α×α×α×α→Bool} {C:List α→Prop} (h:(x2 xs).any f=true) (k:∀ a b c d,f (a,b,c,d)=true→C [a,b,c,d]):C xs:=by
 rcases xs with _ | ⟨a,_ | ⟨b,_ | ⟨c,_ | ⟨d,_ | ⟨e,xs⟩⟩⟩⟩⟩
 ·exact nB h
 ·exact nB h
 ·exact nB h
 ·exact nB h
 ·exact k a b c d h
 ·exact nB h
theorem CF {C:Expr→Prop} (h:B3 (bF fx) i x=true) (k:∀ n np ap pp,(ap.endLine==pp.line)=true→fx.ρ.lookup n=some i→aR n=true→C (.Call (.Attribute (.Name n np) "pop" ap) [] [] pp)):C x:=
 m6 (C:=C) h fun y nm q xs p hl h=>a2e h fun e hh=>a2e hh fun h1 h2=>by
  have e:nm="pop":=eq_of_beq e
  clear h hh
  subst e
  exact ln (C:=fun xs=>C (.Call _ xs [] p)) h1 (bp (C:=fun y=>C (.Call (.Attribute y _ q) [] [] p)) h2 fun m pm h=>k m pm q p hl (eq_of_beq (a2 h).1) (a2 h).2)
section
variable {g:Gl} {n:Nat} {Z:Zx} {o:SOp} {k:List Kid→Bool} {ds:List D} {fx:Fx} {ca cb:CkS} {YA YB:B}
def SOk (g:Gl) (n:Nat) (c:CkS) (Y:B):Prop:=∀ fx sts,fx.g=g→fx.d=n→FxTop fx→c (bF fx) sts=true→ExB fx (execs sts fx.env) Y
noncomputable abbrev wa (W Y:B):B:=fun G K=>W G fun fl G'=>match fl with | none=>Y G' K | some x=>K (some x) G'
def MOk (g:Gl) (n:Nat) (c:CkM) (W:B):Prop:=∀ fx sts rest Y,fx.g=g→fx.d=n→FxTop fx→(∀ r,rest r=true→ExB fx (execs r fx.env) Y)→c (bF fx) sts rest=true→ExB fx (execs sts fx.env) (wa W Y)
theorem jr (h:(ck xs&&k (xs.map fun x=>(bF fx,.val,x)))=true) (hk:∀ ts,k ts=true→Kids fx.g fx.d ts ds) {C:B→Prop} {W:List V→Gs→(Option V→Gs→Prop)→Prop}
  (f:∀ qs:Gs→List (Expr×DV),(∀ G,(qs G).map Prod.fst=xs)→(∀ oa G,∀ q∈qs G,ao q.1=true∧be ⟨fx,oa,G⟩ q)→C (fun G K=>bo ((qs G).map Prod.snd) fun ys=>W ys G K)):C (fun G K=>bJ ds G fun ys=>W ys G K):=by
 obtain ⟨qs,e1,e2⟩:=(hk _ (a2 h).2).items rfl rfl (a2 h).1
 have z:=f qs (fun G=>(e1 G).1) e2
 rwa [show (fun (G:Gs) (K:Option V→Gs→Prop)=>bo ((qs G).map Prod.snd) fun ys=>W ys G K)=fun G K=>bJ ds G fun ys=>W ys G K from funext fun G=>funext fun K=>by rw [(e1 G).2,jF]] at z
theorem Aa (h:(!a||b)=true) (e:a=true):b=true:=by rw [e] at h; exact h
theorem wG (H:GOk fx.g Z) (top:FxTop fx) (hk:∀ ts,k ts=true→Kids fx.g fx.d ts ds) (ha:SOk fx.g fx.d ca YA) (hb:SOk fx.g fx.d cb YB) (h:wm Z o k ca cb (bF fx) x=true):ExB fx (exec x fx.env) (d7 fx.g.P.sup (al fx.g.P fx.d) o ds YA YB):=by
 cases o with
 | assign j=>exact pS (C:=fun x=>ExB fx (exec x fx.env) _) h fun t v p h=>bp (C:=fun t=>ExB fx (exec (.Assign [t] v p) fx.env) _) h fun m q h=>(hk _ (a2 h).2).n1 (C:=fun ds=>ExB fx _ (d7 _ _ (.assign j) ds YA YB)) fun d a=>a fx rfl rfl rfl j (hO (a2 h).1)
 | assignM js=>
  refine a2e h fun hh h=>?_
  have:Hm fx:=fh rfl hh
  exact pS (C:=fun x=>ExB fx (exec x fx.env) _) h fun t v p h=>xf (C:=fun t=>ExB fx (exec (.Assign [t] v p) fx.env) _) h fun es j q h=>a2e h fun h1 h=>(hk _ (a2 h).2).n1 (C:=fun ds=>ExB fx _ (d7 _ _ (.assignM js) ds YA YB)) fun d a=>qq (a2 h).1 (lG h1) (a fx rfl rfl rfl)
 | ownL j=>exact pS (C:=fun x=>ExB fx (exec x fx.env) _) h fun t v p h=>bp (C:=fun t=>ExB fx (exec (.Assign [t] v p) fx.env) _) h fun m q h=>a2e h fun h1 h=>Cf (C:=fun v=>ExB fx (exec (.Assign [_] v p) fx.env) _) h fun xs q' h=>jr (C:=fun Y=>ExB fx _ Y) (W:=fun xs G K=>xs.length≤am∧K none (G.set j (.ownL xs))) h hk fun qs e1 e2=>xD (hO h1) e1 e2
 | setAttr i j=>exact pS (C:=fun x=>ExB fx (exec x fx.env) _) h fun t v p h=>tJ (C:=fun t=>ExB fx (exec (.Assign [t] v p) fx.env) _) h fun u nm q h=>bp (C:=fun u=>ExB fx (exec (.Assign [.Attribute u nm q] v p) fx.env) _) h fun m q' h=>a2e h fun h1 h=>a2e h fun h2 h=>a2e h fun h3 h=>a2e h fun h4 h=>(hk _ h).n1 (C:=fun ds=>ExB fx _ (d7 _ _ (.setAttr i j) ds YA YB)) fun d a=>qo (eq_of_beq h1) h2 (by rw [H.flds]; exact eq_of_beq h3) h4 (a fx rfl rfl rfl)
 | setAttrN i j=>exact pS (C:=fun x=>ExB fx (exec x fx.env) _) h fun t v p h=>tJ (C:=fun t=>ExB fx (exec (.Assign [t] v p) fx.env) _) h fun u nm q h=>bp (C:=fun u=>ExB fx (exec (.Assign [.Attribute u nm q] v p) fx.env) _) h fun m q' h=>a2e h fun h1 h=>a2e h fun h2 h=>a2e h fun h3 h=>a2e h fun h4 h=>(hk _ h).n1 (C:=fun ds=>ExB fx _ (d7 _ _ (.setAttrN i j) ds YA YB)) fun d a=>nK (eq_of_beq h1) h2 (by rw [H.flds]; exact eq_of_beq h3) h4 (a fx rfl rfl rfl)
 | call f=>exact Ch (C:=fun x=>ExB fx (exec x fx.env) _) h fun e p h=>jX (C:=fun e=>ExB fx (exec (.Expr e p) fx.env) _) h fun n q xs r hf hx hs h=>jr (C:=fun Y=>ExB fx _ Y) (W:=fun xs G K=>al fx.g.P fx.d f xs fun y=>if noX y=true then isNone y=true∧K none G else K (some y) G) h hk fun qs e1 e2=>xF e1 hx (H.fns▸hf) (H.keep _ _ hf) (fun e=>by rw [H.safe]; exact hs e) e2
 | append j=>
  refine Ch (C:=fun x=>ExB fx (exec x fx.env) _) h fun e p h=>m6 (C:=fun e=>ExB fx (exec (.Expr e p) fx.env) _) h fun y nm q xs r hl h=>a2e h fun e h=>a2e h fun h1 hh=>?_
  have e:nm="append":=eq_of_beq e
  subst e
  exact bp (C:=fun y=>ExB fx (exec (.Expr (.Call (.Attribute y _ q) xs [] r) p) fx.env) _) hh fun m pm h2=>l1 (C:=fun xs=>ExB fx (exec (.Expr (.Call _ xs [] r) p) fx.env) _) h1 fun y h=>(hk _ (a2 h).2).n1 (C:=fun ds=>ExB fx _ (d7 _ _ (.append j) ds YA YB)) fun d a=>tq (eq_of_beq (a2 h2).1) (a2 h2).2 (a2 h).1 hl (a fx rfl rfl rfl)
 | ret=>
  refine AR (C:=fun x=>ExB fx (exec x fx.env) _) h fun e p h=>?_
  cases hnw:fx.nw with
  | true=>rw [show (bF fx).nw=true from hnw] at h; exact (hk _ h).n1 (C:=fun ds=>ExB fx _ (d7 _ _ .ret ds YA YB)) fun d a=>xA (a fx rfl rfl rfl)
  | false=>rw [show (bF fx).nw=false from hnw] at h; exact (hk _ h).n1 (C:=fun ds=>ExB fx _ (d7 _ _ .ret ds YA YB)) fun d a=>Af hnw (a fx rfl rfl rfl)
 | retC f=>exact AR (C:=fun x=>ExB fx (exec x fx.env) _) h fun e p h=>a2e h fun hnw h=>jX (C:=fun e=>ExB fx (exec (.Return (some e) p) fx.env) _) h fun n q xs r hf hx hs h=>jr (C:=fun Y=>ExB fx _ Y) (W:=fun xs G K=>al fx.g.P fx.d f xs fun y=>K (some y) G) h hk fun qs e1 e2=>xB e1 hx (H.fns▸hf) (H.keep _ _ hf) (fun e=>by rw [H.safe]; exact hs e) (Bool.not_eq_true' _▸hnw) e2
 | setL j=>exact pS (C:=fun x=>ExB fx (exec x fx.env) _) h fun t v p h=>xg (C:=fun t=>ExB fx (exec (.Assign [t] v p) fx.env) _) h fun u i sp h=>bp (C:=fun u=>ExB fx (exec (.Assign [.Subscript u i sp] v p) fx.env) _) h fun m q h=>a2e h fun h1 h=>a2e h fun h2 h=>a2e h fun h3 h=>(hk _ h).n2 (C:=fun ds=>ExB fx _ (d7 _ _ (.setL j) ds YA YB)) fun d e a b=>xy (eq_of_beq h1) h2 h3 (a fx rfl rfl rfl) (b fx rfl rfl rfl)
 | tryC f c j=>
  refine CD (C:=fun x=>ExB fx (exec x fx.env) _) h fun b t n hb' hp p h=>a2e h fun hh h=>?_
  have:Hm fx:=fh rfl hh
  obtain ⟨t,rfl,h⟩:=gv h
  refine bp (C:=fun t=>ExB fx (exec (.Try [b] [.ExceptHandler (some t) n hb' hp] [] [] p) fx.env) _) h fun C pC h=>a2e h fun h1 h=>a2e h fun h2 h=>?_
  obtain ⟨n,rfl,h⟩:=gv h
  refine a2e h fun h3 h=>a2e h fun h4 h=>a2e h fun h5 h=>a2e h fun h6 h=>?_
  refine AR (C:=fun b=>ExB fx (exec (.Try [b] _ [] [] p) fx.env) _) h fun e rp h=>a2e h fun hnw h=>jX (C:=fun e=>ExB fx (exec (.Try [.Return (some e) rp] _ [] [] p) fx.env) _) h fun fnm q xs r hf hx hs h=>?_
  refine jr (C:=fun Y=>ExB fx _ Y) (W:=fun xs G K=>al fx.g.P fx.d f xs fun y=>match lW y with
   | none=>K (some y) G
   | some d=>fx.g.P.sup d c=true∧YA (G.set j (.v y)) fun fl G'=>(match fl with | some x=>noX x=true | none=>False)∧K fl (G'.set j .unset)) h hk fun qs e1 e2=>?_
  exact xw top e1 hx (H.fns▸hf) (H.keep _ _ hf) (Bool.not_eq_true' _▸hnw) h1 (by rw [H.clss]; exact eq_of_beq h2) (eq_of_beq h3) (eq_of_beq h4) (fun e=>by replace h5:=e▸h5; (injection h5; done)) e2 fun A ef ed eu=>ha { fx with A:=A,hm:=true } _ rfl rfl (by obtain ⟨o,L,a,b⟩:=top.top; exact ⟨o,L,ef.trans a,b⟩) h6
 | ownD j=>exact pS (C:=fun x=>ExB fx (exec x fx.env) _) h fun t v p h=>bp (C:=fun t=>ExB fx (exec (.Assign [t] v p) fx.env) _) h fun m q h=>a2e h fun h1 h=>Bd (C:=fun v=>ExB fx (exec (.Assign [_] v p) fx.env) _) h fun ks vs q' h=>a2e h fun e1 h=>ln (C:=fun ks=>ExB fx (exec (.Assign [_] (.Dict ks vs q') p) fx.env) _) e1 (ln (C:=fun vs=>ExB fx (exec (.Assign [_] (.Dict [] vs q') p) fx.env) _) (a2 h).1 (xE (hO h1)))
 | setD j=>exact pS (C:=fun x=>ExB fx (exec x fx.env) _) h fun t v p h=>xg (C:=fun t=>ExB fx (exec (.Assign [t] v p) fx.env) _) h fun u i sp h=>bp (C:=fun u=>ExB fx (exec (.Assign [.Subscript u i sp] v p) fx.env) _) h fun m q h=>a2e h fun h1 h=>a2e h fun h2 h=>a2e h fun h3 h=>(hk _ h).n2 (C:=fun ds=>ExB fx _ (d7 _ _ (.setD j) ds YA YB)) fun d e a b=>xz (eq_of_beq h1) h2 (a2 h3).1 (a fx rfl rfl rfl) (b fx rfl rfl rfl)
 | popC j i f=>
  refine a2e h fun hh h=>?_
  have:Hm fx:=fh rfl hh
  exact pS (C:=fun x=>ExB fx (exec x fx.env) _) h fun t v p h=>bp (C:=fun t=>ExB fx (exec (.Assign [t] v p) fx.env) _) h fun m q h=>a2e h fun h1 h=>jX (C:=fun v=>ExB fx (exec (.Assign [_] v p) fx.env) _) h fun fnm fq xs r hf hx hs h=>Bc (C:=fun xs=>ExB fx (exec (.Assign [_] (.Call _ xs [] r) p) fx.env) _) h fun a b c d h=>a2e h fun hp h=>a2e h fun hpl hkk=>CF (C:=fun b=>ExB fx (exec (.Assign [_] (.Call _ [a,b,c,d] [] r) p) fx.env) _) hp fun n np ap pp hl hn1 hn2=>(hk _ hkk).n3 (C:=fun ds=>ExB fx _ (d7 _ _ (.popC j i f) ds YA YB)) fun da dc dd g1 g2 g3=>
   xC (d1:=da) (q2:=fun G=>[(c,dc G),(d,dd G)]) (hO h1) hx (H.fns▸hf) (H.keep _ _ hf) (fun e=>by rw [H.safe]; exact hs e) hn1 hn2 hl (List.all_eq_true.mp hpl a (.head _)) (g1 fx rfl rfl rfl) (fun _=>rfl) fun oa G=>zA1 ⟨⟨List.all_eq_true.mp hpl c (.tail _ (.head _)),g2 fx rfl rfl rfl oa G⟩,List.forall_mem_singleton.mpr ⟨List.all_eq_true.mp hpl d (.tail _ (.tail _ (.head _))),g3 fx rfl rfl rfl oa G⟩⟩
 | ite=>exact CG (C:=fun x=>ExB fx (exec x fx.env) _) h fun c a b p h=>a2e h fun h1 h=>(hk _ h1).n1 (C:=fun ds=>ExB fx _ (d7 _ _ .ite ds YA YB)) fun d q=>BO (q fx rfl rfl rfl) (ha fx _ rfl rfl top (a2 h).1) (hb fx _ rfl rfl top (a2 h).2)
 | forS j=>
  refine a2e h fun hh h=>?_
  have:Hm fx:=fh rfl hh
  exact Cg (C:=fun x=>ExB fx (exec x fx.env) _) h fun T it body p h=>a2e h fun h2 h=>a2e h fun h3 h=>bp (C:=fun T=>ExB fx (exec (.For T it body [] p) fx.env) _) h fun m q h=>(hk _ (a2 h).2).n1 (C:=fun ds=>ExB fx _ (d7 _ _ (.forS j) ds YA YB)) fun d a=>vY h2 (uh (hO (a2 h).1)) (a fx rfl rfl rfl) fun X=>ha (fx.mo X) _ rfl rfl ⟨top.top⟩ h3
 | forM js=>
  refine a2e h fun hh h=>?_
  have:Hm fx:=fh rfl hh
  exact Cg (C:=fun x=>ExB fx (exec x fx.env) _) h fun T it body p h=>a2e h fun h2 h=>a2e h fun h3 h=>xf (C:=fun T=>ExB fx (exec (.For T it body [] p) fx.env) _) h fun es j q h=>(hk _ (a2 h).2).n1 (C:=fun ds=>ExB fx _ (d7 _ _ (.forM js) ds YA YB)) fun d a=>vY h2 (ug (lG (a2 h).1)) (a fx rfl rfl rfl) fun X=>ha (fx.mo X) _ rfl rfl ⟨top.top⟩ h3
 | raise c=>
  refine a2e h fun hh h=>?_
  have:Hm fx:=fh rfl hh
  refine lRs (C:=fun x=>ExB fx (exec x fx.env) _) h fun e p h=>tI (C:=fun e=>ExB fx (exec (.Raise (some e) none p) fx.env) _) h fun u xs ks r h=>bp (C:=fun u=>ExB fx (exec (.Raise (some (.Call u xs ks r)) none p) fx.env) _) h fun n q h=>a2e h fun h1 h=>a2e h fun h2 h=>a2e h fun h3 h=>ln (C:=fun ks=>ExB fx (exec (.Raise (some (.Call _ xs ks r)) none p) fx.env) _) h3 (l1 (C:=fun xs=>ExB fx (exec (.Raise (some (.Call _ xs [] r)) none p) fx.env) _) h fun z h=>vR (C:=fun z=>ExB fx (exec (.Raise (some (.Call _ [z] [] r)) none p) fx.env) _) h fun c' kk cp e=>?_)
  cases c' with
  | str t=>exact uX h1 (by rw [H.clss]; exact eq_of_beq h2)
  | _=>(injection e; done)
 | _=>(injection h; done)
theorem w6 (H:GOk g Z) (hk:∀ ts,k ts=true→Kids g n ts ds) (ha:SOk g n ca YA) (hb:SOk g n cb YB):MOk g n (wn Z o k ca cb) (d7 g.P.sup (al g.P n) o ds YA YB):=fun fx sts rest Y hg hn top hr h=>by
 subst hg hn
 have go:∀ {o:SOp},B7 (wm Z o k ca cb (bF fx)) rest sts=true→ExB fx (execs sts fx.env) (wa (d7 fx.g.P.sup (al fx.g.P fx.d) o ds YA YB) Y):=fun {o} h=>by
  cases sts with
  | nil=>(injection h; done)
  | cons x r=>exact ex_cons (wG H top hk ha hb (a2 h).1) (hr r (a2 h).2)
 cases o with
 | freeze j=>exact tn (hr sts h)
 | freezeD j=>exact qp (hr sts h)
 | _=>exact go h
theorem vG:SOk g n (fun _ sts=>sts.isEmpty) (fun G K=>K none G):=fun fx sts _ _ _ h=>ln (C:=fun sts=>ExB fx (execs sts fx.env) _) h Ag
theorem vx (h1:MOk g n c W) (h2:SOk g n is Y):SOk g n (fun X sts=>c X sts (is X)) (wa W Y):=fun fx sts hg hn top h=>h1 fx sts (is (bF fx)) Y hg hn top (fun r q=>h2 fx r hg hn top q) h
theorem Cz (H:GOk g Z) (s:S):MOk g n (AU Z s) (ex g.P.sup (al g.P n) s):=
 S.rec (motive_1:=fun s=>MOk g n (AU Z s) (ex g.P.sup (al g.P n) s))
  (motive_2:=fun l=>SOk g n (S.rec_1 (motive_1:=fun _=>CkM) (motive_2:=fun _=>CkS) (fun o es _ _ a b X sts rest=>wn Z o (pW (es.map (xP Z))) a b X sts rest) (fun _ sts=>sts.isEmpty) (fun _ _ i is X sts=>i X sts (is X)) l)
   (S.rec_1 (motive_1:=fun _=>B) (motive_2:=fun _=>B) (fun o es _ _ x y=>d7 g.P.sup (al g.P n) o (es.map (ev (al g.P n))) x y) (fun G K=>K none G) (fun _ _ i is G K=>i G fun fl G'=>match fl with | none=>is G' K | some x=>K (some x) G') l))
  (fun o es a b ha hb=>w6 H (yg H es) ha hb) vG (fun s l i is=>vx i is) s
theorem yf (H:GOk g Z):∀ l:List S,SOk g n (chkSs Z l) (exs g.P.sup (al g.P n) l)
 | []=>vG
 | s :: r=>vx (Cz H s) (yf H r)
end
def cZ (h:Heap) (L:Addr):Prop:=∃ o,h.get? L=some o∧o.cls=.type "frame"
section
variable {M:Model} {A:Around} {E:Value→Shared→Prop} {s₀ s:Shared} {m cm:Str→Option Value} {env:Env}
theorem Cx (x:InCallC s₀ env.locals m env.cells cm s) (fr:cZ s.heap env.locals) (hk:env.scope.kind=.function) (hl:env.kindOf n=some .local)
  (h:∀ s',InCallC s₀ env.locals (fun y=>if y=n then some v else m y) env.cells cm s'→cZ s'.heap env.locals→Q () s'):wpAny M A (storeName env n v) Q E s:=by
 rw [storeName_local hl (by rw [hk]; rfl)]
 refine fu x.toInCall.ns fun h' hn' hs' hc'=>h _ ⟨⟨?_,hn',fun b o e=>?_,x.toInCall.fresh⟩,fun k c hc=>?_,x.apart,x.above⟩ ?_
 ·obtain ⟨h₁,tk,rfl⟩:=x.toInCall.same
  exact ⟨h',_,rfl⟩
 ·exact hs'.extBut b o (Nat.ne_of_lt (Nat.lt_of_lt_of_le (Heap.lt_size e) x.toInCall.fresh)) (x.toInCall.keep b o e)
 ·exact (x.cell k c hc).sameBut hs' (Nat.ne_of_gt (x.above k c (mem_of_lookup hc)))
 ·obtain ⟨o,e,c⟩:=fr
  obtain ⟨o',e',c'⟩:=hc' o e
  exact ⟨o',e',c'.trans c⟩
theorem Cy (x:InCallC s₀ env.locals m env.cells cm s) (fr:cZ s.heap env.locals) (hk:env.scope.kind=.function) (hl:env.kindOf n=some .cell)
  (hc:env.cells.lookup n=some c)
  (h:∀ s',InCallC s₀ env.locals m env.cells (fun y=>if y=n then some v else cm y) s'→cZ s'.heap env.locals→Q () s'):wpAny M A (storeName env n v) Q E s:=by
 have hLc:=x.above n c (mem_of_lookup hc)
 refine wpAny_storeName_cell hk hl hc (x.cell n c hc) fun h' hc' hs'=>h _ ⟨⟨?_,x.toInCall.ns.sameBut hs' (Nat.ne_of_lt hLc),fun b o e=>?_,x.toInCall.fresh⟩,fun k c' hk'=>?_,x.apart,x.above⟩ ?_
 ·obtain ⟨h₁,tk,rfl⟩:=x.toInCall.same
  exact ⟨h',_,rfl⟩
 ·exact hs'.extBut b o (Nat.ne_of_lt (Nat.lt_trans (Nat.lt_of_lt_of_le (Heap.lt_size e) x.toInCall.fresh) hLc)) (x.toInCall.keep b o e)
 ·by_cases hkn:k=n
  ·subst hkn
   rw [hc] at hk'; (injection hk' with hk'; subst hk')
   simpa using hc'
  ·rw [if_neg hkn]
   exact (x.cell k c' hk').sameBut hs' fun e=>hkn (name_of_addr x.apart (mem_of_lookup hk') (e▸mem_of_lookup hc))
 ·obtain ⟨o,e,hcl⟩:=fr
  exact ⟨o,hs'.extBut _ o (Nat.ne_of_lt hLc) e,hcl⟩
theorem d0 (f:Str×Value→PUnit→Sem (ForInStep PUnit)) (hf:∀ n v u,f (n,v) u=(do storeName env n v; pure (.yield ⟨⟩))) (hk:env.scope.kind=.function) :
  ∀ (binds:List (Str×Value)) (m cm:Str→Option Value) (s:Shared) (Q:PUnit→Shared→Prop),InCallC s₀ env.locals m env.cells cm s→cZ s.heap env.locals →
   (∀ x∈binds,env.kindOf x.1=some .local∨(env.kindOf x.1=some .cell∧(env.cells.lookup x.1).isSome=true)) →
   (∀ s',InCallC s₀ env.locals (bindL env.kindOf binds m) env.cells (bindC env.kindOf binds cm) s'→cZ s'.heap env.locals→Q ⟨⟩ s')→wpAny M A (forIn binds ⟨⟩ f) Q E s
 | [],m,cm,s,Q,x,fr,_,h=>by rw [List.forIn_nil]; exact zC2 (h s x fr)
 | (n,v) :: r,m,cm,s,Q,x,fr,hkind,h=>by
  rw [List.forIn_cons,hf]
  have hr:∀ y∈r,env.kindOf y.1=some .local∨(env.kindOf y.1=some .cell∧(env.cells.lookup y.1).isSome=true):=fun y hy=>hkind y (List.mem_cons_of_mem _ hy)
  rcases hkind (n,v) List.mem_cons_self with hl | ⟨hl,hc⟩
  ·refine zC1 (zC1 (Cx x fr hk hl fun s' x' fr'=>zC2 (d0 f hf hk r _ _ s' Q x' fr' hr fun s'' x''=>h s'' ?_)))
   unfold bindL bindC; rw [if_pos hl,if_pos hl]; exact x''
  ·obtain ⟨c,hc⟩:=Option.isSome_iff_exists.mp hc
   have hnl:¬ env.kindOf n=some .local:=by rw [hl]; decide
   refine zC1 (zC1 (Cy x fr hk hl hc fun s' x' fr'=>zC2 (d0 f hf hk r _ _ s' Q x' fr' hr fun s'' x''=>h s'' ?_)))
   unfold bindL bindC; rw [if_neg hnl,if_neg hnl]; exact x''
theorem w3 {scope:Scope} {globals:Addr} {binds:List (Str×Value)} {qual:Str} {func:Option Addr} {code:Value} {builtins:Addr} {Q:Env→Shared→Prop}
  (hk:scope.kind=.function)
  (hkind:∀ x∈binds,scope.names.lookup x.1=some .local∨(scope.names.lookup x.1=some .cell∧((cellsFrom (s.heap.objs.size+1) scope.names []).lookup x.1).isSome=true))
  (hQ:∀ env,env=newEnv scope s.heap.objs.size globals (cellsFrom (s.heap.objs.size+1) scope.names []) qual func code none builtins →
   ∀ s',InCallC s env.locals (bindL env.kindOf binds fun _=>none) env.cells (bindC env.kindOf binds fun _=>none) s'→cZ s'.heap env.locals→Q env s') :
  wpAny M A (newFunctionEnv scope globals [] binds qual func code none builtins) Q E s:=by
 simp only [newFunctionEnv,Option.isSome_none,Bool.false_eq_true,if_false]
 refine zC1 (wpAny_alloc ?_)
 refine zC1 (wpAny_layCells _ (fun name kind cells=>by cases hkc:kind==NameKind.cell <;> simp [hkc]) _ _ _ _ ?_)
 have ok:=cellsFrom_ok scope.names (s.heap.push { cls:=.type "frame",data:=.dict #[] }) (s.heap.objs.size+1) [] ⟨fun _ _ hm=>(nM hm),List.Pairwise.nil⟩ (by rw [Heap.size_push]; exact Nat.le_refl _)
 rw [Heap.size_push] at ok
 rw [show ({ s with heap:=s.heap.push { cls:=.type "frame",data:=.dict #[] } }:Shared).heap.objs.size=s.heap.objs.size+1 from Heap.size_push ..]
 refine zC1 (d0 (s₀:=s) (env:=newEnv scope s.heap.objs.size globals (cellsFrom (s.heap.objs.size+1) scope.names []) qual func code none builtins)
  _ (fun _ _ _=>rfl) hk binds (fun _=>none) (fun _=>none) _ _
  ⟨⟨⟨_,_,rfl⟩,(Heap.Ns.new s.heap (.type "frame")).keeps (pushCells_keeps _ _),fun b o e=>pushCells_keeps _ _ b o (Heap.get?_push_of_some _ e),Nat.le_refl _⟩,
   fun n c hc=>(ok.empty n c (mem_of_lookup hc)).1,ok.apart,fun n c hm=>(ok.empty n c hm).2⟩
  ⟨_,pushCells_keeps _ _ _ _ (Heap.get?_push_size _ rfl),rfl⟩
  hkind fun s' x fr=>zC2 (hQ _ rfl s' x fr))
end
section
variable {prog:Program} {w:World} {A:Around} {s:Shared}
theorem BX {R:Result→Shared→Prop} {body:List Stmt} {vals:List Value} {binds:List (Str×Value)}
  (hroom:A.depth < recursionLimit) (ho:s.heap.get? a=some o) (hdata:o.data=.func fd) (hlim:s.heap.NoLimit) (hcd:s.heap.CodeRec fd.code fd.qualname)
  (hbody:fd.body=.stmts body) (hbind:bindArgs fd ⟨vals,[]⟩=pure binds) (hclo:fd.closure=[])
  (hkind:∀ x∈binds,fd.scope.names.lookup x.1=some .local∨(fd.scope.names.lookup x.1=some .cell∧((cellsFrom (s.heap.objs.size+1) fd.scope.names []).lookup x.1).isSome=true))
  (hco:fd.scope.isCoroutine=false) (hgen:fd.scope.isGenerator=false) (hk:fd.scope.kind=.function)
  (h:∀ s₁,InCallC s (callEnvC fd s.heap.objs.size a).locals (bindL (callEnvC fd s.heap.objs.size a).kindOf binds fun _=>none) (callEnvC fd s.heap.objs.size a).cells
    (bindC (callEnvC fd s.heap.objs.size a).kindOf binds fun _=>none) s₁→cZ s₁.heap (callEnvC fd s.heap.objs.size a).locals →
   wpAny (model prog w) (A.deeper (callEnvC fd s.heap.objs.size a)) (execs body (callEnvC fd s.heap.objs.size a)) (fun f s'=>R (.ok (.ret (match f with | .ret v=>v | _=>.none))) s')
    (fun e s'=>wpAny (model prog w) (A.deeper (callEnvC fd s.heap.objs.size a)) (leaving (callEnvC fd s.heap.objs.size a) e) (fun _ s''=>R (.error e) s'') (fun e' s''=>R (.error e') s'') s') s₁) :
  codeAny (model prog w) A (.call (.ref a) ⟨vals,[]⟩) R s:=by
 refine codeAny_call_function hroom ho hdata hco hgen hbody hcd ?_
 rw [hbind,hclo]
 refine zC2 (w3 hk hkind fun env he s' x fr=>?_)
 subst he
 exact ⟨hlim.keeps x.toInCall.keep,codeAny_func (h s' x fr)⟩
end
theorem dF:∀ (names:List (Str×NameKind)) (n:Nat) (acc:List (Str×Addr)) (x:Str),((x,NameKind.cell)∈names∨(acc.lookup x).isSome=true)→((cellsFrom n names acc).lookup x).isSome=true
 | [],_,_,_,h=>by
  rcases h with h | h
  ·cases h
  ·exact h
 | (y,k) :: r,n,acc,x,h=>by
  unfold cellsFrom
  have more:∀ q:Str×Addr,(acc.lookup x).isSome=true→((q :: acc).lookup x).isSome=true:=fun q e=>by
   rw [List.lookup_cons]; split
   ·rfl
   ·exact e
  split
  ·refine dF r _ _ x ?_
   rcases h with h | h
   ·rcases List.mem_cons.mp h with e | e
    ·(injection e with e; subst e); right; rw [List.lookup_cons]; simp
    ·exact .inl e
   ·exact .inr (more _ h)
  ·rename_i hk
   refine dF r _ _ x ?_
   rcases h with h | h
   ·rcases List.mem_cons.mp h with e | e
    ·cases e; exact absurd rfl hk
    ·exact .inl e
   ·exact .inr h
theorem lh {kindOf:Str→Option NameKind} (hx:kindOf x=some .local):∀ (ps:List Str) (vs:List Value) (m:Str→Option Value),ps.Nodup→ps.length=vs.length →
  (∀ i:Nat,ps[i]?=some x→bindL kindOf (ps.zip vs) m x=vs[i]?)∧(x∉ps→bindL kindOf (ps.zip vs) m x=m x)
 | [],_,m,_,_=>⟨fun i e=>by simp at e,fun _=>by simp [bindL]⟩
 | p :: ps,[],m,_,e=>by simp at e
 | p :: ps,v :: vs,m,hn,e=>by
  obtain ⟨hp,hn'⟩:=List.nodup_cons.mp hn
  have ih:=fun m=>lh hx ps vs m hn' (Nat.succ.inj e)
  refine ⟨fun i ei=>?_,fun nx=>?_⟩
  ·refine (?_:bindL kindOf (ps.zip vs) _ x=_)
   cases i with
   | zero=>
    (injection ei with ei; subst ei)
    rw [(ih _).2 hp,if_pos hx]; exact if_pos rfl
   | succ i=>exact (ih _).1 i ei
  ·refine (?_:bindL kindOf (ps.zip vs) _ x=_)
   rw [(ih _).2 fun q=>nx (.tail _ q)]
   split
   ·exact if_neg fun q:x=p=>nx (q▸.head _)
   ·rfl
theorem li {kindOf:Str→Option NameKind} (hx:kindOf x≠some .local):∀ (ps:List Str) (vs:List Value) (m:Str→Option Value),ps.Nodup→ps.length=vs.length →
  (∀ i:Nat,ps[i]?=some x→bindC kindOf (ps.zip vs) m x=vs[i]?)∧(x∉ps→bindC kindOf (ps.zip vs) m x=m x)
 | [],_,m,_,_=>⟨fun i e=>by simp at e,fun _=>by simp [bindC]⟩
 | p :: ps,[],m,_,e=>by simp at e
 | p :: ps,v :: vs,m,hn,e=>by
  obtain ⟨hp,hn'⟩:=List.nodup_cons.mp hn
  have ih:=fun m=>li hx ps vs m hn' (Nat.succ.inj e)
  refine ⟨fun i ei=>?_,fun nx=>?_⟩
  ·refine (?_:bindC kindOf (ps.zip vs) _ x=_)
   cases i with
   | zero=>
    (injection ei with ei; subst ei)
    rw [(ih _).2 hp,if_neg hx]; exact if_pos rfl
   | succ i=>exact (ih _).1 i ei
  ·refine (?_:bindC kindOf (ps.zip vs) _ x=_)
   rw [(ih _).2 fun q=>nx (.tail _ q)]
   split
   ·rfl
   ·exact if_neg fun q:x=p=>nx (q▸.head _)
theorem eN:∀ (l:List Str) (n:Nat) (x:Str) (k:Nat),(l.zipIdx n).lookup x=some k→∃ j,k=n+j∧l[j]?=some x
 | [],_,_,_,e=>nN e.symm
 | y :: r,n,x,k,e=>by
  rw [List.zipIdx_cons,List.lookup_cons] at e
  cases hb:x==y with
  | true=>replace e:=hb▸e; (injection e with e; subst e); rw [beq_iff_eq.mp hb]; exact ⟨0,rfl,rfl⟩
  | false=>
   rw [hb] at e
   obtain ⟨j,h1,h2⟩:=eN r (n+1) x k e
   exact ⟨j+1,by rw [h1,Nat.add_assoc,Nat.add_comm 1],h2⟩
structure FnAt (g:Gl) (a:Addr) (fn:Fn) (fd:FuncData) (body:List Stmt) (nms:List Str):Prop where
 at':∃ o:Obj,g.h0.get? a=some o∧o.data=.func fd
 bd:fd.body=.stmts body
 code:g.h0.CodeRec fd.code fd.qualname
 glo:fd.globals=mainGlobals
 blt:fd.builtins=builtinsNs
 clo:fd.closure=[]
 co:fd.scope.isCoroutine=false
 gen:fd.scope.isGenerator=false
 kind:fd.scope.kind=.function
 bind:∀ vals:List Value,vals.length=fn.npar→bindArgs fd ⟨vals,[]⟩=pure ((nms.take fn.npar).zip vals)
 nodup:nms.Nodup
 npar:fn.npar≤nms.length
 nslots:nms.length≤fn.nslots
 kinds:∀ x∈nms,fd.scope.names.lookup x=some .local∨fd.scope.names.lookup x=some .cell
noncomputable def jU (nms:List Str) (sc:List (Str×NameKind)) (L:Addr) (cs:List (Str×Addr)) (k:Nat):Pl:=match nms[k]? with
 | none=>.off
 | some x=>if sc.lookup x=some .local then .ns L x else match cs.lookup x with | some c=>.cell c | none=>.off
noncomputable def vX (g:Gl) (A:Around) (fd:FuncData) (nms:List Str) (ns:Nat) (a L:Addr) (bad:Addr→Prop) (d:Nat) (hm nw:Bool):Fx:=
 { g:=g,A:=A.deeper (callEnvC fd L a),env:=callEnvC fd L a,ρ:=nms.zipIdx,pl:=jU nms fd.scope.names L (cellsFrom (L+1) fd.scope.names []),Mo:=bad,nf:=nms.length,ns:=ns,d:=d,hm:=hm,nw:=nw }
section
variable {g:Gl} {a:Addr} {fn:Fn} {fd:FuncData} {body:List Stmt} {nms:List Str}
theorem pl_cases (F:FnAt g a fn fd body nms) (L n:Nat) (k:Nat):(nms[k]?=none∧jU nms fd.scope.names L (cellsFrom n fd.scope.names []) k=.off)∨∃ x,nms[k]?=some x∧((fd.scope.names.lookup x=some .local∧jU nms fd.scope.names L (cellsFrom n fd.scope.names []) k=.ns L x) ∨
  (fd.scope.names.lookup x=some .cell∧∃ c,(cellsFrom n fd.scope.names []).lookup x=some c∧jU nms fd.scope.names L (cellsFrom n fd.scope.names []) k=.cell c)):=by
 unfold jU
 cases hk:nms[k]? with
 | none=>exact .inl ⟨rfl,rfl⟩
 | some x=>
  refine .inr ⟨x,rfl,(F.kinds x (List.mem_of_getElem? hk)).imp (fun h=>⟨h,if_pos h⟩) fun h=>⟨h,?_⟩⟩
  obtain ⟨c,hc⟩:=Option.isSome_iff_exists.mp (dF fd.scope.names n [] x (.inl (mem_of_lookup h)))
  refine ⟨c,hc,(if_neg fun q=>?_).trans ?_⟩
  ·replace q:=h▸q; cases q
  ·rw [hc]
theorem Bi (F:FnAt g a fn fd body nms) (gr:Ground g) (ih:eX g (al g.P d) d) (hand:ny hm A) (hroom:A.depth+(1+2 * d) < 990) (hunits:A.units+(3+4 * d)+100 < cLine)
  (above:∀ x c,(cellsFrom (L+1) fd.scope.names []).lookup x=some c→L < c) (apart:(cellsFrom (L+1) fd.scope.names []).Pairwise fun x y=>x.2≠y.2) (hb0:∀ b,bad b→g.h0.get? b=none) :
  FxOk (vX g A fd nms fn.nslots a L bad d hm nw) where
 gr:=gr
 hand:=hand
 kind:=F.kind
 globals:=F.glo
 builtins:=F.blt
 vis:=fun x k hx=>by
  obtain ⟨j,rfl,hj⟩:=eN nms 0 x k hx
  rw [Nat.zero_add]
  rcases pl_cases F L (L+1) j with ⟨q,_⟩ | ⟨y,q,z⟩ <;> rw [hj] at q <;> cases q
  exact z.imp (fun z=>⟨z.1,z.2⟩) fun ⟨z,c,hc,zp⟩=>⟨.inl z,c,hc,zp⟩
 inj:=fun k j e hne=>by
  rcases pl_cases F L (L+1) k with ⟨_,q⟩ | ⟨x,qk,zk⟩
  ·exact absurd q hne
  rcases pl_cases F L (L+1) j with ⟨_,q⟩ | ⟨y,qj,zj⟩
  ·exact absurd (e.trans q) hne
  have e:jU nms fd.scope.names L (cellsFrom (L+1) fd.scope.names []) k=jU nms fd.scope.names L (cellsFrom (L+1) fd.scope.names []) j:=e
  have:x=y:=by
   rcases zk with ⟨_,q⟩ | ⟨_,c,q1,q⟩ <;> rcases zj with ⟨_,q'⟩ | ⟨_,c',q1',q'⟩ <;> rw [q,q'] at e <;> cases e
   ·rfl
   ·exact name_of_addr apart (mem_of_lookup q1) (mem_of_lookup q1')
  subst this
  exact (List.getElem?_inj (List.getElem?_eq_some_iff.mp qk).1 F.nodup).mp (qk.trans qj.symm)
 apart:=fun k j b x c e1 e2=>by
  have e1:jU nms fd.scope.names L (cellsFrom (L+1) fd.scope.names []) k=.ns b x:=e1
  have e2:jU nms fd.scope.names L (cellsFrom (L+1) fd.scope.names []) j=.cell c:=e2
  rcases pl_cases F L (L+1) k with ⟨_,q⟩ | ⟨y,_,⟨_,q⟩ | ⟨_,_,_,q⟩⟩ <;> rw [q] at e1 <;> cases e1
  rcases pl_cases F L (L+1) j with ⟨_,q⟩ | ⟨y,_,⟨_,q⟩ | ⟨_,c',q1,q⟩⟩ <;> rw [q] at e2 <;> cases e2
  exact Nat.ne_of_lt (above y _ q1)
 offs:=fun k hk=>by
  rcases pl_cases F L (L+1) k with ⟨_,q⟩ | ⟨y,q,_⟩
  ·exact q
  ·exact absurd (List.getElem?_eq_some_iff.mp q).1 (Nat.not_lt.mpr hk)
 nfs:=F.nslots
 room:=by refine (?_:A.depth+1+2 * d < 990); rw [Nat.add_assoc]; exact hroom
 units:=by refine (?_:A.units+3+4 * d+100 < cLine); rw [Nat.add_assoc A.units]; exact hunits
 call:=ih
 mo0:=hb0
end
section
variable {g:Gl} {a:Addr} {fn:Fn} {fd:FuncData} {body:List Stmt} {nms:List Str}
theorem vz {bad:Addr→Prop} {oa0:Nat→Option Addr} {K:Option V→Gs→Prop} {R:Result→Shared→Prop} (F:FnAt g a fn fd body nms) (gr:Ground g) (ih:eX g (al g.P d) d)
  (hand:ny hm A) (hfrs:fk g A s.heap) (hroom:A.depth+(1+2 * d) < 990) (hunits:A.units+(3+4 * d)+100 < cLine) (B:Base g s) (hbad:∀ b,bad b→aQ s.heap b) (hb0:∀ b,bad b→g.h0.get? b=none) (hlen:vals.length=fn.npar) (hG:G0.length=fn.nslots)
  (hoa:∀ k b,oa0 k=some b→k=0∧aQ s.heap b∧g.h0.get? b=none∧¬ bad b)
  (hsl:∀ k,k < fn.npar→dS g (fun b=>bad b∨∃ k,oa0 k=some b) s.heap (oa0 k) vals[k]? (getSlot G0 k)) (hun:∀ k,¬ k < fn.npar→getSlot G0 k=.unset∧oa0 k=none) (sim:∀ L,ExB (vX g A fd nms fn.nslots a L bad d hm nw) (execs body (callEnvC fd L a)) (exs g.P.sup (al g.P d) fn.body)) (hb:exs g.P.sup (al g.P d) fn.body G0 K)
  (hR:∀ s' (Φ':Ct) f fl,(fl=none→Inv Φ' s')→Base g s'→Φ'.fx.g=g→Φ'.fx.Mo=bad→Φ'.fx.nw=nw→(∀ b o,s.heap.get? b=some o→(∀ k,oa0 k≠some b)→bz s'.heap b o)→(∀ k b,Φ'.oa k=some b→isI (getSlot Φ'.G k)→oa0 k=some b)→xU Φ' s s'.heap f fl→K fl Φ'.G →
   R (.ok (.ret (match f with | .ret v=>v | _=>.none))) s')
  (hX:∀ s' c e G',c < g.nc→Base g s'→(∀ b o,s.heap.get? b=some o→(∀ k,oa0 k≠some b)→bz s'.heap b o)→ExcAt s'.heap s.heap e (.ref (g.cls c)) .none→K (some (fA c)) G'→R (.error (.ref e)) s'):codeAny (model g.prog g.w) A (.call (.ref a) ⟨vals,[]⟩) R s:=by
 obtain ⟨o,ho,hd⟩:=F.at'
 have dead:∀ a,s.heap.objs.size≤a→s.heap.get? a=none:=fun a ha=>by
  cases e:s.heap.get? a with
  | none=>rfl
  | some o=>exact absurd (Heap.lt_size e) (Nat.not_lt.mpr ha)
 have cok:=cellsFrom_ok fd.scope.names (s.heap.push { cls:=.type "frame",data:=.dict #[] }) (s.heap.objs.size+1) [] ⟨fun _ _ hm=>(nM hm),List.Pairwise.nil⟩ (by rw [Heap.size_push]; exact Nat.le_refl _)
 rw [Heap.size_push] at cok
 have above:∀ x c,(cellsFrom (s.heap.objs.size+1) fd.scope.names []).lookup x=some c→s.heap.objs.size < c:=fun x c hx=>(cok.empty x c (mem_of_lookup hx)).2
 have ok:=Bi (bad:=bad) (hm:=hm) (nw:=nw) F gr ih hand hroom hunits above cok.apart hb0
 have hkc:∀ x∈nms,fd.scope.names.lookup x=some .local∨(fd.scope.names.lookup x=some .cell∧((cellsFrom (s.heap.objs.size+1) fd.scope.names []).lookup x).isSome=true):=fun x hx=>(F.kinds x hx).imp id fun h=>⟨h,dF _ _ _ _ (.inl (mem_of_lookup h))⟩
 refine BX (o:=o) (fd:=fd) (body:=body) (binds:=(nms.take fn.npar).zip vals) (show A.depth < 1000 from Nat.lt_trans (Nat.lt_of_le_of_lt (Nat.le_add_right _ _) hroom) (by decide)) (B.stays _ _ ho) hd (gr.nolim.keeps fun b o e=>B.stays b o e) (F.code.keeps fun b o e=>B.stays b o e) F.bd (F.bind vals hlen) F.clo
  (fun x hx=>hkc x.1 (List.mem_of_mem_take (List.of_mem_zip hx).1)) F.co F.gen F.kind (fun s₁ ic fcl=>?_)
 let fx:Fx:=vX g A fd nms fn.nslots a s.heap.objs.size bad d hm nw
 have sim:ExB fx (execs body fx.env) (exs g.P.sup (al g.P d) fn.body):=sim s.heap.objs.size
 have plDead:∀ k b,(fx.pl k).addr=some b→s.heap.get? b=none:=fun k b e=>by
  have e:(jU nms fd.scope.names s.heap.objs.size (cellsFrom (s.heap.objs.size+1) fd.scope.names []) k).addr=some b:=e
  rcases pl_cases F s.heap.objs.size (s.heap.objs.size+1) k with ⟨_,q⟩ | ⟨y,_,⟨_,q⟩ | ⟨_,c,q1,q⟩⟩ <;> rw [q] at e <;> (first | (injection e; done) | (injection e with e; subst e))
  ·exact dead _ (Nat.le_refl _)
  ·exact dead _ (Nat.le_of_lt (above y _ q1))
 have kp:aH s.heap s₁.heap:=ic.toInCall.keep
 obtain ⟨hs₁,tk₁,es₁⟩:=ic.toInCall.same
 have notOwn:∀ b,aQ s.heap b→(∀ k,oa0 k≠some b)→¬ (Ct.mk fx oa0 G0).own b:=fun b l n q=>by
  rcases q with ⟨k,q⟩ | ⟨k,q⟩
  ·obtain ⟨o,e⟩:=l; rw [plDead k b q] at e; (injection e; done)
  ·exact n k q
 have mk:cU (fun b=>bad b∨∃ k,oa0 k=some b) (Ct.mk fx oa0 G0).bad s.heap s₁.heap:=fun b o e _ n=>⟨fun q=>q.elim (fun q=>n (.inl q)) (notOwn b ⟨o,e⟩ fun k q=>n (.inr ⟨k,q⟩)),kp b o e⟩
 have hpar:(nms.take fn.npar).length=vals.length:=by rw [List.length_take,hlen]; exact Nat.min_eq_left F.npar
 have hpnd:(nms.take fn.npar).Nodup:=F.nodup.sublist (List.take_sublist _ _)
 have inPar:∀ k x,nms[k]?=some x→k < fn.npar→(nms.take fn.npar)[k]?=some x:=fun k x hk hlt=>by rw [List.getElem?_take_of_lt hlt]; exact hk
 have notPar:∀ k x,nms[k]?=some x→¬ k < fn.npar→x∉nms.take fn.npar:=fun k x hk hge hm=>by
  obtain ⟨j,hj⟩:=List.getElem?_of_mem hm
  have hjl:j < fn.npar:=Nat.lt_of_lt_of_le (List.getElem?_eq_some_iff.mp hj).1 (List.length_take_le _ _)
  rw [List.getElem?_take_of_lt hjl] at hj
  exact hge ((List.getElem?_inj (List.getElem?_eq_some_iff.mp hj).1 F.nodup).mp (hj.trans hk.symm)▸hjl)
 have slot:∀ k,∃ v,aZ s₁.heap (fx.pl k) v∧(k < fn.npar→v=vals[k]?)∧(¬ k < fn.npar→v=none):=fun k=>by
  rcases pl_cases F s.heap.objs.size (s.heap.objs.size+1) k with ⟨e,q⟩ | ⟨x,hk,⟨h1,q⟩ | ⟨h1,c,h2,q⟩⟩
  ·exact ⟨none,by refine (?_:aZ _ (jU _ _ _ _ _) _); rw [q]; rfl,fun hlt=>absurd hlt (Nat.not_lt.mpr (zB1 F.npar (List.getElem?_eq_none_iff.mp e))),fun _=>rfl⟩
  ·have bl:=lh (kindOf:=(callEnvC fd s.heap.objs.size a).kindOf) (x:=x) h1 (nms.take fn.npar) vals (fun _=>none) hpnd hpar
   exact ⟨_,by refine (?_:aZ _ (jU _ _ _ _ _) _); rw [q]; exact ⟨_,ic.toInCall.ns,rfl⟩,fun hlt=>bl.1 k (inPar k x hk hlt),fun hge=>bl.2 (notPar k x hk hge)⟩
  ·have bc:=li (kindOf:=(callEnvC fd s.heap.objs.size a).kindOf) (x:=x) (fun z=>by have z:fd.scope.names.lookup x=some .local:=z; rw [h1] at z; cases z) (nms.take fn.npar) vals (fun _=>none) hpnd hpar
   exact ⟨_,by refine (?_:aZ _ (jU _ _ _ _ _) _); rw [q]; exact ic.cell x c h2,fun hlt=>bc.1 k (inPar k x hk hlt),fun hge=>bc.2 (notPar k x hk hge)⟩
 obtain ⟨l,hl,fl⟩:=hfrs
 have fr₁':gx g.h0 s₁.heap (callEnvC fd s.heap.objs.size a :: l):=fun env m=>by
  cases m with
  | head=>
   obtain ⟨o',e',c'⟩:=fcl
   obtain ⟨on,_,_,en,dn,_⟩:=ic.toInCall.ns
   (injection e'.symm.trans en with Xq; subst Xq)
   exact ⟨by refine (?_:fd.scope.kind≠_); rw [F.kind]; exact nofun,_,o',rfl,aM (fun l=>B.stays.live l) (ak _),e',c',fun vs q=>nomatch dn.symm.trans q⟩
  | tail _ m=>exact (fl.keep kp.keeps) env m
 have hAf:fx.A.frames=some (callEnvC fd s.heap.objs.size a :: l):=by refine (?_:(A.deeper (callEnvC fd s.heap.objs.size a)).frames=_); unfold Around.deeper; rw [hl]; rfl
 have fr₁:fk g fx.A s₁.heap:=⟨_,hAf,fr₁'⟩
 have I₁:Inv ⟨fx,oa0,G0⟩ s₁:=by
  refine ⟨ok,⟨fun b o e=>kp b o (B.stays b o e),by rw [es₁]; exact B.os,by rw [es₁]; exact B.gens⟩,fun k=>?_,fun b q=>?_,fun k j b e1 e2=>(hoa k b e1).1.trans (hoa j b e2).1.symm,fun k b e j q=>?_,hG,fun b q=>kp.live (hbad b q),fr₁⟩
  ·obtain ⟨v,r,h1,h2⟩:=slot k
   refine ⟨v,r,?_⟩
   by_cases hlt:k < fn.npar
   ·rw [h1 hlt]; exact (hsl k hlt).map mk fun b _ o e _=>kp b o e
   ·rw [h2 hlt,(hun k hlt).1]; exact ⟨(hun k hlt).2,rfl⟩
  ·rcases q with ⟨k,q⟩ | ⟨k,q⟩
   ·have hn:=plDead k b q
    refine ⟨?_,aM (fun l=>B.stays.live l) hn,fun z=>by obtain ⟨o,e⟩:=hbad b z; rw [hn] at e; (injection e; done)⟩
    obtain ⟨v,r,_⟩:=slot k
    have q:(fx.pl k).addr=some b:=q
    generalize fx.pl k=pl at r q
    cases pl with
    | ns a' x=>(injection q with q; subst q); obtain ⟨m,⟨o',_,_,ho',_⟩,_⟩:=r; exact ⟨o',ho'⟩
    | cell c=>(injection q with q; subst q); obtain ⟨o',ho',_⟩:=r; exact ⟨o',ho'⟩
    | off=>(injection q; done)
   ·obtain ⟨_,l,h0,nb⟩:=hoa k b q
    exact ⟨kp.live l,h0,nb⟩
  ·obtain ⟨o,e⟩:=(hoa k b e).2.1
   rw [plDead j b q] at e; (injection e; done)
 refine wpAny_mono (sim oa0 G0 K s₁ hb I₁) (fun f s' ⟨oa',G',fl,I',B',t,hf,hk⟩=>hR s' ⟨fx,oa',G'⟩ f fl (fun q=>I' (.inl q)) B' rfl rfl rfl (fun b o e n=>t.keep b o (kp b o e) (notOwn b ⟨o,e⟩ n)) (fun k b e q=>(t.inst k b e q).1) (hf.lift fun b l=>kp.live l) hk) fun v s' ⟨oa',G',c,e,hv,hc,I',t,xa,hk⟩=>?_
 subst hv
 have fr':=I'.fr.of hAf
 exact pQ (lo:=s.heap) hAf fr'.funs rfl (fun b l=>t.live b (kp.live l)) (xa.le fun b l=>kp.live l) fun h' n x=>hX { s' with heap:=h' } c e G' hc (dB (s:=s) (s₁:=s') B I'.base fr' n) (fun b o e nn=>oB (s:=s) (s₁:=s') (t.keep b o (kp b o e) (notOwn b ⟨o,e⟩ nn)) ⟨o,e⟩ fr' n) x hk
end
section
variable {g:Gl}
theorem oP {α:Type} {l r:List α} {k:Nat} {x:α} (h:l[k]?=some x) (d:α):(l++r).getD k d=x:=by
 rw [List.getD_eq_getElem?_getD,List.getElem?_append_left (List.getElem?_eq_some_iff.mp h).1,h]; rfl
theorem oO {α:Type} {l:List α} {k n:Nat} {d:α} (h:l.length≤k):(l++List.replicate n d).getD k d=d:=by
 rw [List.getD_eq_getElem?_getD,List.getElem?_append_right h,List.getElem?_replicate]; split <;> rfl
def j6 (g:Gl) (d:Nat) (a:Addr) (fn:Fn) (fd:FuncData) (body:List Stmt) (nms:List Str) (safe nw:Bool):Prop:=∀ hm A L bad,(hm=true→safe=true)→ExB (vX g A fd nms fn.nslots a L bad d hm nw) (execs body (callEnvC fd L a)) (exs g.P.sup (al g.P d) fn.body)
structure InitAt (g:Gl) (d:Nat) (fn:Fn):Prop where
 it:∃ fI fd body nms,findIn g.K (.ref g.C) "__init__"=some (some (.ref fI))∧typeIn g.K (.ref fI)=some (.type "function")∧FnAt g fI fn fd body nms∧j6 g d fI fn fd body nms false false
theorem zn {a d:Nat} (h:a+2 * (d+1) < 990):a+(1+2 * d) < 990:=Nat.add_comm (2 * d) 1▸Nat.lt_of_succ_lt h
theorem zm {a d:Nat} (h:a+2 * (d+1) < 990):a+1+(1+2 * d) < 990:=Nat.add_comm (2 * d) 1▸(Nat.add_right_comm a (2 * d) 1▸h:a+1+2 * d+1 < 990)
theorem zi {a d c:Nat} (h:a+4 * (d+1)+100 < c):a+(3+4 * d)+100 < c:=Nat.add_comm (4 * d) 3▸Nat.lt_of_succ_lt (h:a+4 * d+103+1 < c)
theorem zh {a d c:Nat} (h:a+4 * (d+1)+100 < c):a+1+(3+4 * d)+100 < c:=Nat.add_comm (4 * d) 3▸(Nat.add_right_comm a (4 * d) 1▸h:a+1+4 * d+3+100 < c)
theorem cI {D b:Addr} {k:Nat} (e:(if k=0 then some D else none)=some b):k=0∧b=D:=by
 by_cases q:k=0
 ·exact ⟨q,(Option.some.inj ((if_pos q).symm.trans e)).symm⟩
 ·exact nomatch (if_neg q).symm.trans e
theorem wZ {l:List V} (h:l.length=5):noX (qd l)=true:=by
 cases l with
 | nil=>exact nomatch h
 | cons x l=>cases l with
  | nil=>exact nomatch h
  | cons=>rfl
theorem uP {l:List V} (h:l.length=5):pY (l.map fun x=>(PyData.none,x))=true:=by
 cases l with
 | nil=>exact nomatch h
 | cons=>rfl
theorem Ad (l:List V):(l.map fun x=>(PyData.none,x)).map (·.2)=l:=List.map_map.trans (List.map_id l)
theorem nO {d:Nat} (gr:Ground g) (hfn:∀ f fn,g.P.fns[f]?=some fn→fn.init=false→∃ fd body nms,FnAt g (g.fn f) fn fd body nms∧j6 g d (g.fn f) fn fd body nms (g.safe f) (g.newf f)) (hin:∀ f fn,g.P.fns[f]?=some fn→fn.init=true→g.fn f=g.C∧g.safe f=false∧InitAt g d fn) (ih:eX g (al g.P d) d) :
  eX g (al g.P (d+1)) (d+1):=fun hm f args K A s bad vals hc hand hsafe hroom hunits B hfr hbad hb0 hvals=>by
 refine ag hc fun fn hf Zq1=>Zq1.elim fun hlen hb=>?_
 have hva:=hvals.length
 cases hi:fn.init with
 | false=>
  rw [hi,if_neg Bool.false_ne_true,Nat.add_zero] at hlen
  obtain ⟨fd,body,nms,F,sim⟩:=hfn f fn hf hi
  have e0:cQ fn args=args.map .v++List.replicate (fn.nslots - fn.npar) .unset:=by unfold cQ; rw [hi]; rfl
  have hml:(args.map Slot.v).length=fn.npar:=by rw [zA4,hlen]
  refine wpAny_call (vz (oa0:=fun _=>none) (nw:=g.newf f) F gr ih hand hfr (zn hroom) (zi hunits) B hbad hb0 (hva.trans hlen) ?_ (fun k b e=>nN e.symm) (fun k hk=>?_) (fun k hk=>⟨?_,rfl⟩) (fun L=>sim hm A L bad hsafe) hb (fun s' Φ' f' fl I' B' hg hm hnw kk ki hfl hk=>?_) fun s' c e G' hc B' kk x hk=>?_)
  ·rw [e0,zB5,hml,List.length_replicate]; exact Nat.add_sub_cancel' (zB1 F.npar F.nslots)
  ·have hka:k < args.length:=hlen▸hk
   obtain ⟨v,hv,rv⟩:=hvals.get (List.getElem?_eq_getElem hka)
   rw [show getSlot (cQ fn args) k=.v args[k] by rw [e0]; exact oP (by rw [List.getElem?_map,List.getElem?_eq_getElem hka]; rfl) _,hv]
   exact ⟨rfl,v,rfl,rv.map fun b o e _ n=>⟨fun q=>q.elim n fun Zq2=>Zq2.elim fun _ q=>(nN q.symm),e⟩⟩
  ·rw [e0]; exact oO (hml▸Nat.not_lt.mp hk)
  ·rw [hi,if_neg Bool.false_ne_true] at hk
   cases fl with
   | none=>subst hfl; exact ⟨B',fun b o e=>kk b o e fun k q=>(nomatch q),_,hk,rfl,.none,fun _ a b q=>nomatch q⟩
   | some y=>obtain ⟨nx,v,rfl,r,nv⟩:=hfl; subst hg; exact ⟨B',fun b o e=>kk b o e fun k q=>(nN q.symm),_,hk,nx,r.map fun b o e _ n=>⟨fun q=>n (.inl (hm▸q)),e⟩,fun q=>nv (hnw▸q)⟩
  ·rw [hi,if_neg Bool.false_ne_true] at hk
   exact ⟨B',fun b o e=>kk b o e fun k q=>(nN q.symm),c,e,rfl,hc,hk,x⟩
 | true=>
  rw [hi,if_pos rfl] at hlen
  obtain ⟨hC,hsf,⟨fI,fd,body,nms,h1,h2,F,sim⟩⟩:=hin f fn hf hi
  have hm0:hm=false:=by cases hm with | false=>rfl | true=>exact absurd (hsafe rfl) (by rw [hsf]; exact Bool.false_ne_true)
  subst hm0
  rw [hC]
  have X:=gr.frag.keeps B.stays
  have e0:cQ fn args=(.ownI [] :: args.map .v)++List.replicate (fn.nslots - fn.npar) .unset:=by unfold cQ; rw [hi]; rfl
  have hml:(Slot.ownI [] :: args.map Slot.v).length=fn.npar:=by rw [zB4,zA4,hlen]
  have kp:aH s.heap ((s.heap.push emptyDict).push (instObj g.C s.heap.objs.size)):=(av _ _).trans (av _ _)
  have hD:((s.heap.push emptyDict).push (instObj g.C s.heap.objs.size)).get? s.heap.objs.size=some emptyDict:=Heap.get?_push_of_some _ (Heap.get?_push_size _ rfl)
  have hX:((s.heap.push emptyDict).push (instObj g.C s.heap.objs.size)).get? (s.heap.objs.size+1)=some (instObj g.C s.heap.objs.size):=by rw [← Heap.size_push s.heap emptyDict]; exact Heap.get?_push_size _ rfl
  have nb:∀ b,bad b→b < s.heap.objs.size:=fun b q=>(hbad b q).elim fun o e=>Heap.lt_size e
  have nd:¬ bad s.heap.objs.size:=fun q=>Nat.lt_irrefl _ (nb _ q)
  have nx:¬ bad (s.heap.objs.size+1):=fun q=>Nat.not_lt.mpr (Nat.le_succ _) (nb _ q)
  refine wpAny_call (make_core (makes_of X gr.cls.makes) (looks_findIn X h1) (fun self=>bind_fn X self h2) (.inl rfl) ?_)
  refine vz (oa0:=fun k=>if k=0 then some s.heap.objs.size else none) (nw:=false) F gr ih hand (hfr.keep kp.keeps) (zm hroom) (zh hunits) ⟨B.stays.trans kp,B.os,B.gens⟩ (fun b q=>kp.live (hbad b q)) hb0 (by rw [zB4,hva]; exact hlen) ?_ (fun k b e=>?_) (fun k hk=>?_) (fun k hk=>⟨?_,?_⟩) (fun L=>sim false _ L bad nofun) hb (fun s' Φ' f' fl I' B' hg hm hnw kk ki hfl hk=>?_) fun s' c e G' hc B' kk x hk=>?_
  ·rw [e0,zB5,hml,List.length_replicate]; exact Nat.add_sub_cancel' (zB1 F.npar F.nslots)
  ·obtain rfl:=(cI e).2
   exact ⟨(cI e).1,⟨_,hD⟩,aM (fun l=>B.stays.live l) (ak s.heap),nd⟩
  ·cases k with
   | zero=>
    rw [show getSlot (cQ fn args) 0=.ownI [] by rw [e0]; rfl,if_pos rfl]
    exact ⟨_,.ref (s.heap.objs.size+1),rfl,rfl,_,_,[],rfl,rfl,(fun q=>q.elim nx fun Zq3=>Zq3.elim fun k q=>Nat.succ_ne_self _ (cI q).2),hX,hD,⟨⟨rfl,rfl,rfl⟩,#[],0,rfl,rfl,fun j e h=>by simp at h⟩,(fun j b m e=>by simp at e),.nil⟩
   | succ k=>
    have hka:k < args.length:=Nat.lt_of_succ_lt_succ (show k+1 < args.length+1 by rw [hlen]; exact hk)
    obtain ⟨v,hv,rv⟩:=hvals.get (List.getElem?_eq_getElem hka)
    rw [show getSlot (cQ fn args) (k+1)=.v args[k] by rw [e0]; exact oP (by refine (?_:(args.map Slot.v)[k]?=_); rw [List.getElem?_map,List.getElem?_eq_getElem hka]; rfl) _,if_neg (Nat.succ_ne_zero k)]
    exact ⟨rfl,v,hv,rv.map fun b o e _ n=>⟨fun q=>q.elim n fun Zq4=>Zq4.elim fun j q=>Nat.ne_of_lt (Heap.lt_size e) (cI q).2,kp b o e⟩⟩
  ·rw [e0]; exact oO (hml▸Nat.not_lt.mp hk)
  ·exact if_neg fun q=>hk (by rw [q,← hlen]; exact Nat.succ_pos _)
  ·rw [hi,if_pos rfl] at hk
   have no:∀ b,b≠s.heap.objs.size→∀ k,(if k=0 then some s.heap.objs.size else none)≠some b:=fun b n k q=>n (cI q).2
   cases fl with
   | some y=>exact absurd hk.1 (by rw [hfl.1]; exact fun q=>nB q.symm)
   | none=>
    subst hfl
    have I':=I' rfl
    refine ⟨rfl,ag hk fun l el Zq5=>Zq5.elim fun hl5 kl=>?_⟩
    have sl:=gz el
    obtain ⟨a',u,ha,pr,b,o,ws,hu,hba,hnb,hbo,ho,hF,hnl,hl⟩:=eQ I' sl id
    obtain rfl:=(cI (ki 0 a' ha (by rw [sl]; trivial))).2
    subst hba hg
    exact ⟨B',fun b o e=>kk b o (kp b o e) (no b fun q=>Nat.lt_irrefl _ (q▸Heap.lt_size e)),_,kl,wZ hl5,
     .inst (l:=l) nx nd ((kk _ _ hX (no _ (Nat.succ_ne_self _))).get eR) ho hF hnl (uP hl5) (Ad l) (hl.map fun b o e _ n=>⟨fun q=>n (.inl (hm▸q)),e⟩),fun _=>eG (Nat.le_succ _)⟩
  ·rw [hi,if_pos rfl] at hk
   exact ⟨B',fun b o eb=>kk b o (kp b o eb) fun k q=>Nat.ne_of_lt (Heap.lt_size eb) (cI q).2,c,e,rfl,hc,hk.2,x.le fun b l=>kp.live l⟩
end
section
variable {prog:Program} {w:World} {A:Around} {E:Value→Shared→Prop} {s:Shared} {K:Frag} {x C D:Addr} {ox:Obj} {name:Str}
structure XCls (K:Frag) (D:Addr):Prop where
 ga:findIn K (.ref D) "__getattribute__"=some (some (.builtin "BaseException.__getattribute__"))
 gh:findIn K (.ref D) "__getattr__"=some none
 exc:mroIn K D (.type "BaseException")=some true
 dct:hasDictIn K D=true
 att:findIn K (.ref D) "__class__"=some (some (.builtin "object.__class__"))
 obj:mroIn K D (.type "object")=some true
set_option tactic.hygienic true in
theorem gb (X:K.In h) (hdct:hasDictIn K D=true):Looks M h (isType (.ref D)) true:=by
 obtain ⟨cdD,hcD,_⟩:=any_some hdct
 unfold clsIn at hcD
 split at hcD
 ·rename_i c' d' cd' sl' ho
  intro A' Q' E' s' k q
  skip
  exact zC1 (wpAny_loadPart (k _ _ (X _ _ ho)) (wpAny_pure q))
 ·(injection hcD; done)
theorem uD (X:K.In s.heap) (I:InstAt s.heap x ox D none) (c:XCls K D) (hn:specialIn K (.builtin "object.__class__") "__get__"=some (some (.builtin "getset_descriptor.__get__"))) (htk:takesIn K (.builtin "object.__class__")=some true)
  (h:Q (some (.ref D)) { s with toks:=s.toks+1 }):wpAny (model prog w) A (getAttr? (.ref x) "__class__") Q E s:=by
 have hf:findObj K D none "__class__"=some (.bind (.builtin "getset_descriptor.__get__") (.builtin "object.__class__")):=by
  obtain ⟨cd,hc,_⟩:=any_some c.dct
  unfold findObj
  rw [hc,Option.bind_some,c.att,Option.bind_some]
  refine (?_:(specialIn K (.builtin "object.__class__") "__get__").bind _=_)
  rw [hn,Option.bind_some]
  refine (?_:(takesIn K (.builtin "object.__class__")).bind _=_)
  rw [htk]; rfl
 have call_ga:∀ (tk:Tok) (R:Result→Shared→Prop) (A:Around) (s:Shared),K.In s.heap→InstAt s.heap x ox D none→R (.ok (.ret (.ref D))) s→codeAny (model prog w) A (.call (.builtin "BaseException.__getattribute__") ⟨[.ref x,.str "__class__" tk],[]⟩) R s:=fun tk R A s X I hR=>by
  have hk:builtinKind "BaseException.__getattribute__"=some .slot:=by decide +kernel
  have hsplit:splitId "BaseException.__getattribute__"=some ("BaseException", "__getattribute__"):=by decide +kernel
  have ha:=F.args_bexc_ga (.ref x) (.str "__class__" tk)
  obtain ⟨hh,g,dr,t,os⟩:=s
  have L0:=I.type (M:=model prog w)
  have L1:=looks_mroIn (M:=model prog w) X c.exc
  have L2:=looks_find (M:=model prog w) X I hf
  have LI:Looks (model prog w) hh (isInstance (.ref x) (.type "BaseException")) true:=L0.andThen L1
  refine codeAny_call_builtin F.attr_ValueError.ga.plain F.entry_bexc_ga ?_
  simp only [checkBuiltinCall,hk,hsplit]
  refine zC1 (LI.at ?_)
  simp only [Bool.not_true,Bool.false_eq_true,if_false]
  unfold argsOk at ha
  have rest:wpAny (model prog w) A.in1 (Builtin.«object.__getattribute__» { pos:=[Value.ref x,Value.str (Str.ofString "__class__") tk] })
    (fun fin s'=>match fin with | .done f=>R (.ok f) s' | .again c'=>c'.quiet=true∧codeAny (model prog w) A c' R s') (fun e s'=>R (.error e) s') { heap:=hh,gens:=g,drawn:=dr,toks:=t,os:=os }:=by
   unfold Builtin.«object.__getattribute__»
   refine wpAny_bind (m:=slotArgs "__getattribute__" 1 _) (zC2 ?_)
   refine wpAny_bind (m:=Builtin.ObjectAttr.attrName _) (zC2 ?_)
   refine zC1 (L0.at (zC1 (L2.at ?_)))
   refine zC1 (wpAny_holding (wpAny_call (class_get (ox:=ox) (od:=none) X I c.obj ?_)))
   exact wpAny_pure hR
  generalize Manifest.signature? "BaseException.__getattribute__"=sgn at ha ⊢
  cases sgn with
  | none=>exact wpAny_pure rest
  | some sig=>
   simp only at ha ⊢
   rw [ha]
   exact wpAny_pure rest
 obtain ⟨hh,g,dr,t,os⟩:=s
 have L0:=I.type (M:=model prog w)
 have L1:=looks_findIn (M:=model prog w) X c.ga
 have L2:=looks_findIn (M:=model prog w) X c.gh
 unfold getAttr? getAttrBy?
 refine zC1 (wpAny_mkText (zC1 (wpAny_attempt ?_)))
 skip
 refine wpAny_holding (zC1 (L0.at (zC1 (L1.at ?_))))
 have hx2:(onTheHeap (Value.ref D)&&Value.builtin "BaseException.__getattribute__"==Value.builtin "object.__getattribute__")=false:=by
  have:(Value.builtin "BaseException.__getattribute__"==Value.builtin "object.__getattribute__")=false:=by decide +kernel
  rw [this]; rfl
 simp only [hx2,Bool.false_eq_true,if_false]
 unfold getAttrByItsOwn hookBefore
 refine zC1 ?_
 refine dH (rfl:onTheHeap (Value.ref D)=true) ?_
 refine L2.at ?_
 refine zC1 (wpAny_attempt (wpAny_holding ?_))
 refine (?_:wpAny _ _ (boundAndCalled _ _ _) _ _ _)
 unfold boundAndCalled
 rw [F.attr_ValueError.ga.bind]
 simp only [pure_bind]
 refine wpAny_call (call_ga _ _ _ _ X I ?_)
 exact handed_on rfl (wpAny_pure h)
theorem vM (X:K.In s.heap) (I:InstAt s.heap x ox D none) (co:XCls K D) (hn:specialIn K (.builtin "object.__class__") "__get__"=some (some (.builtin "getset_descriptor.__get__"))) (htk:takesIn K (.builtin "object.__class__")=some true)
  (hty:∀ (M:Model) h',K.In h'→Looks M h' (typeOf c) (.type "type")) (his:∀ (M:Model) h',K.In h'→Looks M h' (isType c) true)
  (hne:(Value.ref D==c)=false) (hsub:∀ (M:Model) h',K.In h'→Looks M h' (isSubtype (.ref D) c) false) (h:Q (.bool false) { s with toks:=s.toks+1 }):wpAny (model prog w) A (call (.builtin "isinstance") [.ref x,c]) Q E s:=by
 refine call_isinstance (S:=fun _ R s=>(K.In s.heap∧InstAt s.heap x ox D none)∧R (.ok (.ret (.bool false))) { s with toks:=s.toks+1 }) (fun prog w A R s hs=>isinstance_outer ?_ (by intro q; (injection q; done))) ⟨⟨X,I⟩,h⟩
 obtain ⟨⟨X,I⟩,h⟩:=hs
 have hisD:=gb (M:=model prog w) X co.dct
 have L1:=hty (model prog w) _ X
 have L2:=his (model prog w) _ X
 have L3:=hsub (model prog w) _ X
 obtain ⟨h0,g,d,tt,os⟩:=s
 have L0:=I.type (M:=model prog w)
 have LI:Looks (model prog w) h0 (isInstance (.ref x) c) false:=L0.andThen L3
 skip
 refine zC1 (L0.at ?_)
 refine bw (fun q=>by rw [hne] at q; exact Bool.noConfusion q) ?_
 refine zC1 (L1.at ?_)
 refine dH (by decide) ?_
 k_delta "plainIsInstance"
 refine zC1 (zC1 (L2.at ?_))
 simp only [Bool.not_true,Bool.false_eq_true,if_false]
 refine zC1 (LI.at ?_)
 simp only [Bool.false_eq_true,if_false]
 refine zC1 (uD X I co hn htk ?_)
 refine zC1 (hisD.at ?_)
 simp only [Bool.not_true,Bool.false_eq_true,if_false]
 refine zC1 (wpAny_rule ?_)
 refine L3.at ?_
 first
  | exact wpAny_pure h
  | exact zC2 (wpAny_pure h)
  | exact zC1 (zC2 (wpAny_pure h))
theorem yo (X:K.In s.heap) (I:InstAt s.heap x ox D none)
  (hty:∀ (M:Model) h',K.In h'→Looks M h' (typeOf c) (.type "type")) (his:∀ (M:Model) h',K.In h'→Looks M h' (isType c) true)
  (hsub:∀ (M:Model) h',K.In h'→Looks M h' (isSubtype (.ref D) c) true) (h:Q (.bool true) s):wpAny (model prog w) A (call (.builtin "isinstance") [.ref x,c]) Q E s:=by
 refine call_isinstance (S:=fun _ R s=>(K.In s.heap∧InstAt s.heap x ox D none)∧R (.ok (.ret (.bool true))) s) (fun prog w A R s hs=>isinstance_outer ?_ (by intro q; (injection q; done))) ⟨⟨X,I⟩,h⟩
 refine ar fun Z7 kZ7=>?_
 obtain ⟨⟨X,I⟩,h⟩:=hs
 refine kZ7 ?_
 have L1:=hty (model prog w) _ X
 have L2:=his (model prog w) _ X
 have L3:=hsub (model prog w) _ X
 refine ar fun Z8 kZ8=>?_
 obtain ⟨h0,g,d,tt,os⟩:=s
 refine kZ8 ?_
 have L0:=I.type (M:=model prog w)
 have LI:Looks (model prog w) h0 (isInstance (.ref x) c) true:=L0.andThen L3
 unfold Builtin.«isinstance.nested»
 refine zC1 (L0.at ?_)
 by_cases q:(Value.ref D==c)=true
 ·rw [if_pos q]
  refine zC1 (wpAny_rule ?_)
  first
   | exact wpAny_pure h
   | exact zC2 (wpAny_pure h)
   | (refine zC1 ?_; exact zC2 (wpAny_pure h))
 ·rw [if_neg q]
  refine zC1 (L1.at ?_)
  refine dH (by decide) ?_
  k_delta "plainIsInstance"
  refine zC1 (zC1 (L2.at ?_))
  simp only [Bool.not_true,Bool.false_eq_true,if_false]
  refine zC1 (LI.at ?_)
  refine dH rfl ?_
  exact zC2 (wpAny_pure h)
theorem pL (X:K.In s.heap) (he:s.heap.get? e=some oe) (hcls:oe.cls=.ref D)
  (hty:∀ (M:Model) h',K.In h'→Looks M h' (typeOf (.ref C)) (.type "type")) (hex:∀ (M:Model) h',K.In h'→Looks M h' (isExcClass (.ref C)) true) (hsub:∀ (M:Model) h',K.In h'→Looks M h' (isSubtype (.ref D) (.ref C)) b) (hq:Q b s) :
  wpAny (model prog w) A (excMatches (.ref e) (.ref C)) Q E s:=by
 have L1:=hty (model prog w) _ X
 have L2:=hex (model prog w) _ X
 have L3:=hsub (model prog w) _ X
 have LT:Looks (model prog w) s.heap (isInstance (.ref C) (.type "tuple")) false:=L1.andThen (.of_pure tc_notTuple)
 have L0:Looks (model prog w) s.heap (typeOf (.ref e)) (.ref D):=hcls▸(Looks.ld he).andThen .now
 unfold excMatches
 refine zC1 (LT.here ?_)
 simp only [Bool.false_eq_true,if_false,pure_bind,List.forIn_cons,List.forIn_nil,bind_assoc]
 refine zC1 (L2.here ?_)
 simp only [Bool.not_true,Bool.false_eq_true,if_false,pure_bind]
 refine zC1 (L0.here ?_)
 refine zC1 (L3.here ?_)
 cases b
 ·exact wpAny_pure hq
 ·exact wpAny_pure hq
end
structure XClss (g:Gl):Prop where
 raises:∀ c,c < g.nc→RaiseOk g c
 catches:∀ c c',c < g.nc→c' < g.nc→mD g c c' (g.P.sup c c')
 isi:∀ c c',c < g.nc→c'≤g.nc→yV g c (im g c') (g.P.sup c c')
theorem BN (X:g.K.In g.h0) (hn:specialIn g.K (.builtin "object.__class__") "__get__"=some (some (.builtin "getset_descriptor.__get__"))) (htk:takesIn g.K (.builtin "object.__class__")=some true)
  (hcls:∀ c,c < g.nc→lD g.K g.P.sup g.nc g.cls c=true) (hr:∀ c,c < g.nc→RaiseOk g c):XClss g:=by
 have un:∀ c,c < g.nc→XCls g.K (g.cls c)∧mroIn g.K (g.cls c) (.type "BaseException")=some true∧typeIn g.K (.ref (g.cls c))=some (.type "type")∧mroIn g.K (g.cls c) (.type "ValueError")=some (g.P.sup c g.nc)∧g.P.sup c c=true∧∀ c',c' < g.nc→mroIn g.K (g.cls c) (.ref (g.cls c'))=some (g.P.sup c c'):=fun c hc=>by
  refine ar fun Z9 kZ9=>?_
  obtain ⟨h1,e⟩:=a2 (hcls c hc)
  obtain ⟨h0,e⟩:=a2 e
  obtain ⟨h2,e⟩:=a2 e
  obtain ⟨h3,e⟩:=a2 e
  obtain ⟨h4,e⟩:=a2 e
  obtain ⟨h5,e⟩:=a2 e
  obtain ⟨h6,e⟩:=a2 e
  obtain ⟨h7,e⟩:=a2 e
  obtain ⟨h9,h8⟩:=a2 e
  refine kZ9 ?_
  exact ⟨⟨eq_of_beq h1,eq_of_beq h0,eq_of_beq h5,h2,eq_of_beq h3,eq_of_beq h4⟩,eq_of_beq h5,eq_of_beq h6,eq_of_beq h7,h9,fun c' q=>eq_of_beq (List.all_eq_true.mp h8 c' (List.mem_range.mpr q))⟩
 refine ⟨hr,fun c c' hc hc'=>?_,fun c c' hc hc'=>?_⟩
 ·intro A E Q s e o st he hcl hq
  refine ar fun Z12 kZ12=>?_
  obtain ⟨a1,a2,a3,a4,a6,a5⟩:=un c hc
  obtain ⟨b1,b2,b3,b4,b6,b5⟩:=un c' hc'
  refine kZ12 ?_
  refine pL (K:=g.K) (X.keeps st) he hcl (fun M h' X'=>looks_typeIn X' b3) (fun M h' X'=>?_) (fun M h' X'=>looks_mroIn X' (a5 c' hc')) hq
  exact (gb X' b1.dct).andThen (looks_mroIn X' b2)
 ·intro A E Q s e o st he hcl hdi hfl hq
  obtain ⟨a1,a2,a3,a4,a6,a5⟩:=un c hc
  have I:InstAt s.heap e o (g.cls c) none:=⟨he,hcl,by obtain ⟨vs,hv⟩:=hfl; unfold notCls; rw [hv],by rw [hdi]; trivial⟩
  unfold im
  by_cases hv:c'=g.nc
  ·rw [if_pos hv]
   have hty:∀ (M:Model) h',g.K.In h'→Looks M h' (typeOf (.type "ValueError")) (.type "type"):=fun M h' _=>.of_pure rfl
   have his:∀ (M:Model) h',g.K.In h'→Looks M h' (isType (.type "ValueError")) true:=fun M h' _=>.of_pure rfl
   cases hb:g.P.sup c c' with
   | true=>rw [hb] at hq; exact yo (K:=g.K) (X.keeps st) I hty his (fun M h' X'=>looks_mroIn X' (by rw [a4,← hv,hb])) (hq s.toks)
   | false=>rw [hb] at hq; exact vM (K:=g.K) (X.keeps st) I a1 hn htk hty his rfl (fun M h' X'=>looks_mroIn X' (by rw [a4,← hv,hb])) (hq _)
  ·rw [if_neg hv]
   have hc'':c' < g.nc:=Nat.lt_of_le_of_ne hc' hv
   obtain ⟨b1,b2,b3,b4,b6,b5⟩:=un c' hc''
   cases hb:g.P.sup c c' with
   | true=>rw [hb] at hq; exact yo (K:=g.K) (X.keeps st) I (fun M h' X'=>looks_typeIn X' b3) (fun M h' X'=>gb X' b1.dct) (fun M h' X'=>looks_mroIn X' (by rw [a5 c' hc'',hb])) (hq s.toks)
   | false=>
    rw [hb] at hq
    refine vM (K:=g.K) (X.keeps st) I a1 hn htk (fun M h' X'=>looks_typeIn X' b3) (fun M h' X'=>gb X' b1.dct) ?_ (fun M h' X'=>looks_mroIn X' (by rw [a5 c' hc'',hb])) (hq _)
    cases hne:(Value.ref (g.cls c)==Value.ref (g.cls c')) with
    | false=>rfl
    | true=>
     have:=Value.ref.inj (eq_of_beq hne)
     have q':=a5 c' hc''
     replace q':=hb▸a6▸(a5 c hc)▸this.symm▸q'
     (injection q'; done)
theorem za {g:Gl} {A:Around} {fx:Fx} {h:Heap} (e:fx.A=A.deeper fx.env) (f:fk g fx.A h):FxTop fx:=by
 obtain ⟨l,hl,q⟩:=f
 replace hl:=e▸hl
 have hl':A.frames.map (fx.env :: ·)=some l:=hl
 cases ha:A.frames with
 | none=>replace hl':=ha▸hl'; (injection hl'; done)
 | some outer=>
  replace hl':=ha▸hl'
  (injection hl' with hl'; subst hl')
  obtain ⟨_,L,_,hf,_⟩:=q fx.env (.head _)
  exact ⟨outer,L,by rw [e]; exact hl,hf⟩
set_option tactic.hygienic true in
theorem gj {K:Frag} {h:Heap} {a:Addr} {m:Str→Option Value} {x:Str} {r:Option Value} (X:K.In h) (n:h.Ns a m) (e:nsIn K a x=some r):m x=r:=by
 unfold nsIn at e
 split at e
 ·rename_i c d es p sl ho
  obtain ⟨o,es',ep,ho',hd,hs,hf⟩:=n
  rw [X _ _ ho] at ho'
  (injection ho' with ho'; subst ho')
  (injection hd with hd; subst hd)
  refine (hf x)▸?_
  unfold nsFind findBy
  refine (Array.find?_toList)▸?_
  split at e
  ·rename_i en he; (injection e with e; subst e); rw [he]; rfl
  ·rename_i he
   split at e
   ·(injection e; done)
   ·(injection e with e; subst e); rw [he]; rfl
 ·(injection e; done)
theorem pi {ps:List Str}:∀ {vals:List Value},ps.length=vals.length→∀ n∈ps,((ps.zip vals).lookup n).isSome=true:=by
 induction ps with
 | nil=>intro vals _ n hn; cases hn
 | cons p ps ih=>
  intro vals h n hn
  cases vals with
  | nil=>(injection h; done)
  | cons v vals=>
   rw [List.zip_cons_cons,List.lookup_cons]
   cases hb:n==p with
   | true=>rfl
   | false=>
    rcases List.mem_cons.mp hn with rfl | hn
    ·simp at hb
    ·exact ih (Nat.succ.inj h) n hn
theorem oQ:∀ {l:List α},(∀ x∈l,f x=g x)→l.filterMap f=l.filterMap g
 | [],_=>rfl
 | a :: l,h=>by rw [List.filterMap_cons,List.filterMap_cons,h a (.head _),oQ fun x hx=>h x (.tail _ hx)]
theorem pj {ps:List Str}:∀ {vals:List Value},ps.Nodup→ps.length=vals.length→ps.filterMap (fun n=>((ps.zip vals).lookup n).map (n,·))=ps.zip vals:=by
 induction ps with
 | nil=>intro vals _ _; rfl
 | cons p ps ih=>
  intro vals hn h
  cases vals with
  | nil=>(injection h; done)
  | cons v vals=>
   obtain ⟨h1,h2⟩:=List.nodup_cons.mp hn
   refine List.zip_cons_cons.symm▸List.filterMap_cons.symm▸?_
   simp only [List.lookup_cons,beq_self_eq_true,Option.map_some]
   congr 1
   refine Eq.trans (oQ fun n hnm=>?_) (ih h2 (Nat.succ.inj h))
   have:(n==p)=false:=beq_false_of_ne fun e=>h1 (e▸hnm)
   rw [this]
theorem pc {α β γ:Type} {l:List α} {b:β} {f:α→β→Sem (ForInStep β)} {g:β→Sem γ} {r:Sem γ} (h:l=[]) (k:g b=r):(forIn l b f >>= g)=r:=by subst h; exact k
theorem nP {fd:FuncData} {ps:List Str} {vals:List Value} (h1:fd.params.posonlyargs=[]) (h2:fd.params.args.map (·.arg)=ps) (h3:fd.params.kwonlyargs=[]) (h4:fd.params.vararg=none) (h5:fd.params.kwarg=none)
  (h6:fd.defaults=.none) (hn:ps.Nodup) (hl:vals.length=ps.length):bindArgs fd ⟨vals,[]⟩=pure (ps.zip vals):=by
 have hm:(List.filter (fun n=>(List.lookup n (ps.zip vals)).isNone) ps)=[]:=by
  rw [List.filter_eq_nil_iff]
  intro n hn
  rw [Option.isNone_iff_eq_none]
  exact Option.isSome_iff_ne_none.mp (pi hl.symm n hn)
 obtain ⟨nm,qn,⟨po,as,va,ko,kd,kw,df⟩,body,sc,gl,cl,dfs,kdf,doc,pm,an,cd,ct,bl⟩:=fd
 obtain rfl:po=[]:=h1
 obtain rfl:ko=[]:=h3
 obtain rfl:va=none:=h4
 obtain rfl:kw=none:=h5
 obtain rfl:dfs=.none:=h6
 have h2:as.map Arg.arg=ps:=h2
 have e1:(decide (vals.length > ([]++as.map Arg.arg).length)&&true)=false:=by rw [List.nil_append,h2,hl,Bool.and_true]; exact decide_eq_false (Nat.lt_irrefl _)
 have e2:(!(List.filter (fun n=>(List.lookup n (([]++as.map Arg.arg).zip vals)).isNone) (([]++as.map Arg.arg).take (([]++as.map Arg.arg).length - (([]:List Value).drop (([]:List Value).length - ([]++as.map Arg.arg).length)).length))).isEmpty)=false:=by
  rw [List.nil_append,h2,List.drop_nil,List.length_nil,Nat.sub_zero,List.take_length,hm]; rfl
 have e4:(([]++as.map Arg.arg).drop (([]++as.map Arg.arg).length - (([]:List Value).drop (([]:List Value).length - ([]++as.map Arg.arg).length)).length)).zip (([]:List Value).drop (([]:List Value).length - ([]++as.map Arg.arg).length))=[]:=by rw [List.drop_nil,List.zip_nil_right]
 have e3:(([]++as.map Arg.arg)++[]).filterMap (fun n=>(List.lookup n (([]++as.map Arg.arg).zip vals)).map (n,·))=ps.zip vals:=by
  rw [List.append_nil,List.nil_append,h2,pj hn hl.symm]
 exact (if_neg (Bool.eq_false_iff.mp e1)).trans ((if_neg (Bool.eq_false_iff.mp e2)).trans (pc e4 (pc rfl (congrArg pure e3))))
theorem xN {K:Frag} {h:Heap} {cd:Value} {q:Str} (X:K.In h) (e:mm K cd q=true):h.CodeRec cd q:=by
 unfold mm at e
 split at e
 ·split at e
  ·rename_i ho
   split at e
   ·rename_i hv
    have:=eq_of_beq e
    subst this
    exact ⟨_,_,_,_,rfl,X _ _ ho,rfl,hv⟩
   ·(injection e; done)
  ·(injection e; done)
 ·(injection e; done)
theorem ze (H:GOk g Z) (h1:chkSs Z fn.body ⟨fd.scope.names,nms.zipIdx,nms.length,fn.nslots,false,nw⟩ body=true) (h2:(!safe||chkSs Z fn.body ⟨fd.scope.names,nms.zipIdx,nms.length,fn.nslots,true,nw⟩ body)=true) :
  j6 g d a fn fd body nms safe nw:=fun hm A L bad hs oa G K s hd I=>by
 have top:FxTop (vX g A fd nms fn.nslots a L bad d hm nw):=za (A:=A) rfl I.fr
 refine yf (n:=d) H fn.body (vX g A fd nms fn.nslots a L bad d hm nw) body rfl rfl top ?_ oa G K s hd I
 cases hm with
 | false=>exact h1
 | true=>exact Aa h2 (hs rfl)
set_option tactic.hygienic true in
theorem rZ {g:Gl} {K:Frag} {Z:Zx} {a:Addr} {fn:Fn} {nms:List Str} {safe nw:Bool} (H:GOk g Z) (X:K.In g.h0) (e0:qJ K a=true) (e:jm Z fn nms safe nw (eV K a)=true):∃ fd body nms,FnAt g a fn fd body nms∧∀ d,j6 g d a fn fd body nms safe nw:=by
 unfold qJ at e0
 unfold eV at e
 split at e0
 ·rename_i c d fd sl ho
  replace e:=ho▸e
  dsimp only at e
  split at e
  ·rename_i body hb
   obtain ⟨h1,e0⟩:=a2 e0
   obtain ⟨h2,e0⟩:=a2 e0
   obtain ⟨h3,e0⟩:=a2 e0
   obtain ⟨h4,h13⟩:=a2 e0
   obtain ⟨h5,e⟩:=a2 e
   obtain ⟨h6,e⟩:=a2 e
   obtain ⟨h7,e⟩:=a2 e
   obtain ⟨h8,e⟩:=a2 e
   obtain ⟨h9,e⟩:=a2 e
   obtain ⟨h10,e⟩:=a2 e
   obtain ⟨h11,e⟩:=a2 e
   obtain ⟨h12,e⟩:=a2 e
   obtain ⟨h14,e⟩:=a2 e
   obtain ⟨h15,e⟩:=a2 e
   obtain ⟨h16,e⟩:=a2 e
   obtain ⟨h17,e⟩:=a2 e
   obtain ⟨h18,h19⟩:=a2 e
   have h14:=oC h14
   have h15:=of_decide_eq_true h15
   refine ⟨fd,body,nms,⟨⟨_,X _ _ ho,rfl⟩,hb,xN X h1,eq_of_beq h2,eq_of_beq h3,List.isEmpty_iff.mp h4,Bool.not_eq_true' _▸h5,Bool.not_eq_true' _▸h6,eq_of_beq h7,fun vals hv=>?_,h14,h15,of_decide_eq_true h16,fun x m=>((Bool.or_eq_true _ _).mp (List.all_eq_true.mp h17 x m)).imp eq_of_beq eq_of_beq⟩,fun d=>ze H h18 h19⟩
   refine nP (List.isEmpty_iff.mp h8) (eq_of_beq h9) (List.isEmpty_iff.mp h10) (Option.isNone_iff_eq_none.mp h11) (Option.isNone_iff_eq_none.mp h12) ?_ (h14.sublist (List.take_sublist _ _)) (by rw [List.length_take,hv]; exact (Nat.min_eq_left h15).symm)
   cases hd:fd.defaults <;> rw [hd] at h13 <;> first | rfl | (injection h13; done)
  ·(injection e; done)
 ·(injection e0; done)
theorem u6 (X:g.K.In g.h0) (e:o7 g.K u v=true):∀ (bad:Addr→Prop) h,aH g.h0 h→(∀ a,bad a→g.h0.get? a=none)→Rp g bad h u v:=fun bad h st hb=>by
 cases v with
 | int j=>obtain ⟨t,rfl⟩:=Value.isInt_shape e; exact .int _ _
 | str l=>obtain ⟨t,rfl⟩:=Value.isStrOf_shape e; exact .str _ _
 | _=>(injection e; done)
theorem BZ:bC.all (fun p=>bootBuiltins p.1==some p.2&&p.1 != ("__name__" : Str))=true:=by decide +kernel
theorem Aw (e:qM g.K g.C g.flds=true):ClsOk g:=by
 refine (a2 e).elim fun h1 e=>?_
 obtain ⟨h2,e⟩:=a2 e
 obtain ⟨h3,e⟩:=a2 e
 obtain ⟨h4,e⟩:=a2 e
 obtain ⟨h5,e⟩:=a2 e
 obtain ⟨h6,e⟩:=a2 e
 obtain ⟨h7,e⟩:=a2 e
 exact ⟨eq_of_beq h1,eq_of_beq h2,eq_of_beq h3,h4,h5,fun x m=>eq_of_beq (List.all_eq_true.mp h6 x m),h7,of_decide_eq_true (a2 e).1,of_decide_eq_true (a2 e).2⟩
theorem Ab (e1:g.fns=Z.fns) (e2:g.cons=Z.cons) (e3:g.flds=Z.flds) (e4:g.clss=Z.clss) (e5:g.nc=Z.nc) (e6:g.P.sup=Z.sup) (e7:g.safe=Z.safe) (e8:g.newf=Z.newf) (e9:g.fn Z.cf=g.C) (h1:Z.fns.all (fun p=>keepIn g.K (.ref (g.fn p.2)))=true) (h2:Z.meths.all (vP g.K g.C g.flds g.fn)=true):GOk g Z:=
 ⟨e1,e2,e3,e4,e5,e6,e7,e8,e9,fun x f e=>List.all_eq_true.mp h1 _ (PySem.mem_of_lookup e),fun x f e=>by
  refine (a2 (List.all_eq_true.mp h2 _ (PySem.mem_of_lookup e))).elim fun q1 q=>?_
  obtain ⟨q2,q⟩:=a2 q
  exact ⟨fun m=>by rw [List.elem_iff.mpr m] at q1; exact (nB q1),eq_of_beq q2,eq_of_beq (a2 q).1,(a2 q).2⟩⟩
set_option tactic.hygienic true in
theorem te (X:g.K.In g.h0) (hm:g.h0.Ns mainGlobals g.mg) (hb:g.h0.Ns builtinsNs g.mb) (hl:g.h0.NoLimit) (hbt:∀ x:Str,x≠"__name__"→g.mb x=bootBuiltins x) (h0:(g.K.lookup sysModules).isSome=true) (hc:qM g.K g.C g.flds=true)
  (h1:g.fns.all (fun p=>nsIn g.K mainGlobals p.1==some (some (.ref (g.fn p.2))))=true) (h3:g.cons.all (qK g.K)=true) (h4:bC.all (fun p=>nsIn g.K mainGlobals p.1==some none)=true)
  (h5:g.clss.all (fun p=>decide (p.2 < g.nc)&&nsIn g.K mainGlobals p.1==some (some (.ref (g.cls p.2))))=true) (hx:XClss g):Ground g where
 main:=hm
 blt:=hb
 nolim:=hl
 sysm:=(Option.isSome_iff_exists.mp h0).elim fun o e=>⟨o,X _ _ e⟩
 frag:=X
 cls:=Aw hc
 fns:=fun x f e=>gj X hm (eq_of_beq (List.all_eq_true.mp h1 _ (PySem.mem_of_lookup e)))
 cons:=fun x v e=>by
  have q:=List.all_eq_true.mp h3 _ (PySem.mem_of_lookup e)
  unfold qK at q
  split at q
  ·rename_i u hu; exact ⟨u,gj X hm ((vF ..).symm.trans hu),u6 X q⟩
  ·(injection q; done)
 blts:=fun x v e=>by
  have q:=a2 (List.all_eq_true.mp BZ _ (PySem.mem_of_lookup e))
  exact ⟨gj X hm (eq_of_beq (List.all_eq_true.mp h4 _ (PySem.mem_of_lookup e))),(hbt x (bne_iff_ne.mp q.2)).trans (eq_of_beq q.1)⟩
 clss:=fun x c e=>by
  have q:=a2 (List.all_eq_true.mp h5 _ (PySem.mem_of_lookup e))
  exact ⟨of_decide_eq_true q.1,gj X hm (eq_of_beq q.2)⟩
 raises:=hx.raises
 catches:=hx.catches
 isi:=hx.isi
theorem jk (gr:Ground g) (hfn:∀ f fn,g.P.fns[f]?=some fn→fn.init=false→∃ fd body nms,FnAt g (g.fn f) fn fd body nms∧∀ d,j6 g d (g.fn f) fn fd body nms (g.safe f) (g.newf f)) (hin:∀ f fn,g.P.fns[f]?=some fn→fn.init=true→g.fn f=g.C∧g.safe f=false∧∀ d,InitAt g d fn):∀ d,eX g (al g.P d) d
 | 0=>fun hm f args K A s bad vals hc=>hc.elim
 | d+1=>nO gr (fun f fn h hi=>(hfn f fn h hi).elim fun fd q=>q.elim fun body q=>q.elim fun nms q=>⟨fd,body,nms,q.1,q.2 d⟩) (fun f fn h hi=>(hin f fn h hi).imp id fun q=>q.imp id fun q=>q d) (jk gr hfn hin d)
theorem pZ (xs:List WData):WShape.hasItems [] xs .int=true→∃ is:List Int,xs=is.map .int:=by
 induction xs with
 | nil=>exact fun _=>⟨[],rfl⟩
 | cons x xs ih=>
  intro h
  have h:=a2 (b:=WShape.hasItems [] xs .int) h
  have h1:=h.1
  cases x with
  | int i=>exact (ih h.2).elim fun is e=>⟨i :: is,congrArg _ e⟩
  | _=>(injection h1; done)
noncomputable def At (v:Option WData):Bool:=match (match (match v with | some (.bool b)=>some (WData.bool (!b)) | _=>none) with | some (.bool false)=>some (WData.bool false) | some (.bool true)=>some (WData.bool true) | _=>none) with | some (.bool true)=>true | _=>false
noncomputable def BS (b:Bool):Bool:=match some (WData.bool b) with | some (.bool true)=>true | _=>false
theorem sO:same (.bool true) (.bool true)=true:=by simp only [same,beq_self_eq_true]
theorem zQ (h:(WTm.and (.not (.lt (.lit (.int (63:Nat))) (.len (.arg 0)))) (.lit (.bool true))).holds [] { args:=[.list xs] }=true):xs.length≤63:=by
 have h:At (some (.bool (decide (((63:Nat):Int) < (xs.length:Int)))))=true:=h
 by_cases hq:((63:Nat):Int) < (xs.length:Int)
 ·rw [decide_eq_true hq] at h; (injection h; done)
 ·lia
theorem zo {l:OpenLaw} (hm:l.most=some 63) (hb:l.bound=none):l.pre=.and (.not (.lt (.lit (.int (63:Nat))) (.len (.arg 0)))) (.lit (.bool true)):=by
 unfold OpenLaw.pre; rw [hm,hb]
theorem sM {l:OpenLaw} (hm:l.most=some 63) (hb:l.bound=none) {args:List WData} (h:l.row.claim.pre args=true):∃ is:List Int,args=[.list (is.map .int)]∧is.length≤63:=by
 have h:=a2 (a:=WShape.hasAll [] args [.list .int]) (b:=l.pre.holds [] { args:=args }) h
 rw [zo hm hb] at h
 cases args with
 | nil=>(injection h.1; done)
 | cons x r=>
  have h1:=a2 (a:=WShape.has [] x (.list .int)) h.1
  cases r with
  | cons y r=>(injection h1.2; done)
  | nil=>
   have h2:=h1.1
   cases x with
   | list xs=>
    have h2:(WShape.hasItems [] xs .int||false)=true:=h2
    rw [Bool.or_false] at h2
    refine (pZ xs h2).elim fun is e=>⟨is,congrArg (fun xs=>[WData.list xs]) e,?_⟩
    have:=zQ h.2
    rw [e,zA4] at this
    exact this
   | _=>(injection h2; done)
set_option tactic.hygienic true in
theorem sP (is:List Int):∀ vs:List Value,WellAll P g.h0 vs (is.map .int)→RpAll g (fun _=>False) g.h0 vs (is.map .int):=by
 induction is with
 | nil=>intro vs w; cases w; exact .nil
 | cons i is ih=>
  intro vs w
  cases w with
  | cons w ws=>cases w with
   | int _ t=>exact .cons (.int i t) (ih _ ws)
set_option tactic.hygienic true in
theorem uK {l:OpenLaw} (hm:l.most=some 63) (hb:l.bound=none) {g:Gl} {f d:Nat} {cl:Str→Option Addr} {mean:ExcName→Option Value} {s₁:Shared} {args:List WData} {vals:List Value} {Pm:Params}
  (call:eX g (al g.P d) d) (hg:g.prog=l.row.prog) (h0:g.h0=s₁.heap) (ho:g.os=s₁.os) (hgn:s₁.gens=#[]) (hd:d≤40)
  (hpre:l.row.claim.pre args=true) (hwl:WellAll Pm s₁.heap vals args)
  (plain:∀ scr:List Int,scr.length≤63→al g.P d f [.list (scr.map .int)] fun y=>y=.bool true) :
  wpAny (model l.row.prog g.w) callerA (PySem.call (.ref (g.fn f)) vals) (fun v s'=>GoodWG l.row.claim cl mean args s₁ (.ok (.ret v)) s') (fun e s'=>GoodWG l.row.claim cl mean args s₁ (.error e) s') s₁:=by
 obtain ⟨is,rfl,hlen⟩:=sM hm hb hpre
 cases hwl with
 | cons w ws=>
 cases ws
 cases w with
 | list ha hws=>
 rename_i a vs
 have rp:RpAll g (fun _=>False) s₁.heap [.ref a] [.list (is.map .int)]:=by
  rw [← h0] at hws ha ⊢
  exact .cons (.list id ha ⟨rfl,rfl⟩ rfl (by rw [List.toList_toArray]; exact sP _ _ hws)) .nil
 have B:Base g s₁:=⟨by rw [h0]; exact fun b o e=>e,ho.symm,hgn⟩
 have w:=call false f [.list (is.map .int)] _ callerA s₁ (fun _=>False) [.ref a] (plain is hlen) (fun _=>rfl) nofun (by refine (?_:1+claimMargin+2 * d < 990); exact Nat.lt_of_le_of_lt (Nat.add_le_add_left (Nat.mul_le_mul_left 2 hd) _) (by decide))
  (by refine (?_:4+4 * d+100 < cLine); have:(1000:Nat)≤cLine:=(by decide +kernel); exact Nat.lt_of_lt_of_le (Nat.lt_of_le_of_lt (Nat.add_le_add_right (Nat.add_le_add_left (Nat.mul_le_mul_left 4 hd) 4) 100) (by decide)) this) B ⟨_,rfl,fun env m=>nM m⟩ (fun a q=>q.elim) (fun a q=>q.elim) rp
 rw [hg] at w
 refine wpAny_mono w (fun v s' p=>?_) fun _ _ ⟨_,_,c,e,_,_,q,_⟩=>nomatch q
 obtain ⟨B',_,y,rfl,_,r,_⟩:=p
 refine r.bool_elim ?_
 refine GoodW.toG ⟨.inl ⟨_,.bool true,[],rfl,fun cls=>rfl,ReadsW.bool true,(by
  refine (?_:(WShape.has [] (.bool true) .bool&&(WTm.eq .res (.lit (.bool true))).holds [] _)=true)
  refine zA3 ⟨rfl,?_⟩
  exact congrArg BS sO),fun _=>⟨List.nodup_nil,fun a ha=>(nM ha)⟩⟩,?_,B'.os.trans ho,B'.gens⟩
 have:=B'.stays
 rw [h0] at this
 exact fun b o e=>this b o e
end Mine
end
noncomputable section
namespace Mine.L07
open PySem PySem.Calls PyProof.Rows PySem.W
theorem tA:@jn lU 0 fns nms wA=true:=by kernel_rfl
theorem Cq:jn 0 fns nms wA=true:=r6▸tA
theorem qI {K:Frag}:∀ {i:Nat} {fns:List Fn} {n:List (List Str)} {A:List Addr} {b:List (Option gg)},jn i fns n b=true→A.map (eV K)=b→∀ {f:Nat} {fn:Fn},fns[f]?=some fn→A.getD f 0∈A∧∃ m,jm Z fn m (safe (i+f)) (newf (i+f)&&!fn.init) (eV K (A.getD f 0))=true
 | _,[],_,_,_,_,_,_,_,h=>nN h.symm
 | _,_ :: _,[],_,_,e,_,_,_,_=>nB e
 | _,_ :: _,_ :: _,_,[],e,_,_,_,_=>nB e
 | _,_ :: _,_ :: _,[],_ :: _,_,q,_,_,_=>nomatch q
 | i,fn :: r,n :: m,a :: A,b :: B,e,q,0,_,h=>by
  (injection h with h; subst h)
  obtain ⟨q1,q2⟩:=zA5 q
  refine ⟨.head _,n,?_⟩
  refine (?_:jm Z fn n _ _ (eV K a)=true)
  rw [q1]; exact (a2 e).1
 | i,fn :: r,n :: m,a :: A,b :: B,e,q,f+1,_,h=>by
  obtain ⟨q1,q2⟩:=zA5 q
  rw [show i+(f+1)=i+1+f from (Nat.succ_add i f).symm]
  exact (qI (a2 e).2 q2 (f:=f) h).imp (.tail _) id
theorem su {K:Frag}:∀ {n:Nat},mn K n=true→∀ {c:Nat},c < n→lD K sup 8 (fun c=>clsA.getD c 0) c=true
 | n+1,e,c,h=>by
  by_cases q:c=n
  ·subst q; exact (a2 e).1
  ·exact su (a2 e).2 (Nat.lt_of_le_of_ne (Nat.le_of_lt_succ h) q)
theorem xn:(List.range 40).all (fun f=>(fns[f]?).all fun fn=>if fn.init=true then f==14 else fnB.getD f 0==fnA.getD f 0)=true:=rfl
theorem rV (h:fns[f]?=some fn):(if fn.init=true then f==14 else fnB.getD f 0==fnA.getD f 0)=true:=by
 have:=List.all_eq_true.mp xn f (List.mem_range.mpr (List.getElem?_eq_some_iff.mp h).1)
 rw [h] at this
 exact this
noncomputable def yh (p:Program) (x:Str):Bool:=(ownsOf p).any fun o=>o.name==x&&(o.bm==[.type "ValueError",.type "Exception",.type "BaseException",.type "object"]&&o.newId=="ValueError.__new__")
theorem ur (own:∀ o∈ownsOf p,∃ C,OwnClsQ o.name C o.bm o.newId g.mg g.h0) (hx:yh p x=true) (hc:g.mg x=some (.ref (g.cls c))):RaiseOk g c:=by
 obtain ⟨o,ho,hq⟩:=List.any_eq_true.mp hx
 have h1:=eq_of_beq (a2 hq).1
 have h2:=eq_of_beq (a2 (a2 hq).2).1
 have h3:=eq_of_beq (a2 (a2 hq).2).2
 obtain ⟨C,O⟩:=own o ho
 have hb:=O.bound
 rw [h1,hc] at hb
 cases hb
 obtain ⟨bm,N,nm,q,bs,hdct,sn,sub,ab,col,dd,k0,k1,k2,k3,k5,mN,hC,hN,hqn,T⟩:=O.obj
 rw [h3] at hC
 rw [h2] at T
 exact ⟨nm,q,N,bs,bm,_,hdct,sn,sub,ab,col,dd,k0,k1,k2,k3,k5, "ValueError", "ValueError.__new__",_,mN,PySem.F.excBase_ValueError,T.tail.hasType PySem.F.excBase_ValueError.hasBase,hqn _ (.head _),hC,hN,T.tail⟩
theorem u7:∀ c,c < 8→clsN.any (fun p=>p.2==c&&clsN.lookup p.1==some c)=true:=by decide
theorem xQ (KX:g.K.In g.h0) (e:chk g.K=true) (hbd:fnB.map (eV g.K)=wA) (hf:g.fn=fun f=>fnA.getD f 0) (hC:g.C=mchA) (hfl:g.flds=fldN) (hfn:g.fns=fnN) (hcn:g.cons=conN) (hP:g.P=prog) (hcl:g.clss=clsN) (hnc:g.nc=8) (hcs:g.cls=fun c=>clsA.getD c 0) (hsf:g.safe=safe) (hnw:g.newf=newf) (hm:g.h0.Ns mainGlobals g.mg) (hb:g.h0.Ns builtinsNs g.mb) (hl:g.h0.NoLimit) (hbt:∀ x:Str,x≠"__name__"→g.mb x=bootBuiltins x)
  (own:∀ o∈ownsOf q,∃ C,OwnClsQ o.name C o.bm o.newId g.mg g.h0) (hq:clsN.all (fun p=>yh q p.1)=true) (d:Nat):Ground g∧eX g (al g.P d) d:=by
 obtain ⟨e1,e⟩:=a2 e
 obtain ⟨e2,e⟩:=a2 e
 obtain ⟨e3,e⟩:=a2 e
 obtain ⟨e4,e⟩:=a2 e
 obtain ⟨e5,e⟩:=a2 e
 obtain ⟨e6,e⟩:=a2 e
 obtain ⟨e7,e⟩:=a2 e
 obtain ⟨e8,e⟩:=a2 e
 obtain ⟨e9,e⟩:=a2 e
 obtain ⟨e10,e⟩:=a2 e
 obtain ⟨e11,e⟩:=a2 e
 obtain ⟨e12,e⟩:=a2 e
 obtain ⟨e13,e14⟩:=a2 e
 simp only [vF] at e3 e5 e11
 have hsup:g.P.sup=sup:=by rw [hP]; rfl
 have cn:∀ x c,clsN.lookup x=some c→g.mg x=some (.ref (g.cls c)):=fun x c h=>by
  rw [hcs]
  exact gj KX hm (eq_of_beq (a2 (List.all_eq_true.mp e11 _ (PySem.mem_of_lookup h))).2)
 have xc:XClss g:=BN KX (eq_of_beq e12) (eq_of_beq e13) (fun c h=>by rw [hsup,hnc,hcs]; exact su e14 (hnc▸h)) fun c h=>by
  obtain ⟨p,mp,hp⟩:=List.any_eq_true.mp (u7 c (hnc▸h))
  obtain ⟨h1,h2⟩:=a2 hp
  exact ur own (List.all_eq_true.mp hq _ mp) (cn _ _ (eq_of_beq h2))
 have gr:Mine.Ground g:=te KX hm hb hl hbt e1 (by rw [hC,hfl]; exact e2) (by rw [hfn,hf]; exact e3) (by rw [hcn]; exact e4) e5 (by rw [hcl,hnc,hcs]; exact e11) xc
 have ok:GOk g Z:=Ab hfn hcn hfl hcl hnc hsup hsf hnw (by rw [hf,hC]; rfl) (by rw [hf]; exact e6) (by rw [hC,hfl,hf]; exact e7)
 refine ⟨gr,jk gr (fun f fn h hi=>?_) (fun f fn h hi=>?_) d⟩
 ·rw [hP] at h
  obtain ⟨mb,m,q⟩:=qI Cq hbd h
  have mb:=List.all_eq_true.mp e10 _ mb
  have i:=rV h
  rw [hi,if_neg Bool.false_ne_true] at i
  rw [eq_of_beq i,hi,Nat.zero_add,Bool.not_false,Bool.and_true] at q
  rw [eq_of_beq i] at mb
  rw [hsf,hnw]
  exact rZ ok KX (by rw [hf]; exact mb) (by rw [hf]; exact q)
 ·rw [hP] at h
  obtain ⟨mb,m,q⟩:=qI Cq hbd h
  have mb:=List.all_eq_true.mp e10 _ mb
  have i:=rV h
  rw [hi,if_pos rfl] at i
  obtain rfl:=eq_of_beq i
  rw [hi,Nat.zero_add,Bool.not_true,Bool.and_false] at q
  obtain ⟨fd,body,nm,F,sm⟩:=rZ (g:=g) ok KX mb q
  exact ⟨by rw [hf,hC]; rfl,by rw [hsf]; rfl,fun d=>⟨195,fd,body,nm,by rw [hC]; exact eq_of_beq e8,eq_of_beq e9,F,sm d⟩⟩
end Mine.L07
end
noncomputable section
namespace Mine
open PySem
noncomputable def evs (cf:ai) (es:List E):List D:=E.rec_1 (motive_1:=fun _=>D) (motive_2:=fun _=>List D) (fun o _ ih=>bt cf o ih) [] (fun _ _ i is=>i :: is) es
noncomputable def exi (sup:Nat→Nat→Bool) (cf:ai) (l:List S):B:=S.rec_1 (motive_1:=fun _=>B) (motive_2:=fun _=>B) (fun o es _ _ x y=>d7 sup cf o (es.map (ev cf)) x y) (fun G K=>K none G) (fun _ _ i is G K=>i G fun fl G'=>match fl with | none=>is G' K | some x=>K (some x) G') l
section
variable {sup:Nat→Nat→Bool} {cf:ai} {G:Gs} {K:Option V→Gs→Prop} {e a b c:E} {es:List E} {r:List S} {v x y z:V} {o:Op} {k:Nat} {t u:Bool}
def Val (cf:ai) (G:Gs) (e:E) (v:V):Prop:=∀ K,K v→ev cf e G K
def fD (cf:ai) (G:Gs) (es:List E) (vs:List V):Prop:=∀ K,K vs→bJ (evs cf es) G K
def bk (cf:ai) (b:Bool) (G:Gs) (es:List E) (t:Bool):Prop:=∀ K,K t→cq b (evs cf es) G K
theorem aq {α:Type} {o:Option α} {z:α} {K:α→Prop} (e:o=some z) (h:K z):okK o K:=by rw [e]; exact h
theorem ix {α:Type} {v:α} (K:α→Prop) (h:K v):K v:=h
theorem fD.nil:fD cf G [] []:=ix
noncomputable def pO (o:Op):Bool:=match o with
 | .bin _ | .neg | .tuple | .list | .sub | .slice _ _ | .attr _ | .isinst _ | .len | .listOf | .lenSet | .isExc _ _ | .tupleOf | .range | .zip=>true
 | _=>false
theorem BP (h:pO o=true) {K:V→Prop} (q:bJ ds G fun xs=>okK (opN o xs) K):bt cf o ds G K:=by
 cases o <;> first | exact q | exact nB h
theorem fD.cons (h:Val cf G e v) (hs:fD cf G es vs):fD cf G (e :: es) (v :: vs):=fun K k=>h _ (hs _ k)
theorem fD.one (h:Val cf G e v):fD cf G [e] [v]:=.cons h .nil
theorem fD.two (h:Val cf G a x) (h':Val cf G b y):fD cf G [a,b] [x,y]:=.cons h (.cons h' .nil)
theorem aa {vs:List V} (hv:fD cf G es vs) (e:opN o vs=some z) (ho:pO o=true:=by exact rfl):Val cf G (.nd o es) z:=fun K k=>BP ho (hv _ (aq e k))
theorem ae {o:CmpOp} (h:Val cf G a x) (h':Val cf G b y) (e:aU o x y=some t):Val cf G (.nd (.cmp o) [a,b]) (.bool t):=fun K k=>h _ (h' _ (aq e k))
theorem aw (hv:fD cf G es vs) (h:∀ K,K v→cf f vs K) (hn:noX v=true:=by rfl):Val cf G (.nd (.call f) es) v:=fun K k=>hv _ (h _ ⟨hn,k⟩)
theorem bO (hv:Val cf G e x) (hi:ij x=true) (h:∀ K,K v→cf f [x] K) (hn:noX v=true:=by rfl):Val cf G (.nd (.meth f) [e]) v:=fun K k=>hv _ ⟨hi,h _ ⟨hn,k⟩⟩
theorem aF (h:Val cf G a (.bool t)):Val cf G (.nd .not [a]) (.bool (!t)):=fun K k=>h _ k
theorem bk.nil {b:Bool}:bk cf b G [] b:=fun _ h=>h
theorem bk.go {b:Bool} (h:Val cf G a (.bool b)) (hs:bk cf b G es t):bk cf b G (a :: es) t:=fun K k=>h _ (by refine (?_:if b=b then _ else _); rw [if_pos rfl]; exact hs _ k)
theorem bk.stop {b:Bool} (h:Val cf G a (.bool (!b))):bk cf b G (a :: es) (!b):=fun K k=>h _ (by refine (?_:if (!b)=b then _ else _); rw [if_neg (by cases b <;> decide)]; exact k)
theorem bk.and {t u:Bool} (h:Val cf G a (.bool t)) (hs:t=true→bk cf true G es u):bk cf true G (a :: es) (t&&u):=by
 cases t
 ·exact .stop (b:=true) h
 ·exact .go h (hs rfl)
theorem bk.or {t u:Bool} (h:Val cf G a (.bool t)) (hs:t=false→bk cf false G es u):bk cf false G (a :: es) (t||u):=by
 cases t
 ·exact .go h (hs rfl)
 ·exact .stop (b:=false) h
theorem bk.one (h:Val cf G a (.bool t)):bk cf true G [a] t:=by
 have:=bk.and (es:=[]) h fun _=>.nil
 rwa [Bool.and_true] at this
theorem bk.one' (h:Val cf G a (.bool t)):bk cf false G [a] t:=by
 have:=bk.or (es:=[]) h fun _=>.nil
 rwa [Bool.or_false] at this
theorem az (h:bk cf true G es t):Val cf G (.nd .and es) (.bool t):=fun K k=>h _ k
theorem bq (h:bk cf false G es t):Val cf G (.nd .or es) (.bool t):=fun K k=>h _ k
theorem o8 {α:Type} {e:E} {ts:List E} {b:Gs→V→Option Gs} {g:α→V} {H:α→Gs} {p:α→Bool} {f:α→V} {ws:List α}:∀ (ys:List V),(∀ w∈ws,b G (g w)=some (H w))→(∀ w∈ws,bk cf true (H w) ts (p w))→(∀ w∈ws,p w=true→Val cf (H w) e (f w))→∀ K:List V→Prop,K (ys++(ws.filter p).map f)→jf (ev cf e) (evs cf ts) b G (ws.map g) fun zs=>K (ys++zs):=by
 induction ws with
 | nil=>exact fun ys _ _ _ K h=>h
 | cons x xs ih=>
  intro ys hb ht he K h
  refine aq (hb x (.head _)) (ht x (.head _) _ ?_)
  have ih:=fun ys=>ih ys (fun x m=>hb x (.tail _ m)) (fun x m=>ht x (.tail _ m)) fun x m=>he x (.tail _ m)
  cases hp:p x with
  | false=>
   rw [List.filter_cons_of_neg (by rw [hp]; exact Bool.false_ne_true)] at h
   exact ih ys K h
  | true=>
   rw [List.filter_cons_of_pos hp] at h
   refine he x (.head _) hp _ ?_
   have e1:(fun zs=>K (ys++(f x :: zs)))=fun zs=>K ((ys++[f x])++zs):=funext fun zs=>by rw [List.append_assoc]; rfl
   refine (?_:jf (ev cf e) (evs cf ts) b G (xs.map g) fun zs=>K (ys++(f x :: zs)))
   rw [e1]
   exact ih (ys++[f x]) K (by rw [List.append_assoc]; exact h)
theorem jz {α:Type} {s e:E} {ts:List E} {g:α→V} {p:α→Bool} {f:α→V} {ws:List α} (hs:Val cf G s x) (hq:bL x=some (ws.map g)) (ht:∀ w∈ws,bk cf true (G.set k (.v (g w))) ts (p w)) (he:∀ w∈ws,p w=true→Val cf (G.set k (.v (g w))) e (f w)) :
  Val cf G (.nd (.comp k) (s :: e :: ts)) (.list ((ws.filter p).map f)):=fun K h=>hs _ (aq hq (o8 [] (fun _ _=>rfl) ht he (fun ys=>K (.list ys)) h))
theorem kA (h:Val cf G a x) (hi:ij x=true):Val cf G (.nd .isCls [a]) (.bool true):=fun K k=>h _ ⟨hi,k⟩
theorem tZ {l:List V} (hl:bI G k=some l) (h:Val cf (G.set k (.v (.list l))) a (.bool t)):Val cf G (.nd (.lend k) [a]) (.bool t):=fun K n=>aq hl (h _ n)
theorem sF {α:Type} {s e:E} {ts:List E} {ks:List Nat} {g:α→V} {H:α→Gs} {p:α→Bool} {f:α→V} {ws:List α} (hs:Val cf G s x) (hq:bL x=some (ws.map g)) (hb:∀ w∈ws,aV ks G (g w)=some (H w)) (ht:∀ w∈ws,bk cf true (H w) ts (p w)) (he:∀ w∈ws,p w=true→Val cf (H w) e (f w)) :
  Val cf G (.nd (.compM ks) (s :: e :: ts)) (.list ((ws.filter p).map f)):=fun K h=>hs _ (aq hq (o8 [] hb ht he (fun ys=>K (.list ys)) h))
theorem AE (ws:List α):ws.filter (fun _=>true)=ws:=List.filter_eq_self.mpr fun _ _=>rfl
theorem bY {α:Type} {g f:α→V} {ws:List α} (hs:Val cf G s x) (hq:bL x=some (ws.map g)) (he:∀ w∈ws,Val cf (G.set k (.v (g w))) e (f w)) :
  Val cf G (.nd (.comp k) [s,e]) (.list (ws.map f)):=by
 have q:=jz (ts:=[]) (p:=fun _=>true) (f:=f) hs hq (fun _ _=>.nil) fun x m _=>he x m
 rw [AE] at q
 exact q
theorem exi_eq:∀ l:List S,exi sup cf l=exs sup cf l
 | []=>rfl
 | s :: r=>funext fun G=>funext fun K=>by
  refine (?_:ex sup cf s G (fun fl G'=>match fl with | none=>exi sup cf r G' K | some x=>K (some x) G')=_)
  rw [exi_eq r]; rfl
theorem lV:∀ l:List S,exs sup cf (l++r)=fun G K=>exs sup cf l G (fun fl G'=>match fl with | none=>exs sup cf r G' K | some x=>K (some x) G')
 | []=>rfl
 | s :: l=>by
  funext G K
  refine (?_:ex sup cf s G (fun fl G'=>match fl with | none=>exs sup cf (l++r) G' K | some x=>K (some x) G')=_)
  rw [lV l]; rfl
theorem aL (h:K none G):exs sup cf [] G K:=h
theorem af (h:Val cf G e v) (n:exs sup cf r (G.set k (.v v)) K):exs sup cf (.mk (.assign k) [e] [] [] :: r) G K:=h _ n
theorem sB {ks:List Nat} {G':Gs} (h:Val cf G e v) (hs:aV ks G v=some G') (n:exs sup cf r G' K):exs sup cf (.mk (.assignM ks) [e] [] [] :: r) G K:=h _ (aq hs n)
theorem ay (h:Val cf G e v) (n:K (some v) G) (hn:noX v=true:=by rfl):exs sup cf (.mk .ret [e] [] [] :: r) G K:=h _ ⟨hn,n⟩
theorem cV {A B:List S} (h:Val cf G c (.bool t)) (h1:t=true→exs sup cf (A++r) G K) (h2:t=false→exs sup cf (B++r) G K):exs sup cf (.mk .ite [c] A B :: r) G K:=h _ (by
 refine (?_:if t=true then exi sup cf A G _ else exi sup cf B G _)
 rw [exi_eq,exi_eq]
 cases t
 ·have:=h2 rfl; rw [lV] at this; exact this
 ·have:=h1 rfl; rw [lV] at this; exact this)
theorem bN {A B:List S} (h:Val cf G c (.bool true)) (h1:exs sup cf (A++r) G K):exs sup cf (.mk .ite [c] A B :: r) G K:=cV h (fun _=>h1) fun q=>nB q.symm
theorem aB (h:Val cf G c (.bool false)) (h1:exs sup cf r G K):exs sup cf (.mk .ite [c] A [] :: r) G K:=cV h (fun q=>nB q) fun _=>h1
theorem qw (n:exs sup cf r (G.set k (.ownL [])) K):exs sup cf (.mk (.ownL k) [] [] [] :: r) G K:=⟨Nat.zero_le _,n⟩
theorem jw {l:List V} (hl:bI G k=some l) (h:Val cf G e v) (hz:l.length < am) (n:exs sup cf r (G.set k (.ownL (l++[v]))) K):exs sup cf (.mk (.append k) [e] [] [] :: r) G K:=aq hl (h _ ⟨hz,n⟩)
theorem jv {l:List V} (hl:bI G k=some l) (n:exs sup cf r (G.set k (.v (.list l))) K):exs sup cf (.mk (.freeze k) [] [] [] :: r) G K:=aq hl n
theorem evs_map:∀ es:List E,es.map (ev cf)=evs cf es
 | []=>rfl
 | e :: es=>congrArg (ev cf e :: ·) (evs_map es)
theorem lE (hv:fD cf G es vs) (h:cf f vs fun y=>if noX y=true then isNone y=true∧exs sup cf r G K else K (some y) G):exs sup cf (.mk (.call f) es [] [] :: r) G K:=by
 refine (?_:bJ (es.map (ev cf)) G fun xs=>cf f xs fun y=>if noX y=true then isNone y=true∧exs sup cf r G K else K (some y) G)
 rw [evs_map]
 exact hv _ h
theorem mF (n:exs sup cf r (G.set k (.ownD [])) K):exs sup cf (.mk (.ownD k) [] [] [] :: r) G K:=n
theorem mE {l:List (V×V)} (hl:iP G k=some l) (h:Val cf G a v) (h':Val cf G b x) (hk:dC x=true) (hz:l.length < am) (n:exs sup cf r (G.set k (.ownD (rm l x v))) K):exs sup cf (.mk (.setD k) [a,b] [] [] :: r) G K:=
 aq hl (h _ (h' _ (aq (if_pos (zA3 ⟨hk,decide_eq_true hz⟩)) n)))
theorem eA {l:List (V×V)} (hl:iP G k=some l) (n:exs sup cf r (G.set k (.v (.dict l))) K):exs sup cf (.mk (.freezeD k) [] [] [] :: r) G K:=aq hl n
theorem y0 {l:List V} {j f:Nat} (h:Val cf G a x) (hl:bI G k=some l) (hz:l.length≤am) (hy:l.getLast?=some y) (h':Val cf (G.set k (.ownL l.dropLast)) b z) (h'':Val cf (G.set k (.ownL l.dropLast)) c v)
  (n:cf f [x,y,z,v] fun w=>noX w=true∧exs sup cf r ((G.set k (.ownL l.dropLast)).set j (.v w)) K):exs sup cf (.mk (.popC j k f) [a,b,c] [] [] :: r) G K:=h _ (aq hl ⟨hz,aq hy (h' _ (h'' _ n))⟩)
theorem vg {l:List V} {i:Int} (hl:bI G k=some l) (h:Val cf G a v) (h':Val cf G b (.int i)) (hi:0≤i∧i < l.length∧l.length≤am) (n:exs sup cf r (G.set k (.ownL (l.set i.toNat v))) K):exs sup cf (.mk (.setL k) [a,b] [] [] :: r) G K:=aq hl (h _ (h' _ (aq (if_pos hi) n)))
theorem yZ (hv:fD cf G es vs) (h:cf f vs fun y=>K (some y) G):exs sup cf (.mk (.retC f) es [] [] :: r) G K:=by
 refine (?_:bJ (es.map (ev cf)) G fun xs=>cf f xs fun y=>K (some y) G)
 rw [evs_map]
 exact hv _ h
theorem yY (hv:fD cf G es vs) (n:cf f vs fun y=>match lW y with
  | none=>K (some y) G
  | some e=>sup e d=true∧exs sup cf A (G.set k (.v y)) fun fl G'=>match fl with | some z=>noX z=true∧K (some z) (G'.set k .unset) | none=>False):exs sup cf (.mk (.tryC f d k) es A [] :: r) G K:=by
 refine (?_:bJ (es.map (ev cf)) G fun xs=>cf f xs fun y=>match lW y with
  | none=>K (some y) G
  | some e=>sup e d=true∧exi sup cf A (G.set k (.v y)) fun fl G'=>(match fl with | some x=>noX x=true | none=>False)∧match fl with | none=>exs sup cf r (G'.set k .unset) K | some x=>K (some x) (G'.set k .unset))
 rw [evs_map,exi_eq]
 refine hv _ ?_
 have e:(fun (fl:Option V) (G':Gs)=>(match fl with | some x=>noX x=true | none=>False)∧match fl with | none=>exs sup cf r (G'.set k .unset) K | some x=>K (some x) (G'.set k .unset))=fun fl G'=>match fl with | some z=>noX z=true∧K (some z) (G'.set k .unset) | none=>False:=funext fun fl=>funext fun G'=>by
  cases fl with
  | none=>exact propext ⟨fun h=>h.1,fun h=>h.elim⟩
  | some z=>rfl
 rw [e]
 exact n
theorem rY {b:Gs→V→Option Gs} {P:List V→Gs→Prop} (done:∀ G,P [] G→K none G) (turn:∀ x l G,P (x :: l) G→(∀ G',P l G'→i9 b A l G' K)→okK (b G x) fun G'=>A G' fun fl G''=>match fl with | none=>i9 b A l G'' K | some y=>noX y=true∧K (some y) G''):∀ xs G,P xs G→i9 b A xs G K
 | [],G,h=>done G h
 | x :: l,G,h=>turn x l G h (rY done turn l)
theorem qx {op:SOp} {b:Gs→V→Option Gs} {s:E} {body:List S} {xs:List V} {P:List V→Gs→Prop} (hop:∀ ds X Y G K,(fy ds G fun x=>okK (bL x) fun xs=>i9 b X xs G K)→d7 sup cf op ds X Y G K) (hs:Val cf G s v) (hq:bL v=some xs) (h0:P xs G) (done:∀ G,P [] G→exs sup cf r G K)
  (turn:∀ x l G Kt,P (x :: l) G→(∀ G',P l G'→Kt none G')→(∀ y G',noX y=true→K (some y) G'→Kt (some y) G')→okK (b G x) fun G'=>exs sup cf body G' Kt):exs sup cf (.mk op [s] body [] :: r) G K:=by
 have q:=hop [ev cf s] (exi sup cf body) (exi sup cf []) G (fun fl G'=>match fl with | none=>exs sup cf r G' K | some x=>K (some x) G') (hs _ (aq hq (by
  rw [exi_eq]
  exact rY (P:=P) (K:=fun fl G'=>match fl with | none=>exs sup cf r G' K | some x=>K (some x) G') done (fun x l G h n=>turn x l G (fun fl G''=>match fl with | none=>i9 b (exs sup cf body) l G'' (fun fl G'=>match fl with | none=>exs sup cf r G' K | some x=>K (some x) G') | some y=>noX y=true∧K (some y) G'') h n fun _ _ h h'=>⟨h,h'⟩) xs G h0)))
 exact q
theorem gU {P:List V→Gs→Prop} (hs:Val cf G s v) (hq:bL v=some xs) (h0:P xs G) (done:∀ G,P [] G→exs sup cf r G K)
  (turn:∀ x l G Kt,P (x :: l) G→(∀ G',P l G'→Kt none G')→(∀ y G',noX y=true→K (some y) G'→Kt (some y) G')→exs sup cf body (G.set k (.v x)) Kt):exs sup cf (.mk (.forS k) [s] body [] :: r) G K:=qx (P:=P) (fun _ _ _ _ _ h=>h) hs hq h0 done turn
theorem y4 {P:List V→Gs→Prop} (hs:Val cf G s v) (hq:bL v=some xs) (h0:P xs G) (done:∀ G,P [] G→exs sup cf r G K)
  (turn:∀ x l G Kt,P (x :: l) G→(∀ G',P l G'→Kt none G')→(∀ y G',noX y=true→K (some y) G'→Kt (some y) G')→okK (aV ks G x) fun G'=>exs sup cf body G' Kt):exs sup cf (.mk (.forM ks) [s] body [] :: r) G K:=qx (P:=P) (fun _ _ _ _ _ h=>h) hs hq h0 done turn
end
end Mine
end
noncomputable section
namespace Mine.L07
open PySem
noncomputable def step (cf:ai):ai:=fun f args K=>okK (fns[f]?) fun fn=>args.length+(if fn.init=true then 1 else 0)=fn.npar∧exs sup cf fn.body (cQ fn args) fun fl G=>
 if fn.init=true then (match fl with | none=>okK (dQ G 0) fun l=>l.length=5∧K (qd l) | some y=>noX y=false∧K y) else K (fl.getD .none)
theorem run (hf:fns[f]?=some fn) (hi:fn.init=false) (hl:args.length=fn.npar) (h:exs sup cf fn.body (args.map .v++List.replicate (fn.nslots - fn.npar) .unset) fun fl _=>K (fl.getD .none)):step cf f args K:=by
 unfold step
 refine hf.symm▸?_
 refine ⟨by rw [hi,if_neg Bool.false_ne_true]; exact hl,?_⟩
 exact hi.symm▸(show cQ fn args=args.map .v++List.replicate (fn.nslots - fn.npar) .unset by unfold cQ; rw [hi]; rfl).symm▸h
theorem cJ (h:n≤5000):n≤am:=zB1 h (by decide)
theorem aX (h:l.length≤5000):bL (.list l)=some l:=if_pos (cJ h)
theorem fQ (h:l.length≤5000):bL (text l)=some (bj l):=if_pos (cJ h)
theorem kh (h:l.length≤5000):opN .len [.list l]=some (.int l.length):=by
 refine (?_:(bL (.list l)).map _=_); rw [aX h]; rfl
theorem zE (h:s.cps.toList.length≤5000):opN .len [.str s]=some (.int s.cps.toList.length):=by
 refine (?_:(db s.cps.toList (bj s.cps.toList)).map _=_)
 rw [show db s.cps.toList (bj s.cps.toList)=some (bj s.cps.toList) from if_pos (cJ h)]
 refine (?_:some (PyData.int ((s.cps.toList.map _).length:Nat))=_); rw [zA4]
theorem CX (h:a < b):aU .Lt (.int a) (.int b)=some true:=congrArg some (decide_eq_true h)
theorem wq (h:¬ a < b):aU .Lt (.int a) (.int b)=some false:=congrArg some (decide_eq_false h)
theorem xR (h:b < a):aU .Gt (.int a) (.int b)=some true:=congrArg some (decide_eq_true h)
theorem km (h:¬ b < a):aU .Gt (.int a) (.int b)=some false:=congrArg some (decide_eq_false h)
theorem pb:aU .Eq (.int a) (.int b)=some (a==b):=rfl
theorem v3:aU .NotEq (.int a) (.int b)=some (!(a==b)):=rfl
theorem lN (hz:l.length≤5000) (h0:0≤i) (e:l[i.toNat]?=some x):i5 l f (.int i)=some (f x):=by
 refine (?_:(if l.length≤am then _ else none)=_)
 rw [if_pos (cJ hz),if_pos h0,e]; rfl
theorem fH (hz:l.length≤5000) (h0:0≤i) (e:l[i.toNat]?=some x):opN .sub [.list l,.int i]=some x:=lN hz h0 e
theorem qE (hz:l.length≤5000) (h0:0≤i) (e:l[i.toNat]?=some c):opN .sub [text l,.int i]=some (text [c]):=lN (f:=fun c=>text [c]) hz h0 e
theorem aT (a:Int) (h:0 < b):0≤a.fmod b:=Int.fmod_nonneg_of_pos a h
theorem bR (a:Int) (h:0 < b):a.fmod b < b:=Int.fmod_lt_of_pos a h
theorem cz (h:0 < b):opN (.bin .Mod) [.int a,.int b]=some (.int (a.fmod b)):=if_neg (Int.ne_of_gt h)
theorem kj (h:0 < b) (h':b≤1000000):opN (.bin .FloorDiv) [.int a,.int b]=some (.int (a.fdiv b)):=if_neg fun z=>z.elim (fun e=>absurd h (e▸Int.lt_irrefl 0)) fun e=>absurd e (Nat.not_lt.mpr (Int.ofNat_le.mp ((Int.natAbs_of_nonneg (Int.le_of_lt h)).symm▸h')))
theorem gX (h:b.natAbs≤1000000∨a.natAbs≤1000000):opN (.bin .Mult) [.int a,.int b]=some (.int (a * b)):=if_pos h
noncomputable def nZ (scr:List Int):V:=.list (scr.map .int)
noncomputable def a8 (scr:List Int) (k:Int):Int:=if k < scr.length then scr.getD k.toNat 0 else 0
def S20 (cf:ai):Prop:=∀ scr k K,scr.length≤63→0≤k→K (.int (a8 scr k))→cf 20 [nZ scr,.int k] K
theorem p20 (cf:ai):S20 (step cf):=fun scr k K hs h0 h=>by
 refine run (fn:=f20) rfl rfl rfl ?_
 have hl:(scr.map PyData.int).length≤5000:=by exact zB1 (zB2 (List.length_map _)) (zB1 hs (by decide))
 have hv:Val cf [.v (nZ scr),.v (.int k)] (lnE (vv 0)) (.int scr.length):=aa (.one ix) (by exact (List.length_map (f:=PyData.int) (as:=scr))▸kh hl)
 by_cases hk:k < scr.length
 ·refine bN (ae ix hv (CX hk)) (ay (aa (.two ix ix) (fH (x:=.int (a8 scr k)) hl h0 ?_)) h)
  have hk':k.toNat < scr.length:=by exact (Int.toNat_lt ‹_›).mpr hk
  rw [List.getElem?_map,List.getElem?_eq_getElem hk']
  unfold a8
  rw [if_pos hk,List.getD_eq_getElem?_getD,List.getElem?_eq_getElem hk']; rfl
 ·refine aB (ae ix hv (wq hk)) (ay (v:=.int (a8 scr k)) ?_ h)
  unfold a8
  exact (if_neg hk).symm▸ix
noncomputable def vN (c k:Int):Int:=(c * 48271+7919 * k).fmod 1000003
def S21 (cf:ai):Prop:=∀ c k K,K (.int (vN c k))→cf 21 [.int c,.int k] K
theorem p21 (cf:ai):S21 (step cf):=fun c k K h=>run (fn:=f21) rfl rfl rfl (ay (aa (.two (aa (.two (aa (.two ix ix) (gX (.inl (by decide)))) (aa (.two ix ix) (gX (.inr (by decide))))) rfl) ix) (cz (by decide))) h)
noncomputable def low (c:Nat):Bool:=abc.cps.toList.elem c
theorem jV (h:l.length≤5000):opN .len [text l]=some (.int l.length):=zE (s:=⟨l.toArray⟩) h
theorem tQ (h:a=b):aU .Eq (.int a) (.int b)=some true:=h▸congrArg some (beq_self_eq_true a)
theorem mG {K:Option V→Gs→Prop} {I:Gs→Prop} (hs:Val cf G s v) (hq:bL v=some xs) (h0:I G) (hI:∀ G x,I G→I (G.set k (.v x))) (hc:∀ x∈xs,∀ G,I G→Val cf (G.set k (.v x)) c (.bool false)) (n:∀ G,I G→exs sup cf r G K):exs sup cf (.mk (.forS k) [s] [.mk .ite [c] A []] [] :: r) G K:=
 gU (P:=fun l G=>I G∧∀ x∈l,x∈xs) hs hq ⟨h0,fun _ m=>m⟩ (fun G h=>n G h.1) fun x l G Kt h nx rt=>aB (hc x (h.2 x (.head _)) G h.1) (aL (nx _ ⟨hI G x h.1,fun y z=>h.2 y (.tail _ z)⟩))
structure SgOk (a b c:List Nat):Prop where
 la:a.length≤4
 lb:b.length≤4
 lc:c.length≤4
 lows:∀ x∈a++b++c,low x=true
 nodup:(a++b++c).Nodup
section
variable {a b c:List Nat} {x:Nat} (ok:SgOk a b c)
include ok
theorem SgOk.inC (h:x∈c):x∉a∧x∉b:=by
 have:=(List.nodup_append.mp ok.nodup).2.2
 exact ⟨fun q=>this x (List.mem_append_left _ q) x h rfl,fun q=>this x (List.mem_append_right _ q) x h rfl⟩
theorem SgOk.inB (h:x∈b):x∉a:=fun q=>(List.nodup_append.mp (List.nodup_append.mp ok.nodup).1).2.2 x q x h rfl
theorem SgOk.lowA (h:x∈a):low x=true:=ok.lows x (List.mem_append_left _ (List.mem_append_left _ h))
theorem SgOk.lowB (h:x∈b):low x=true:=ok.lows x (List.mem_append_left _ (List.mem_append_right _ h))
theorem SgOk.lowC (h:x∈c):low x=true:=ok.lows x (List.mem_append_right _ h)
end
noncomputable def sg (a b c:List Nat):V:=.tuple [text a,text b,text c]
def S0 (cf:ai):Prop:=∀ l K,l.length≤4→(∀ c∈l,low c=true)→K (.bool true)→cf 0 [text l] K
theorem p0 (cf:ai):S0 (step cf):=fun l K hl lo h=>run (fn:=f0) rfl rfl rfl (aB (bq (.go (b:=false) (aF (t:=true) ix) (.one' (ae (aa (.one ix) (jV (zB1 hl (by decide)))) ix (km (Int.not_lt.mpr (Int.ofNat_le.mpr hl))))))) (mG (xs:=bj l) (v:=text l) (I:=fun G=>∃ t,G=[.v (text l),t]) ix (fQ (zB1 hl (by decide))) ⟨_,rfl⟩ (fun G x h=>h.elim fun _ e=>⟨.v x,e▸rfl⟩) (fun x m G h=>by
 obtain ⟨t,rfl⟩:=h
 obtain ⟨c,mc,rfl⟩:=zA7 m
 exact ae ix ix (congrArg (fun b=>some (!b)) (lo c mc))) fun G _=>ay (v:=.bool true) ix h))
theorem zD (nd:l.Nodup) (hz:l.length≤1000):opN .lenSet [text l]=some (.int l.length):=by
 refine (?_:(if l.Nodup∧l.toArray.size < 4000 then some l.toArray.size else none).map _=_)
 rw [if_pos ⟨nd,Nat.lt_of_le_of_lt hz (by decide)⟩]; rfl
theorem zK (h:(a.cps.toList++b.cps.toList).length≤5000):opN (.bin .Add) [.str a,.str b]=some (text (a.cps.toList++b.cps.toList)):=if_pos (cJ h)
theorem m0 (h:(l++m).length≤5000):opN (.bin .Add) [text l,text m]=some (text (l++m)):=zK (a:=⟨l.toArray⟩) (b:=⟨m.toArray⟩) h
def S1 (cf:ai):Prop:=∀ a b c K,SgOk a b c→K (.bool true)→cf 1 [sg a b c] K
theorem p1 (cf:ai) (h0:S0 cf):S1 (step cf):=fun a b c K sk h=>by
 refine run (fn:=f1) rfl rfl rfl (aB (bq (.go (b:=false) (aF (t:=true) ix) (.one' (ae (x:=.int 3) ix ix rfl)))) ?_)
 have go:∀ {l:List Nat},l.length≤4→(∀ c∈l,low c=true)→∀ G,(∃ t,G=[.v (sg a b c),t,.unset])→Val cf (G.set 1 (.v (text l))) (.nd .not [.nd (.call 0) [vv 1]]) (.bool false):=fun hl lo G h=>by
  obtain ⟨t,rfl⟩:=h
  exact aF (t:=true) (aw (.one ix) fun K h=>h0 _ K hl lo h)
 refine mG (xs:=[text a,text b,text c]) (v:=sg a b c) (I:=fun G=>∃ t,G=[.v (sg a b c),t,.unset]) ix rfl ⟨_,rfl⟩ (fun G x h=>h.elim fun _ e=>⟨.v x,e▸rfl⟩) (zA1 ⟨go sk.la fun _ m=>sk.lowA m,zA1 ⟨go sk.lb fun _ m=>sk.lowB m,List.forall_mem_singleton.mpr (go sk.lc fun _ m=>sk.lowC m)⟩⟩) fun G hG=>?_
 obtain ⟨t,rfl⟩:=hG
 have e1:(a++b).length≤8:=by rw [zB5]; exact Nat.add_le_add sk.la sk.lb
 have e2:(a++b++c).length≤12:=by rw [zB5]; exact Nat.add_le_add e1 sk.lc
 refine af (v:=text (a++b++c)) (aa (vs:=[text (a++b),text c]) (.two (aa (vs:=[text a,text b]) (.two ix ix) (m0 (zB1 e1 (by decide)))) ix) (m0 (zB1 e2 (by decide)))) ?_
 exact ay (ae (aa (.one ix) (zD sk.nodup (zB1 e2 (by decide)))) (aa (.one ix) (jV (zB1 e2 (by decide)))) (tQ rfl)) h
theorem qR (h:K (some (fA c)) G):exs sup cf (.mk (.raise c) [] [] [] :: r) G K:=h
def S2 (cf:ai):Prop:=∀ a b c K,SgOk a b c→K .none→cf 2 [sg a b c] K
theorem p2 (cf:ai) (h1:S1 cf):S2 (step cf):=fun a b c K sk h=>run (fn:=f2) rfl rfl rfl (aB (aF (t:=true) (aw (.one ix) fun K h=>h1 a b c K sk h)) (aL h))
theorem dg (x:Str):PyData.strOk x=x.cps.toList.all (· < 0x110000):=by unfold PyData.strOk; rw [Array.all_toList]
theorem okS (h:PyData.strOk s=true):dA (.str s)=true:=by
 refine (?_:(PyData.strOk s&&_)=true)
 rw [h]; rfl
theorem bX (hs:PyData.strOk s=true) (ht:PyData.strOk t=true):aU .Eq (.str s) (.str t)=some (s==t):=if_pos (by rw [okS hs,okS ht]; rfl)
theorem yS (hs:PyData.strOk s=true) (ht:PyData.strOk t=true):aU .NotEq (.str s) (.str t)=some (!(s==t)):=congrArg (Option.map (!·)) (bX hs ht)
theorem ok_on:PyData.strOk kOn=true:=by rw [dg]; rfl
theorem ok_open:PyData.strOk a7=true:=by rw [dg]; rfl
theorem ok_close:PyData.strOk aS=true:=by rw [dg]; rfl
theorem B8:PyData.strOk k0=true:=by rw [dg]; rfl
theorem zN (h:low c=true):c < 0x110000:=by
 have:∀ x∈abc.cps.toList,x < 0x110000:=by decide
 exact this c (List.elem_iff.mp h)
theorem dL {l:List Nat} (h:∀ c∈l,low c=true):PyData.strOk ⟨l.toArray⟩=true:=by
 rw [dg]
 exact List.all_eq_true.mpr fun c m=>decide_eq_true (zN (h c m))
theorem iS (h:(!b)=false):b=true:=by cases b with | true=>rfl | false=>(injection h; done)
noncomputable def dR (a b c:List Nat) (x:Nat):Str:=if a.elem x=true then a7 else if b.elem x=true then aS else if c.elem x=true then kOn else k0
section
variable {a b c:List Nat} {x:Nat} (ok:SgOk a b c)
include ok
theorem xh (h:x∈a):dR a b c x=a7:=if_pos (List.elem_iff.mpr h)
theorem xj (h:x∈b):dR a b c x=aS:=(if_neg fun q=>ok.inB h (List.elem_iff.mp q)).trans (if_pos (List.elem_iff.mpr h))
theorem xi (h:x∈c):dR a b c x=kOn:=(if_neg fun q=>(ok.inC h).1 (List.elem_iff.mp q)).trans ((if_neg fun q=>(ok.inC h).2 (List.elem_iff.mp q)).trans (if_pos (List.elem_iff.mpr h)))
end
theorem CY:aU .In (text [c]) (text l)=some (l.elem c):=rfl
theorem br (h:Val cf G e (.str s)) (hs:PyData.strOk s=true) (ht:PyData.strOk t=true) (hu:(s==t)=u):Val cf G (eqE e (ss t)) (.bool u):=ae h ix ((bX hs ht).trans (congrArg some hu))
def S3 (cf:ai):Prop:=∀ a b c x K,K (.str (dR a b c x))→cf 3 [sg a b c,text [x]] K
theorem v9 (h1:l.elem x=true→∀ G,K (some (.str k)) G) (h2:l.elem x=false→∀ s t,i9 (aV [2,3]) (exs sup cf xv) xs [.v v,.v (text [x]),s,t] K):i9 (aV [2,3]) (exs sup cf xv) (.tuple [text l,.str k] :: xs) [.v v,.v (text [x]),s,t] K:=by
 refine (?_:exs sup cf xv [.v v,.v (text [x]),.v (text l),.v (.str k)] fun fl G=>match fl with | none=>i9 (aV [2,3]) (exs sup cf xv) xs G K | some y=>noX y=true∧K (some y) G)
 exact cV (ae (x:=text [x]) ix ix CY) (fun q=>ay (v:=.str k) ix ⟨rfl,h1 q _⟩) fun q=>aL (h2 q _ _)
theorem y2 (hs:Val cf G s v) (hq:bL v=some xs) (h:i9 (aV ks) (exs sup cf body) xs G fun fl G'=>match fl with | none=>exs sup cf r G' K | some x=>K (some x) G'):exs sup cf (.mk (.forM ks) [s] body [] :: r) G K:=by
 rw [← exi_eq] at h
 exact hs _ (aq hq h)
theorem p3 (cf:ai):S3 (step cf):=fun a b c x K h=>by
 refine run (fn:=f3) rfl rfl rfl (aB (bq (.go (b:=false) (aF (t:=true) ix) (.one' (ae (x:=.int 1) ix ix rfl)))) (y2 (v:=.list [.tuple [text a,.str a7],.tuple [text b,.str aS],.tuple [text c,.str kOn]]) ix rfl ?_))
 unfold dR at h
 refine v9 (fun q _=>?_) fun q _ _=>v9 (fun q' _=>?_) fun q' _ _=>v9 (fun q'' _=>?_) fun q'' s t=>(?_:exs sup cf [.mk .ret [ss k0] [] []] [.v (sg a b c),.v (text [x]),s,t] fun fl _=>K (fl.getD .none))
 ·rw [if_pos q] at h; exact h
 ·rw [q,if_neg Bool.false_ne_true,if_pos q'] at h; exact h
 ·replace h:=(if_pos q'')▸(if_neg Bool.false_ne_true)▸q'▸(if_neg Bool.false_ne_true)▸q▸h; exact h
 ·rw [q,if_neg Bool.false_ne_true,q',if_neg Bool.false_ne_true,q'',if_neg Bool.false_ne_true] at h
  exact ay (v:=.str k0) ix h
def In (R i:Int):Prop:=0≤i∧i < R
def S10 (cf:ai):Prop:=∀ i R K,In R i→K (.bool true)→cf 10 [.int i,.int R] K
theorem p10 (cf:ai):S10 (step cf):=fun i R K hi h=>run (fn:=f10) rfl rfl rfl (ay (v:=.bool true) (az (.go (b:=true) ix (.go (b:=true) (aF (t:=false) ix) (.one fun K h=>by
 refine (?_:if decide (0≤i)=true then K (.bool (decide (i < R))) else K (.bool false))
 exact (decide_eq_true hi.1).symm▸(decide_eq_true hi.2).symm▸h)))) h)
theorem fX (h10:S10 cf) (ha:Val cf G a (.int i)) (hb:Val cf G b (.int R)) (hi:In R i):Val cf G (.nd (.call 10) [a,b]) (.bool true):=aw (.two ha hb) fun K h=>h10 i R K hi h
noncomputable def aj (is:List Int):V:=.list (is.map .int)
structure RoomsOk (R:Int) (is:List Int):Prop where
 len:is.length≤40
 nodup:is.Nodup
 rooms:∀ i∈is,In R i
theorem lQ:∀ is:List Int,eI (is.map .int)=some is
 | []=>rfl
 | i :: r=>by unfold eI; rw [List.map_cons,List.mapM_cons]; refine (?_:(eI (r.map .int)).bind _=_); rw [lQ r]; rfl
open Classical in
theorem len_list (l:List V):fF (.list l)=if l.all eZ=true then (if l.Nodup∧l.length < 4500 then some l.length else none) else (eI l).bind fun is=>if is.Nodup∧is.length < 4000 then some is.length else none:=rfl
theorem oF (h:l.all eZ=true) (nd:l.Nodup) (hz:l.length < 4500):fF (.list l)=some l.length:=by rw [len_list,if_pos h,if_pos ⟨nd,hz⟩]
theorem uJ (h:l.all eZ=false) (e:eI l=some is) (nd:is.Nodup) (hz:is.length < 4000):fF (.list l)=some is.length:=by rw [len_list,h,if_neg Bool.false_ne_true,e,Option.bind_some,if_pos ⟨nd,hz⟩]
def S11 (cf:ai):Prop:=∀ is R K,RoomsOk R is→K (.bool true)→cf 11 [aj is,.int R] K
theorem p11 (cf:ai) (h10:S10 cf):S11 (step cf):=fun is R K ok h=>by
 have hl:(is.map PyData.int).length≤5000:=by rw [zA4]; exact zB1 ok.len (by decide)
 refine run (fn:=f11) rfl rfl rfl (aB (aF (t:=true) ix) (mG (xs:=is.map .int) (v:=aj is) (I:=fun G=>∃ t,G=[.v (aj is),.v (.int R),t]) ix (aX hl) ⟨_,rfl⟩ (fun G x h=>h.elim fun _ e=>⟨.v x,e▸rfl⟩) (fun x m G h=>?_) fun G h'=>?_))
 ·obtain ⟨t,rfl⟩:=h
  obtain ⟨i,mi,rfl⟩:=zA7 m
  exact aF (t:=true) (fX h10 ix ix (ok.rooms i mi))
 ·obtain ⟨t,rfl⟩:=h'
  have e:opN .lenSet [aj is]=some (.int is.length):=by
   have q:fF (aj is)=some is.length:=by
    cases is with
    | nil=>exact oF rfl List.nodup_nil (Nat.zero_lt_succ _)
    | cons i r=>exact uJ rfl (lQ _) ok.nodup (Nat.lt_of_le_of_lt ok.len (by decide))
   exact congrArg (Option.map fun (n:Nat)=>PyData.int n) q
  exact ay (ae (aa (.one ix) e) (aa (.one ix) (kh hl)) (tQ (by rw [zA4]))) h
inductive W where
 | on (a:Int) (c:Nat) (b:Int)
 | op (a:Int) (c:Nat) (b t:Int)
 | cl (a b:Int) (c:Nat) (t:Int)
noncomputable def W.l:W→List V
 | .on a c b=>[.str kOn,.int a,text [c],.int b]
 | .op a c b t=>[.str a7,.int a,text [c],.int b,.int t]
 | .cl a b c t=>[.str aS,.int a,.int b,text [c],.int t]
noncomputable def W.v (w:W):V:=.tuple w.l
noncomputable def W.ok (s0 s1 s2:List Nat) (R:Int):W→Prop
 | .on a c b=>In R a∧c∈s2∧In R b
 | .op a c b t=>In R a∧c∈s0∧In R b∧In R t
 | .cl a b c t=>In R a∧In R b∧c∈s1∧In R t
def S12 (cf:ai):Prop:=∀ s0 s1 s2 R w K,SgOk s0 s1 s2→W.ok s0 s1 s2 R w→K (.bool true)→cf 12 [w.v,sg s0 s1 s2,.int R] K
theorem wh (h3:S3 cf) (ha:Val cf G a (sg s0 s1 s2)) (hb:Val cf G b (text [x])) (e:dR s0 s1 s2 x=k) (hk:PyData.strOk k=true):Val cf G (eqE (.nd (.call 3) [a,b]) (ss k)) (.bool true):=br (s:=k) (aw (.two ha hb) fun K h=>h3 s0 s1 s2 x K (e▸h)) hk hk (beq_self_eq_true k)
theorem p12 (cf:ai) (h3:S3 cf) (h10:S10 cf):S12 (step cf):=fun s0 s1 s2 R w K sk ok h=>by
 refine run (fn:=f12) rfl rfl rfl ?_
 cases w with
 | on a c b=>exact aB (bq (.go (b:=false) (aF (t:=true) ix) (.go (b:=false) (ae (x:=.int 4) ix ix rfl) (.one' (aF (t:=true) (fX h10 ix ix ok.1)))))) (aB (aF (t:=true) ix) (bN (br (s:=kOn) ix ok_on ok_on rfl) (ay (v:=.bool true) (az (.go (b:=true) (ae (x:=.int 4) ix ix rfl) (.go (b:=true) (wh h3 ix ix (xi sk ok.2.1) ok_on) (.one (fX h10 ix ix ok.2.2))))) h)))
 | op a c b t=>exact aB (bq (.go (b:=false) (aF (t:=true) ix) (.go (b:=false) (ae (x:=.int 5) ix ix rfl) (.one' (aF (t:=true) (fX h10 ix ix ok.1)))))) (aB (aF (t:=true) ix) (aB (br (s:=a7) ix ok_open ok_on rfl) (aB (bq (.go (b:=false) (ae (x:=.int 5) ix ix rfl) (.one' (aF (t:=true) (fX h10 ix ix ok.2.2.2))))) (bN (br (s:=a7) ix ok_open ok_open rfl) (ay (v:=.bool true) (az (.go (b:=true) (wh h3 ix ix (xh sk ok.2.1) ok_open) (.one (fX h10 ix ix ok.2.2.1)))) h)))))
 | cl a b c t=>exact aB (bq (.go (b:=false) (aF (t:=true) ix) (.go (b:=false) (ae (x:=.int 5) ix ix rfl) (.one' (aF (t:=true) (fX h10 ix ix ok.1)))))) (aB (aF (t:=true) ix) (aB (br (s:=aS) ix ok_close ok_on rfl) (aB (bq (.go (b:=false) (ae (x:=.int 5) ix ix rfl) (.one' (aF (t:=true) (fX h10 ix ix ok.2.2.2))))) (aB (br (s:=aS) ix ok_close ok_open rfl) (ay (v:=.bool true) (az (.go (b:=true) (br (s:=aS) ix ok_close ok_close rfl) (.go (b:=true) (fX h10 ix ix ok.2.1) (.one (wh h3 ix ix (xj sk ok.2.2.1) ok_close))))) h)))))
noncomputable def aC (ws:List W):V:=.list (ws.map W.v)
def S13 (cf:ai):Prop:=∀ s0 s1 s2 R ws K,SgOk s0 s1 s2→ws.length≤4000→(∀ w∈ws,W.ok s0 s1 s2 R w)→K (.bool true)→cf 13 [aC ws,sg s0 s1 s2,.int R] K
theorem p13 (cf:ai) (h12:S12 cf):S13 (step cf):=fun s0 s1 s2 R ws K sk hl ok h=>by
 have hl':(ws.map W.v).length≤4000:=by rw [zA4]; exact hl
 refine run (fn:=f13) rfl rfl rfl (aB (bq (.go (b:=false) (aF (t:=true) ix) (.one' (ae (aa (.one ix) (kh (zB1 hl' (by decide)))) ix (km (Int.not_lt.mpr (Int.ofNat_le.mpr hl'))))))) (mG (xs:=ws.map W.v) (v:=aC ws) (I:=fun G=>∃ t,G=[.v (aC ws),.v (sg s0 s1 s2),.v (.int R),t]) ix (aX (zB1 hl' (by decide))) ⟨_,rfl⟩ (fun G x h=>h.elim fun _ e=>⟨.v x,e▸rfl⟩) (fun x m G h=>?_) fun G _=>ay (v:=.bool true) ix h))
 obtain ⟨t,rfl⟩:=h
 obtain ⟨w,mw,rfl⟩:=zA7 m
 exact aF (t:=true) (aw (.cons ix (.two ix ix)) fun K h=>h12 s0 s1 s2 R w K sk (ok w mw) h)
theorem cH (sk:SgOk s0 s1 s2) (ok:W.ok s0 s1 s2 R w):∀ x∈w.l,aN x=true:=by
 have t:∀ {c:Nat},low c=true→aN (text [c])=true:=fun {c} h=>dL (l:=[c]) fun x m=>by obtain rfl:=zA6 m; exact h
 have i:∀ {i:Int},aN (.int i)=true:=rfl
 have n:∀ x∈([]:List V),aN x=true:=fun _ m=>nM m
 cases w with
 | on a c b=>exact zA1 ⟨ok_on,zA1 ⟨i,zA1 ⟨t (sk.lowC ok.2.1),zA1 ⟨i,n⟩⟩⟩⟩
 | op a c b t'=>exact zA1 ⟨ok_open,zA1 ⟨i,zA1 ⟨t (sk.lowA ok.2.1),zA1 ⟨i,zA1 ⟨i,n⟩⟩⟩⟩⟩
 | cl a b c t'=>exact zA1 ⟨ok_close,zA1 ⟨i,zA1 ⟨i,zA1 ⟨t (sk.lowB ok.2.2.1),zA1 ⟨i,n⟩⟩⟩⟩⟩
section
variable {cf:ai} {G:Gs} {e:E} {k j:Nat} {l:List V} {r:List S} {K:Option V→Gs→Prop}
theorem kr (hl:dQ G k=some l) (h:Val cf G e v) (hv:jZ v=false) (hj:l.length=j) (n:exs sup cf r (G.set k (.ownI (l++[v]))) K):exs sup cf (.mk (.setAttr k j) [e] [] [] :: r) G K:=h _ ⟨hv,aq hl ⟨hj,n⟩⟩
theorem eY (hl:dQ G k=some l) (h:ev cf e G fun v=>l.length=j∧exs sup cf r (G.set k (.ownI (l++[v]))) K):exs sup cf (.mk (.setAttrN k j) [e] [] [] :: r) G K:=by
 refine (?_:ev cf e G fun x=>okK (dQ G k) fun l=>l.length=j∧exs sup cf r (G.set k (.ownI (l++[x]))) K)
 exact hl.symm▸h
end
noncomputable def aJ (sv:V) (R:Int) (st en:List Int) (r:List V):V:=qd [sv,.int R,aj st,aj en,.list r]
theorem lX (h:Val cf G a (aj is)) (hz:is.length≤40) (k:∀ r:List Int,r.Perm is→r.Pairwise (·≤·)→K (aj r)):ev cf (.nd .sorted [a]) G K:=h _ (aq (z:=is) (lQ is) ⟨by exact Nat.lt_of_le_of_lt hz (by decide),k⟩)
theorem jb (h:Val cf G a (.list l)) (k:(l.all eZ&&decide (l.length≤am))=true∧(∀ x∈l,∀ y∈l,ltK (aP x) (aP y)=true)∧(∃ m:List V,m.length < 4500∧∀ x∈l,x∈m)∧∀ r:List V,r.Nodup→(∀ y,y∈r ↔ y∈l)→((∃ m:List V,m.length < 64∧∀ x∈l,x∈m)→g8 r)→K (.list r)):ev cf (.nd .sortedSet [a]) G K:=h _ (aq rfl k)
theorem qy (sk:SgOk s0 s1 s2) (ok:W.ok s0 s1 s2 R w):eZ w.v=true:=by
 have h:=List.all_eq_true.mpr fun x m=>cH sk ok x m
 cases w <;> exact h
theorem bg (h:k.isLeft=m.isLeft) (h':k=m→ltK ks ms=true):ltK (k :: ks) (m :: ms)=true:=by
 refine (?_:(if k=m then ltK ks ms else k.isLeft==m.isLeft)=true)
 by_cases e:k=m
 ·rw [if_pos e]; exact h' e
 ·rw [if_neg e,h]; exact beq_self_eq_true _
theorem vi (w u:W):ltK (aP w.v) (aP u.v)=true:=by
 have ne:∀ {s t:Str} {ks ms:List Sc},s≠t→ltK (.inr s :: ks) (.inr t :: ms)=true:=fun h=>bg rfl fun e=>absurd (Sum.inr.inj e) h
 cases w with
 | on a c b=>cases u with
  | on a' c' b'=>exact bg rfl fun _=>bg rfl fun _=>bg rfl fun _=>bg rfl fun _=>rfl
  | op a' c' b' t'=>exact ne (by decide)
  | cl a' b' c' t'=>exact ne (by decide)
 | op a c b t=>cases u with
  | on a' c' b'=>exact ne (by decide)
  | op a' c' b' t'=>exact bg rfl fun _=>bg rfl fun _=>bg rfl fun _=>bg rfl fun _=>bg rfl fun _=>rfl
  | cl a' b' c' t'=>exact ne (by decide)
 | cl a b c t=>cases u with
  | on a' c' b'=>exact ne (by decide)
  | op a' c' b' t'=>exact ne (by decide)
  | cl a' b' c' t'=>exact bg rfl fun _=>bg rfl fun _=>bg rfl fun _=>bg rfl fun _=>bg rfl fun _=>rfl
structure Held (st:List Int) (en:List Int) (ws:List V) (st' en':List Int) (r:List V):Prop where
 p1:st'.Perm st
 o1:st'.Pairwise (·≤·)
 p2:en'.Perm en
 o2:en'.Pairwise (·≤·)
 nd:r.Nodup
 mem:∀ y,y∈r ↔ y∈ws
 up:ws.length < 64→g8 r
structure ah (s0 s1 s2:List Nat) (R:Int) (st en:List Int) (ws:List W):Prop where
 sk:SgOk s0 s1 s2
 r1:1≤R
 r2:R≤40
 st:RoomsOk R st
 en:RoomsOk R en
 len:ws.length≤4000
 ok:∀ w∈ws,W.ok s0 s1 s2 R w
def S14 (cf:ai):Prop:=∀ s0 s1 s2 R st en ws K,ah s0 s1 s2 R st en ws→(∀ st' en' r,Held st en (ws.map W.v) st' en' r→K (aJ (sg s0 s1 s2) R st' en' r))→cf 14 [sg s0 s1 s2,.int R,aj st,aj en,aC ws] K
theorem p14 (cf:ai) (h2:S2 cf) (h10:S10 cf) (h11:S11 cf) (h13:S13 cf):S14 (step cf):=fun s0 s1 s2 R st en ws K g h=>by
 refine (?_:_∧exs sup cf f14.body [.ownI [],.v (sg s0 s1 s2),.v (.int R),.v (aj st),.v (aj en),.v (aC ws)] fun fl G=>(match fl with | none=>okK (dQ G 0) fun l=>l.length=5∧K (qd l) | some y=>noX y=false∧K y))
 refine ⟨rfl,lE (.one ix) (h2 _ _ _ _ g.sk ⟨rfl,?_⟩)⟩
 refine aB (bq (.go (b:=false) (aF (t:=true) (fX h10 ix (aa (.two ix ix) rfl) ⟨Int.le_trans (by decide) g.r1,Int.lt_of_le_of_lt g.r2 (by decide)⟩)) (.one' (ae ix ix (wq (Int.not_lt.mpr g.r1)))))) ?_
 refine aB (bq (.go (b:=false) (aF (t:=true) (aw (.two ix ix) fun K h=>h11 _ _ K g.st h)) (.go (b:=false) (aF (t:=true) (aw (.two ix ix) fun K h=>h11 _ _ K g.en h)) (.one' (aF (t:=true) (aw (.cons ix (.two ix ix)) fun K h=>h13 _ _ _ _ _ K g.sk g.len g.ok h)))))) ?_
 refine kr (l:=[]) rfl (v:=sg s0 s1 s2) ix rfl rfl (kr (l:=[_]) rfl (v:=.int R) ix rfl rfl (eY (l:=[_,_]) rfl ?_))
 refine lX (show Val cf _ (vv 3) (aj st) from ix) g.st.len fun st' p3 o3=>⟨rfl,eY (l:=[_,_,_]) rfl ?_⟩
 refine lX (show Val cf _ (vv 4) (aj en) from ix) g.en.len fun en' p10 o4=>⟨rfl,eY (l:=[_,_,_,_]) rfl ?_⟩
 refine jb (l:=ws.map W.v) ix ⟨zA3 ⟨List.all_eq_true.mpr fun x m=>?_,decide_eq_true (cJ (by rw [zA4]; exact zB1 g.len (by decide)))⟩,fun x mx y my=>?_,⟨_,(by rw [zA4]; exact Nat.lt_of_le_of_lt g.len (by decide)),fun _ m=>m⟩,fun r hn hm hr=>⟨rfl,rfl,h st' en' r ⟨p3,o3,p10,o4,hn,hm,fun q=>hr ⟨_,q,fun _ m=>m⟩⟩⟩⟩
 ·obtain ⟨w,m',rfl⟩:=zA7 m
  exact qy g.sk (g.ok w m')
 ·obtain ⟨w,_,rfl⟩:=zA7 mx
  obtain ⟨u,_,rfl⟩:=zA7 my
  exact vi w u
section
variable {cf:ai} {sv:V} {R:Int} {st en:List Int} {r:List V} {K:V→Prop}
theorem fb (h:Val cf G e (.list l)) (hz:l.length≤5000):Val cf G (.nd .listOf [e]) (.list l):=aa (.one h) (show (db l l).map _=_ by rw [show db l l=some l from if_pos (cJ hz)]; rfl)
theorem p15 (hn:noX sv=true) (h:K sv):step cf 15 [aJ sv R st en r] K:=run (fn:=f15) rfl rfl rfl (ay ix h hn)
theorem p16 (h:K (.int R)):step cf 16 [aJ sv R st en r] K:=run (fn:=f16) rfl rfl rfl (ay ix h)
theorem p17 (hz:st.length≤5000) (h:K (aj st)):step cf 17 [aJ sv R st en r] K:=run (fn:=f17) rfl rfl rfl (ay (v:=aj st) (fb ix (by rw [zA4]; exact hz)) h)
theorem p18 (hz:en.length≤5000) (h:K (aj en)):step cf 18 [aJ sv R st en r] K:=run (fn:=f18) rfl rfl rfl (ay (v:=aj en) (fb ix (by rw [zA4]; exact hz)) h)
theorem p19 (hz:r.length≤5000) (h:K (.list r)):step cf 19 [aJ sv R st en r] K:=run (fn:=f19) rfl rfl rfl (ay (v:=.list r) (fb ix hz) h)
end
theorem c22 (hl:∀ K:V→Prop,K (.int 1)→okK (opN .count [.list [.bool (sup c 1),.bool (sup c 2),.bool (sup c 3),.bool (sup c 4),.bool (sup c 5),.bool (sup c 6),.bool (sup c 7)],.bool true]) K)
  (h1:∀ K:V→Prop,K (.list [.bool (sup c 1),.bool (sup c 2),.bool (sup c 3),.bool (sup c 4)])→ev cf (.nd .list [xx 1 (vv 0),xx 2 (vv 0),xx 3 (vv 0),xx 4 (vv 0)]) [.v (fA c),.v (.int i),.unset] K)
  (h2:∀ K:V→Prop,K (.list [.bool (sup c 1),.bool (sup c 2),.bool (sup c 3),.bool (sup c 4),.bool (sup c 5),.bool (sup c 6),.bool (sup c 7)])→ev cf (adE (vv 2) (.nd .list [xx 5 (vv 0),xx 6 (vv 0),xx 7 (vv 0)])) [.v (fA c),.v (.int i),.v (.list [.bool (sup c 1),.bool (sup c 2),.bool (sup c 3),.bool (sup c 4)])] K)
  (h3:bk cf true [.v (fA c),.v (.int i),.v (.list [.bool (sup c 1),.bool (sup c 2),.bool (sup c 3),.bool (sup c 4),.bool (sup c 5),.bool (sup c 6),.bool (sup c 7)])] [sbE (vv 2) (vv 1),xx 0 (vv 0),xx 8 (vv 0)] t) (h:K (.bool t)):step cf 22 [fA c,.int i] K:=
 run (fn:=f22) rfl rfl rfl (af h1 (af h2 (ay (az (.go (ae (x:=.int 1) (fun K h=>⟨rfl,hl K h⟩) ix rfl) h3)) h)))
def S22 (cf:ai):Prop:=∀ K:V→Prop,K (.bool true)→cf 22 [fA 4,.int 3] K
theorem p22 (cf:ai):S22 (step cf):=fun K=>c22 ix ix ix ix
noncomputable def yx:Str:=⟨#[114,101,102,117,115,101,100]⟩
noncomputable def p5V (a b c d e:V):V:=.tuple [a,b,c,d,e]
section
variable {cf:ai} {sv a b c d:V} {K:V→Prop}
noncomputable def bf (sv:V) (R:Int) (st en:List Int) (ws:List W):V:=p5V sv (.int R) (aj st) (aj en) (aC ws)
end
theorem c9 {a b is:List Int} (ha:a.Perm is) (ha':a.Pairwise (·≤·)) (hb:b.Perm is) (hb':b.Pairwise (·≤·)):a=b:=
 List.Perm.eq_of_pairwise (le:=(·≤·)) (fun x y _ _ h h'=>Int.le_antisymm h h') ha' hb' (ha.trans hb.symm)
theorem iB {is s:List Int} (h:Val cf G a (aj is)) (hz:is.length≤40) (hp:s.Perm is) (ho:s.Pairwise (·≤·)):Val cf G (.nd .sorted [a]) (aj s):=fun K k=>lX h hz fun r p o=>by rw [c9 p o hp ho]; exact k
def eg (n:Nat) (x:V):Prop:=x.canLay0=true∧x.depth≤n
theorem cj (h:eg n x) (hn:n≤64):dA x=true:=zA3 ⟨h.1,decide_eq_true (zB1 h.2 hn)⟩
theorem nh:∀ {n:Nat} {l:List V},(∀ x∈l,eg n x)→PyData.canLayAll0 l=true∧PyData.depthAll l≤n
 | n,[],_=>⟨rfl,Nat.zero_le _⟩
 | n,x :: l,h=>⟨zA3 ⟨(h x (.head _)).1,(nh fun y m=>h y (.tail _ m)).1⟩,Nat.max_le.mpr ⟨(h x (.head _)).2,(nh fun y m=>h y (.tail _ m)).2⟩⟩
theorem cx (h:∀ x∈l,eg n x):eg (n+1) (.list l):=⟨(nh h).1,Nat.succ_le_succ (nh h).2⟩
theorem cE (h:∀ x∈l,eg n x):eg (n+1) (.tuple l):=⟨(nh h).1,Nat.succ_le_succ (nh h).2⟩
theorem cF (h:aN x=true):eg 0 x:=by
 cases x with
 | int i=>exact ⟨rfl,Nat.le_refl _⟩
 | str s=>exact ⟨h,Nat.le_refl _⟩
 | _=>(injection h; done)
theorem jJ (sk:SgOk s0 s1 s2) (ok:W.ok s0 s1 s2 R w):eg 1 w.v:=cE fun x m=>cF (cH sk ok x m)
theorem wu (h:dA x=true):aU .NotEq x x=some false:=by
 refine (?_:(eqO x x).map _=_)
 rw [show eqO x x=some (PyData.eqv x x) from if_pos (by rw [h]; rfl),PySem.SeqAt.eqv_refl x (zA2 h).1]; rfl
theorem wN (h:gO k m=false) (h':gO m k=false):k=m:=by
 cases k with
 | inl a=>cases m with
  | inl b=>have h:=of_decide_eq_false h; have h':=of_decide_eq_false h'; exact congrArg _ (by exact Int.le_antisymm (Int.not_lt.mp h') (Int.not_lt.mp h))
  | inr y=>(injection h; done)
 | inr x=>cases m with
  | inl b=>(injection h'; done)
  | inr y=>
   have h:=of_decide_eq_false h
   have h':=of_decide_eq_false h'
   have e:x.cps.toList=y.cps.toList:=List.le_antisymm h' h
   cases x; cases y
   exact congrArg _ (congrArg Str.mk (Array.toList_inj.mp e))
theorem oE:∀ {a b:List Sc},bE a b=false→bE b a=false→a=b
 | [],[],_,_=>rfl
 | [],_ :: _,h,_=>nB h.symm
 | _ :: _,[],_,h=>nB h.symm
 | k :: ks,m :: ms,h,h'=>by
  have h:(if k=m then bE ks ms else gO k m)=false:=h
  have h':(if m=k then bE ms ks else gO m k)=false:=h'
  by_cases e:k=m
  ·subst e
   rw [if_pos rfl] at h h'
   rw [oE h h']
  ·rw [if_neg e] at h
   rw [if_neg fun q=>e q.symm] at h'
   exact absurd (wN h h') e
theorem kOf_inj (hx:aN x=true) (hy:aN y=true) (e:kOf x=kOf y):x=y:=by
 cases x with
 | int i=>cases y with
  | int j=>rw [Sum.inl.inj e]
  | str t=>exact nomatch (show (Sum.inl i:Sc)=.inr t from e)
  | _=>(injection hy; done)
 | str s=>cases y with
  | int j=>exact nomatch (show (Sum.inr s:Sc)=.inl j from e)
  | str t=>rw [Sum.inr.inj e]
  | _=>(injection hy; done)
 | _=>(injection hx; done)
theorem keys_inj:∀ {l m:List V},(∀ x∈l,aN x=true)→(∀ x∈m,aN x=true)→l.map kOf=m.map kOf→l=m
 | [],[],_,_,_=>rfl
 | [],_ :: _,_,_,e=>nomatch e
 | _ :: _,[],_,_,e=>nomatch e
 | x :: l,y :: m,h,h',e=>by
  have e:=zA5 e
  rw [kOf_inj (h x (.head _)) (h' y (.head _)) e.1,keys_inj (fun x q=>h x (.tail _ q)) (fun x q=>h' x (.tail _ q)) e.2]
theorem lY:∀ {l m:List V},(∀ x∈l,aN x=true)→(∀ x∈m,aN x=true)→PyData.eqvAll l m=true→l=m
 | [],[],_,_,_=>rfl
 | [],_ :: _,_,_,e=>nB e
 | _ :: _,[],_,_,e=>nB e
 | x :: l,y :: m,h,h',e=>by
  obtain ⟨e1,e2⟩:=zA2 e
  have e1:x=y:=by
   have hx:=h x (.head _)
   have hy:=h' y (.head _)
   cases x with
   | int i=>cases y with
    | int j=>rw [beq_iff_eq.mp (e1:(i==j)=true)]
    | str t=>exact nB e1
    | _=>(injection hy; done)
   | str s=>cases y with
    | int j=>exact nB e1
    | str t=>rw [beq_iff_eq.mp (e1:(s==t)=true)]
    | _=>(injection hy; done)
   | _=>(injection hx; done)
  rw [e1,lY (fun x q=>h x (.tail _ q)) (fun x q=>h' x (.tail _ q)) e2]
section
variable {s0 s1 s2:List Nat} {R:Int} {ws:List W} (sk:SgOk s0 s1 s2) (ok:∀ w∈ws,W.ok s0 s1 s2 R w)
include sk ok
theorem tW (hx:x∈ws.map W.v) (hy:y∈ws.map W.v) (h:bE (aP y) (aP x)=false) (h':bE (aP x) (aP y)=false):x=y:=by
 obtain ⟨w,mw,rfl⟩:=zA7 hx
 obtain ⟨u,mu,rfl⟩:=zA7 hy
 exact congrArg PyData.tuple (keys_inj (fun x m=>cH sk (ok w mw) x m) (fun x m=>cH sk (ok u mu) x m) (oE h' h))
theorem gy (hn:r.Nodup) (hm:∀ y,y∈r ↔ y∈ws.map W.v) (hr:g8 r) (hn':r'.Nodup) (hm':∀ y,y∈r' ↔ y∈ws.map W.v) (hr':g8 r'):r=r':=
 List.Perm.eq_of_pairwise (le:=fun x y=>bE (aP y) (aP x)=false) (fun x y mx my h h'=>tW sk ok ((hm x).mp mx) ((hm' y).mp my) h h') hr hr' ((List.perm_ext_iff_of_nodup hn hn').mpr fun y=>(hm y).trans (hm' y).symm)
theorem xM (hx:x∈ws.map W.v) (hy:y∈ws.map W.v) (h:PyData.eqv x y=true):x=y:=by
 obtain ⟨w,mw,rfl⟩:=zA7 hx
 obtain ⟨u,mu,rfl⟩:=zA7 hy
 exact congrArg PyData.tuple (lY (fun x m=>cH sk (ok w mw) x m) (fun x m=>cH sk (ok u mu) x m) h)
theorem tg {l:List V} (h:∀ x∈l,x∈ws.map W.v):∀ x∈l,eg 1 x:=fun x m=>by
 obtain ⟨w,mw,rfl⟩:=zA7 (h x m)
 exact jJ sk (ok w mw)
end
theorem u8 (hx:dA x=true) (hl:dA (.list l)=true):aU .NotIn x (.list l)=some (!(l.any fun z=>PyData.eqv z x)):=congrArg (Option.map (!·)) (if_pos (by rw [hx,hl]; rfl))
theorem r5 (sk:SgOk s0 s1 s2):eg 1 (sg s0 s1 s2):=cE fun x m=>by
 have t:∀ {l:List Nat},(∀ c∈l,low c=true)→eg 0 (text l):=fun h=>cF (x:=text _) (dL h)
 rcases List.mem_cons.mp m with rfl | m
 ·exact t fun c q=>sk.lowA q
 rcases List.mem_cons.mp m with rfl | m
 ·exact t fun c q=>sk.lowB q
 ·obtain rfl:=zA6 m; exact t fun c q=>sk.lowC q
structure MethOk (cf:ai):Prop where
 m9:∀ sv R st en r (K:V→Prop),noX sv=true→K sv→cf 15 [aJ sv R st en r] K
 m10:∀ sv R st en r (K:V→Prop),K (.int R)→cf 16 [aJ sv R st en r] K
 m11:∀ sv R st en r (K:V→Prop),st.length≤5000→K (aj st)→cf 17 [aJ sv R st en r] K
 m12:∀ sv R st en r (K:V→Prop),en.length≤5000→K (aj en)→cf 18 [aJ sv R st en r] K
 m13:∀ sv R st en (r:List V) (K:V→Prop),r.length≤5000→K (.list r)→cf 19 [aJ sv R st en r] K
open Classical in
theorem fS:∀ {l m:List V},l.Nodup→(∀ x∈l,x∈m)→l.length≤m.length
 | [],_,_,_=>Nat.zero_le _
 | x :: l,m,nd,h=>by
  have nd:=List.nodup_cons.mp nd
  have mx:=h x (.head _)
  have q:=fS (m:=m.erase x) nd.2 fun y my=>(List.mem_erase_of_ne (a:=y) (b:=x) fun e=>nd.1 (by exact e▸my)).mpr (h y (.tail _ my))
  rw [List.length_erase_of_mem mx] at q
  have:=List.length_pos_of_mem mx
  exact zB1 (Nat.succ_le_succ q) (zB2 (Nat.sub_add_cancel this))
theorem fY (g:ah s0 s1 s2 R st en ws) (hd:Held st en (ws.map W.v) st' en' r):st'.length≤40∧en'.length≤40∧r.length≤4000:=by
 refine ⟨hd.p1.length_eq▸g.st.len,hd.p2.length_eq▸g.en.len,?_⟩
 have h:=fS hd.nd fun y m=>(hd.mem y).mp m
 rw [zA4] at h
 exact zB1 h g.len
noncomputable def mOf (c s:Int) (i:Nat):Nat:=((c+s * (0+(i:Int))).fmod 26).toNat
noncomputable def pJ (c s:Int) (n:Nat):List Nat:=(List.range n).map fun i=>97+mOf c s i
theorem vQ (c s:Int) (i:Nat):mOf c s i < 26:=by
 have h1:=aT (c+s * (0+(i:Int))) (b:=26) (by decide)
 have h2:=bR (c+s * (0+(i:Int))) (b:=26) (by decide)
 unfold mOf; exact (Int.toNat_lt h1).mpr (Int.lt_of_lt_of_le h2 (by decide))
theorem v6:∀ m,m < 26→abc.cps.toList[m]?=some (97+m)∧low (97+m)=true:=by decide
noncomputable def eD (c:Int):Int:=1+2 * ((c.fdiv 26).fmod 5)
theorem wI:∀ q,q < 5→∀ d,d < 12→d≠0→((1+2 * q) * d) % 26≠0:=by decide
theorem ud (c:Int) (q i d:Nat):(c+(1+2 * (q:Int)) * (0+((i+d:Nat):Int))) - (c+(1+2 * (q:Int)) * (0+(i:Int)))=(((1+2 * q) * d:Nat):Int):=by
 rw [Int.zero_add,Int.zero_add,Int.natCast_add,Int.mul_add,Int.natCast_mul,Int.natCast_add,Int.natCast_mul]
 refine (?_:_=(1+2 * (q:Int)) * (d:Int))
 generalize (1+2 * (q:Int)) * (i:Int)=x
 generalize (1+2 * (q:Int)) * (d:Int)=y
 lia
theorem kH (c:Int) (hn:n≤12):(pJ c (eD c) n).Nodup:=by
 refine (Int.eq_ofNat_of_zero_le (aT (c.fdiv 26) (b:=5) (by decide))).elim fun q hq=>?_
 have h2:=bR (c.fdiv 26) (b:=5) (by decide)
 skip
 refine List.pairwise_map.mpr (List.Pairwise.imp_of_mem (fun {i j} mi mj hlt e=>?_) (List.pairwise_lt_range (n:=n)))
 obtain ⟨d,rfl⟩:=Nat.exists_eq_add_of_lt hlt
 have hj:=List.mem_range.mp mj
 have e:mOf c (eD c) i=mOf c (eD c) (i+(d+1)):=Nat.add_left_cancel e
 unfold mOf eD at e
 rw [hq] at e h2
 have e:(c+(1+2 * (q:Int)) * (0+((i+(d+1):Nat):Int))).fmod 26=(c+(1+2 * (q:Int)) * (0+(i:Int))).fmod 26:=by
  rw [← Int.toNat_of_nonneg (aT (c+(1+2 * (q:Int)) * (0+((i+(d+1):Nat):Int))) (b:=26) (by decide)),← e,Int.toNat_of_nonneg (aT _ (by decide))]
 rw [Int.fmod_eq_emod_of_nonneg _ (by decide),Int.fmod_eq_emod_of_nonneg _ (by decide),Int.emod_eq_emod_iff_emod_sub_eq_zero,ud] at e
 exact wI q (Int.ofNat_lt.mp h2) (d+1) (Nat.lt_of_le_of_lt (Nat.le_add_left (d+1) i) (Nat.lt_of_lt_of_le hj hn)) (Nat.succ_ne_zero d) (by exact_mod_cast e)
theorem rj (c s:Int) (n:Nat):∀ x∈pJ c s n,low x=true:=fun x m=>by
 obtain ⟨i,_,rfl⟩:=zA7 m
 exact (v6 _ (vQ c s i)).2
theorem zf {l:List Nat} {i j k:Nat} (hn:l.Nodup) (hl:∀ x∈l,low x=true) (h1:i≤4) (h2:i≤j) (h3:j≤k) (h4:j - i≤4) (h5:k - j≤4):SgOk (l.take i) ((l.drop i).take (j - i)) ((l.drop j).take (k - j)):=by
 have e:l.take i++(l.drop i).take (j - i)++(l.drop j).take (k - j)=l.take k:=by
  rw [← List.take_add,show i+(j - i)=j by exact Nat.add_sub_cancel' h2,← List.take_add,show j+(k - j)=k by exact Nat.add_sub_cancel' h3]
 refine ⟨zB1 (List.length_take_le _ _) h1,zB1 (List.length_take_le _ _) h4,zB1 (List.length_take_le _ _) h5,?_,?_⟩
 ·exact e.symm▸fun x m=>hl x (List.mem_of_mem_take m)
 ·rw [e]; exact hn.sublist (List.take_sublist _ _)
theorem rc:∀ l:List Nat,fP (l.map fun c=>text [c])=some (l.map fun c=>[c])
 | []=>rfl
 | c :: r=>by unfold fP; rw [List.map_cons,List.mapM_cons]; refine (?_:(fP (r.map fun c=>text [c])).bind _=_); rw [rc r]; rfl
theorem kT:∀ l:List Nat,gY [] (l.map fun c=>[c])=l
 | []=>rfl
 | [c]=>rfl
 | c :: d :: r=>congrArg (c :: ·) (kT (d :: r))
theorem nV:∀ l:List Nat,((l.map fun c=>[c]).map List.length).sum=l.length
 | []=>rfl
 | c :: r=>by rw [List.map_cons,List.map_cons,List.sum_cons,nV r,zB4]; exact Nat.add_comm _ _
theorem t7 (ha:Val cf G a (.list (l.map fun c=>text [c]))) (hz:l.length≤5000):Val cf G (.nd .join [ss k0,a]) (text l):=fun K h=>by
 refine ⟨rfl,ha _ (aq (z:=text l) ?_ h)⟩
 refine (?_:(fP (l.map fun c=>text [c])).bind _=_)
 rw [rc]
 show (if _ then some (text (gY [] (l.map fun c=>[c]))) else none)=_
 rw [kT]
 exact if_pos (by rw [nV]; exact cJ (by refine (?_:l.length+_ * 0≤5000); rw [Nat.mul_zero]; exact hz))
theorem ni (h0:0≤i) (h1:i.toNat≤n):oY d n (some (.int i))=some i.toNat:=by
 refine (?_:some (if 0≤i then min i.toNat n else _)=_)
 rw [if_pos h0,Nat.min_eq_left h1]
theorem nj (hz:l.length≤5000) (h1:oY 0 l.length lo=some i) (h2:oY l.length l.length hi=some j) (h:i≤j):l9 f l lo hi=some (f ((l.drop i).take (j - i))):=by
 unfold l9
 rw [if_pos (cJ hz),h1,h2]
 exact if_pos h
theorem vK {l:List Nat} {i j:Nat} (hz:l.length≤5000) (h:i≤j) (h1:j≤l.length):opN (.slice true true) [text l,.int i,.int j]=some (text ((l.drop i).take (j - i))):=nj (l:=l) (f:=text) hz (ni (i:=i) (Int.natCast_nonneg i) (zB1 h h1)) (ni (i:=j) (Int.natCast_nonneg j) h1) h
theorem w5 {l:List Nat} {j:Nat} (hz:l.length≤5000) (h1:j≤l.length):opN (.slice false true) [text l,.int j]=some (text (l.take j)):=nj (l:=l) (f:=text) (lo:=none) hz rfl (ni (i:=j) (Int.natCast_nonneg j) h1) (Nat.zero_le _)
theorem Cp {l:List Nat} {i j k:Int} (hl:l.length≤12) (hn:l.Nodup) (lo:∀ x∈l,low x=true) (h0:0≤i) (h1:i≤4) (h2:0≤j) (h3:j≤4) (h4:0≤k) (h5:k≤4) (h6:i+j+k≤l.length):∃ a b c,SgOk a b c∧opN (.slice false true) [text l,.int i]=some (text a)∧opN (.slice true true) [text l,.int i,.int (i+j)]=some (text b)∧opN (.slice true true) [text l,.int (i+j),.int (i+j+k)]=some (text c):=by
 refine (Int.eq_ofNat_of_zero_le h0).elim fun i Zq4=>?_
 subst Zq4
 obtain ⟨j,rfl⟩:=Int.eq_ofNat_of_zero_le h2
 obtain ⟨k,rfl⟩:=Int.eq_ofNat_of_zero_le h4
 have h6:i+j+k≤l.length:=Int.ofNat_le.mp h6
 have hz:l.length≤5000:=zB1 hl (by decide)
 have hj:i+j≤l.length:=zB1 (Nat.le_add_right _ _) h6
 refine ⟨_,_,_,zf (i:=i) (j:=i+j) (k:=i+j+k) hn lo (Int.ofNat_le.mp h1) (Nat.le_add_right _ _) (Nat.le_add_right _ _) (by rw [Nat.add_sub_cancel_left]; exact Int.ofNat_le.mp h3) (by rw [Nat.add_sub_cancel_left]; exact Int.ofNat_le.mp h5),w5 hz (zB1 (Nat.le_add_right _ _) hj),?_,?_⟩
 ·exact vK (i:=i) (j:=i+j) hz (Nat.le_add_right _ _) hj
 ·exact vK (i:=i+j) (j:=i+j+k) hz (Nat.le_add_right _ _) h6
theorem qU {c s:Int} {n:Nat} (hn:n≤12) (hr:bL (.list (aW 0 n))=some ((List.range n).map fun i:Nat=>.int (0+(i:Int)))) (h0:∀ i:Nat,Val cf (G.set 6 (.v (.int (0+(i:Int))))) (vv 0) (.int c)) (h1:∀ i:Nat,Val cf (G.set 6 (.v (.int (0+(i:Int))))) (vv 1) (.str abc)) (h2:∀ i:Nat,Val cf (G.set 6 (.v (.int (0+(i:Int))))) (vv 2) (.int s)) (h6:∀ i:Nat,Val cf (G.set 6 (.v (.int (0+(i:Int))))) (vv 6) (.int (0+(i:Int))))
  (hs:s.natAbs≤1000000) (hsrc:Val cf G e (.list (aW 0 n))):Val cf G (.nd .join [ss k0,.nd (.comp 6) [e,wk]]) (text (pJ c s n)):=by
 refine t7 ?_ (by unfold pJ; rw [zA4,List.length_range]; exact Nat.le_add_left_of_le hn)
 have q:=bY (k:=6) (f:=fun i:Nat=>text [97+mOf c s i]) hsrc hr (e:=wk) fun i m=>aa (.two (h1 i) (aa (.two (aa (.two (h0 i) (aa (.two (h2 i) (h6 i)) (gX (.inr hs)))) rfl) ix) (cz (by decide)))) (lN (f:=fun c=>text [c]) (by decide) (aT _ (by decide)) (v6 _ (vQ c s i)).1)
 unfold pJ
 rw [List.map_map]
 exact q
def SgS (n:Nat) (cf:ai):Prop:=∀ c:Int,∃ s0 s1 s2,SgOk s0 s1 s2∧∀ K,K (sg s0 s1 s2)→cf n [.int c] K
theorem lI {l:List Int} {i:Int} (h0:0≤i) (h1:i < l.length):(l.map PyData.int)[i.toNat]?=some (.int (l.getD i.toNat 0)):=by
 have:i.toNat < l.length:=by exact (Int.toNat_lt ‹_›).mpr h1
 rw [List.getElem?_map,List.getD_eq_getElem?_getD,List.getElem?_eq_getElem this]; rfl
theorem rA:(∀ i,i < 4→([1,1,2,0]:List Int).getD i 0≤2∧0≤([1,1,2,0]:List Int).getD i 0)∧∀ i,i < 5→([1,2,1,1,0]:List Int).getD i 0≤2∧0≤([1,2,1,1,0]:List Int).getD i 0:=by decide
theorem rf (c:Int):(eD c).natAbs≤1000000:=by
 have h1:=aT (c.fdiv 26) (b:=5) (by decide)
 have h2:=bR (c.fdiv 26) (b:=5) (by decide)
 unfold eD
 refine Int.ofNat_le.mp ?_
 rw [Int.natAbs_of_nonneg (Int.add_nonneg (by decide) (Int.mul_nonneg (by decide) h1))]
 exact Int.le_trans (Int.add_le_add_left (Int.mul_le_mul_of_nonneg_left (Int.le_of_lt h2) (by decide)) 1) (by decide)
theorem iJ (c s:Int) (n:Nat):(pJ c s n).length=n:=by unfold pJ; rw [zA4,List.length_range]
theorem p23 (cf:ai):SgS 23 (step cf):=fun c=>by
 have a1:=aT (c.fdiv 130) (b:=4) (by decide)
 have a2:=bR (c.fdiv 130) (b:=4) (by decide)
 have b1:=aT (c.fdiv 520) (b:=5) (by decide)
 have b2:=bR (c.fdiv 520) (b:=5) (by decide)
 have o1:=rA.1 _ ((Int.toNat_lt a1).mpr a2)
 have o2:=rA.2 _ ((Int.toNat_lt b1).mpr b2)
 have e1:=fH (l:=[.int 1,.int 1,.int 2,.int 0]) (by decide) a1 (lI (l:=[1,1,2,0]) a1 a2)
 have e2:=fH (l:=[.int 1,.int 2,.int 1,.int 1,.int 0]) (by decide) b1 (lI (l:=[1,2,1,1,0]) b1 b2)
 clear a1 a2 b1 b2
 generalize ([1,1,2,0]:List Int).getD ((c.fdiv 130).fmod 4).toNat 0=one at o1 e1
 generalize ([1,2,1,1,0]:List Int).getD ((c.fdiv 520).fmod 5).toNat 0=two at o2 e2
 have c2:=Int.le_of_lt_add_one (bR (c.fdiv 2600) (b:=2+1) (by decide))
 obtain ⟨x,y,z,ok,q1,q2,q3⟩:=Cp (l:=pJ c (eD c) 6) (i:=one) (j:=two) (k:=(c.fdiv 2600).fmod 3) (by rw [iJ]; decide) (kH c (by decide)) (rj c _ 6) o1.2 (Int.le_trans o1.1 (by decide)) o2.2 (Int.le_trans o2.1 (by decide)) (aT _ (by decide)) (Int.le_trans c2 (by decide)) (by rw [iJ]; exact Int.add_le_add (Int.add_le_add o1.1 o2.1) c2)
 refine ⟨x,y,z,ok,fun K h=>run (fn:=f23) rfl rfl rfl ?_⟩
 refine af (v:=.str abc) ix (af (v:=.int (eD c)) (aa (.two ix (aa (.two ix ix) (gX (.inr (by decide))))) rfl) ?_)
 refine af (qU (c:=c) (s:=eD c) (n:=6) (by decide) rfl (fun i=>ix) (fun i=>ix) (fun i=>ix) (fun i=>ix) (rf c) ix) ?_
 refine af (v:=.int one) (aa (.two ix ix) e1) (af (v:=.int (one+two)) (aa (.two ix (aa (.two ix ix) e2)) rfl) ?_)
 exact ay (v:=sg x y z) (aa (.cons (aa (.two ix ix) q1) (.two (aa (.cons ix (.two ix ix)) q2) (aa (.cons ix (.two ix (aa (.two ix ix) rfl))) q3))) rfl) h
theorem mV (c:Int):0≤1+c.fmod 4∧1+c.fmod 4≤4:=by
 have a1:=aT c (b:=4) (by decide)
 have a2:=bR c (b:=3+1) (by decide)
 exact ⟨Int.add_nonneg (by decide) a1,Int.add_le_add_left (Int.le_of_lt_add_one a2) 1⟩
theorem p24 (cf:ai) (h20:SgS 23 cf):SgS 24 (step cf):=fun c=>by
 by_cases h3:(c.fdiv 7800).fmod 8=3
 ·have a:=mV (c.fdiv 130)
  have b:=mV (c.fdiv 520)
  have d:=mV (c.fdiv 2600)
  obtain ⟨x,y,z,ok,q1,q2,q3⟩:=Cp (l:=pJ c (eD c) 12) (by rw [iJ]; decide) (kH c (by decide)) (rj c _ 12) a.1 a.2 b.1 b.2 d.1 d.2 (by rw [iJ]; exact Int.add_le_add (Int.add_le_add a.2 b.2) d.2)
  rw [← Int.add_assoc] at q2 q3
  rw [← Int.add_assoc] at q3
  refine ⟨x,y,z,ok,fun K h=>run (fn:=f24) rfl rfl rfl ?_⟩
  refine aB (ae (x:=.int ((c.fdiv 7800).fmod 8)) ix ix (v3.trans (by rw [h3]; rfl))) ?_
  refine af (v:=.str abc) ix (af (v:=.int (eD c)) (aa (.two ix (aa (.two ix ix) (gX (.inr (by decide))))) rfl) ?_)
  refine af (qU (c:=c) (s:=eD c) (n:=12) (by decide) rfl (fun i=>ix) (fun i=>ix) (fun i=>ix) (fun i=>ix) (rf c) ix) ?_
  refine af (v:=.int (1+(c.fdiv 130).fmod 4)) ix (af (v:=.int (1+(c.fdiv 130).fmod 4+1+(c.fdiv 520).fmod 4)) ix ?_)
  exact ay (v:=sg x y z) (aa (.cons (aa (.two ix ix) q1) (.two (aa (.cons ix (.two ix ix)) q2) (aa (.cons ix (.two ix ix)) q3))) rfl) h
 ·refine (h20 c).elim fun s0 Zq7=>Zq7.elim fun s1 Zq8=>Zq8.elim fun s2 Zq9=>Zq9.elim fun ok h=>?_
  refine ⟨s0,s1,s2,ok,fun K hk=>run (fn:=f24) rfl rfl rfl (bN (ae (x:=.int ((c.fdiv 7800).fmod 8)) ix ix (v3.trans (congrArg some ?_))) (ay (aw (.one ix) h) hk))⟩
  rw [beq_eq_false_iff_ne.mpr h3]; rfl
theorem yU {l:List V} (hl:dA (.list l)=true):aU .Eq (.list l) (.list [])=some l.isEmpty:=(if_pos (by rw [hl]; rfl)).trans (congrArg some (by cases l <;> rfl))
noncomputable def eF (cell:Int) (s:List Nat):Nat:=s.getD ((cell.fdiv 256).fmod s.length).toNat 0
theorem iN {cell:Int} {n:Nat} (h:0 < n):(cell.fmod n).toNat < n:=by
 have h1:=aT cell (b:=n) (Int.ofNat_lt.mpr h)
 have h2:=bR cell (b:=n) (Int.ofNat_lt.mpr h)
 exact (Int.toNat_lt ‹_›).mpr h2
theorem oy {cell:Int} {s:List Nat} (h:s≠[]):s[((cell.fdiv 256).fmod s.length).toNat]?=some (eF cell s):=by
 have:=iN (cell:=cell.fdiv 256) (List.length_pos_iff.mpr h)
 unfold eF
 rw [List.getD_eq_getElem?_getD,List.getElem?_eq_getElem this]; rfl
theorem cw {cell:Int} {s:List Nat} (h:s≠[]):eF cell s∈s:=List.mem_of_getElem? (oy h)
theorem jy {cf:ai} {G:Gs} {e:E} {cell:Int} {s:List Nat} (he:Val cf G e (text s)) (h0:Val cf G (vv 0) (.int cell)) (hs:s≠[]) (hl:s.length≤4):Val cf G (sbE e (mdE (fdE (vv 0) (ii 256)) (lnE e))) (text [eF cell s]):=
 have hp:=List.length_pos_iff.mpr hs
 have hz:s.length≤5000:=zB1 hl (by decide)
 aa (.two he (aa (.two (aa (.two h0 ix) (kj (by decide) (by decide))) (aa (.one he) (jV hz))) (cz (Int.ofNat_lt.mpr hp)))) (qE hz (aT _ (Int.ofNat_lt.mpr hp)) (oy hs))
theorem iF {l:List Nat} (h:PyData.strOk ⟨l.toArray⟩=true):aU .NotEq (text l) (.str k0)=some (!l.isEmpty):=(yS h B8).trans (congrArg (fun b=>some (!b)) (by
 cases l with
 | nil=>rfl
 | cons c r=>exact beq_eq_false_iff_ne.mpr fun e=>nomatch congrArg (fun s:Str=>s.cps.toList) e))
theorem rQ {l:List V} (h:∀ x∈l,eg 1 x):aU .NotEq (.list l) (.list [])=some (!l.isEmpty):=congrArg (Option.map (!·)) (yU (cj (n:=2) (cx h) (by decide)):eqO (.list l) (.list [])=some l.isEmpty)
def AH (s0 s1 s2:List Nat) (R:Int) (v:V):Prop:=v=.none∨∃ w,W.ok s0 s1 s2 R w∧v=w.v
noncomputable def AT:W→Prop
 | .op _ _ _ _=>True
 | _=>False
def S25 (cf:ai):Prop:=∀ cell s0 s1 s2 R (os:List W) (most:Int),SgOk s0 s1 s2→1≤R→os.length≤100→(∀ w∈os,AT w∧W.ok s0 s1 s2 R w)→∃ v,AH s0 s1 s2 R v∧∀ K,K v→cf 25 [.int cell,sg s0 s1 s2,.int R,aC os,.int most] K
section
variable {cf:ai} {cell R most:Int} {s0 s1 s2:List Nat} {os:List W}
noncomputable def g25 (cell:Int) (s0 s1 s2:List Nat) (R:Int) (os:List W) (most a b t:Int):Gs:=[.v (.int cell),.v (sg s0 s1 s2),.v (.int R),.v (aC os),.v (.int most),.v (.int a),.v (.int b),.v (.int t)]
theorem dM {K:Option V→Gs→Prop} (a b t:Int) (fl:∀ x∈os.map W.v,eg 1 x):Val cf (g25 cell s0 s1 s2 R os most a b t) (neE (vv 3) (.nd .list [])) (.bool (!(os.map W.v).isEmpty)):=ae (x:=.list (os.map W.v)) ix ix (rQ fl)
theorem uw (sk:SgOk s0 s1 s2) (ok:∀ w∈os,AT w∧W.ok s0 s1 s2 R w) (hl:os.length≤100) (fl:∀ x∈os.map W.v,eg 1 x) (h0:s0≠[]) {a b t:Int} (ha:In R a) (hb:In R b) (ht:In R t):∃ v,AH s0 s1 s2 R v∧∀ (r:List S) (K:Option V→Gs→Prop),(∀ G,K (some v) G)→exs sup cf (yN++r) (g25 cell s0 s1 s2 R os most a b t) K:=by
 have q0:∀ {k:Int},Val cf (g25 cell s0 s1 s2 R os most a b t) (eqE (mdE (fdE (vv 0) (ii 1024)) (ii 3)) (ii k)) (.bool ((cell.fdiv 1024).fmod 3==k)):=fun K h=>h
 have last:∀ (r:List S) (K:Option V→Gs→Prop),(∀ G,K (some (W.v (.op a (eF cell s0) b t))) G)→exs sup cf (.mk .ret [.nd .tuple [ss a7,vv 5,sbE (sbE (vv 1) (ii 0)) (mdE (fdE (vv 0) (ii 256)) (lnE (sbE (vv 1) (ii 0)))),vv 6,vv 7]] [] [] :: r) (g25 cell s0 s1 s2 R os most a b t) K:=fun r K h=>
  ay (aa (.cons ix (.cons ix (.cons (jy ix ix h0 sk.la) (.two ix ix)))) rfl) (h _)
 cases os with
 | nil=>
  refine ⟨_,.inr ⟨.op a (eF cell s0) b t,⟨ha,cw h0,hb,ht⟩,rfl⟩,fun r K h=>?_⟩
  exact aB (az (.stop (b:=true) (dM (K:=K) a b t fl))) (aB (az (.stop (b:=true) (dM (K:=K) a b t fl))) (last r K h))
 | cons w os=>
  obtain ⟨io,wo⟩:=ok w (.head _)
  cases w with
  | on=>cases io
  | cl=>cases io
  | op a' c' b' t'=>
   have hz:((W.op a' c' b' t' :: os).map W.v).length≤5000:=by exact zB1 (zB2 (List.length_map _)) (zB1 hl (by decide))
   have w0:Val cf (g25 cell s0 s1 s2 R (.op a' c' b' t' :: os) most a b t) (sbE (vv 3) (ii 0)) (W.v (.op a' c' b' t')):=aa (.two (x:=.list ((W.op a' c' b' t' :: os).map W.v)) ix ix) (fH hz (Int.le_refl _) rfl)
   by_cases c0:(cell.fdiv 1024).fmod 3=0
   ·refine ⟨_,.inr ⟨.op a' c' b t,⟨wo.1,wo.2.1,hb,ht⟩,rfl⟩,fun r K h=>?_⟩
    exact bN (az (.go (dM (K:=K) a b t fl) (.go (by have:=q0 (k:=0); rw [c0] at this; exact this) .nil))) (ay (aa (.two (x:=.tuple [.str a7,.int a',text [c']]) (aa (.two w0 ix) rfl) ix) rfl) (h _))
   ·have n0:=q0 (k:=0)
    rw [beq_eq_false_iff_ne.mpr c0] at n0
    have s1:∀ {X:List S} {r K},exs sup cf r (g25 cell s0 s1 s2 R (.op a' c' b' t' :: os) most a b t) K→exs sup cf (.mk .ite [.nd .and [(neE (vv 3) (.nd .list [])),eqE (mdE (fdE (vv 0) (ii 1024)) (ii 3)) (ii 0)]] X [] :: r) (g25 cell s0 s1 s2 R (.op a' c' b' t' :: os) most a b t) K:=fun {X r K} h=>aB (az (.go (dM (K:=K) a b t fl) (.stop (b:=true) n0))) h
    by_cases c1:(cell.fdiv 1024).fmod 3=1
    ·refine ⟨_,.inr ⟨.op (R - 1 - a') c' b t,⟨⟨by have:=wo.1.2; lia,by have:=wo.1.1; lia⟩,wo.2.1,hb,ht⟩,rfl⟩,fun r K h=>s1 ?_⟩
     refine bN (az (.go (dM (K:=K) a b t fl) (.go (by have:=q0 (k:=1); rw [c1] at this; exact this) .nil))) (ay (aa (.cons ix (.cons (aa (.two (x:=.int (R - 1)) ix (aa (.two w0 ix) rfl)) rfl) (.cons (aa (.two w0 ix) rfl) (.two ix ix)))) rfl) (h _))
    ·refine ⟨_,.inr ⟨.op a (eF cell s0) b t,⟨ha,cw h0,hb,ht⟩,rfl⟩,fun r K h=>s1 ?_⟩
     have n1:=q0 (k:=1)
     rw [beq_eq_false_iff_ne.mpr c1] at n1
     exact aB (az (.go (dM (K:=K) a b t fl) (.stop (b:=true) n1))) (last r K h)
theorem sT (sk:SgOk s0 s1 s2) (ok:∀ w∈os,AT w∧W.ok s0 s1 s2 R w) (hl:os.length≤100) (fl:∀ x∈os.map W.v,eg 1 x) (h1:s1≠[]) {a b t:Int} (ha:In R a) (hb:In R b) (ht:In R t):∃ v,AH s0 s1 s2 R v∧∀ (r:List S) (K:Option V→Gs→Prop),(∀ G,K (some v) G)→exs sup cf (yM++r) (g25 cell s0 s1 s2 R os most a b t) K:=by
 have last:∀ (a b:Int) (r:List S) (K:Option V→Gs→Prop),(∀ G,K (some (W.v (.cl a b (eF cell s1) t))) G)→exs sup cf (.mk .ret [.nd .tuple [ss aS,vv 5,vv 6,sbE (sbE (vv 1) (ii 1)) (mdE (fdE (vv 0) (ii 256)) (lnE (sbE (vv 1) (ii 1)))),vv 7]] [] [] :: r) (g25 cell s0 s1 s2 R os most a b t) K:=fun a b r K h=>
  ay (aa (.cons ix (.cons ix (.cons ix (.two (jy ix ix h1 sk.lb) ix)))) rfl) (h _)
 have nn:=fun K=>dM (cf:=cf) (cell:=cell) (s0:=s0) (s1:=s1) (s2:=s2) (R:=R) (most:=most) (K:=K) a b t fl
 by_cases he:os=[]
 ·refine ⟨_,.inr ⟨.cl a b (eF cell s1) t,⟨ha,hb,cw h1,ht⟩,rfl⟩,fun r K h=>?_⟩
  subst he
  exact aB (az (.stop (b:=true) (nn K))) (last a b r K h)
 ·have ne:(!(os.map W.v).isEmpty)=true:=by cases os with | nil=>exact absurd rfl he | cons=>rfl
  by_cases c0:0 < (cell.fdiv 1024).fmod 4
  ·have hlt:=iN (cell:=cell.fdiv 16) (List.length_pos_iff.mpr he)
   refine (ok _ (List.getElem_mem hlt)).elim fun io wo=>?_
   have hw:(os.map W.v)[((cell.fdiv 16).fmod os.length).toNat]?=some (W.v os[((cell.fdiv 16).fmod os.length).toNat]):=by rw [List.getElem?_map,List.getElem?_eq_getElem hlt]; rfl
   generalize os[((cell.fdiv 16).fmod os.length).toNat]=w at io wo hw
   cases w with
   | on=>cases io
   | cl=>cases io
   | op a' c' b' t'=>
    refine ⟨_,.inr ⟨.cl b' t' (eF cell s1) t,⟨wo.2.2.1,wo.2.2.2,cw h1,ht⟩,rfl⟩,fun r K h=>?_⟩
    have hz:(os.map W.v).length≤5000:=by exact zB1 (zB2 (List.length_map _)) (zB1 hl (by decide))
    refine bN (az (.go (ne▸nn K) (.go (ae (x:=.int ((cell.fdiv 1024).fmod 4)) ix ix (xR c0)) .nil))) ?_
    refine sB (v:=.tuple [.int b',.int t']) (aa (.two (aa (.two (x:=.list (os.map W.v)) ix (aa (.two (x:=.int (cell.fdiv 16)) ix (aa (.one (v:=.list (os.map W.v)) ix) (kh hz))) (cz (by rw [zA4]; have:=List.length_pos_iff.mpr he; exact Int.ofNat_lt.mpr this)))) (fH hz (by rw [zA4]; exact aT _ (by exact Int.ofNat_lt.mpr (List.length_pos_iff.mpr he))) (by rw [zA4]; exact hw))) ix) rfl) rfl (last b' t' r K h)
  ·refine ⟨_,.inr ⟨.cl a b (eF cell s1) t,⟨ha,hb,cw h1,ht⟩,rfl⟩,fun r K h=>?_⟩
   exact aB (az (.go (ne▸nn K) (.stop (b:=true) (ae (x:=.int ((cell.fdiv 1024).fmod 4)) ix ix (km c0))))) (last a b r K h)
end
theorem p25 (cf:ai):S25 (step cf):=fun cell s0 s1 s2 R os most sk hR hl ok=>by
 have in':∀ x:Int,In R (x.fmod R):=fun x=>⟨aT x (by exact Int.lt_of_lt_of_le (by decide) hR),bR x (by exact Int.lt_of_lt_of_le (by decide) hR)⟩
 have fl:∀ x∈os.map W.v,eg 1 x:=fun x m=>by
  obtain ⟨w,mw,rfl⟩:=zA7 m
  exact jJ sk (ok w mw).2
 have hz:(os.map W.v).length≤5000:=by exact zB1 (zB2 (List.length_map _)) (zB1 hl (by decide))
 have start:∀ (K:V→Prop),(exs sup cf (f25.body.drop 3) (g25 cell s0 s1 s2 R os most ((cell.fdiv 4).fmod R) ((cell.fdiv 16).fmod R) ((cell.fdiv 64).fmod R)) fun fl _=>K (fl.getD .none))→step cf 25 [.int cell,sg s0 s1 s2,.int R,aC os,.int most] K:=fun K h=>
  run (fn:=f25) rfl rfl rfl (af (aa (.two ix ix) (cz (by exact Int.lt_of_lt_of_le (by decide) hR))) (af (aa (.two ix ix) (cz (by exact Int.lt_of_lt_of_le (by decide) hR))) (af (aa (.two ix ix) (cz (by exact Int.lt_of_lt_of_le (by decide) hR))) h)))
 have c1:Val cf (g25 cell s0 s1 s2 R os most ((cell.fdiv 4).fmod R) ((cell.fdiv 16).fmod R) ((cell.fdiv 64).fmod R)) (.nd .and [(eqE (mdE (vv 0) (ii 4)) (ii 0)),.nd (.cmp .Lt) [(lnE (vv 3)),vv 4],neE (sbE (vv 1) (ii 0)) (ss k0)]) (.bool ((cell.fmod 4==0)&&(decide (((os.map W.v).length:Int) < most)&&(!s0.isEmpty&&true)))):=
  az (.and ix fun _=>.and (ae (aa (.one (v:=.list (os.map W.v)) ix) (kh hz)) ix rfl) fun _=>.and (ae (x:=text s0) ix ix (iF (dL fun c m=>sk.lowA m))) fun _=>.nil)
 have c2:Val cf (g25 cell s0 s1 s2 R os most ((cell.fdiv 4).fmod R) ((cell.fdiv 16).fmod R) ((cell.fdiv 64).fmod R)) (.nd .and [.nd (.cmp .Lt) [(mdE (vv 0) (ii 4)),ii 2],neE (sbE (vv 1) (ii 1)) (ss k0)]) (.bool (decide (cell.fmod 4 < 2)&&(!s1.isEmpty&&true))):=
  az (.and ix fun _=>.and (ae (x:=text s1) ix ix (iF (dL fun c m=>sk.lowB m))) fun _=>.nil)
 have c3:Val cf (g25 cell s0 s1 s2 R os most ((cell.fdiv 4).fmod R) ((cell.fdiv 16).fmod R) ((cell.fdiv 64).fmod R)) (neE (sbE (vv 1) (ii 2)) (ss k0)) (.bool (!s2.isEmpty)):=ae (x:=text s2) ix ix (iF (dL fun c m=>sk.lowC m))
 have ne:∀ {s:List Nat},(!s.isEmpty)=true→s≠[]:=fun h e=>by replace h:=e▸h; (injection h; done)
 cases t1:(cell.fmod 4==0)&&(decide (((os.map W.v).length:Int) < most)&&(!s0.isEmpty&&true)) with
 | true=>
  rw [t1] at c1
  have z:=zA2 (zA2 (zA2 t1).2).2
  refine (uw (cf:=cf) (cell:=cell) (most:=most) sk ok hl fl (ne z.1) (in' (cell.fdiv 4)) (in' (cell.fdiv 16)) (in' (cell.fdiv 64))).elim fun v Zq3=>Zq3.elim fun hv h=>?_
  exact ⟨v,hv,fun K k=>start K (bN c1 (h _ _ fun _=>k))⟩
 | false=>
  rw [t1] at c1
  cases t2:decide (cell.fmod 4 < 2)&&(!s1.isEmpty&&true) with
  | true=>
   rw [t2] at c2
   have z:=zA2 (zA2 t2).2
   refine (sT (cf:=cf) (cell:=cell) (most:=most) sk ok hl fl (ne z.1) (in' (cell.fdiv 4)) (in' (cell.fdiv 16)) (in' (cell.fdiv 64))).elim fun v Zq4=>Zq4.elim fun hv h=>?_
   exact ⟨v,hv,fun K k=>start K (aB c1 (bN c2 (h _ _ fun _=>k)))⟩
  | false=>
   rw [t2] at c2
   cases t3:s2.isEmpty with
   | true=>
    replace c3:=t3▸c3
    exact ⟨.none,.inl rfl,fun K k=>start K (aB c1 (aB c2 (aB c3 (ay ix k))))⟩
   | false=>
    rw [t3] at c3
    have h2:s2≠[]:=ne (by rw [t3]; rfl)
    exact ⟨_,.inr ⟨.on ((cell.fdiv 4).fmod R) (eF cell s2) ((cell.fdiv 16).fmod R),⟨in' _,cw h2,in' _⟩,rfl⟩,fun K k=>start K (aB c1 (aB c2 (bN c3 (ay (aa (.cons ix (.cons ix (.two (jy ix ix h2 sk.lc) ix))) rfl) k))))⟩
theorem rOk_of (h0:0≤n) (h:n≤1000):rOk n=true:=Nat.ble_eq_true_of_le (Int.ofNat_le.mp (by rw [Int.natAbs_of_nonneg h0]; exact Int.le_trans h (by decide)))
theorem range_len:(aW 0 n).length=n.toNat:=by unfold aW; rw [zA4,List.length_range,Int.sub_zero]
theorem w4 (h0:0≤n) (h:n≤1000):opN .range [.int n]=some (.list (aW 0 n)):=(if_pos ⟨rfl,rOk_of h0 h⟩).trans (if_pos (cJ (by rw [range_len]; exact Int.toNat_le.mpr (Int.le_trans h (by decide)))))
theorem eE (h:n≤1000):bL (.list (aW 0 n))=some (aW 0 n):=aX (by rw [range_len]; exact Int.toNat_le.mpr (Int.le_trans h (by decide)))
theorem range_eq (n:Int):aW 0 n=(List.range n.toNat).map fun i:Nat=>.int (0+(i:Int)):=by unfold aW; rw [Int.sub_zero]
theorem c6 (h:Val cf G e (.int n)) (h0:0≤n) (hz:n≤1000):Val cf G (.nd .range [e]) (.list (aW 0 n)):=aa (.one h) (w4 h0 hz)
noncomputable def pickR (n:Nat) (p:Nat→Bool):List Int:=((List.range n).filter p).map fun i:Nat=>0+(i:Int)
theorem ou (h:R≤4):RoomsOk R (pickR R.toNat p) where
 len:=by
  unfold pickR
  rw [zA4]
  have:=List.length_filter_le p (List.range R.toNat)
  rw [List.length_range] at this
  exact zB1 this (Int.toNat_le.mpr (Int.le_trans h (by decide)))
 nodup:=List.pairwise_map.mpr ((List.nodup_range.filter p).imp fun h e=>h (by rw [Int.zero_add,Int.zero_add] at e; exact Int.ofNat.inj e))
 rooms:=fun i m=>by
  obtain ⟨j,mj,rfl⟩:=zA7 m
  have:=List.mem_range.mp (List.mem_filter.mp mj).1
  exact ⟨Int.add_nonneg (Int.le_refl _) (Int.natCast_nonneg _),by rw [Int.zero_add]; exact Int.lt_toNat.mp this⟩
theorem kv (h:Val cf G e (.int R)) (h0:0≤R) (h1:R≤4) (ht:∀ i:Nat,(i:Int) < R→Val cf (G.set k (.v (.int (0+(i:Int))))) t (.bool (p i))) (hv:∀ i:Nat,Val cf (G.set k (.v (.int (0+(i:Int))))) (vv k) (.int (0+(i:Int)))) :
  Val cf G (.nd (.comp k) [.nd .range [e],vv k,t]) (aj (pickR R.toNat p)):=by
 have q:=jz (k:=k) (e:=vv k) (ts:=[t]) (p:=p) (f:=fun i:Nat=>.int (0+(i:Int))) (c6 h h0 (by exact Int.le_trans h1 (by decide))) ((eE (by exact Int.le_trans h1 (by decide))).trans (congrArg some (range_eq R))) (fun i m=>bk.one (ht i (Int.lt_toNat.mp (List.mem_range.mp m)))) fun i m _=>hv i
 unfold aj pickR
 rw [List.map_map]
 exact q
theorem Co {i:Nat} {R:Int} (h:(i:Int) < R) (h4:R≤4):0 < 4 * (0+(i:Int))+1∧4 * (0+(i:Int))+1≤1000000:=by
 rw [Int.zero_add]
 exact ⟨Int.add_pos_of_nonneg_of_pos (Int.mul_nonneg (by decide) (Int.natCast_nonneg i)) (by decide),Int.le_trans (Int.add_le_add_right (Int.mul_le_mul_of_nonneg_left (Int.le_trans (Int.le_of_lt h) h4) (by decide)) 1) (by decide)⟩
theorem Cn {i:Nat} {R:Int} (h:(i:Int) < R) (h4:R≤4):0 < 5 * (0+(i:Int))+7∧5 * (0+(i:Int))+7≤1000000:=by
 rw [Int.zero_add]
 exact ⟨Int.add_pos_of_nonneg_of_pos (Int.mul_nonneg (by decide) (Int.natCast_nonneg i)) (by decide),Int.le_trans (Int.add_le_add_right (Int.mul_le_mul_of_nonneg_left (Int.le_trans (Int.le_of_lt h) h4) (by decide)) 7) (by decide)⟩
structure PartsOk (s0 s1 s2:List Nat) (R:Int) (st en:List Int) (ws:List W):Prop where
 r1:1≤R
 r4:R≤4
 st:RoomsOk R st
 en:RoomsOk R en
 len:ws.length≤10
 ok:∀ w∈ws,W.ok s0 s1 s2 R w
def S26 (cf:ai):Prop:=∀ scr (p:Int) s0 s1 s2 K,scr.length≤63→0≤p→SgOk s0 s1 s2→(∀ R st en ws,PartsOk s0 s1 s2 R st en ws→K (bf (sg s0 s1 s2) R st en ws))→cf 26 [nZ scr,.int p,sg s0 s1 s2,.int 4] K
noncomputable def opB:W→Bool
 | .op _ _ _ _=>true
 | _=>false
noncomputable def g26 (scr:List Int) (p:Int) (s0 s1 s2:List Nat) (R many:Int) (st en:List Int) (ws:List W) (s9 s10 s11:Slot):Gs:=[.v (nZ scr),.v (.int p),.v (sg s0 s1 s2),.v (.int 4),.v (.int R),.v (.int many),.v (aj st),.v (aj en),.ownL (ws.map W.v),s9,s10,s11,.unset,.unset]
inductive Ip26_1 (s0 s1 s2:List Nat) (R:Int) (scr:List Int) (p many:Int) (st en:List Int) (xs:List V) (G:Gs):Prop
 | mk (ws:List W) (s9:Slot) (s10:Slot) (s11:Slot) (e4_:(∀ x∈xs,∃ i:Int,0≤i∧x=.int i)) (e5_:ws.length+xs.length≤10) (e6_:(∀ w∈ws,W.ok s0 s1 s2 R w)) (e7_:G=g26 scr p s0 s1 s2 R many st en ws s9 s10 s11):Ip26_1 s0 s1 s2 R scr p many st en xs G
theorem p26 (cf:ai) (hA:S20 cf) (hB:S21 cf) (hC:S25 cf):S26 (step cf):=fun scr p s0 s1 s2 K hs h0 sk h=>by
 have h1:0≤p+1:=Int.add_nonneg h0 (by decide)
 have mR:=mV (a8 scr p)
 have mR1:1≤1+(a8 scr p).fmod 4:=Int.add_le_add_left (aT (a8 scr p) (b:=4) (by decide)) 1
 have n1:0≤2+((a8 scr p).fdiv 4).fmod 9:=Int.add_le_add (show 0≤(2:Int) by decide) (aT _ (by decide))
 have n2:2+((a8 scr p).fdiv 4).fmod 9≤10:=Int.add_le_add_left (Int.le_of_lt_add_one (bR _ (b:=8+1) (by decide))) 2
 have cA:∀ {G a b} {i:Int},Val cf G a (nZ scr)→Val cf G b (.int i)→0≤i→Val cf G (.nd (.call 20) [a,b]) (.int (a8 scr i)):=fun ha hb hi=>aw (.two ha hb) fun K h=>hA scr _ K hs hi h
 have e1:=lI (l:=[4,2,1,1]) (i:=1+(a8 scr p).fmod 4 - 1) (Int.sub_nonneg_of_le mR1) (Int.sub_lt_iff.mpr (Int.lt_add_one_of_le mR.2))
 refine run (fn:=f26) rfl rfl rfl ?_
 have mR2:=mR.2
 have mR0:=mR.1
 clear mR
 generalize hR:1+(a8 scr p).fmod 4=R at e1 mR0 mR1 mR2
 refine af (v:=.int R) (hR▸aa (.two ix (aa (.two (cA ix ix h0) ix) (cz (by decide)))) rfl) ?_
 refine af (aa (.two (x:=.list [.int 4,.int 2,.int 1,.int 1]) ix ix) (fH (by decide) (Int.sub_nonneg_of_le mR1) e1)) ?_
 generalize ([4,2,1,1]:List Int).getD (R - 1).toNat 0=many
 refine af (kv (p:=fun i=>decide (0 < ((a8 scr (p+1)).fdiv (4 * (0+(i:Int))+1)).fmod 3)) ix mR0 mR2 (fun i hi=>ae (aa (.two (aa (.two (cA (i:=p+1) ix ix h1) (aa (.two (aa (.two ix ix) (gX (.inr (by decide)))) ix) rfl)) (kj (Co hi mR2).1 (Co hi mR2).2)) ix) (cz (by decide))) ix rfl) fun i=>ix) ?_
 refine af (kv (p:=fun i=>((a8 scr (p+1)).fdiv (5 * (0+(i:Int))+7)).fmod 2==0) ix mR0 mR2 (fun i hi=>ae (aa (.two (aa (.two (cA (i:=p+1) ix ix h1) (aa (.two (aa (.two ix ix) (gX (.inr (by decide)))) ix) rfl)) (kj (Cn hi mR2).1 (Cn hi mR2).2)) ix) (cz (by decide))) ix rfl) fun i=>ix) (qw ?_)
 have ost:=ou (R:=R) (p:=fun i=>decide (0 < ((a8 scr (p+1)).fdiv (4 * (0+(i:Int))+1)).fmod 3)) mR2
 have oen:=ou (R:=R) (p:=fun i=>((a8 scr (p+1)).fdiv (5 * (0+(i:Int))+7)).fmod 2==0) mR2
 generalize pickR R.toNat (fun i=>decide (0 < ((a8 scr (p+1)).fdiv (4 * (0+(i:Int))+1)).fmod 3))=st at ost
 generalize pickR R.toNat (fun i=>((a8 scr (p+1)).fdiv (5 * (0+(i:Int))+7)).fmod 2==0)=en at oen
 refine gU (xs:=aW 0 (2+((a8 scr p).fdiv 4).fmod 9)) (P:=Ip26_1 s0 s1 s2 R scr p many st en)
  (c6 (aa (.two ix (aa (.two (aa (.two (cA ix ix h0) ix) (kj (by decide) (by decide))) ix) (cz (by decide)))) rfl) n1 (Int.le_trans n2 (by decide))) (eE (Int.le_trans n2 (by decide))) ⟨[],_,_,_,fun x m=>?_,by rw [range_len,List.length_nil,Nat.zero_add]; exact Int.toNat_le.mpr n2,fun w m=>(nM m),rfl⟩ (fun G hP=>?_) fun x xs' G Kt hP nx _=>?_
 ·rw [range_eq] at m
  obtain ⟨i,_,rfl⟩:=zA7 m
  exact ⟨_,Int.add_nonneg (by decide) (Int.natCast_nonneg i),rfl⟩
 ·obtain ⟨ws,s9,s10,s11,_,hl,hw,rfl⟩:=hP
  rw [List.length_nil] at hl
  exact jv (l:=ws.map W.v) rfl (ay ix (h R st en ws ⟨mR1,mR2,ost,oen,zB1 hl (by decide),hw⟩))
 ·obtain ⟨ws,s9,s10,s11,hx,hl,hw,rfl⟩:=hP
  rw [zB4,← Nat.add_assoc] at hl
  have hl':=Nat.le_of_succ_le hl
  have hw10:ws.length≤10:=zB1 (Nat.le_add_right _ _) hl'
  obtain ⟨i,hi,rfl⟩:=hx x (.head _)
  have hz:(ws.map W.v).length≤5000:=by rw [zA4]; exact zB1 hw10 (by decide)
  refine af (v:=aC (ws.filter opB)) (jz (g:=W.v) (p:=opB) (f:=W.v) (x:=.list (ws.map W.v)) ix (aX hz) (fun w m=>bk.one ?_) fun w m _=>ix) ?_
  ·cases w with
   | on a c b=>exact ae (x:=.str kOn) ix ix ((bX ok_on ok_open).trans (congrArg some (by rfl)))
   | op a c b t=>exact ae (x:=.str a7) ix ix ((bX ok_open ok_open).trans (congrArg some (by rfl)))
   | cl a b c t=>exact ae (x:=.str aS) ix ix ((bX ok_close ok_open).trans (congrArg some (by rfl)))
  obtain ⟨v,hv,hC⟩:=hC (vN (a8 scr (p+2+i)) i) s0 s1 s2 R (ws.filter opB) many sk mR1 (zB1 (List.length_filter_le opB ws) (zB1 hw10 (by decide))) fun w m=>by
   have m:=List.mem_filter.mp m
   exact ⟨(by cases w with | op=>trivial | _=>(injection m.2; done)),hw w m.1⟩
  refine af (v:=v) (aw (vs:=[.int (vN (a8 scr (p+2+i)) i),sg s0 s1 s2,.int R,aC (ws.filter opB),.int many]) (.cons (aw (.two (cA (i:=p+2+i) ix ix (Int.add_nonneg (Int.add_nonneg h0 (by decide)) hi)) ix) fun K h=>hB _ _ K h) (.cons ix (.cons ix (.two ix ix)))) hC (by rcases hv with rfl | ⟨w,_,rfl⟩ <;> rfl)) ?_
  have hx':∀ x∈xs',∃ i:Int,0≤i∧x=.int i:=fun x m=>hx x (.tail _ m)
  rcases hv with rfl | ⟨w,ow,rfl⟩
  ·exact aB ix (aL (nx _ ⟨ws,_,_,_,hx',hl',hw,rfl⟩))
  ·refine bN (by cases w <;> exact ix) (jw (l:=ws.map W.v) rfl (v:=w.v) ix (Nat.lt_of_le_of_lt hz (by decide)) (aL (nx _ ⟨ws++[w],_,_,_,hx',by rw [zB5,List.length_singleton,Nat.add_right_comm]; exact hl,fun u m=>?_,by unfold g26; rw [List.map_append]; rfl⟩)))
   rcases List.mem_append.mp m with m | m
   ·exact hw u m
   ·obtain rfl:=zA6 m; exact ow
noncomputable def iw (a b c:List Nat):Int→List Nat→Bool
 | d,[]=>d==0
 | d,x :: w=>if a.elem x=true then iw a b c (d+1) w else if b.elem x=true then decide (1≤d)&&iw a b c (d - 1) w else c.elem x&&iw a b c d w
theorem kind4 (a b c:List Nat) (x:Nat):(a.elem x=true∧dR a b c x=a7)∨(a.elem x=false∧b.elem x=true∧dR a b c x=aS)∨(a.elem x=false∧b.elem x=false∧c.elem x=true∧dR a b c x=kOn)∨(a.elem x=false∧b.elem x=false∧c.elem x=false∧dR a b c x=k0):=by
 unfold dR
 cases a.elem x with
 | true=>exact .inl ⟨rfl,rfl⟩
 | false=>cases b.elem x with
  | true=>exact .inr (.inl ⟨rfl,rfl,rfl⟩)
  | false=>cases c.elem x with
   | true=>exact .inr (.inr (.inl ⟨rfl,rfl,rfl,rfl⟩))
   | false=>exact .inr (.inr (.inr ⟨rfl,rfl,rfl,rfl⟩))
def S4 (cf:ai):Prop:=∀ a b c t K,t.length≤1000→iw a b c 0 t=true→K (.bool true)→cf 4 [sg a b c,text t] K
inductive Ip4_1 (a b c:List Nat) (t:List Nat) (xs:List V) (G:Gs):Prop
 | mk (d:Int) (u:List Nat) (s3:Slot) (s4:Slot) (e4_:0≤d) (e5_:xs=bj u) (e7_:iw a b c d u=true) (e8_:G=[.v (sg a b c),.v (text t),.v (.int d),s3,s4]):Ip4_1 a b c t xs G
theorem p4 (cf:ai) (h3:S3 cf):S4 (step cf):=fun a b c t K hl hw h=>by
 refine run (fn:=f4) rfl rfl rfl ?_
 refine aB (aF (t:=true) ix) (af ix (gU (xs:=bj t) (v:=text t) (P:=Ip4_1 a b c t) ix (fQ (zB1 hl (by decide))) ⟨0,_,_,_,Int.le_refl _,rfl,hw,rfl⟩ (fun G hP=>?_) fun x l G Kt hP nx rt=>?_))
 ·obtain ⟨d,u,s3,s4,_,e,hi,rfl⟩:=hP
  cases u with
  | nil=>exact ay (v:=.bool (d==0)) (ae ix ix pb) (by exact (show (d==0)=true from hi).symm▸h)
  | cons=>(injection e; done)
 ·obtain ⟨d,u,s3,s4,hd,e,hi,rfl⟩:=hP
  cases u with
  | nil=>(injection e; done)
  | cons y u=>
   obtain ⟨rfl,rfl⟩:=zA5 e
   refine af (v:=.str (dR a b c y)) (aw (.two ix ix) fun K h=>h3 a b c y K h) ?_
   have hi:(if a.elem y=true then iw a b c (d+1) u else if b.elem y=true then decide (1≤d)&&iw a b c (d - 1) u else c.elem y&&iw a b c d u)=true:=hi
   have fin:∀ {s:Str} {d':Int},(s==k0)=false→PyData.strOk s=true→0≤d'→iw a b c d' u=true→exs sup cf [.mk .ite [.nd .or [(eqE (vv 4) (ss k0)),.nd (.cmp .Lt) [vv 2,ii 0]]] [.mk .ret [bb false] [] []] []] [.v (sg a b c),.v (text t),.v (.int d'),.v (text [y]),.v (.str s)] Kt:=fun {s d'} es os g1 g2=>
    aB (bq (.go (br ix os B8 es) (.one' (ae ix ix (wq (Int.not_lt.mpr g1)))))) (aL (nx _ ⟨d',u,_,_,g1,rfl,g2,rfl⟩))
   rcases kind4 a b c y with ⟨q,e⟩ | ⟨q,q',e⟩ | ⟨q,q',q'',e⟩ | ⟨q,q',q'',e⟩ <;> refine e.symm▸?_
   ·rw [if_pos q] at hi
    exact bN (br ix ok_open ok_open rfl) (af (v:=.int (d+1)) ix (fin rfl ok_open (Int.add_nonneg hd (by decide)) hi))
   ·rw [if_neg (by rw [q]; exact Bool.false_ne_true),if_pos q'] at hi
    obtain ⟨hi1,hi2⟩:=zA2 hi
    exact cV (br (u:=false) ix ok_close ok_open rfl) (fun z=>nB z) fun _=>bN (br ix ok_close ok_close rfl) (af (v:=.int (d - 1)) ix (fin rfl ok_close (Int.sub_nonneg_of_le (of_decide_eq_true hi1)) hi2))
   ·rw [if_neg (by rw [q]; exact Bool.false_ne_true),if_neg (by rw [q']; exact Bool.false_ne_true),q'',Bool.true_and] at hi
    exact cV (br (u:=false) ix ok_on ok_open rfl) (fun z=>nB z) fun _=>aB (br ix ok_on ok_close rfl) (fin rfl ok_on hd hi)
   ·rw [if_neg (by rw [q]; exact Bool.false_ne_true),if_neg (by rw [q']; exact Bool.false_ne_true),q'',Bool.false_and] at hi
    exact nB hi
def S5 (cf:ai):Prop:=∀ a b c t K,t.length≤1000→iw a b c 0 t=true→K .none→cf 5 [sg a b c,text t] K
theorem p5 (cf:ai) (h4:S4 cf):S5 (step cf):=fun a b c t K hl hw h=>run (fn:=f5) rfl rfl rfl (aB (aF (t:=true) (aw (.two ix ix) fun K h=>h4 a b c t K hl hw h)) (aL h))
structure MOk (s0 s1 s2:List Nat) (R:Int) (ws:List W):Prop where
 sk:SgOk s0 s1 s2
 r:R≤40
 len:ws.length < 64
 ok:∀ w∈ws,W.ok s0 s1 s2 R w
noncomputable def pV (k:V×Int):V:=.tuple [k.1,.int k.2]
noncomputable def dK (ks:List (V×Int)):List (V×V):=ks.map fun k=>(pV k,.bool true)
def Bg (ws:List W) (v:V):Prop:=v=.none∨v∈ws.map W.v
structure KOk (R:Int) (ws:List W) (ks:List (V×Int)):Prop where
 nd:ks.Nodup
 ok:∀ k∈ks,Bg ws k.1∧In R k.2
noncomputable def rms:List Int:=(List.range 40).map fun n:Nat=>(n:Int)
theorem Cj (h:R≤40) (q:In R i):i∈rms:=by
 obtain ⟨n,rfl⟩:=Int.eq_ofNat_of_zero_le q.1
 exact List.mem_map.mpr ⟨n,List.mem_range.mpr (Int.ofNat_lt.mp (Int.lt_of_lt_of_le q.2 h)),rfl⟩
section
variable {s0 s1 s2:List Nat} {R:Int} {ws:List W} (m:MOk s0 s1 s2 R ws)
include m
theorem B0 (h:Bg ws v):itV v=true:=by
 rcases h with rfl | h
 ·rfl
 ·obtain ⟨w,mw,rfl⟩:=zA7 h
  exact List.all_eq_true.mpr fun x q=>cH m.sk (m.ok w mw) x q
theorem nk (h:Bg ws k.1):dC (pV k)=true:=zA3 ⟨B0 m h,rfl⟩
theorem AB (h:Bg ws v):v.canLay0=true:=by
 rcases h with rfl | h
 ·rfl
 ·obtain ⟨w,mw,rfl⟩:=zA7 h
  exact (jJ m.sk (m.ok w mw)).1
theorem As (hx:Bg ws x) (hy:Bg ws y) (e:PyData.eqv x y=true):x=y:=by
 rcases hx with rfl | hx
 ·rcases hy with rfl | hy
  ·rfl
  ·obtain ⟨w,mw,rfl⟩:=zA7 hy
   exact nB e
 ·rcases hy with rfl | hy
  ·obtain ⟨w,mw,rfl⟩:=zA7 hx
   exact nB e
  ·exact xM m.sk m.ok hx hy e
theorem BR (hk:Bg ws k.1) (hj:Bg ws j.1) (e:PyData.eqv (pV k) (pV j)=true):k=j:=by
 obtain ⟨e1,e2⟩:=zA2 (show (PyData.eqv k.1 j.1&&((k.2==j.2)&&true))=true from e)
 exact Prod.ext (As m hk hj e1) (eq_of_beq (zA2 e2).1)
theorem mU (o:KOk R ws ks) (hb:Bg ws k.1) (hr:In R k.2):∃ ks',rm (dK ks) (pV k) (.bool true)=dK ks'∧KOk R ws ks'∧∀ j,j∈ks' ↔ j∈ks∨j=k:=by
 unfold rm
 by_cases q:k∈ks
 ·refine ⟨ks,?_,o,fun j=>⟨.inl,fun h=>h.elim id fun e=>e▸q⟩⟩
  rw [if_pos]
  ·unfold dK
   rw [List.map_map]
   refine List.map_congr_left fun j mj=>?_
   refine (?_:(if PyData.eqv (pV j) (pV k)=true then (pV j,PyData.bool true) else (pV j,PyData.bool true))=_)
   exact ite_self _
  ·refine List.any_eq_true.mpr ⟨_,List.mem_map.mpr ⟨k,q,rfl⟩,?_⟩
   exact PySem.SeqAt.eqv_refl (pV k) (zA3 ⟨AB m hb,rfl⟩)
 ·refine ⟨ks++[k],?_,⟨?_,fun j mj=>?_⟩,fun j=>by rw [List.mem_append,List.mem_singleton]⟩
  ·rw [if_neg]
   ·unfold dK; rw [List.map_append]; rfl
   ·intro h
    obtain ⟨p,mp,hp⟩:=List.any_eq_true.mp h
    obtain ⟨j,mj,rfl⟩:=zA7 mp
    exact q (BR m (o.ok j mj).1 hb hp▸mj)
  ·exact List.nodup_append.mpr ⟨o.nd,List.pairwise_singleton _ k,fun a ha b hb e=>q (by obtain rfl:=zA6 hb; exact e▸ha)⟩
  ·rcases List.mem_append.mp mj with mj | mj
   ·exact o.ok j mj
   ·obtain rfl:=zA6 mj; exact ⟨hb,hr⟩
open Classical in
theorem yw (o:KOk R ws ks):ks.length≤2560:=by
 have h:ks.length≤((PyData.none :: ws.map W.v).flatMap fun v=>rms.map fun i=>(v,i)).length:=o.nd.length_le_of_subset fun k mk=>by
  refine (o.ok k mk).elim fun h1 h2=>?_
  exact List.mem_flatMap.mpr ⟨k.1,h1.elim (fun e=>e▸.head _) fun e=>.tail _ e,List.mem_map.mpr ⟨k.2,Cj m.r h2,rfl⟩⟩
 rw [List.length_flatMap] at h
 have e:((PyData.none :: ws.map W.v).map fun v=>(rms.map fun i=>(v,i)).length).sum=(ws.length+1) * 40:=by
  rw [show (fun v:V=>(rms.map fun i=>(v,i)).length)=fun _=>40 from rfl,List.map_const',List.sum_replicate_nat,zB4,zA4]
 rw [e] at h
 exact zB1 h (Nat.mul_le_mul_right 40 m.len)
theorem jT (o:KOk R ws ks):bL (.dict (dK ks))=some (ks.map pV):=by
 refine (if_pos (List.all_eq_true.mpr fun p mp=>?_)).trans ((if_pos ?_).trans (congrArg some ?_))
 ·obtain ⟨j,mj,rfl⟩:=zA7 mp
  exact nk m (o.ok j mj).1
 ·refine cJ ?_
  unfold dK
  rw [zA4]; exact zB1 (yw m o) (by decide)
 ·unfold dK
  rw [List.map_map]; rfl
theorem tN (o:KOk R ws ks):(dK ks).length < am:=by
 unfold dK
 rw [zA4]; exact Nat.lt_of_le_of_lt (yw m o) (by decide)
end
theorem ex_cons (A:α→β→Prop):(∃ x,x∈y :: ys∧A x p) ↔ A y p∨∃ x,x∈ys∧A x p:=⟨fun h=>h.elim fun x q=>(List.mem_cons.mp q.1).elim (fun e=>.inl (e▸q.2)) fun m=>.inr ⟨x,m,q.2⟩,fun h=>h.elim (fun q=>⟨y,.head _,q⟩) fun h=>h.elim fun x q=>⟨x,.tail _ q.1,q.2⟩⟩
inductive AddI {α β:Type} (xs:List α) (g:α→V) (J:Gs→List β→Prop) (A:α→β→Prop) (fs:List β) (l:List V) (G:Gs):Prop
 | mk (ys:List α) (fs':List β) (e:l=ys.map g) (my:∀ y∈ys,y∈xs) (j:J G fs') (h:∀ p,(p∈fs'∨∃ x,x∈ys∧A x p) ↔ (p∈fs∨∃ x,x∈xs∧A x p)):AddI xs g J A fs l G
theorem fM {α β:Type} {K:Option V→Gs→Prop} {b:Gs→V→Option Gs} {body r:List S} {xs:List α} {g:α→V} {J:Gs→List β→Prop} {A:α→β→Prop} {fs:List β}
  (hop:∀ ds X Y G K,(fy ds G fun x=>okK (bL x) fun xs=>i9 b X xs G K)→d7 sup cf op ds X Y G K) (hs:Val cf G s v) (hq:bL v=some (xs.map g)) (h0:J G fs)
  (turn:∀ x∈xs,∀ G fs Kt,J G fs→(∀ G' fs',J G' fs'→(∀ p,p∈fs' ↔ p∈fs∨A x p)→Kt none G')→okK (b G (g x)) fun G'=>exs sup cf body G' Kt)
  (n:∀ G fs',J G fs'→(∀ p,p∈fs' ↔ p∈fs∨∃ x∈xs,A x p)→exs sup cf r G K):exs sup cf (.mk op [s] body [] :: r) G K:=by
 refine qx (P:=AddI xs g J A fs) hop hs hq ⟨xs,fs,rfl,fun _ m=>m,h0,fun _=>Iff.rfl⟩ (fun G hP=>?_) fun x l G Kt hP nx rt=>?_
 ·obtain ⟨ys,fs',e,_,j,h⟩:=hP
  obtain rfl:=List.map_eq_nil_iff.mp e.symm
  exact n G fs' j fun p=>(or_iff_left fun q=>q.elim fun _ q=>List.not_mem_nil q.1).symm.trans (h p)
 ·obtain ⟨ys,fs',e,my,j,h⟩:=hP
  cases ys with
  | nil=>(injection e; done)
  | cons y ys=>
   obtain ⟨rfl,rfl⟩:=zA5 e
   exact turn y (my y (.head _)) G fs' Kt j fun G' fs'' j' h'=>nx G' ⟨ys,fs'',rfl,fun z q=>my z (.tail _ q),j',fun p=>((or_congr_left (h' p)).trans or_assoc).trans ((or_congr_right (ex_cons A).symm).trans (h p))⟩
theorem hM (h:((⟨[x].toArray⟩:Str)==⟨[y].toArray⟩)=true):x=y:=by
 have e:=congrArg (fun s:Str=>s.cps.toList) (eq_of_beq h)
 exact (zA5 e).1
theorem mL (h:low x=true):PyData.strOk ⟨[x].toArray⟩=true:=dL (l:=[x]) fun y q=>by obtain rfl:=zA6 q; exact h
theorem wv (hx:low x=true) (hy:low y=true):aU .Eq (text [x]) (text [y])=some ((⟨[x].toArray⟩:Str)==⟨[y].toArray⟩):=bX (mL hx) (mL hy)
theorem hW (ks:List (V×Int)):noX (.dict (dK ks))=true:=by cases ks <;> rfl
section
variable {s0 s1 s2:List Nat} {R:Int} {ws:List W}
theorem mQ (m:MOk s0 s1 s2 R ws):bL (aC ws)=some (ws.map W.v):=aX (by rw [zA4]; exact zB1 (Nat.le_of_lt m.len) (by decide))
theorem cO {β:Type} {fs:List β} {A:β→Prop} (h:∀ p,¬ A p):∀ p,p∈fs ↔ p∈fs∨A p:=fun p=>⟨.inl,fun q=>q.elim id fun q=>absurd q (h p)⟩
theorem b3 (h:(true&&(a&&b))=true):a=true∧b=true:=zA2 h
def OnK (ws:List W) (c:Nat) (ks ks':List (V×Int)):Prop:=∀ p,p∈ks' ↔ ∃ k∈ks,p.1=k.1∧W.on k.2 c p.2∈ws
def OpK (ws:List W) (c:Nat) (ks ks':List (V×Int)):Prop:=∀ p,p∈ks' ↔ ∃ k∈ks,∃ t,W.op k.2 c p.2 t∈ws∧p.1=(W.op k.2 c p.2 t).v
def S6 (cf:ai):Prop:=∀ s0 s1 s2 R ws ks c K,MOk s0 s1 s2 R ws→KOk R ws ks→low c=true→(∀ ks',KOk R ws ks'→OnK ws c ks ks'→K (.dict (dK ks')))→cf 6 [aC ws,.dict (dK ks),text [c]] K
noncomputable def tM (ws:List W) (ks:List (V×Int)) (c:Nat) (fs:List (V×Int)) (z4:Slot) (z5:Slot) (z6:Slot):Gs:=[.v (aC ws),.v (.dict (dK ks)),.v (text [c]),.ownD (dK fs),z4,z5,z6]
inductive Ip6_1 (R:Int) (ws:List W) (ks:List (V×Int)) (c:Nat) (G:Gs) (fs:List (V×Int)):Prop
 | mk (e0_:KOk R ws fs) (x:Slot) (y:Slot) (z:Slot) (e4_:G=(tM ws ks c fs x y z)):Ip6_1 R ws ks c G fs
inductive Ip6_2 (R:Int) (ws:List W) (ks:List (V×Int)) (c:Nat) (k:V×Int) (G:Gs) (fs:List (V×Int)):Prop
 | mk (e0_:KOk R ws fs) (z:Slot) (e2_:G=(tM ws ks c fs (.v k.1) (.v (.int k.2)) z)):Ip6_2 R ws ks c k G fs
theorem p6 (cf:ai):S6 (step cf):=fun s0 s1 s2 R ws ks c K m o lc h=>by
 refine run (fn:=f6) rfl rfl rfl (mF ?_)
 refine fM (op:=.forM [4,5]) (fs:=[]) (A:=fun k p=>p.1=k.1∧W.on k.2 c p.2∈ws) (J:=Ip6_1 R ws ks c) (fun _ _ _ _ _ h=>h) ix (jT m o) ⟨⟨.nil,fun _ q=>nM q⟩,_,_,_,rfl⟩ (fun k mk G fs Kt j nx=>?_) fun G fs j hf=>?_
 ·obtain ⟨jo,x,y,z,rfl⟩:=j
  have hb:=(o.ok k mk).1
  refine aq (z:=(tM ws ks c fs (.v k.1) (.v (.int k.2)) z)) rfl ?_
  refine fM (op:=.forS 6) (fs:=fs) (A:=fun w p=>w=W.on k.2 c p.2∧p.1=k.1) (J:=Ip6_2 R ws ks c k) (fun _ _ _ _ _ h=>h) ix (mQ m) ⟨jo,_,rfl⟩ (fun w mw G fs Kt j nx=>?_) fun G fs' j hf=>aL (nx _ fs' ?_ fun p=>?_)
  ·obtain ⟨jo,z,rfl⟩:=j
   refine aq (z:=(tM ws ks c fs (.v k.1) (.v (.int k.2)) (.v w.v))) rfl ?_
   have ok:=m.ok w mw
   cases w with
   | on a d b=>
    refine cV (az (.and (ae (x:=.str kOn) ix ix ((bX ok_on ok_on).trans (congrArg some (by rfl)))) fun _=>.and (ae (x:=.int a) ix ix pb) fun _=>.one (ae (x:=text [d]) ix ix (wv (m.sk.lowC ok.2.1) lc)))) (fun q=>?_) fun q=>aL (nx _ fs ⟨jo,_,rfl⟩ (cO fun p Zq1=>Zq1.elim fun e _=>?_))
    ·obtain ⟨q1,q2⟩:=b3 q
     obtain rfl:=eq_of_beq q1
     obtain rfl:=hM q2
     refine (mU m jo (k:=(k.1,b)) hb ok.2.2).elim fun ks' Zq29=>Zq29.elim fun e Zq30=>Zq30.elim fun o' hm=>?_
     refine mE (l:=dK fs) rfl (v:=.bool true) ix (x:=pV (k.1,b)) ix (nk m (k:=(k.1,b)) hb) (tN m jo) (aL (nx _ ks' ⟨o',_,by rw [e]; rfl⟩ fun p=>?_))
     rw [hm]
     refine or_congr_right ⟨fun q=>?_,fun Zq2=>Zq2.elim fun q q'=>?_⟩
     ·subst q; exact ⟨rfl,rfl⟩
     ·injection q with _ _ q
      exact Prod.ext q' q.symm
    ·injection e with e1 e2
     subst e1 e2
     rw [beq_self_eq_true,beq_self_eq_true,beq_self_eq_true] at q
     (injection q; done)
   | op a d b t=>exact aB (az (.stop (b:=true) (ae (x:=.str a7) ix ix ((bX ok_open ok_on).trans (congrArg some (by rfl)))))) (aL (nx _ fs ⟨jo,_,rfl⟩ (cO fun p Zq3=>Zq3.elim fun e _=>nomatch e)))
   | cl a b d t=>exact aB (az (.stop (b:=true) (ae (x:=.str aS) ix ix ((bX ok_close ok_on).trans (congrArg some (by rfl)))))) (aL (nx _ fs ⟨jo,_,rfl⟩ (cO fun p Zq4=>Zq4.elim fun e _=>nomatch e)))
  ·obtain ⟨jo,z,rfl⟩:=j
   exact ⟨jo,_,_,_,rfl⟩
  ·rw [hf]
   exact or_congr_right ⟨fun ⟨w,mw,e,q⟩=>⟨q,e▸mw⟩,fun Zq8=>Zq8.elim fun q mw=>⟨_,mw,rfl,q⟩⟩
 ·obtain ⟨jo,x,y,z,rfl⟩:=j
  exact eA (l:=dK fs) rfl (ay ix (h fs jo fun p=>(hf p).trans ⟨fun q=>q.elim (fun q=>nM q) id,.inr⟩) (hW fs))
def S7 (cf:ai):Prop:=∀ s0 s1 s2 R ws ks c K,MOk s0 s1 s2 R ws→KOk R ws ks→low c=true→(∀ ks',KOk R ws ks'→OpK ws c ks ks'→K (.dict (dK ks')))→cf 7 [aC ws,.dict (dK ks),text [c]] K
noncomputable def tL (ws:List W) (ks:List (V×Int)) (c:Nat) (fs:List (V×Int)) (z4:Slot) (z5:Slot) (z6:Slot):Gs:=[.v (aC ws),.v (.dict (dK ks)),.v (text [c]),.ownD (dK fs),z4,z5,z6]
inductive Ip7_1 (R:Int) (ws:List W) (ks:List (V×Int)) (c:Nat) (G:Gs) (fs:List (V×Int)):Prop
 | mk (e0_:KOk R ws fs) (x:Slot) (y:Slot) (z:Slot) (e4_:G=(tL ws ks c fs x y z)):Ip7_1 R ws ks c G fs
inductive Ip7_2 (R:Int) (ws:List W) (ks:List (V×Int)) (c:Nat) (k:V×Int) (G:Gs) (fs:List (V×Int)):Prop
 | mk (e0_:KOk R ws fs) (z:Slot) (e2_:G=(tL ws ks c fs (.v k.1) (.v (.int k.2)) z)):Ip7_2 R ws ks c k G fs
theorem p7 (cf:ai):S7 (step cf):=fun s0 s1 s2 R ws ks c K m o lc h=>by
 refine run (fn:=f7) rfl rfl rfl (mF ?_)
 refine fM (op:=.forM [4,5]) (fs:=[]) (A:=fun k p=>∃ t,W.op k.2 c p.2 t∈ws∧p.1=(W.op k.2 c p.2 t).v) (J:=Ip7_1 R ws ks c) (fun _ _ _ _ _ h=>h) ix (jT m o) ⟨⟨.nil,fun _ q=>nM q⟩,_,_,_,rfl⟩ (fun k mk G fs Kt j nx=>?_) fun G fs j hf=>?_
 ·obtain ⟨jo,x,y,z,rfl⟩:=j
  refine aq (z:=(tL ws ks c fs (.v k.1) (.v (.int k.2)) z)) rfl ?_
  refine fM (op:=.forS 6) (fs:=fs) (A:=fun w p=>∃ t,w=W.op k.2 c p.2 t∧p.1=w.v) (J:=Ip7_2 R ws ks c k) (fun _ _ _ _ _ h=>h) ix (mQ m) ⟨jo,_,rfl⟩ (fun w mw G fs Kt j nx=>?_) fun G fs' j hf=>aL (nx _ fs' ?_ fun p=>?_)
  ·obtain ⟨jo,z,rfl⟩:=j
   refine aq (z:=(tL ws ks c fs (.v k.1) (.v (.int k.2)) (.v w.v))) rfl ?_
   have ok:=m.ok w mw
   cases w with
   | op a d b t=>
    refine cV (az (.and (ae (x:=.str a7) ix ix ((bX ok_open ok_open).trans (congrArg some (by rfl)))) fun _=>.and (ae (x:=.int a) ix ix pb) fun _=>.one (ae (x:=text [d]) ix ix (wv (m.sk.lowA ok.2.1) lc)))) (fun q=>?_) fun q=>aL (nx _ fs ⟨jo,_,rfl⟩ (cO fun p Zq9=>Zq9.elim fun t' Zq10=>Zq10.elim fun e _=>?_))
    ·obtain ⟨q1,q2⟩:=b3 q
     obtain rfl:=eq_of_beq q1
     obtain rfl:=hM q2
     have hb:Bg ws (W.op k.2 d b t).v:=.inr (List.mem_map.mpr ⟨_,mw,rfl⟩)
     refine (mU m jo (k:=((W.op k.2 d b t).v,b)) hb ok.2.2.1).elim fun ks' Zq43=>Zq43.elim fun e Zq44=>Zq44.elim fun o' hm=>?_
     refine mE (l:=dK fs) rfl (v:=.bool true) ix (x:=pV ((W.op k.2 d b t).v,b)) ix (nk m (k:=((W.op k.2 d b t).v,b)) hb) (tN m jo) (aL (nx _ ks' ⟨o',_,by rw [e]; rfl⟩ fun p=>?_))
     rw [hm]
     refine or_congr_right ⟨fun q=>?_,fun Zq11=>Zq11.elim fun t' Zq12=>Zq12.elim fun q q'=>?_⟩
     ·subst q; exact ⟨t,rfl,rfl⟩
     ·injection q with _ _ q
      exact Prod.ext q' q.symm
    ·injection e with e1 e2
     subst e1 e2
     rw [beq_self_eq_true,beq_self_eq_true,beq_self_eq_true] at q
     (injection q; done)
   | on a d b=>exact aB (az (.stop (b:=true) (ae (x:=.str kOn) ix ix ((bX ok_on ok_open).trans (congrArg some (by rfl)))))) (aL (nx _ fs ⟨jo,_,rfl⟩ (cO fun p Zq13=>Zq13.elim fun _ Zq14=>Zq14.elim fun e _=>nomatch e)))
   | cl a b d t=>exact aB (az (.stop (b:=true) (ae (x:=.str aS) ix ix ((bX ok_close ok_open).trans (congrArg some (by rfl)))))) (aL (nx _ fs ⟨jo,_,rfl⟩ (cO fun p Zq15=>Zq15.elim fun _ Zq16=>Zq16.elim fun e _=>nomatch e)))
  ·obtain ⟨jo,z,rfl⟩:=j
   exact ⟨jo,_,_,_,rfl⟩
  ·rw [hf]
   exact or_congr_right ⟨fun ⟨w,mw,t,e,q⟩=>⟨t,e▸mw,e▸q⟩,fun Zq21=>Zq21.elim fun t Zq22=>Zq22.elim fun mw q=>⟨_,mw,t,rfl,q⟩⟩
 ·obtain ⟨jo,x,y,z,rfl⟩:=j
  exact eA (l:=dK fs) rfl (ay ix (h fs jo fun p=>(hf p).trans ⟨fun q=>q.elim (fun q=>nM q) id,.inr⟩) (hW fs))
end
inductive ClA (ws:List W) (c:Nat) (ko:List (V×Int)) (k p:V×Int):Prop
 | mk (a:Int) (d:Nat) (e t:Int) (ek:k.1=(W.op a d e t).v) (w:W.cl k.2 t c p.2∈ws) (m:(p.1,a)∈ko):ClA ws c ko k p
def ClK (ws:List W) (c:Nat) (ko ki ks':List (V×Int)):Prop:=∀ p,p∈ks' ↔ ∃ k∈ki,ClA ws c ko k p
inductive OpA (ws:List W) (v:V):Prop
 | mk (a:Int) (d:Nat) (e t:Int) (mo:W.op a d e t∈ws) (ek:v=(W.op a d e t).v):OpA ws v
def Ops (ws:List W) (ks:List (V×Int)):Prop:=∀ k∈ks,OpA ws k.1
theorem vC {a d e t a' d' e' t'} (h:(W.op a d e t).v=(W.op a' d' e' t').v):a=a'∧t=t':=by
 injection h with h
 injection h with _ h
 injection h with h1 h
 injection h with _ h
 injection h with _ h
 injection h with h2 h
 injection h1 with h1
 injection h2 with h2
 exact ⟨h1,h2⟩
theorem b4 (hu:u=true) (h:(u&&(a&&(b&&c)))=true):a=true∧b=true∧c=true:=by
 rw [hu] at h
 obtain ⟨h1,h⟩:=zA2 h
 exact ⟨zA2 h |>.1,zA2 (zA2 h).2⟩
def S8 (cf:ai):Prop:=∀ s0 s1 s2 R ws ko ki c K,MOk s0 s1 s2 R ws→KOk R ws ko→KOk R ws ki→Ops ws ki→low c=true→(∀ ks',KOk R ws ks'→ClK ws c ko ki ks'→K (.dict (dK ks')))→cf 8 [aC ws,.dict (dK ko),.dict (dK ki),text [c]] K
noncomputable def ng (ws:List W) (ko ki fs:List (V×Int)) (y3:V) (z5:Slot) (z6:Slot) (z7:Slot) (z8:Slot) (z9:Slot):Gs:=[.v (aC ws),.v (.dict (dK ko)),.v (.dict (dK ki)),.v y3,.ownD (dK fs),z5,z6,z7,z8,z9]
inductive Ip8_1 (R:Int) (ws:List W) (ko ki:List (V×Int)) (c:Nat) (G:Gs) (fs:List (V×Int)):Prop
 | mk (e0_:KOk R ws fs) (x5:Slot) (x6:Slot) (x7:Slot) (x8:Slot) (x9:Slot) (e6_:G=(ng ws ko ki fs (text [c]) x5 x6 x7 x8 x9)):Ip8_1 R ws ko ki c G fs
inductive Ip8_2 (R:Int) (ws:List W) (ko ki:List (V×Int)) (c:Nat) (a:Int) (d:Nat) (e t:Int) (k:V×Int) (G:Gs) (fs:List (V×Int)):Prop
 | mk (e0_:KOk R ws fs) (x7:Slot) (x8:Slot) (x9:Slot) (e4_:G=(ng ws ko ki fs (text [c]) (.v (W.op a d e t).v) (.v (.int k.2)) x7 x8 x9)):Ip8_2 R ws ko ki c a d e t k G fs
inductive Ip8_3 (R:Int) (ws:List W) (ko ki:List (V×Int)) (d':Nat) (a:Int) (d:Nat) (e b:Int) (k:V×Int) (t':Int) (G:Gs) (fs:List (V×Int)):Prop
 | mk (e0_:KOk R ws fs) (x8:Slot) (x9:Slot) (e3_:G=(ng ws ko ki fs (text [d']) (.v (W.op a d e b).v) (.v (.int k.2)) (.v (W.cl k.2 b d' t').v) x8 x9)):Ip8_3 R ws ko ki d' a d e b k t' G fs
theorem p8 (cf:ai):S8 (step cf):=fun s0 s1 s2 R ws ko ki c K m oo oi hop lc h=>by
 refine run (fn:=f8) rfl rfl rfl (mF ?_)
 refine fM (op:=.forM [5,6]) (fs:=[]) (A:=ClA ws c ko) (J:=Ip8_1 R ws ko ki c) (fun _ _ _ _ _ h=>h) ix (jT m oi) ⟨⟨.nil,fun _ q=>nM q⟩,_,_,_,_,_,rfl⟩ (fun k mk G fs Kt j nx=>?_) fun G fs j hf=>?_
 ·obtain ⟨jo,x5,x6,x7,x8,x9,rfl⟩:=j
  obtain ⟨a,d,e,t,mo,ek⟩:=hop k mk
  refine aq (z:=(ng ws ko ki fs (text [c]) (.v k.1) (.v (.int k.2)) x7 x8 x9)) rfl ?_
  rw [ek]
  refine fM (op:=.forS 7) (fs:=fs) (A:=fun w p=>w=W.cl k.2 t c p.2∧(p.1,a)∈ko) (J:=Ip8_2 R ws ko ki c a d e t k) (fun _ _ _ _ _ h=>h) ix (mQ m) ⟨jo,_,_,_,rfl⟩ (fun w mw G fs Kt j nx=>?_) fun G fs' j hf=>aL (nx _ fs' ?_ fun p=>?_)
  ·obtain ⟨jo,x7,x8,x9,rfl⟩:=j
   refine aq (z:=(ng ws ko ki fs (text [c]) (.v (W.op a d e t).v) (.v (.int k.2)) (.v w.v) x8 x9)) rfl ?_
   have ok:=m.ok w mw
   cases w with
   | cl a' b d' t'=>
    refine cV (az (.and (ae (x:=.str aS) ix ix ((bX ok_close ok_close).trans (congrArg some (by rfl)))) fun _=>.and (ae (x:=.int a') ix ix pb) fun _=>.and (ae (x:=.int b) (y:=.int t) ix ix pb) fun _=>.one (ae (x:=text [d']) ix ix (wv (m.sk.lowB ok.2.2.1) lc)))) (fun q=>?_) fun q=>aL (nx _ fs ⟨jo,_,_,_,rfl⟩ (cO fun p z=>?_))
    ·obtain ⟨q1,q2,q3⟩:=b4 (beq_self_eq_true _) q
     obtain rfl:=eq_of_beq q1
     obtain rfl:=eq_of_beq q2
     obtain rfl:=hM q3
     refine fM (op:=.forM [8,9]) (fs:=fs) (A:=fun j p=>p=(j.1,t')∧j.2=a) (J:=Ip8_3 R ws ko ki d' a d e b k t') (fun _ _ _ _ _ h=>h) ix (jT m oo) ⟨jo,_,_,rfl⟩ (fun j mj G fs Kt jj nx=>?_) fun G fs' j hf=>aL (nx _ fs' ?_ fun p=>?_)
     ·obtain ⟨jo,x8,x9,rfl⟩:=jj
      refine aq (z:=(ng ws ko ki fs (text [d']) (.v (W.op a d e b).v) (.v (.int k.2)) (.v (W.cl k.2 b d' t').v) (.v j.1) (.v (.int j.2)))) rfl ?_
      refine cV (ae (x:=.int j.2) (y:=.int a) ix ix pb) (fun q=>?_) fun q=>aL (nx _ fs ⟨jo,_,_,rfl⟩ (cO fun p z=>?_))
      ·obtain rfl:=eq_of_beq q
       have hb:=(oo.ok j mj).1
       obtain ⟨ks',e,o',hm⟩:=mU m jo (k:=(j.1,t')) hb ok.2.2.2
       refine mE (l:=dK fs) rfl (v:=.bool true) ix (x:=pV (j.1,t')) ix (nk m (k:=(j.1,t')) hb) (tN m jo) (aL (nx _ ks' ⟨o',_,_,by rw [e]; rfl⟩ fun p=>?_))
       rw [hm]
       exact or_congr_right ⟨fun q=>⟨q,rfl⟩,fun q=>q.1⟩
      ·rw [z.2,beq_self_eq_true] at q
       (injection q; done)
     ·obtain ⟨jo,x8,x9,rfl⟩:=j
      exact ⟨jo,_,_,_,rfl⟩
     ·rw [hf]
      refine or_congr_right ⟨fun ⟨j,mj,e1,e2⟩=>?_,fun z=>?_⟩
      ·subst e1 e2; exact ⟨rfl,mj⟩
      ·injection z.1 with _ _ _ q
       exact ⟨_,z.2,Prod.ext rfl q.symm,rfl⟩
    ·injection z.1 with e1 e2 e3
     subst e1 e2 e3
     rw [beq_self_eq_true,beq_self_eq_true,beq_self_eq_true,beq_self_eq_true] at q
     (injection q; done)
   | on a' d' b=>exact aB (az (.stop (b:=true) (ae (x:=.str kOn) ix ix ((bX ok_on ok_close).trans (congrArg some (by rfl)))))) (aL (nx _ fs ⟨jo,_,_,_,rfl⟩ (cO fun p z=>nomatch z.1)))
   | op a' d' b t'=>exact aB (az (.stop (b:=true) (ae (x:=.str a7) ix ix ((bX ok_open ok_close).trans (congrArg some (by rfl)))))) (aL (nx _ fs ⟨jo,_,_,_,rfl⟩ (cO fun p z=>nomatch z.1)))
  ·obtain ⟨jo,x7,x8,x9,rfl⟩:=j
   exact ⟨jo,_,_,_,_,_,rfl⟩
  ·rw [hf]
   refine or_congr_right ⟨fun ⟨w,mw,e',q⟩=>⟨a,d,e,t,ek,e'▸mw,q⟩,fun ⟨a',d',e',t',q1,q2,q3⟩=>?_⟩
   obtain ⟨rfl,rfl⟩:=vC (ek.symm.trans q1)
   exact ⟨_,q2,rfl,q3⟩
 ·obtain ⟨jo,x5,x6,x7,x8,x9,rfl⟩:=j
  exact eA (l:=dK fs) rfl (ay ix (h fs jo fun p=>(hf p).trans ⟨fun q=>q.elim (fun q=>nM q) id,.inr⟩) (hW fs))
noncomputable abbrev Rel:=Int→List Int→Prop
inductive nx (ws:List W) (c:Nat) (X:Rel) (q:Int) (p:List Int):Prop
 | on (q0:Int) (x:X q0 p) (w:W.on q0 c q∈ws):nx ws c X q p
 | op (q0 t:Int) (p0:List Int) (e:p=t :: p0) (x:X q0 p0) (w:W.op q0 c q t∈ws):nx ws c X q p
 | cl (q0 t:Int) (x:X q0 (t :: p)) (w:W.cl q0 t c q∈ws):nx ws c X q p
noncomputable def ip (ws:List W):List Nat→Rel→Rel
 | [],X=>X
 | c :: w,X=>ip ws w (nx ws c X)
noncomputable def st0 (st:List Int):Rel:=fun q p=>q∈st∧p=[]
def Acc (ws:List W) (st en:List Int) (w:List Nat):Prop:=∃ q p,ip ws w (st0 st) q p∧q∈en
theorem vE (h:∀ w,w∈ws→w∈ws'):nx ws c X q p→nx ws' c X q p
 | .on q0 x w=>.on q0 x (h _ w)
 | .op q0 t p0 e x w=>.op q0 t p0 e x (h _ w)
 | .cl q0 t x w=>.cl q0 t x (h _ w)
theorem wU (h:∀ w,w∈ws ↔ w∈ws') (c:Nat) (X:Rel):nx ws c X=nx ws' c X:=funext fun _=>funext fun _=>propext ⟨vE fun w=>(h w).mp,vE fun w=>(h w).mpr⟩
theorem og (h:∀ w,w∈ws ↔ w∈ws'):∀ (w:List Nat) (X:Rel),ip ws w X=ip ws' w X
 | [],_=>rfl
 | c :: w,X=>by unfold ip; rw [wU h]; exact og h w _
inductive Link (X:Rel) (h:List (V×Int)) (q:Int) (p:List Int):Prop
 | mk (a:Int) (d:Nat) (e t:Int) (p':List Int) (e1:p=t :: p') (m:((W.op a d e t).v,q)∈h) (x:X a p'):Link X h q p
noncomputable def fm:List (List (V×Int))→Rel
 | []=>fun _ _=>False
 | h :: r=>fun q p=>(r=[]∧p=[]∧(PyData.none,q)∈h)∨Link (fm r) h q p
noncomputable def Wf (ws:List W):List (List (V×Int))→Prop
 | []=>False
 | h :: r=>(r=[]∧∀ k∈h,k.1=.none)∨(Ops ws h∧Wf ws r)
section
variable {s0 s1 s2:List Nat} {R:Int} {ws:List W} {c:Nat} (m:MOk s0 s1 s2 R ws)
include m
theorem ym (h:W.on a c b∈ws):c∈s2:=(m.ok _ h).2.1
theorem yl (h:W.op a c b t∈ws):c∈s0:=(m.ok _ h).2.1
theorem yn (h:W.cl a b c t∈ws):c∈s1:=(m.ok _ h).2.2.1
theorem BV (hc:c∈s2) (o:OnK ws c h h'):fm (h' :: r)=nx ws c (fm (h :: r)):=by
 funext q p
 refine propext ⟨fun q=>?_,fun q=>?_⟩
 ·rcases q with ⟨e1,e2,q⟩ | ⟨a,d,e,t,p',e1,q,q'⟩
  ·obtain ⟨k,mk,ek,w⟩:=(o _).mp q
   exact .on k.2 (.inl ⟨e1,e2,(show (PyData.none,k.2)=k from Prod.ext ek rfl)▸mk⟩) w
  ·obtain ⟨k,mk,ek,w⟩:=(o _).mp q
   exact .on k.2 (.inr ⟨a,d,e,t,p',e1,(show ((W.op a d e t).v,k.2)=k from Prod.ext ek rfl)▸mk,q'⟩) w
 ·rcases q with ⟨q0,q,w⟩ | ⟨q0,t,p0,_,_,w⟩ | ⟨q0,t,_,w⟩
  ·rcases q with ⟨e1,e2,q⟩ | ⟨a,d,e,t,p',e1,q,q'⟩
   ·exact .inl ⟨e1,e2,(o _).mpr ⟨_,q,rfl,w⟩⟩
   ·exact .inr ⟨a,d,e,t,p',e1,(o _).mpr ⟨_,q,rfl,w⟩,q'⟩
  ·exact absurd (yl m w) (m.sk.inC hc).1
  ·exact absurd (yn m w) (m.sk.inC hc).2
theorem BU (hc:c∈s0) (o:OpK ws c h h'):fm (h' :: h :: r)=nx ws c (fm (h :: r)):=by
 have some_of:∀ {q p},fm (h :: r) q p→∃ k∈h,k.2=q:=fun {q p} z=>by
  rcases z with ⟨_,_,z⟩ | ⟨_,_,_,_,_,_,z,_⟩ <;> exact ⟨_,z,rfl⟩
 funext q p
 refine propext ⟨fun q=>?_,fun q=>?_⟩
 ·rcases q with ⟨e1,_⟩ | ⟨a,d,e,t,p',e1,q,q'⟩
  ·(injection e1; done)
  ·obtain ⟨k,mk,t',w,ek⟩:=(o _).mp q
   obtain ⟨rfl,rfl⟩:=vC ek
   exact .op k.2 t p' e1 q' w
 ·rcases q with ⟨q0,q,w⟩ | ⟨q0,t,p0,e,q,w⟩ | ⟨q0,t,_,w⟩
  ·exact absurd hc (m.sk.inC (ym m w)).1
  ·obtain ⟨k,mk,ek⟩:=some_of q
   subst ek
   exact .inr ⟨k.2,c,_,t,p0,e,(o _).mpr ⟨k,mk,t,w,rfl⟩,q⟩
  ·exact absurd hc (m.sk.inB (yn m w))
theorem BW (hc:c∈s1) (o:ClK ws c ho h h'):fm (h' :: r)=nx ws c (fm (h :: ho :: r)):=by
 have mk':∀ {k:V×Int} {a d e t},k∈h→k.1=(W.op a d e t).v→((W.op a d e t).v,k.2)∈h:=fun {k a d e t} mk ek=>(show ((W.op a d e t).v,k.2)=k from Prod.ext ek.symm rfl)▸mk
 funext q p
 refine propext ⟨fun q=>?_,fun q=>?_⟩
 ·rcases q with ⟨e1,e2,q⟩ | ⟨a2,d2,e2,t2,p',e1,q,q'⟩
  ·obtain ⟨k,mk,a,d,e,t,ek,w,q⟩:=(o _).mp q
   exact .cl k.2 t (.inr ⟨a,d,e,t,p,rfl,mk' mk ek,.inl ⟨e1,e2,q⟩⟩) w
  ·obtain ⟨k,mk,a,d,e,t,ek,w,q⟩:=(o _).mp q
   exact .cl k.2 t (.inr ⟨a,d,e,t,p,rfl,mk' mk ek,.inr ⟨a2,d2,e2,t2,p',e1,q,q'⟩⟩) w
 ·rcases q with ⟨q0,q,w⟩ | ⟨q0,t,p0,e,q,w⟩ | ⟨q0,t,q,w⟩
  ·exact absurd hc (m.sk.inC (ym m w)).2
  ·exact absurd (yl m w) (m.sk.inB hc)
  ·rcases q with ⟨_,e,_⟩ | ⟨a,d,e,t',p',e1,q,q'⟩
   ·(injection e; done)
   ·obtain ⟨rfl,rfl⟩:=zA5 e1
    rcases q' with ⟨f1,f2,f⟩ | ⟨a2,d2,e2,t2,p',f1,f,f'⟩
    ·exact .inl ⟨f1,f2,(o _).mpr ⟨_,q,a,d,e,t,rfl,w,f⟩⟩
    ·exact .inr ⟨a2,d2,e2,t2,p',f1,(o _).mpr ⟨_,q,a,d,e,t,rfl,w,f⟩,f'⟩
omit m in
theorem AZ (o:OnK ws c h h') (q:Wf ws (h :: r)):Wf ws (h' :: r):=by
 rcases q with ⟨e,q⟩ | ⟨q,q'⟩
 ·exact .inl ⟨e,fun k mk=>by obtain ⟨j,mj,ej,_⟩:=(o k).mp mk; exact ej.trans (q j mj)⟩
 ·exact .inr ⟨fun k mk=>by obtain ⟨j,mj,ej,_⟩:=(o k).mp mk; rw [ej]; exact q j mj,q'⟩
omit m in
theorem AY (o:OpK ws c h h') (q:Wf ws (h :: r)):Wf ws (h' :: h :: r):=
 .inr ⟨fun k mk=>by obtain ⟨j,mj,t,w,e⟩:=(o k).mp mk; exact ⟨_,_,_,_,w,e⟩,q⟩
omit m in
theorem A0 (o:ClK ws c ho h h') (q:Wf ws (h :: ho :: r)):Ops ws h∧Wf ws (h' :: r):=by
 rcases q with ⟨e,q⟩ | ⟨q,q' | q'⟩
 ·(injection e; done)
 ·exact ⟨q,.inl ⟨q'.1,fun k mk=>by obtain ⟨j,mj,a,d,e,t,_,_,z⟩:=(o k).mp mk; exact q'.2 (k.1,a) z⟩⟩
 ·exact ⟨q,.inr ⟨fun k mk=>by obtain ⟨j,mj,a,d,e,t,_,_,z⟩:=(o k).mp mk; exact q'.1 (k.1,a) z,q'.2⟩⟩
end
theorem cr (hv:fD cf G es vs) (h:cf f vs fun y=>noX y=true∧exs sup cf r (G.set k (.v y)) K):exs sup cf (.mk (.assign k) [.nd (.call f) es] [] [] :: r) G K:=hv _ h
theorem yT:∃ t,aU .In (.int q) (aj en)=some t∧(t=true ↔ q∈en):=by
 refine ⟨_,if_pos (by rw [cj (x:=.int q) (cF rfl) (by decide),cj (n:=1) (cx fun x mx=>by obtain ⟨i,_,rfl⟩:=zA7 mx; exact cF rfl) (by decide)]; rfl),?_⟩
 rw [List.any_eq_true]
 constructor
 ·rintro ⟨x,mx,e⟩
  obtain ⟨i,mi,rfl⟩:=zA7 mx
  exact eq_of_beq (show (i==q)=true from e)▸mi
 ·exact fun h=>⟨_,List.mem_map.mpr ⟨q,h,rfl⟩,(beq_self_eq_true q:(q==q)=true)⟩
noncomputable def dV (ks:List (V×Int)):V:=.dict (dK ks)
def S9 (cf:ai):Prop:=∀ s0 s1 s2 R st en ws t K,MOk s0 s1 s2 R ws→st.length≤40→(∀ i∈st,In R i)→en.length≤40→t.length≤1000→iw s0 s1 s2 0 t=true→(∀ b,(b=true ↔ Acc ws st en t)→K (.bool b))→cf 9 [aJ (sg s0 s1 s2) R st en (ws.map W.v),text t] K
noncomputable def gI (s0 s1 s2:List Nat) (R:Int) (st en:List Int) (ws:List W) (x:V) (h:List (V×Int)) (z4:Slot) (z5:Slot) (z6:Slot) (z7:Slot) (z8:Slot) (z9:Slot):Gs:=[.v (aJ (sg s0 s1 s2) R st en (ws.map W.v)),.v x,.v (aC ws),.v (dV h),z4,z5,z6,z7,z8,z9]
inductive Ip9_end_1 (h:List (V×Int)) (en:List Int) (s0 s1 s2:List Nat) (R:Int) (st:List Int) (ws:List W) (x:V) (s5 s6 s7:Slot) (xs:List V) (G:Gs):Prop
 | mk (ys:_) (zs:_) (s4:Slot) (s9:Slot) (e4_:xs=ys.map pV) (e5_:h=zs++ys) (e6_:(∀ k∈zs,k.2∉en)) (e7_:G=(gI s0 s1 s2 R st en ws x h s4 s5 s6 s7 (.v (aj en)) s9)):Ip9_end_1 h en s0 s1 s2 R st ws x s5 s6 s7 xs G
theorem zu (m:MOk s0 s1 s2 R ws) (o:KOk R ws h) (hn:∀ k∈h,k.1=.none) (me:MethOk cf) (he:en.length≤40)
  (hK:∀ b G,(b=true ↔ ∃ q p,fm [h] q p∧q∈en)→K (some (.bool b)) G):exs sup cf [.mk (.assign 8) [.nd (.meth 18) [vv 0]] [] [],.mk (.forM [9,4]) [vv 3] Cm [],.mk .ret [bb false] [] []] (gI s0 s1 s2 R st en ws x h s4 s5 s6 s7 .unset s9) K:=by
 refine af (v:=aj en) (bO ix rfl (me.m12 _ _ _ _ _ · (zB1 he (by decide)))) ?_
 refine y4 (P:=Ip9_end_1 h en s0 s1 s2 R st ws x s5 s6 s7) ix (jT m o) ⟨h,[],_,_,rfl,rfl,fun _ q=>(nM q),rfl⟩ (fun G hP=>?_) fun y l G Kt hP nx rt=>?_
 ·obtain ⟨ys,zs,s4,s9,e,eh,hz,rfl⟩:=hP
  obtain rfl:=List.map_eq_nil_iff.mp e.symm
  rw [List.append_nil] at eh
  subst eh
  refine ay (v:=.bool false) ix (hK false _ ⟨fun q=>(nB q),fun Zq1=>Zq1.elim fun q Zq2=>Zq2.elim fun p Zq3=>Zq3.elim fun hc hq=>?_⟩)
  rcases hc with ⟨_,_,z⟩ | ⟨_,_,_,_,_,_,z,_⟩ <;> exact absurd hq (hz _ z)
 ·obtain ⟨ys,zs,s4,s9,e,eh,hz,rfl⟩:=hP
  cases ys with
  | nil=>(injection e; done)
  | cons k ys=>
   obtain ⟨rfl,rfl⟩:=zA5 e
   have mk:k∈h:=by rw [eh]; exact List.mem_append_right _ (.head _)
   obtain ⟨t,ht,hq⟩:=yT (q:=k.2) (en:=en)
   refine aq (z:=(gI s0 s1 s2 R st en ws x h (.v (.int k.2)) s5 s6 s7 (.v (aj en)) (.v k.1))) rfl ?_
   refine cV (ae (x:=.int k.2) (y:=aj en) ix ix ht) (fun q=>ay (v:=.bool true) ix (rt _ _ rfl (hK true _ ⟨fun _=>⟨k.2,[],.inl ⟨rfl,rfl,(show (PyData.none,k.2)=k from Prod.ext (hn k mk).symm rfl)▸mk⟩,hq.mp q⟩,fun _=>rfl⟩))) fun q=>aL (nx _ ⟨ys,zs++[k],_,_,rfl,by rw [eh,List.append_assoc]; rfl,fun j mj=>?_,rfl⟩)
   rcases List.mem_append.mp mj with mj | mj
   ·exact hz j mj
   ·obtain rfl:=zA6 mj
    intro z
    rw [hq.mpr z] at q
    (injection q; done)
noncomputable def wj (s0 s1 s2:List Nat) (R:Int) (st en:List Int) (ws:List W) (t:List Nat) (z3:Slot) (z4:Slot) (z5:Slot) (z6:Slot) (z7:Slot):Gs:=[.v (aJ (sg s0 s1 s2) R st en (ws.map W.v)),.v (text t),.v (aC ws),z3,z4,z5,z6,z7,.unset,.unset]
inductive Ip9_1 (R:Int) (ws:List W) (s0 s1 s2:List Nat) (st en:List Int) (t:List Nat) (G:Gs) (fs:List (V×Int)):Prop
 | mk (e0_:KOk R ws fs) (s4:Slot) (e2_:G=(wj s0 s1 s2 R st en ws t (.ownD (dK fs)) s4 .unset .unset .unset)):Ip9_1 R ws s0 s1 s2 st en t G fs
inductive Ip9_2 (s0 s1 s2:List Nat) (R:Int) (ws:List W) (t:List Nat) (st en:List Int) (xs:List V) (G:Gs):Prop
 | mk (h:List (V×Int)) (r:List (List (V×Int))) (w:List Nat) (s4:Slot) (s6:Slot) (s7:Slot) (e6_:xs=bj w) (e8_:r.length+w.length≤1000) (e9_:iw s0 s1 s2 (r.length:Int) w=true) (e10_:KOk R ws h) (e11_:(∀ k∈r,KOk R ws k)) (e12_:Wf ws (h :: r)) (e13_:ip ws w (fm (h :: r))=ip ws t (st0 st) ∧
  G=(wj s0 s1 s2 R st en ws t (.v (dV h)) s4 (.ownL (r.reverse.map dV)) s6 s7)):Ip9_2 s0 s1 s2 R ws t st en xs G
theorem p9 (cf:ai) (h3:S3 cf) (h5:S5 cf) (h6:S6 cf) (h7:S7 cf) (h8:S8 cf) (me:MethOk cf):S9 (step cf):=fun s0 s1 s2 R st en ws t K m ls is le q2 hw hT=>by
 refine run (fn:=f9) rfl rfl rfl ?_
 have sgm:∀ {G:Gs} {e:E},Val cf G e (aJ (sg s0 s1 s2) R st en (ws.map W.v))→Val cf G (.nd (.meth 15) [e]) (sg s0 s1 s2):=fun h=>bO h rfl (me.m9 _ _ _ _ _ · rfl)
 refine lE (.two (sgm ix) ix) (h5 s0 s1 s2 t _ q2 hw ⟨rfl,?_⟩)
 refine af (v:=aC ws) (bO ix rfl (me.m13 _ _ _ _ _ · (by rw [zA4]; exact zB1 (Nat.le_of_lt m.len) (by decide)))) (mF ?_)
 refine fM (op:=.forS 4) (fs:=[]) (A:=fun i p=>p=(PyData.none,i)) (J:=Ip9_1 R ws s0 s1 s2 st en t) (v:=aj st) (xs:=st) (g:=.int) (fun _ _ _ _ _ h=>h) (bO ix rfl (me.m11 _ _ _ _ _ · (zB1 ls (by decide)))) (aX (by rw [zA4]; exact zB1 ls (by decide))) ⟨⟨.nil,fun _ q=>nM q⟩,_,rfl⟩ (fun i mi G fs Kt j nx=>?_) fun G fs j hf=>?_
 ·obtain ⟨jo,s4,rfl⟩:=j
  refine aq (z:=(wj s0 s1 s2 R st en ws t (.ownD (dK fs)) (.v (.int i)) .unset .unset .unset)) rfl ?_
  refine (mU m jo (k:=(PyData.none,i)) (.inl rfl) (is i mi)).elim fun ks' Zq26=>Zq26.elim fun e Zq27=>Zq27.elim fun o' hm=>?_
  exact mE (l:=dK fs) rfl (v:=.bool true) ix (x:=pV (.none,i)) ix rfl (tN m jo) (aL (nx _ ks' ⟨o',_,by rw [e]; rfl⟩ hm))
 obtain ⟨o,s4,rfl⟩:=j
 have hf:∀ p,p∈fs ↔ ∃ i∈st,p=(PyData.none,i):=fun p=>(hf p).trans ⟨fun q=>q.elim (fun q=>nM q) id,.inr⟩
 have c0:fm [fs]=st0 st:=by
  funext q p
  refine propext ⟨fun z=>?_,fun ⟨z1,z2⟩=>.inl ⟨rfl,z2,(hf _).mpr ⟨q,z1,rfl⟩⟩⟩
  rcases z with ⟨_,z2,z⟩ | ⟨_,_,_,_,_,_,_,z'⟩
  ·obtain ⟨i,mi,e⟩:=(hf _).mp z
   injection e with _ e
   exact ⟨e▸mi,z2⟩
  ·exact z'.elim
 have w0:Wf ws [fs]:=.inl ⟨rfl,fun k mk=>by obtain ⟨i,_,e⟩:=(hf k).mp mk; rw [e]⟩
 refine qw (eA (l:=dK fs) rfl ?_)
 refine gU (xs:=bj t) (v:=text t) (P:=Ip9_2 s0 s1 s2 R ws t st en) ix (fQ (zB1 q2 (by decide))) ⟨fs,[],_,_,_,_,rfl,by rw [List.length_nil,Nat.zero_add]; exact q2,hw,o,fun _ q=>(nM q),w0,by rw [c0],rfl⟩ (fun G hP=>?_) fun y l G Kt hP nx rt=>?_
 ·obtain ⟨h,r,w,s4,s6,s7,e,_,hi,o,_,wf,hr,rfl⟩:=hP
  cases w with
  | cons=>(injection e; done)
  | nil=>
   cases r with
   | cons a r=>exact absurd (eq_of_beq (show (((a :: r).length:Int)==0)=true from hi)) (by rw [zB4]; exact Int.ofNat_ne_zero.mpr (Nat.succ_ne_zero _))
   | nil=>
    have hn:∀ k∈h,k.1=.none:=by
     rcases wf with wf | wf
     ·exact wf.2
     ·exact wf.2.elim
    refine zu m o hn me le fun b G hb=>hT b (hb.trans ?_)
    unfold Acc
    exact hr▸Iff.rfl
 ·obtain ⟨h,r,w,s4,s6,s7,e,hl,hi,o,or,wf,hr,rfl⟩:=hP
  cases w with
  | nil=>(injection e; done)
  | cons c w=>
   obtain ⟨rfl,rfl⟩:=zA5 e
   rw [zB4,← Nat.add_assoc] at hl
   refine af (v:=.str (dR s0 s1 s2 c)) (aw (.two (sgm ix) ix) fun K h=>h3 s0 s1 s2 c K h) ?_
   have hi:(if s0.elem c=true then iw s0 s1 s2 ((r.length:Int)+1) w else if s1.elem c=true then decide (1≤(r.length:Int))&&iw s0 s1 s2 (r.length - 1) w else s2.elem c&&iw s0 s1 s2 r.length w)=true:=hi
   rcases kind4 s0 s1 s2 c with ⟨q,e⟩ | ⟨q,q',e⟩ | ⟨q,q',q'',e⟩ | ⟨q,q',q'',e⟩ <;> refine e.symm▸?_
   ·rw [if_pos q] at hi
    have mc:=List.elem_iff.mp q
    refine cV (br (u:=false) ix ok_open ok_on rfl) (fun z=>nB z) fun _=>bN (br ix ok_open ok_open rfl) ?_
    refine jw (l:=r.reverse.map dV) rfl (v:=dV h) ix (by rw [zA4,List.length_reverse]; exact Nat.lt_of_le_of_lt (zB1 (Nat.le_add_right _ _) (Nat.le_of_succ_le hl)) (by decide)) ?_
    refine cr (.cons ix (.two ix ix)) (h7 s0 s1 s2 R ws h c _ m o (m.sk.lowA mc) fun h' o' hk=>⟨hW h',aL (nx _ ⟨h',h :: r,w,s4,.v (text [c]),.v (.str a7),rfl,?_,hi,o',zA1 ⟨o,or⟩,AY hk wf,?_,?_⟩)⟩)
    ·rw [zB4,Nat.succ_add]; exact hl
    ·rw [BU m mc hk]; exact hr
    ·rw [List.reverse_cons,List.map_append]; rfl
   ·rw [if_neg (by exact q.symm▸Bool.false_ne_true),if_pos q'] at hi
    have mc:=List.elem_iff.mp q'
    obtain ⟨hi1,hi2⟩:=zA2 hi
    cases r with
    | nil=>exact absurd (of_decide_eq_true hi1) (by decide)
    | cons ho r=>
     refine cV (br (u:=false) ix ok_close ok_on rfl) (fun z=>nB z) fun _=>cV (br (u:=false) ix ok_close ok_open rfl) (fun z=>nB z) fun _=>?_
     have hw':((ho :: r).reverse.map dV)=r.reverse.map dV++[dV ho]:=by rw [List.reverse_cons,List.map_append]; rfl
     replace hl:=List.length_cons▸hl
     refine (List.forall_mem_cons.mp or).elim fun or1 or2=>?_
     refine y0 (l:=(ho :: r).reverse.map dV) ix rfl (by rw [zA4,List.length_reverse,zB4]; exact zB1 (zB1 (Nat.le_add_right _ _) (Nat.le_of_succ_le hl)) (by decide)) (y:=dV ho) (by rw [hw',List.getLast?_append]; rfl) ix ix ?_
     have hop:Ops ws h:=by
      refine wf.elim (fun Zq68=>Zq68.elim fun e _=>?_) fun wf=>?_
      ·(injection e; done)
      ·exact wf.1
     refine h8 s0 s1 s2 R ws ho h c _ m or1 o hop (m.sk.lowB mc) fun h' o' hk=>⟨hW h',aL (nx _ ⟨h',r,w,s4,.v (text [c]),.v (.str aS),rfl,?_,?_,o',or2,(A0 hk wf).2,?_,?_⟩)⟩
     ·exact zB1 (Nat.add_le_add_right (Nat.le_succ _) _) (Nat.le_of_succ_le hl)
     ·rw [zB4,show (((r.length+1:Nat):Int) - 1)=r.length from Int.add_sub_cancel (r.length:Int) 1] at hi2; exact hi2
     ·rw [BW m mc hk]; exact hr
     ·rw [hw',List.dropLast_concat]; rfl
   ·rw [if_neg (by rw [q]; exact Bool.false_ne_true),if_neg (by rw [q']; exact Bool.false_ne_true),q'',Bool.true_and] at hi
    have mc:=List.elem_iff.mp q''
    refine bN (br ix ok_on ok_on rfl) (cr (.cons ix (.two ix ix)) (h6 s0 s1 s2 R ws h c _ m o (m.sk.lowC mc) fun h' o' hk=>⟨hW h',aL (nx _ ⟨h',r,w,_,_,_,rfl,Nat.le_of_succ_le hl,hi,o',or,AZ hk wf,?_,rfl⟩)⟩))
    rw [BV m mc hk]; exact hr
   ·rw [if_neg (by rw [q]; exact Bool.false_ne_true),if_neg (by rw [q']; exact Bool.false_ne_true),q'',Bool.false_and] at hi
    (injection hi; done)
noncomputable def cL (p:List Int):V:=.list (p.reverse.map .int)
noncomputable def stV (s:Int×List Int):V:=.tuple [.int s.1,cL s.2]
noncomputable def yi:Option (Int×List Int)→V
 | none=>.none
 | some s=>stV s
noncomputable def fc:W→Int→List Int→Nat→Option (Int×List Int)
 | .on a d b,q,p,c=>if a=q∧d=c then some (b,p) else none
 | .op a d b t,q,p,c=>if a=q∧d=c then some (b,t :: p) else none
 | .cl a b d t,q,p,c=>if a=q∧d=c∧p.head?=some b then some (t,p.tail) else none
theorem yd:fc (.on a d b) q p c=if a=q∧d=c then some (b,p) else none:=rfl
theorem yc:fc (.op a d b t) q p c=if a=q∧d=c then some (b,t :: p) else none:=rfl
theorem pE:fc (.cl a b d t) q p c=if a=q∧d=c∧p.head?=some b then some (t,p.tail) else none:=rfl
theorem step_iff:fc w q p c=some (q',p') ↔ (w=.on q c q'∧p'=p)∨(∃ t,w=.op q c q' t∧p'=t :: p)∨∃ t,w=.cl q t c q'∧p=t :: p':=by
 constructor
 ·intro h
  cases w with
  | on a d b=>
   replace h:=yd▸h
   by_cases e:a=q∧d=c
   ·rw [if_pos e] at h
    injection h with h; injection h with h1 h2
    exact .inl ⟨by rw [e.1,e.2,h1],h2.symm⟩
   ·rw [if_neg e] at h; (injection h; done)
  | op a d b t=>
   rw [yc] at h
   by_cases e:a=q∧d=c
   ·rw [if_pos e] at h
    injection h with h; injection h with h1 h2
    exact .inr (.inl ⟨t,by rw [e.1,e.2,h1],h2.symm⟩)
   ·rw [if_neg e] at h; (injection h; done)
  | cl a b d t=>
   rw [pE] at h
   by_cases e:a=q∧d=c∧p.head?=some b
   ·rw [if_pos e] at h
    injection h with h; injection h with h1 h2
    cases p with
    | nil=>exact nomatch e.2.2
    | cons s p=>exact .inr (.inr ⟨b,by rw [e.1,e.2.1,h1],by rw [Option.some.inj e.2.2,← h2]; rfl⟩)
   ·rw [if_neg e] at h; (injection h; done)
 ·rintro (⟨rfl,rfl⟩ | ⟨t,rfl,rfl⟩ | ⟨t,rfl,rfl⟩)
  ·exact if_pos ⟨rfl,rfl⟩
  ·exact if_pos ⟨rfl,rfl⟩
  ·exact if_pos ⟨rfl,rfl,rfl⟩
theorem eK (l:List Int):eg 1 (.list (l.map .int)):=cx fun x mx=>by obtain ⟨i,_,rfl⟩:=zA7 mx; exact cF rfl
theorem zF (h:(l++[x]).length≤5000):opN .sub [.list (l++[x]),.int (-1)]=some x:=by
 refine (?_:(if (l++[x]).length≤am then _ else none)=_)
 rw [if_pos (cJ h),if_neg (by decide),zB5]
 have e:(-1:Int)+((l.length + [x].length:Nat):Int)=l.length:=by rw [List.length_singleton,Int.natCast_add]; exact (congrArg (-1 + ·) (Int.add_comm _ _)).trans (Int.neg_add_cancel_left 1 _)
 rw [e,if_pos (Int.natCast_nonneg _),Int.toNat_natCast,List.getElem?_append_right (Nat.le_refl _),Nat.sub_self]; rfl
theorem zG (h:(l++[x]).length≤5000):opN (.slice false true) [.list (l++[x]),.int (-1)]=some (.list l):=by
 refine (?_:l9 .list (l++[x]) none (some (.int (-1)))=_)
 unfold l9
 refine (if_pos (cJ h)).symm▸?_
 have e:oY (l++[x]).length (l++[x]).length (some (.int (-1)))=some l.length:=by
  refine congrArg some ?_
  rw [if_neg (by decide),zB5,List.length_singleton]
  have e:(-1:Int)+((l.length+1:Nat):Int)=l.length:=by rw [Int.natCast_add]; exact (congrArg (-1 + ·) (Int.add_comm _ _)).trans (Int.neg_add_cancel_left 1 _)
  rw [e,Int.toNat_natCast]
 refine e.symm▸?_
 refine (?_:(if 0≤l.length then some (PyData.list (((l++[x]).drop 0).take (l.length - 0))) else none)=_)
 rw [if_pos (Nat.zero_le _),Nat.sub_zero,List.drop_zero,List.take_left]
theorem jW (h:(a++b).length≤5000):opN (.bin .Add) [.list a,.list b]=some (.list (a++b)):=if_pos (cJ h)
theorem wt (hx:low x=true) (hy:low y=true):aU .NotEq (text [x]) (text [y])=some (!((⟨[x].toArray⟩:Str)==⟨[y].toArray⟩)):=yS (mL hx) (mL hy)
theorem wc {a b:Int} (h:(!(a==b))=true):a≠b:=fun e=>by subst e; rw [beq_self_eq_true] at h; (injection h; done)
theorem vH (h:(!((⟨[a].toArray⟩:Str)==⟨[b].toArray⟩))=true):a≠b:=fun e=>by subst e; rw [beq_self_eq_true] at h; (injection h; done)
def S28 (cf:ai):Prop:=∀ s0 s1 s2 R w q p c K,SgOk s0 s1 s2→W.ok s0 s1 s2 R w→low c=true→p.length≤1000→K (yi (fc w q p c))→cf 28 [w.v,.int q,cL p,text [c]] K
theorem p28 (cf:ai):S28 (step cf):=fun s0 s1 s2 R w q p c K sk ok lc lp h=>by
 refine run (fn:=f28) rfl rfl rfl ?_
 have no:∀ {a:Int} {d:Nat} {u:Prop} [Decidable u] {z:Int×List Int},a≠q∨d≠c→K (yi (if a=q∧d=c then some z else none))→K .none:=fun e h=>by
  rw [if_neg (fun z=>e.elim (fun e=>e z.1) fun e=>e z.2)] at h; exact h
 cases w with
 | on a d b=>
  refine cV (ae (x:=.int a) ix ix v3) (fun e=>ay (v:=.none) ix (no (u:=True) (.inl (wc e)) h)) fun e=>?_
  refine aB (ae (x:=.str kOn) ix ix ((bX ok_on ok_close).trans (congrArg some (by rfl)))) ?_
  refine cV (ae (x:=text [d]) ix ix (wt (sk.lowC ok.2.1) lc)) (fun e=>ay (v:=.none) ix (no (u:=True) (.inr (vH e)) h)) fun e'=>?_
  refine aB (ae (x:=.str kOn) ix ix ((bX ok_on ok_open).trans (congrArg some (by rfl)))) (ay (v:=stV (b,p)) ix ?_)
  rw [yd] at h
  rw [if_pos ⟨eq_of_beq (iS e),hM (iS e')⟩] at h
  exact h
 | op a d b t=>
  refine cV (ae (x:=.int a) ix ix v3) (fun e=>ay (v:=.none) ix (no (u:=True) (.inl (wc e)) h)) fun e=>?_
  refine aB (ae (x:=.str a7) ix ix ((bX ok_open ok_close).trans (congrArg some (by rfl)))) ?_
  refine cV (ae (x:=text [d]) ix ix (wt (sk.lowA ok.2.1) lc)) (fun e=>ay (v:=.none) ix (no (u:=True) (.inr (vH e)) h)) fun e'=>?_
  refine bN (ae (x:=.str a7) ix ix ((bX ok_open ok_open).trans (congrArg some (by rfl)))) (ay (v:=stV (b,t :: p)) (aa (.two (x:=.int b) ix (aa (.two (x:=cL p) (y:=.list [.int t]) ix ix) (jW (by rw [zB5,zA4,List.length_reverse]; exact zB1 (Nat.add_le_add_right lp 1) (by decide))))) ?_) ?_)
  ·unfold stV cL; rw [List.reverse_cons,List.map_append]; rfl
  ·rw [yc] at h
   rw [if_pos ⟨eq_of_beq (iS e),hM (iS e')⟩] at h
   exact h
 | cl a b d t=>
  refine cV (ae (x:=.int a) ix ix v3) (fun e=>ay (v:=.none) ix ?_) fun e=>?_
  ·rw [pE] at h
   rw [if_neg fun z=>wc e z.1] at h; exact h
  refine bN (ae (x:=.str aS) ix ix ((bX ok_close ok_close).trans (congrArg some (by rfl)))) ?_
  have e0:=yU (l:=p.reverse.map PyData.int) (cj (eK _) (by decide))
  cases p with
  | nil=>
   refine bN (bq (.stop (b:=false) (ae (x:=cL []) (y:=.list []) ix ix e0))) (ay (v:=.none) ix ?_)
   rw [pE] at h
   rw [if_neg fun z=>nomatch z.2.2] at h; exact h
  | cons s p=>
   have ep:(s :: p).reverse.map PyData.int=p.reverse.map .int++[.int s]:=by rw [List.reverse_cons,List.map_append]; rfl
   have lz:(p.reverse.map PyData.int++[PyData.int s]).length≤5000:=by rw [← ep,zA4,List.length_reverse]; exact zB1 lp (by decide)
   have e1:opN .sub [cL (s :: p),.int (-1)]=some (.int s):=by unfold cL; exact ep.symm▸zF lz
   have e2:opN (.slice false true) [cL (s :: p),.int (-1)]=some (cL p):=by unfold cL; exact ep.symm▸zG lz
   rw [show ((s :: p).reverse.map PyData.int).isEmpty=false by rw [ep]; cases p.reverse.map PyData.int <;> rfl] at e0
   refine cV (bq (.go (ae (x:=cL (s :: p)) (y:=.list []) ix ix e0) (.or (ae (x:=.int b) ix (aa (.two ix ix) e1) v3) fun _=>.one' (ae (x:=text [d]) ix ix (wt (sk.lowB ok.2.2.1) lc))))) (fun e'=>ay (v:=.none) ix ?_) fun e'=>ay (v:=stV (t,p)) (aa (.two (x:=.int t) ix (aa (.two ix ix) e2)) rfl) ?_
   ·replace h:=pE▸h
    rw [if_neg fun z=>?_] at h
    ·exact h
    ·obtain ⟨_,z1,z2⟩:=z
     obtain rfl:=Option.some.inj z2
     subst z1
     rw [beq_self_eq_true,beq_self_eq_true] at e'
     (injection e'; done)
   ·refine (Bool.or_eq_false_iff.mp e').elim fun z1 z2=>?_
    rw [pE] at h
    rw [if_pos ⟨eq_of_beq (iS e),hM (iS z2),by rw [eq_of_beq (iS z1)]; rfl⟩] at h
    exact h
noncomputable def Gd (s0 s1 s2:List Nat) (m e:Nat):Nat→List Nat→Prop
 | d,[]=>d=e
 | d,c :: w=>(c∈s0∧d < m∧Gd s0 s1 s2 m e (d+1) w)∨(c∈s1∧∃ d',d=d' + 1∧Gd s0 s1 s2 m e d' w)∨(c∈s2∧Gd s0 s1 s2 m e d w)
theorem ik (hv:Gd s0 s1 s2 m f e v):∀ {u:List Nat} {d:Nat},Gd s0 s1 s2 m e d u→Gd s0 s1 s2 m f d (u++v)
 | [],d,h=>by subst h; exact hv
 | c :: u,d,h=>by
  rcases h with ⟨h1,h2,h⟩ | ⟨h1,d',h2,h⟩ | ⟨h1,h⟩
  ·exact .inl ⟨h1,h2,ik hv h⟩
  ·exact .inr (.inl ⟨h1,d',h2,ik hv h⟩)
  ·exact .inr (.inr ⟨h1,ik hv h⟩)
theorem xl:iw a b c d (x :: w)=if a.elem x=true then iw a b c (d+1) w else if b.elem x=true then decide (1≤d)&&iw a b c (d - 1) w else c.elem x&&iw a b c d w:=rfl
section
variable {s0 s1 s2:List Nat} (sk:SgOk s0 s1 s2)
include sk
theorem tK:∀ {w:List Nat} {d:Nat},Gd s0 s1 s2 m e d w→∀ v,iw s0 s1 s2 d (w++v)=iw s0 s1 s2 e v
 | [],d,h,v=>by subst h; rfl
 | c :: w,d,h,v=>by
  rw [List.cons_append,xl]
  rcases h with ⟨h1,h2,h⟩ | ⟨h1,d',h2,h⟩ | ⟨h1,h⟩
  ·rw [if_pos (List.elem_iff.mpr h1)]; exact tK (d:=d+1) h v
  ·rw [if_neg fun z=>sk.inB h1 (List.elem_iff.mp z),if_pos (List.elem_iff.mpr h1),h2,show ((d' + 1:Nat):Int) - 1=d' from Int.add_sub_cancel (d':Int) 1,decide_eq_true (show (1:Int)≤((d' + 1:Nat):Int) from Int.ofNat_le.mpr (Nat.le_add_left 1 d')),Bool.true_and]; exact tK h v
  ·rw [if_neg fun z=>(sk.inC h1).1 (List.elem_iff.mp z),if_neg fun z=>(sk.inC h1).2 (List.elem_iff.mp z),List.elem_iff.mpr h1,Bool.true_and]; exact tK h v
theorem vW:∀ {w:List Nat} {d:Nat},Gd s0 s1 s2 m e d w→∀ c∈w,low c=true
 | c :: w,d,h,x,q=>by
  rcases List.mem_cons.mp q with rfl | q
  ·rcases h with ⟨h1,_⟩ | ⟨h1,_⟩ | ⟨h1,_⟩
   ·exact sk.lowA h1
   ·exact sk.lowB h1
   ·exact sk.lowC h1
  ·rcases h with ⟨_,_,h⟩ | ⟨_,d',_,h⟩ | ⟨_,h⟩ <;> exact vW h x q
end
def Rm (i:Int):Prop:=i∈([0,1,2,3,17]:List Int)
theorem in4 (q:In 4 i):Rm i:=by
 obtain ⟨n,rfl⟩:=Int.eq_ofNat_of_zero_le q.1
 exact (by decide:∀ n:Nat,n < 4→(n:Int)∈([0,1,2,3,17]:List Int)) n (Int.ofNat_lt.mp q.2)
structure SOk (d:Nat) (ns:List (Int×List Int)):Prop where
 nd:ns.Nodup
 ok:∀ s∈ns,s.2.length=d∧Rm s.1∧∀ t∈s.2,Rm t
noncomputable def tup:Nat→List (List Int)
 | 0=>[[]]
 | n+1=>(tup n).flatMap fun l=>([0,1,2,3,17]:List Int).map (· :: l)
theorem q7:∀ n,(tup n).length=5 ^ n
 | 0=>rfl
 | n+1=>by
  unfold tup
  rw [List.length_flatMap,show (fun l:List Int=>(([0,1,2,3,17]:List Int).map (· :: l)).length)=fun _=>5 from rfl,List.map_const',List.sum_replicate_nat,q7 n,Nat.pow_succ]
theorem q6:∀ {l:List Int},(∀ t∈l,Rm t)→l∈tup l.length
 | [],_=>.head _
 | x :: l,q=>List.mem_flatMap.mpr ⟨l,q6 fun t mt=>q t (.tail _ mt),List.mem_map.mpr ⟨x,q x (.head _),rfl⟩⟩
theorem wb (hd:d≤4) (o:SOk d ns):ns.length≤3125:=by
 have nd:(ns.map fun s=>s.1 :: s.2).Nodup:=List.Pairwise.map _ (fun a b ne e=>ne (by injection e with e1 e2; exact Prod.ext e1 e2)) o.nd
 have q:=nd.length_le_of_subset (l₂:=tup (d+1)) fun l ml=>by
  obtain ⟨s,ms,rfl⟩:=zA7 ml
  obtain ⟨h1,h2,h3⟩:=o.ok s ms
  have z:=q6 (l:=s.1 :: s.2) (zA1 ⟨h2,h3⟩)
  rw [zB4,h1] at z
  exact z
 rw [zA4,q7] at q
 exact zB1 q (Nat.pow_le_pow_right (by decide) (Nat.succ_le_succ hd))
theorem eU (h:eg n x) (q:n≤m):eg m x:=⟨h.1,zB1 h.2 q⟩
theorem lS (s:Int×List Int):eg 2 (stV s):=cE (zA1 ⟨eU (cF rfl) (Nat.zero_le _),List.forall_mem_singleton.mpr (eK _)⟩)
theorem uT (ns:List (Int×List Int)):dA (.list (ns.map stV))=true:=cj (n:=3) (cx fun x mx=>by obtain ⟨s,_,rfl⟩:=zA7 mx; exact lS s) (by decide)
theorem oL:∀ {l m:List Int},l.map PyData.int=m.map PyData.int→l=m
 | [],[],_=>rfl
 | [],_ :: _,e=>nomatch e
 | _ :: _,[],e=>nomatch e
 | x :: l,y :: m,e=>by
  injection e with e1 e2
  injection e1 with e1
  rw [e1,oL e2]
theorem Aq (h:PyData.eqv (stV s) (stV s')=true):s=s':=by
 obtain ⟨h1,h2⟩:=zA2 (show ((s.1==s'.1)&&(PyData.eqvAll (s.2.reverse.map .int) (s'.2.reverse.map .int)&&true))=true from h)
 have sc:∀ l:List Int,∀ x∈l.map PyData.int,aN x=true:=fun l x mx=>by obtain ⟨i,_,rfl⟩:=zA7 mx; rfl
 exact Prod.ext (eq_of_beq h1) (List.reverse_inj.mp (oL (lY (sc _) (sc _) (zA2 h2).1)))
theorem v5 {s:Int×List Int} {fs:List (Int×List Int)}:((fs.map stV).any fun z=>PyData.eqv z (stV s))=true ↔ s∈fs:=by
 rw [List.any_eq_true]
 constructor
 ·rintro ⟨x,mx,e⟩
  obtain ⟨i,mi,rfl⟩:=zA7 mx
  exact Aq e▸mi
 ·exact fun h=>⟨_,List.mem_map.mpr ⟨s,h,rfl⟩,PySem.SeqAt.eqv_refl _ (lS s).1⟩
theorem A6 {ws:List W} {c:Nat} {ns fs:List (Int×List Int)} (h:∀ s',s'∈fs ↔ ∃ s∈ns,∃ w∈ws,fc w s.1 s.2 c=some s'):(fun q p=>(q,p)∈fs)=nx ws c fun q p=>(q,p)∈ns:=by
 funext q p
 refine propext ((h _).trans ⟨fun ⟨s,ms,w,mw,e⟩=>?_,fun z=>?_⟩)
 ·rcases step_iff.mp e with ⟨rfl,rfl⟩ | ⟨t,rfl,rfl⟩ | ⟨t,rfl,e'⟩
  ·exact .on s.1 ms mw
  ·exact .op s.1 t s.2 rfl ms mw
  ·exact .cl s.1 t ((show (s.1,t :: p)=s from Prod.ext rfl e'.symm)▸ms) mw
 ·rcases z with ⟨q0,z,mw⟩ | ⟨q0,t,p0,rfl,z,mw⟩ | ⟨q0,t,z,mw⟩
  ·exact ⟨_,z,_,mw,step_iff.mpr (.inl ⟨rfl,rfl⟩)⟩
  ·exact ⟨_,z,_,mw,step_iff.mpr (.inr (.inl ⟨t,rfl,rfl⟩))⟩
  ·exact ⟨_,z,_,mw,step_iff.mpr (.inr (.inr ⟨t,rfl,rfl⟩))⟩
theorem wH {s0 s1 s2:List Nat} {ws:List W} {c d d':Nat} (m:MOk s0 s1 s2 4 ws) (hd:(c∈s0∧d'=d+1)∨(c∈s1∧d=d' + 1)∨(c∈s2∧d'=d)) (mw:w∈ws) {s s':Int×List Int} (h:s.2.length=d∧Rm s.1∧∀ t∈s.2,Rm t) (e:fc w s.1 s.2 c=some s'):s'.2.length=d'∧Rm s'.1∧∀ t∈s'.2,Rm t:=by
 obtain ⟨q',p'⟩:=s'
 obtain ⟨h1,h2,h3⟩:=h
 have ok:=m.ok w mw
 rcases step_iff.mp e with ⟨rfl,rfl⟩ | ⟨t,rfl,rfl⟩ | ⟨t,rfl,e'⟩
 ·rcases hd with ⟨hc,rfl⟩ | ⟨hc,rfl⟩ | ⟨hc,rfl⟩
  ·exact absurd hc (m.sk.inC ok.2.1).1
  ·exact absurd hc (m.sk.inC ok.2.1).2
  ·exact ⟨h1,in4 ok.2.2,h3⟩
 ·rcases hd with ⟨hc,rfl⟩ | ⟨hc,rfl⟩ | ⟨hc,rfl⟩
  ·exact ⟨congrArg (· + 1) h1,in4 ok.2.2.1,zA1 ⟨in4 ok.2.2.2,h3⟩⟩
  ·exact absurd ok.2.1 (m.sk.inB hc)
  ·exact absurd ok.2.1 (m.sk.inC hc).1
 ·rcases hd with ⟨hc,rfl⟩ | ⟨hc,rfl⟩ | ⟨hc,rfl⟩
  ·exact absurd hc (m.sk.inB ok.2.2.1)
  ·rw [e',zB4] at h1
   rw [e'] at h3
   exact ⟨Nat.succ.inj h1,in4 ok.2.2.2,(List.forall_mem_cons.mp h3).2⟩
  ·exact absurd ok.2.2.1 (m.sk.inC hc).2
theorem BY:aU .In (.int q) (aj en)=some (decide (q∈en)):=by
 obtain ⟨t,e,h⟩:=yT (q:=q) (en:=en)
 rw [e,decide_eq_decide.mpr h.symm]
 cases t <;> rfl
theorem wY (o:Option (Int×List Int)):noX (yi o)=true:=by cases o <;> rfl
def S29 (cf:ai):Prop:=∀ s0 s1 s2 R st en ws w K,MOk s0 s1 s2 4 ws→st.length≤40→st.Nodup→(∀ i∈st,Rm i)→Gd s0 s1 s2 4 0 0 w→w.length≤1000→(∀ b,(b=true ↔ Acc ws st en w)→K (.bool b))→cf 29 [bf (sg s0 s1 s2) R st en ws,text w] K
noncomputable def eT (s0 s1 s2:List Nat) (R:Int) (st en:List Int) (ws:List W) (w:List Nat) (ns:List (Int×List Int)) (z3:Slot) (z4:Slot) (z5:Slot) (z6:Slot) (z7:Slot) (z8:Slot) (z9:Slot) (z10:Slot):Gs:=[.v (bf (sg s0 s1 s2) R st en ws),.v (text w),.v (.list (ns.map stV)),z3,z4,z5,z6,z7,z8,z9,z10]
inductive Ip29_1 (s0 s1 s2:List Nat) (R:Int) (ws:List W) (w:List Nat) (st en:List Int) (xs:List V) (G:Gs):Prop
 | mk (ns:List (Int×List Int)) (d:Nat) (u:List Nat) (s3:Slot) (s4:Slot) (s5:Slot) (s6:Slot) (s7:Slot) (s8:Slot) (e9_:xs=bj u) (e10_:(∀ y∈u,low y=true)) (e11_:Gd s0 s1 s2 4 0 d u) (e12_:d≤4) (e13_:SOk d ns) (e14_:ip ws u (fun q p=>(q,p)∈ns)=ip ws w (st0 st)) (e15_:G=(eT s0 s1 s2 R st en ws w ns s3 s4 s5 s6 s7 s8 .unset .unset)):Ip29_1 s0 s1 s2 R ws w st en xs G
inductive Ip29_2 (R:Int) (d':Nat) (s0 s1 s2:List Nat) (st en:List Int) (ws:List W) (w:List Nat) (ns:List (Int×List Int)) (c:Nat) (G:Gs) (fs:List (Int×List Int)):Prop
 | mk (e0_:SOk d' fs) (s5:Slot) (s6:Slot) (s7:Slot) (s8:Slot) (e5_:G=(eT s0 s1 s2 R st en ws w ns (.v (text [c])) (.ownL (fs.map stV)) s5 s6 s7 s8 .unset .unset)):Ip29_2 R d' s0 s1 s2 st en ws w ns c G fs
inductive Ip29_3 (R:Int) (d':Nat) (s0 s1 s2:List Nat) (st en:List Int) (ws:List W) (w:List Nat) (ns:List (Int×List Int)) (c:Nat) (s:Int×List Int) (G:Gs) (fs:List (Int×List Int)):Prop
 | mk (e0_:SOk d' fs) (s7:Slot) (s8:Slot) (e3_:G=(eT s0 s1 s2 R st en ws w ns (.v (text [c])) (.ownL (fs.map stV)) (.v (.int s.1)) (.v (cL s.2)) s7 s8 .unset .unset)):Ip29_3 R d' s0 s1 s2 st en ws w ns c s G fs
theorem p29 (cf:ai) (h28:S28 cf):S29 (step cf):=fun s0 s1 s2 R st en ws w K m ls ns0 rs gw lw h=>by
 refine run (fn:=f29) rfl rfl rfl ?_
 have hst:(st.map PyData.int).length≤5000:=by rw [zA4]; exact zB1 ls (by decide)
 refine af (v:=.list (st.map fun i=>stV (i,[]))) (bY (g:=.int) (x:=aj st) ix (aX hst) fun i _=>ix) ?_
 have o0:SOk 0 (st.map fun i=>(i,[])):=⟨List.Pairwise.map _ (fun a b ne e=>ne (by injection e)) ns0,fun s ms=>by
  obtain ⟨i,mi,rfl⟩:=zA7 ms
  exact ⟨rfl,rs i mi,fun _ q=>nM q⟩⟩
 have r0:(fun q p=>(q,p)∈st.map fun i=>(i,([]:List Int)))=st0 st:=by
  funext q p
  refine propext ⟨fun z=>?_,fun Zq1=>Zq1.elim fun z1 z2=>List.mem_map.mpr ⟨q,z1,by rw [z2]⟩⟩
  refine (zA7 z).elim fun i Zq5=>Zq5.elim fun mi e=>?_
  injection e with e1 e2
  exact ⟨e1▸mi,e2.symm⟩
 refine gU (xs:=bj w) (v:=text w) (P:=Ip29_1 s0 s1 s2 R ws w st en)
  ix (fQ (zB1 lw (by decide))) ⟨st.map fun i=>(i,[]),0,w,_,_,_,_,_,_,rfl,vW m.sk gw,gw,Nat.zero_le _,o0,by rw [r0],by unfold eT; rw [List.map_map]; rfl⟩ (fun G hP=>?_) fun y l G Kt hP nx rt=>?_
 ·obtain ⟨ns,d,u,s3,s4,s5,s6,s7,s8,e,_,_,hd,o,hr,rfl⟩:=hP
  cases u with
  | cons=>(injection e; done)
  | nil=>
   have hz:(ns.map stV).length≤5000:=by rw [zA4]; exact zB1 (wb hd o) (by decide)
   refine ay (ae (sF (g:=stV) (f:=fun s=>.int s.1) (p:=fun s=>decide (s.1∈en)) (H:=fun s=>(eT s0 s1 s2 R st en ws w ns s3 s4 s5 s6 s7 s8 (.v (.int s.1)) (.v (cL s.2)))) ix (aX hz) (fun s _=>rfl) (fun s _=>.one (ae (x:=.int s.1) (y:=aj en) ix ix BY)) fun s _ _=>ix) ix (rQ fun x mx=>?_)) (h _ ?_)
   ·obtain ⟨s,_,rfl⟩:=zA7 mx
    exact eU (cF rfl) (Nat.zero_le _)
   ·unfold Acc
    rw [← hr,Bool.not_eq_true',List.isEmpty_eq_false_iff_exists_mem]
    constructor
    ·rintro ⟨x,mx⟩
     obtain ⟨s,ms,rfl⟩:=zA7 mx
     obtain ⟨ms,q⟩:=List.mem_filter.mp ms
     exact ⟨s.1,s.2,ms,of_decide_eq_true q⟩
    ·rintro ⟨q,p,z,hq⟩
     exact ⟨_,List.mem_map.mpr ⟨(q,p),List.mem_filter.mpr ⟨z,decide_eq_true hq⟩,rfl⟩⟩
 ·obtain ⟨ns,d,u,s3,s4,s5,s6,s7,s8,e,hu,gu,hd,o,hr,rfl⟩:=hP
  cases u with
  | nil=>(injection e; done)
  | cons c u=>
   obtain ⟨rfl,rfl⟩:=zA5 e
   have lc:=hu c (.head _)
   have hz:(ns.map stV).length≤5000:=by rw [zA4]; exact zB1 (wb hd o) (by decide)
   obtain ⟨d',hd',hc,gu'⟩:∃ d',d'≤4∧((c∈s0∧d'=d+1)∨(c∈s1∧d=d' + 1)∨(c∈s2∧d'=d))∧Gd s0 s1 s2 4 0 d' u:=by
    rcases gu with ⟨h1,h2,z⟩ | ⟨h1,d',h2,z⟩ | ⟨h1,z⟩
    ·exact ⟨d+1,h2,.inl ⟨h1,rfl⟩,z⟩
    ·exact ⟨d',Nat.le_of_succ_le (zB1 (zB2 h2.symm) hd),.inr (.inl ⟨h1,h2⟩),z⟩
    ·exact ⟨d,hd,.inr (.inr ⟨h1,rfl⟩),z⟩
   refine qw ?_
   refine fM (op:=.forM [5,6]) (g:=stV) (xs:=ns) (fs:=[]) (A:=fun s s'=>∃ w∈ws,fc w s.1 s.2 c=some s') (J:=Ip29_2 R d' s0 s1 s2 st en ws w ns c) (fun _ _ _ _ _ h=>h) ix (aX hz) ⟨⟨.nil,fun _ q=>nM q⟩,_,_,_,_,rfl⟩ (fun s ms G fs Kt j nx=>?_) fun G fs j hf=>?_
   ·obtain ⟨jo,s5,s6,s7,s8,rfl⟩:=j
    refine aq (z:=(eT s0 s1 s2 R st en ws w ns (.v (text [c])) (.ownL (fs.map stV)) (.v (.int s.1)) (.v (cL s.2)) s7 s8 .unset .unset)) rfl ?_
    refine fM (op:=.forS 7) (g:=W.v) (xs:=ws) (fs:=fs) (A:=fun w s'=>fc w s.1 s.2 c=some s') (J:=Ip29_3 R d' s0 s1 s2 st en ws w ns c s) (fun _ _ _ _ _ h=>h) (v:=aC ws) ix (mQ m) ⟨jo,_,_,rfl⟩ (fun v mv G fs Kt j nx=>?_) fun G fs' j hf=>aL (nx _ fs' ?_ hf)
    ·obtain ⟨jo,s7,s8,rfl⟩:=j
     refine aq (z:=(eT s0 s1 s2 R st en ws w ns (.v (text [c])) (.ownL (fs.map stV)) (.v (.int s.1)) (.v (cL s.2)) (.v v.v) s8 .unset .unset)) rfl ?_
     have hs:=o.ok s ms
     refine af (v:=yi (fc v s.1 s.2 c)) (aw (vs:=[v.v,.int s.1,cL s.2,text [c]]) (.cons ix (.cons ix (.two ix ix))) (fun K h=>h28 s0 s1 s2 4 v s.1 s.2 c K m.sk (m.ok v mv) lc (by exact hs.1.symm▸zB1 hd (by decide)) h) (wY _)) ?_
     cases hv:fc v s.1 s.2 c with
     | none=>exact aB (az (.stop (b:=true) (show Val _ _ _ (.bool false) from ix))) (aL (nx _ fs ⟨jo,_,_,rfl⟩ (cO fun p e=>nomatch hv.symm.trans e)))
     | some s'=>
      have hs':=wH m hc mv hs hv
      have lf:=wb hd' jo
      refine cV (az (.go (b:=true) (show Val _ _ _ (.bool true) from ix) (.one (tZ (l:=fs.map stV) rfl (ae (x:=stV s') (y:=.list (fs.map stV)) ix ix (u8 (cj (lS s') (by decide)) (uT fs))))))) (fun q=>?_) fun q=>aL (nx _ fs ⟨jo,_,_,rfl⟩ fun p=>⟨.inl,fun z=>z.elim id fun z=>?_⟩)
      ·have nm:s'∉fs:=fun z=>by rw [v5.mpr z] at q; (injection q; done)
       refine jw (l:=fs.map stV) rfl (v:=stV s') ix (by rw [zA4]; exact Nat.lt_of_le_of_lt lf (by decide)) (aL (nx _ (fs++[s']) ⟨⟨List.nodup_append.mpr ⟨jo.nd,List.pairwise_singleton _ _,fun a ha b hb e=>nm (by obtain rfl:=zA6 hb; exact e▸ha)⟩,fun a ha=>?_⟩,_,_,by unfold eT; rw [List.map_append]; rfl⟩ fun p=>?_))
       ·rcases List.mem_append.mp ha with ha | ha
        ·exact jo.ok a ha
        ·obtain rfl:=zA6 ha; exact hs'
       ·rw [List.mem_append,List.mem_singleton]
        exact or_congr_right ⟨fun e=>by rw [e,hv],fun e=>Option.some.inj (e.symm.trans hv)⟩
      ·obtain rfl:=Option.some.inj (hv.symm.trans z)
       exact v5.mp (iS q)
    ·obtain ⟨jo,s7,s8,rfl⟩:=j
     exact ⟨jo,_,_,_,_,rfl⟩
   ·obtain ⟨jo,s5,s6,s7,s8,rfl⟩:=j
    refine jv (l:=fs.map stV) rfl (af (v:=.list (fs.map stV)) ix (aL (nx _ ⟨fs,d',u,_,_,_,_,_,_,rfl,fun y my=>hu y (.tail _ my),gu',hd',jo,?_,rfl⟩)))
    exact (A6 (ws:=ws) (c:=c) (ns:=ns) (fs:=fs) fun s'=>(hf s').trans ⟨fun q=>q.elim (fun q=>nM q) id,.inr⟩).symm▸hr
theorem vj (he:Val cf G e (text s)) (hi:Val cf G ei (.int i)) (hs:s≠[]) (hl:s.length≤4):∃ x∈s,Val cf G (sbE e (mdE ei (lnE e))) (text [x]):=by
 have hp:=List.length_pos_iff.mpr hs
 have hz:s.length≤5000:=zB1 hl (by decide)
 have lt:=iN (cell:=i) hp
 exact ⟨_,List.getElem_mem lt,aa (.two he (aa (.two hi (aa (.one he) (jV hz))) (cz (Int.ofNat_lt.mpr hp)))) (qE hz (aT _ (Int.ofNat_lt.mpr hp)) (List.getElem?_eq_getElem lt))⟩
theorem tP (h:∀ c∈s0,low c=true):aU .NotEq (text s0) (.str k0)=some (!s0.isEmpty):=iF (dL h)
theorem mY (h:(!s.isEmpty)=true):s≠[]:=fun e=>by subst e; (injection h; done)
theorem Bh (h:Gd s0 s1 s2 m d 0 w) (hc:c∈s0) (hd:d < m):Gd s0 s1 s2 m (d+1) 0 (w++[c]):=ik (v:=[c]) (.inl ⟨hc,hd,rfl⟩) h
theorem yH (h:Gd s0 s1 s2 m (d+1) 0 w) (hc:c∈s1):Gd s0 s1 s2 m d 0 (w++[c]):=ik (v:=[c]) (.inr (.inl ⟨hc,d,rfl,rfl⟩)) h
theorem Bf (h:Gd s0 s1 s2 m d 0 w) (hc:c∈s2):Gd s0 s1 s2 m d 0 (w++[c]):=ik (v:=[c]) (.inr (.inr ⟨hc,rfl⟩)) h
theorem len1 (h:w.length+1≤n):(w++[c]).length≤n:=by rw [zB5]; exact h
def S30 (cf:ai):Prop:=∀ s0 s1 s2 (cs:List Int) K,SgOk s0 s1 s2→cs.length≤20→(∀ w,Gd s0 s1 s2 4 0 0 w→w.length≤40→K (text w))→cf 30 [sg s0 s1 s2,.list (cs.map .int)] K
noncomputable def il (s0 s1 s2:List Nat) (cs:List Int) (w:List Nat) (d:Nat) (z4:Slot) (z5:Slot):Gs:=[.v (sg s0 s1 s2),.v (.list (cs.map .int)),.v (text w),.v (.int (d:Int)),z4,z5]
inductive Ip30_1 (s0 s1 s2:List Nat) (cs:List Int) (xs:List V) (G:Gs):Prop
 | mk (is:List Int) (w:List Nat) (d:Nat) (s4:Slot) (e4_:xs=is.map .int) (e5_:Gd s0 s1 s2 4 d 0 w) (e6_:d≤4) (e7_:(d≠0→s1≠[])) (e8_:w.length+is.length≤20) (e9_:G=(il s0 s1 s2 cs w d s4 .unset)):Ip30_1 s0 s1 s2 cs xs G
inductive Ip30_2 (s0 s1 s2:List Nat) (cs:List Int) (d:Nat) (s4:Slot) (xs:List V) (G:Gs):Prop
 | mk (is:List Int) (w:List Nat) (s5:Slot) (e3_:xs=is.map .int) (e4_:Gd s0 s1 s2 4 is.length 0 w) (e5_:(is≠[]→s1≠[])) (e6_:w.length+is.length≤40) (e7_:G=(il s0 s1 s2 cs w d s4 s5)):Ip30_2 s0 s1 s2 cs d s4 xs G
theorem p30 (cf:ai):S30 (step cf):=fun s0 s1 s2 cs K sk lc h=>by
 refine run (fn:=f30) rfl rfl rfl (af ix (af ix ?_))
 refine gU (P:=Ip30_1 s0 s1 s2 cs) ix (aX (by rw [zA4]; exact zB1 lc (by decide))) ⟨cs,[],0,_,rfl,rfl,Nat.zero_le _,fun q=>absurd rfl q,by rw [List.length_nil,Nat.zero_add]; exact lc,rfl⟩ (fun G hP=>?_) fun x l G Kt hP nx rt=>?_
 ·obtain ⟨is,w,d,s4,_,gw,hd,hs,lw,rfl⟩:=hP
  have lw:w.length≤20:=zB1 (Nat.le_add_right _ _) lw
  refine gU (P:=Ip30_2 s0 s1 s2 cs d s4) (c6 ix (Int.natCast_nonneg d) (Int.le_trans (Int.ofNat_le.mpr hd) (by decide))) (eE (Int.le_trans (Int.ofNat_le.mpr hd) (by decide))) ⟨(List.range d).map fun i:Nat=>0+(i:Int),w,_,by rw [range_eq,List.map_map]; rfl,by rw [zA4,List.length_range]; exact gw,fun q=>hs fun e=>q (by rw [e]; rfl),by rw [zA4,List.length_range]; exact zB1 (Nat.add_le_add lw hd) (by decide),rfl⟩ (fun G hP=>?_) fun x l G Kt hP nx rt=>?_
  ·obtain ⟨is,w,s5,e,gw,_,lw,rfl⟩:=hP
   obtain rfl:=List.map_eq_nil_iff.mp e.symm
   exact ay (v:=text w) ix (h w gw (zB1 (Nat.le_add_right _ _) lw))
  ·obtain ⟨is,w,s5,e,gw,hs,lw,rfl⟩:=hP
   cases is with
   | nil=>(injection e; done)
   | cons i is=>
    obtain ⟨rfl,rfl⟩:=zA5 e
    rw [zB4,← Nat.add_assoc] at lw
    have lw':w.length≤40:=zB1 (Nat.le_add_right _ _) (Nat.le_of_succ_le lw)
    have hs':=hs nofun
    refine (vj (cf:=cf) (G:=(il s0 s1 s2 cs w d s4 (.v (.int i)))) (e:=(sbE (vv 0) (ii 1))) (ei:=(adE (lnE (vv 2)) (vv 5))) (i:=(w.length:Int)+i) (s:=s1) ix (aa (.two (aa (.one ix) (jV (zB1 lw' (by decide)))) ix) rfl) hs' sk.lb).elim fun y Zq26=>Zq26.elim fun my hy=>?_
    refine af (v:=text (w++[y])) (aa (.two ix hy) (m0 (len1 (zB1 (Nat.succ_le_succ lw') (by decide))))) (aL (nx _ ⟨is,w++[y],_,rfl,yH gw my,fun _=>hs',?_,rfl⟩))
    rw [zB5,List.length_singleton,Nat.add_right_comm]; exact lw
 ·obtain ⟨is,w,d,s4,e,gw,hd,hs,lw,rfl⟩:=hP
  cases is with
  | nil=>(injection e; done)
  | cons i is=>
   obtain ⟨rfl,rfl⟩:=zA5 e
   rw [zB4,← Nat.add_assoc] at lw
   have lw1:=Nat.le_of_succ_le lw
   have lw2:∀ c,(w++[c]).length+is.length≤20:=fun c=>by rw [zB5,List.length_singleton,Nat.add_right_comm]; exact lw
   have lw':w.length≤20:=zB1 (Nat.le_add_right _ _) lw1
   have ad:∀ {y:Nat},(w++[y]).length≤5000:=fun {y}=>len1 (zB1 (Nat.succ_le_succ lw') (by decide))
   have pk:∀ {k:Int} {s:List Nat},Val cf (il s0 s1 s2 cs w d (.v (.int i)) .unset) (sbE (vv 0) (ii k)) (text s)→s≠[]→s.length≤4→∃ y∈s,Val cf (il s0 s1 s2 cs w d (.v (.int i)) .unset) (adE (vv 2) (sbE (sbE (vv 0) (ii k)) (mdE (fdE (vv 4) (ii 3)) (lnE (sbE (vv 0) (ii k)))))) (text (w++[y])):=fun hv hn hl=>by
    refine (vj (i:=i.fdiv 3) (ei:=(fdE (vv 4) (ii 3))) hv (aa (.two ix ix) (kj (by decide) (by decide))) hn hl).elim fun y Zq38=>Zq38.elim fun my hy=>?_
    exact ⟨y,my,aa (.two ix hy) (m0 ad)⟩
   have m3:Val cf (il s0 s1 s2 cs w d (.v (.int i)) .unset) (mdE (vv 4) (ii 3)) (.int (i.fmod 3)):=aa (.two ix ix) (cz (by decide))
   refine cV (az (.and (ae m3 ix pb) fun _=>.and (ae (x:=.int d) ix ix (t:=decide ((d:Int) < 4)) rfl) fun _=>.and (ae (x:=text s0) ix ix (tP fun c q=>sk.lowA q)) fun _=>.one (ae (x:=text s1) ix ix (tP fun c q=>sk.lowB q)))) (fun q=>?_) fun q=>?_
   ·obtain ⟨_,q⟩:=zA2 q
    obtain ⟨q1,q⟩:=zA2 q
    obtain ⟨q2,q3⟩:=zA2 q
    have hd4:d < 4:=Int.ofNat_lt.mp (of_decide_eq_true q1)
    refine (pk (k:=0) ix (mY q2) sk.la).elim fun y Zq39=>Zq39.elim fun my hy=>?_
    exact af hy (af (v:=.int ((d:Int)+1)) ix (aL (nx _ ⟨is,w++[y],d+1,_,rfl,Bh gw my hd4,hd4,fun _=>mY q3,lw2 y,rfl⟩)))
   ·refine cV (az (.and (ae m3 ix pb) fun _=>.one (ae (x:=.int d) ix ix (t:=decide (0 < (d:Int))) rfl))) (fun q=>?_) fun q=>?_
    ·obtain ⟨_,q⟩:=zA2 q
     cases d with
     | zero=>exact absurd (of_decide_eq_true q) (by decide)
     | succ d=>
      obtain ⟨y,my,hy⟩:=pk (k:=1) ix (hs nofun) sk.lb
      exact af hy (af (v:=.int (((d+1:Nat):Int) - 1)) ix (aL (nx _ ⟨is,w++[y],d,_,rfl,yH gw my,Nat.le_of_succ_le hd,fun _=>hs nofun,lw2 y,by rw [show ((d+1:Nat):Int) - 1=d from Int.add_sub_cancel (d:Int) 1]; rfl⟩)))
    ·refine cV (ae (x:=text s2) ix ix (tP fun c q=>sk.lowC q)) (fun q=>?_) fun q=>aL (nx _ ⟨is,w,d,_,rfl,gw,hd,hs,lw1,rfl⟩)
     obtain ⟨y,my,hy⟩:=pk (k:=2) ix (mY q) sk.lc
     exact af hy (aL (nx _ ⟨is,w++[y],d,_,rfl,Bf gw my,hd,hs,lw2 y,rfl⟩))
def S27 (cf:ai):Prop:=∀ s0 s1 s2 R st en ws K,ah s0 s1 s2 R st en ws→(∀ st' en' r,Held st en (ws.map W.v) st' en' r→K (aJ (sg s0 s1 s2) R st' en' r))→cf 27 [bf (sg s0 s1 s2) R st en ws] K
theorem lK (h:l.length≤5000):opN .listOf [.list l]=some (.list l):=by
 refine (?_:(db l l).map _=_)
 rw [show db l l=some l from if_pos (cJ h)]; rfl
theorem p27 (cf:ai) (h14:S14 cf):S27 (step cf):=fun s0 s1 s2 R st en ws K g h=>by
 refine run (fn:=f27) rfl rfl rfl ?_
 have ln:∀ {α:Type} {f:α→V} {l:List α} {n:Nat},l.length≤n→n≤5000→(l.map f).length≤5000:=fun h h'=>by rw [zA4]; exact zB1 h h'
 have hv:fD cf [.v (bf (sg s0 s1 s2) R st en ws)] [sbE (vv 0) (ii 0),sbE (vv 0) (ii 1),.nd .listOf [(sbE (vv 0) (ii 2))],.nd .listOf [(sbE (vv 0) (ii 3))],.nd .listOf [(sbE (vv 0) (ii 4))]] [sg s0 s1 s2,.int R,aj st,aj en,aC ws]:=
  .cons ix (.cons ix (.cons (aa (.one ix) (lK (ln g.st.len (by decide)))) (.two (aa (.one ix) (lK (ln g.en.len (by decide)))) (aa (.one ix) (lK (ln g.len (by decide)))))))
 exact hv (fun xs=>cf 14 xs fun y=>noX y=true∧noX y=true∧K y) (h14 s0 s1 s2 R st en ws _ g fun st' en' r hd=>⟨rfl,rfl,h st' en' r hd⟩)
theorem xY {w u:W} (h:w.v=u.v):w=u:=by
 have h:w.l=u.l:=PyData.tuple.inj h
 have ne1:kOn≠a7:=by decide
 have ne2:kOn≠aS:=by decide
 have ne3:a7≠aS:=by decide
 have tx:∀ {a b:Nat},text [a]=text [b]→a=b:=fun e=>(zA5 (congrArg (fun s:Str=>s.cps.toList) (PyData.str.inj e))).1
 cases w <;> cases u <;> (first | (injection h with h0 h; exact absurd (PyData.str.inj h0) (by first | exact ne1 | exact ne2 | exact ne3 | exact ne1.symm | exact ne2.symm | exact ne3.symm)) | skip)
 ·injection h with h0 h; injection h with h1 h; injection h with h2 h; injection h with h3 h
  rw [PyData.int.inj h1,tx h2,PyData.int.inj h3]
 ·injection h with h0 h; injection h with h1 h; injection h with h2 h; injection h with h3 h; injection h with h4 h
  rw [PyData.int.inj h1,tx h2,PyData.int.inj h3,PyData.int.inj h4]
 ·injection h with h0 h; injection h with h1 h; injection h with h2 h; injection h with h3 h; injection h with h4 h
  rw [PyData.int.inj h1,PyData.int.inj h2,tx h3,PyData.int.inj h4]
theorem qT {ws:List W}:∀ {r:List V},(∀ y∈r,y∈ws.map W.v)→∃ us:List W,r=us.map W.v∧∀ u∈us,u∈ws
 | [],_=>⟨[],rfl,fun _ q=>nM q⟩
 | y :: r,h=>by
  obtain ⟨us,e,hu⟩:=qT fun z q=>h z (.tail _ q)
  obtain ⟨w,mw,rfl⟩:=zA7 (h y (.head _))
  exact ⟨w :: us,by rw [e]; rfl,zA1 ⟨mw,hu⟩⟩
theorem gm {ws:List W} (hd:Held st en (ws.map W.v) st' en' r):∃ us:List W,r=us.map W.v∧us.Nodup∧∀ w,w∈us ↔ w∈ws:=by
 obtain ⟨us,rfl,hu⟩:=qT fun y q=>(hd.mem y).mp q
 refine ⟨us,rfl,List.Pairwise.of_map W.v (fun a b h e=>h (congrArg _ e)) hd.nd,fun w=>⟨hu w,fun mw=>?_⟩⟩
 obtain ⟨u,mu,eu⟩:=zA7 ((hd.mem w.v).mpr (List.mem_map.mpr ⟨w,mw,rfl⟩))
 exact xY eu▸mu
noncomputable def W.sh (k:Int):W→W
 | .on a c b=>.on (a+k) c (b+k)
 | .op a c b t=>.op (a+k) c (b+k) (t+k)
 | .cl a b c t=>.cl (a+k) (b+k) c (t+k)
noncomputable def W.at:W→Int
 | .on a _ _=>a
 | .op a _ _ _=>a
 | .cl a _ _ _=>a
theorem A2 (w:W):(w.sh k).at=w.at+k:=by cases w <;> rfl
theorem W.ok.at (h:W.ok s0 s1 s2 R w):In R w.at:=by cases w <;> exact h.1
theorem bH {a b k:Int} (h:a+k=b+k):a=b:=(Int.add_left_inj k).mp h
theorem vq (h:W.sh k w=W.sh k u):w=u:=by
 cases w <;> cases u <;> (first | (injection h; done) | skip)
 ·injection h with h1 h2 h3; rw [bH h1,h2,bH h3]
 ·injection h with h1 h2 h3 h4; rw [bH h1,h2,bH h3,bH h4]
 ·injection h with h1 h2 h3 h4; rw [bH h1,bH h2,h3,bH h4]
theorem dE (h:In R i) (q:R≤R'):In R' i:=⟨h.1,Int.lt_of_lt_of_le h.2 q⟩
theorem gZ (h:In R i) (q:0≤k):In (k+R) (i+k):=⟨Int.add_nonneg h.1 q,by rw [Int.add_comm k]; exact Int.add_lt_add_right h.2 k⟩
theorem mW (h:W.ok s0 s1 s2 R w) (q:R≤R'):W.ok s0 s1 s2 R' w:=by
 cases w with
 | on=>exact ⟨dE h.1 q,h.2.1,dE h.2.2 q⟩
 | op=>exact ⟨dE h.1 q,h.2.1,dE h.2.2.1 q,dE h.2.2.2 q⟩
 | cl=>exact ⟨dE h.1 q,dE h.2.1 q,h.2.2.1,dE h.2.2.2 q⟩
theorem A5 (h:W.ok s0 s1 s2 R w) (q:0≤k):W.ok s0 s1 s2 (k+R) (w.sh k):=by
 cases w with
 | on=>exact ⟨gZ h.1 q,h.2.1,gZ h.2.2 q⟩
 | op=>exact ⟨gZ h.1 q,h.2.1,gZ h.2.2.1 q,gZ h.2.2.2 q⟩
 | cl=>exact ⟨gZ h.1 q,gZ h.2.1 q,h.2.2.1,gZ h.2.2.2 q⟩
def S33 (cf:ai):Prop:=∀ (w:W) k K,K (w.sh k).v→cf 33 [w.v,.int k] K
theorem p33 (cf:ai):S33 (step cf):=fun w k K h=>by
 cases w with
 | on a c b=>exact run (fn:=f33) rfl rfl rfl (ay (v:=(W.sh k (.on a c b)).v) ix h)
 | op a c b t=>exact run (fn:=f33) rfl rfl rfl (ay (v:=(W.sh k (.op a c b t)).v) ix h)
 | cl a b c t=>exact run (fn:=f33) rfl rfl rfl (ay (v:=(W.sh k (.cl a b c t)).v) ix h)
def S38 (cf:ai):Prop:=∀ (w:W) k K,K (w.sh k).v→cf 38 [w.v,.int k] K
theorem p38 (cf:ai):S38 (step cf):=fun w k K h=>by
 cases w with
 | on a c b=>exact run (fn:=f38) rfl rfl rfl (ay (v:=(W.sh k (.on a c b)).v) ix h)
 | op a c b t=>exact run (fn:=f38) rfl rfl rfl (ay (v:=(W.sh k (.op a c b t)).v) ix h)
 | cl a b c t=>exact run (fn:=f38) rfl rfl rfl (ay (v:=(W.sh k (.cl a b c t)).v) ix h)
noncomputable def both (k:Int) (a b:List Int):List Int:=a++b.map (· + k)
noncomputable def bK (k:Int) (a b:List W):List W:=a++b.map (W.sh k)
theorem qt (ha:a.Nodup) (hb:b.Nodup) (ia:∀ i∈a,In k i) (ib:∀ i∈b,In R i):(both k a b).Nodup:=
 List.nodup_append.mpr ⟨ha,hb.map _ fun x y h e=>h (bH e),fun x mx y my e=>by
  obtain ⟨j,mj,rfl⟩:=zA7 my
  exact absurd (ia x mx).2 (Int.not_lt.mpr (by rw [e]; exact Int.le_add_of_nonneg_left (ib j mj).1))⟩
theorem mz (k0:0≤k) (r0:0≤R) (ia:∀ i∈a,In k i) (ib:∀ i∈b,In R i):∀ i∈both k a b,In (k+R) i:=fun i m=>by
 rcases List.mem_append.mp m with m | m
 ·exact dE (ia i m) (Int.le_add_of_nonneg_right r0)
 ·obtain ⟨j,mj,rfl⟩:=zA7 m
  exact gZ (ib j mj) k0
theorem gT {a b:List W} (ha:a.Nodup) (hb:b.Nodup) (ia:∀ w∈a,W.ok s0 s1 s2 k w) (ib:∀ w∈b,W.ok s0 s1 s2 R w):(bK k a b).Nodup:=
 List.nodup_append.mpr ⟨ha,hb.map _ fun x y h e=>h (vq e),fun x mx y my e=>by
  obtain ⟨j,mj,rfl⟩:=zA7 my
  have z:=(ia x mx).at.2
  rw [e,A2] at z
  exact absurd z (Int.not_lt.mpr (Int.le_add_of_nonneg_left (ib j mj).at.1))⟩
theorem ge {a b:List W} (k0:0≤k) (r0:0≤R) (ia:∀ w∈a,W.ok s0 s1 s2 k w) (ib:∀ w∈b,W.ok s0 s1 s2 R w):∀ w∈bK k a b,W.ok s0 s1 s2 (k+R) w:=fun i m=>by
 rcases List.mem_append.mp m with m | m
 ·exact mW (ia i m) (Int.le_add_of_nonneg_right r0)
 ·obtain ⟨j,mj,rfl⟩:=zA7 m
  exact A5 (ib j mj) k0
theorem tw {a b a' b':List W} (ha:∀ w,w∈a ↔ w∈a') (hb:∀ w,w∈b ↔ w∈b') (w:W):w∈bK k a b ↔ w∈bK k a' b':=by
 unfold bK
 rw [List.mem_append,List.mem_append,List.mem_map,List.mem_map]
 exact or_congr (ha w) (exists_congr fun u=>and_congr_left fun _=>hb u)
theorem k9 (ha:a.Perm a') (hb:b.Perm b'):(both k a b).Perm (both k a' b'):=ha.append (hb.map _)
theorem ul {is:List Int} (nd:is.Nodup) (h:∀ i∈is,In R i) (hR:R≤40):is.length≤40:=by
 have z:=nd.length_le_of_subset (l₂:=rms) fun i mi=>Cj hR (h i mi)
 exact z
theorem di (nd:is.Nodup) (h:∀ i∈is,In R i) (hR:R≤40):RoomsOk R is:=⟨ul nd h hR,nd,h⟩
section
variable {cf:ai} {s0 s1 s2:List Nat}
theorem mJ (me:MethOk cf) (h:Val cf G e (aJ (sg s0 s1 s2) R st en r)):Val cf G (.nd (.meth 15) [e]) (sg s0 s1 s2):=bO h rfl (me.m9 _ _ _ _ _ · rfl)
theorem mK (me:MethOk cf) (h:Val cf G e (aJ (sg s0 s1 s2) R st en r)):Val cf G (.nd (.meth 16) [e]) (.int R):=bO h rfl (me.m10 _ _ _ _ _)
theorem qz (me:MethOk cf) (h:Val cf G e (aJ (sg s0 s1 s2) R st en r)) (hz:st.length≤40):Val cf G (.nd (.meth 17) [e]) (aj st):=bO h rfl (me.m11 _ _ _ _ _ · (zB1 hz (by decide)))
theorem qA (me:MethOk cf) (h:Val cf G e (aJ (sg s0 s1 s2) R st en r)) (hz:en.length≤40):Val cf G (.nd (.meth 18) [e]) (aj en):=bO h rfl (me.m12 _ _ _ _ _ · (zB1 hz (by decide)))
theorem mI (me:MethOk cf) (h:Val cf G e (aJ (sg s0 s1 s2) R st en r)) (hz:r.length≤4000):Val cf G (.nd (.meth 19) [e]) (.list r):=bO h rfl (me.m13 _ _ _ _ _ · (zB1 hz (by decide)))
end
def S31 (cf:ai):Prop:=∀ s0 s1 s2 R st en r R' st' en' r' (K:V→Prop),SgOk s0 s1 s2→K .none→cf 31 [aJ (sg s0 s1 s2) R st en r,aJ (sg s0 s1 s2) R' st' en' r'] K
theorem p31 (cf:ai) (me:MethOk cf):S31 (step cf):=fun s0 s1 s2 R st en r R' st' en' r' K sk h=>run (fn:=f31) rfl rfl rfl (aB (ae (mJ me ix) (mJ me ix) (wu (cj (r5 sk) (by decide)))) (aL h))
inductive MM (s0 s1 s2:List Nat) (R:Int) (st en:List Int) (ws:List W) (Kr:Prop) (Km:V→Prop):Prop
 | rooms (h:40 < R) (k:Kr):MM s0 s1 s2 R st en ws Kr Km
 | ways (ok:∀ w∈ws,W.ok s0 s1 s2 R w) (nd:ws.Nodup) (h:4000 < ws.length) (h':ws.length < 4500) (k:Kr):MM s0 s1 s2 R st en ws Kr Km
 | made (g:ah s0 s1 s2 R st en ws) (nd:ws.Nodup) (k:∀ st' en' r,Held st en (ws.map W.v) st' en' r→Km (aJ (sg s0 s1 s2) R st' en' r)):MM s0 s1 s2 R st en ws Kr Km
theorem iT {ws:List W} (h:ws.Nodup):(ws.map W.v).Nodup:=h.map _ fun x y h e=>h (xY e)
theorem vI (sk:SgOk s0 s1 s2) (ok:∀ w∈ws,W.ok s0 s1 s2 R w) (nd:ws.Nodup) (hz:ws.length < 4500):opN .lenSet [aC ws]=some (.int ws.length):=by
 refine (?_:(fF (.list (ws.map W.v))).map _=_)
 rw [oF (List.all_eq_true.mpr fun x m=>by obtain ⟨w,mw,rfl⟩:=zA7 m; exact qy sk (ok w mw)) (iT nd) (by rw [zA4]; exact hz),zA4]; rfl
theorem oS {l:List W} (h:Val cf G a (aC l)) (sk:SgOk s0 s1 s2) (ok:∀ w∈l,W.ok s0 s1 s2 R w) (hz:l.length≤4000) (k:∀ us:List W,us.Nodup→(∀ w,w∈us ↔ w∈l)→(l.length < 64→g8 (us.map W.v))→K (aC us)):ev cf (.nd .sortedSet [a]) G K:=by
 refine jb h ⟨zA3 ⟨List.all_eq_true.mpr fun x m=>?_,decide_eq_true (cJ (by rw [zA4]; exact zB1 hz (by decide)))⟩,fun x mx y my=>?_,⟨_,(by rw [zA4]; exact Nat.lt_of_le_of_lt hz (by decide)),fun _ m=>m⟩,fun r hn hm hr=>?_⟩
 ·obtain ⟨w,m',rfl⟩:=zA7 m
  exact qy sk (ok w m')
 ·obtain ⟨w,_,rfl⟩:=zA7 mx
  obtain ⟨u,_,rfl⟩:=zA7 my
  exact vi w u
 ·obtain ⟨us,rfl,nu,hu⟩:=gm (st:=[]) (en:=[]) ⟨.refl _,.nil,.refl _,.nil,hn,hm,fun q=>hr ⟨_,q,fun _ m=>m⟩⟩
  exact k us nu hu fun q=>hr ⟨_,by rw [zA4]; exact q,fun _ m=>m⟩
theorem oG {a b:List W} (ha:a.Nodup) (hb:b.Nodup) (h:∀ w,w∈a ↔ w∈b):a.length=b.length:=((List.perm_ext_iff_of_nodup ha hb).mpr h).length_eq
theorem wd {a b:List W} (h:∀ w,w∈a ↔ w∈b) (y:V):y∈a.map W.v ↔ y∈b.map W.v:=by
 rw [List.mem_map,List.mem_map]
 exact exists_congr fun u=>and_congr_left fun _=>h u
def S32 (cf:ai):Prop:=∀ s0 s1 s2 R st en ws K,SgOk s0 s1 s2→MM s0 s1 s2 R st en ws (K (fA 4)) K→cf 32 [sg s0 s1 s2,.int R,aj st,aj en,aC ws] K
theorem p32 (cf:ai) (h14:S14 cf):S32 (step cf):=fun s0 s1 s2 R st en ws K sk h=>by
 refine run (fn:=f32) rfl rfl rfl ?_
 cases h with
 | rooms h k=>exact bN (bq (.stop (b:=false) (ae ix ix (xR h)))) (qR k)
 | ways ok nd h h' k=>
  refine cV (bq (.or (t:=decide (40 < R)) (ae ix ix rfl) fun _=>.one' (ae (aa (.one ix) (vI sk ok nd h')) ix (xR (Int.ofNat_lt.mpr h))))) (fun _=>qR k) fun q=>?_
  rw [Bool.or_true] at q
  exact nB q.symm
 | made g nd k=>
  refine aB (bq (.go (b:=false) (ae ix ix (km (Int.not_lt.mpr g.r2))) (.one' (ae (aa (.one ix) (vI sk g.ok nd (Nat.lt_of_le_of_lt g.len (by decide)))) ix (km (Int.not_lt.mpr (Int.ofNat_le.mpr g.len))))))) ?_
  refine (?_:ev cf (.nd .sortedSet [vv 4]) [.v (sg s0 s1 s2),.v (.int R),.v (aj st),.v (aj en),.v (aC ws)] fun r=>cf 14 [sg s0 s1 s2,.int R,aj st,aj en,r] fun y=>noX y=true∧noX y=true∧K y)
  refine oS ix sk g.ok g.len fun us nu hm up=>?_
  have lu:=oG nu nd hm
  exact h14 s0 s1 s2 R st en us _ ⟨sk,g.r1,g.r2,g.st,g.en,lu▸g.len,fun w mw=>g.ok w ((hm w).mp mw)⟩ fun st' en' r hd=>⟨rfl,rfl,k st' en' r ⟨hd.p1,hd.o1,hd.p2,hd.o2,hd.nd,fun y=>(hd.mem y).trans (wd hm y),fun q=>hd.up (by rw [zA4] at q ⊢; exact lu▸q)⟩⟩
theorem eB {is:List Int} (h:Val cf G s (aj is)) (hz:is.length≤40) (hv:∀ i∈is,Val cf (G.set k (.v (.int i))) e (.int (i+R))):Val cf G (.nd (.comp k) [s,e]) (aj (is.map (· + R))):=by
 have q:=bY (k:=k) (f:=fun i=>.int (i+R)) h (aX (by rw [zA4]; exact zB1 hz (by decide))) hv
 unfold aj
 rw [List.map_map]
 exact q
theorem mZ {a b:List Int} (ha:a.length≤40) (hb:b.length≤40):opN (.bin .Add) [aj a,aj (b.map (· + k))]=some (aj (both k a b)):=by
 unfold aj both
 rw [List.map_append]
 exact jW (by rw [zB5,zA4,zA4,zA4]; exact zB1 (Nat.add_le_add ha hb) (by decide))
theorem rG {a b:List W} (h:a.length≤2500) (h':b.length≤2500):opN (.bin .Add) [aC a,aC (b.map (W.sh k))]=some (aC (bK k a b)):=by
 unfold aC bK
 rw [List.map_append]
 exact jW (by rw [zB5,zA4,zA4,zA4]; exact Nat.add_le_add h h')
theorem iC {ws:List W} (h:Val cf G s (aC ws)) (hz:ws.length≤2500) (hv:∀ w∈ws,Val cf (G.set k (.v w.v)) e (w.sh R).v):Val cf G (.nd (.comp k) [s,e]) (aC (ws.map (W.sh R))):=by
 have q:=bY (k:=k) (f:=fun w:W=>(w.sh R).v) h (aX (by rw [zA4]; exact zB1 hz (by decide))) hv
 unfold aC
 rw [List.map_map]
 exact q
def S34 (cf:ai):Prop:=∀ s0 s1 s2 R R' st st' en en' us us' K,SgOk s0 s1 s2→st.length≤40→st'.length≤40→en.length≤40→en'.length≤40→us.length≤2500→us'.length≤2500→MM s0 s1 s2 (R+R') (both R st st') (both R en en') (bK R us us') (K (fA 4)) K→cf 34 [aJ (sg s0 s1 s2) R st en (us.map W.v),aJ (sg s0 s1 s2) R' st' en' (us'.map W.v)] K
theorem p34 (cf:ai) (me:MethOk cf) (h31:S31 cf) (h32:S32 cf) (h33:S33 cf):S34 (step cf):=fun s0 s1 s2 R R' st st' en en' us us' K sk l1 l2 l3 l4 l5 l6 h=>by
 have lw:∀ {l:List W},l.length≤2500→(l.map W.v).length≤4000:=fun h=>by rw [zA4]; exact zB1 h (by decide)
 refine run (fn:=f34) rfl rfl rfl (lE (.two ix ix) (h31 _ _ _ _ _ _ _ _ _ _ _ _ sk ⟨rfl,?_⟩))
 refine af (mK me ix) ?_
 refine af (aa (.two (qz me ix l1) (eB (R:=R) (qz me ix l2) l2 fun i _=>ix)) (mZ l1 l2)) ?_
 refine af (aa (.two (qA me ix l3) (eB (R:=R) (qA me ix l4) l4 fun i _=>ix)) (mZ l3 l4)) ?_
 refine af (aa (.two (x:=aC us) (mI me ix (lw l5)) (iC (R:=R) (mI me ix (lw l6)) l6 fun w _=>aw (.two ix ix) (h33 w R))) (rG l5 l6)) ?_
 exact yZ (.cons (mJ me ix) (.cons (aa (.two ix (mK me ix)) rfl) (.cons ix (.two ix ix)))) (h32 s0 s1 s2 _ _ _ _ _ sk h)
noncomputable def vB:V:=.tuple [.str yx,.bool true]
def S36 (cf:ai):Prop:=∀ s0 s1 s2 R R' st st' en en' us us' K,SgOk s0 s1 s2→st.length≤40→st'.length≤40→en.length≤40→en'.length≤40→us.length≤2500→us'.length≤2500→MM s0 s1 s2 (R+R') (both R st st') (both R en en') (bK R us us') (K vB) K→cf 36 [aJ (sg s0 s1 s2) R st en (us.map W.v),aJ (sg s0 s1 s2) R' st' en' (us'.map W.v)] K
theorem p36 (cf:ai) (h22:S22 cf) (h34:S34 cf):S36 (step cf):=fun s0 s1 s2 R R' st st' en en' us us' K sk l1 l2 l3 l4 l5 l6 h=>by
 refine run (fn:=f36) rfl rfl rfl (yY (.two ix ix) (h34 s0 s1 s2 R R' st st' en en' us us' _ sk l1 l2 l3 l4 l5 l6 ?_))
 have no:K vB→exs sup cf [.mk .ret [.nd .tuple [ss yx,.nd (.call 22) [vv 2,ii 3]]] [] []] [.v (aJ (sg s0 s1 s2) R st en (us.map W.v)),.v (aJ (sg s0 s1 s2) R' st' en' (us'.map W.v)),.v (fA 4)] fun fl G'=>match fl with | some z=>noX z=true∧K z | none=>False:=fun k=>
  ay (v:=vB) (aa (.two ix (aw (vs:=[fA 4,.int 3]) (.two ix ix) fun K h=>h22 K h)) rfl) ⟨rfl,k⟩
 cases h with
 | rooms h k=>exact .rooms h ⟨rfl,no k⟩
 | ways ok nd h h' k=>exact .ways ok nd h h' ⟨rfl,no k⟩
 | made g nd k=>exact .made g nd fun st' en' r hd=>k st' en' r hd
noncomputable def shR (k:Int) (X:Rel):Rel:=fun q p=>∃ q' p',X q' p'∧q=q' + k∧p=p'.map (· + k)
noncomputable def orR (X Y:Rel):Rel:=fun q p=>X q p∨Y q p
section
variable {s0 s1 s2:List Nat} {k R:Int} {a b:List W} (ia:∀ w∈a,W.ok s0 s1 s2 k w) (ib:∀ w∈b,W.ok s0 s1 s2 R w)
theorem qB:W.sh k w∈b.map (W.sh k) ↔ w∈b:=⟨fun h=>by obtain ⟨u,mu,e⟩:=zA7 h; exact vq e▸mu,fun h=>List.mem_map.mpr ⟨w,h,rfl⟩⟩
include ia in
theorem AM {X Y:Rel} (hx:∀ q p,X q p→q < k) (hw:w∈a) (h:orR X (shR k Y) w.at p) (hy:∀ q p,Y q p→0≤q):X w.at p:=by
 rcases h with h | ⟨q',p',h,e,_⟩
 ·exact h
 ·exact absurd (ia w hw).at.2 (Int.not_lt.mpr (by rw [e]; exact Int.le_add_of_nonneg_left (hy _ _ h)))
include ib in
theorem AL {X Y:Rel} (hx:∀ q p,X q p→q < k) (hw:w∈b) (h:orR X (shR k Y) (w.at+k) p):∃ p',Y w.at p'∧p=p'.map (· + k):=by
 rcases h with h | ⟨q',p',h,e,e'⟩
 ·exact absurd (hx _ _ h) (Int.not_lt.mpr (Int.le_add_of_nonneg_left (ib w hw).at.1))
 ·exact ⟨p',bH e▸h,e'⟩
include ia ib in
theorem wV {X Y:Rel} (hx:∀ q p,X q p→q < k) (hy:∀ q p,Y q p→0≤q):nx (bK k a b) c (orR X (shR k Y))=orR (nx a c X) (shR k (nx b c Y)):=by
 funext q p
 refine propext ⟨fun h=>?_,fun h=>?_⟩
 ·rcases h with ⟨q0,x,m⟩ | ⟨q0,t,p0,e,x,m⟩ | ⟨q0,t,x,m⟩
  ·rcases List.mem_append.mp m with m | m
   ·exact .inl (.on q0 (AM ia hx m x hy) m)
   ·obtain ⟨w,mw,e⟩:=zA7 m
    cases w <;> (first | (injection e; done) | skip)
    injection e with e1 e2 e3
    subst e1 e2 e3
    obtain ⟨p',y,ep⟩:=AL ib hx mw x
    exact .inr ⟨_,p',.on _ y mw,rfl,ep⟩
  ·rcases List.mem_append.mp m with m | m
   ·exact .inl (.op q0 t p0 e (AM ia hx m x hy) m)
   ·obtain ⟨w,mw,e'⟩:=zA7 m
    cases w <;> (first | (injection e'; done) | skip)
    injection e' with e1 e2 e3 e4
    subst e1 e2 e3 e4
    obtain ⟨p',y,ep⟩:=AL ib hx mw x
    exact .inr ⟨_,_ :: p',.op _ _ p' rfl y mw,rfl,by rw [e,ep]; rfl⟩
  ·rcases List.mem_append.mp m with m | m
   ·exact .inl (.cl q0 t (AM ia hx m x hy) m)
   ·obtain ⟨w,mw,e'⟩:=zA7 m
    cases w <;> (first | (injection e'; done) | skip)
    injection e' with e1 e2 e3 e4
    subst e1 e2 e3 e4
    obtain ⟨p',y,ep⟩:=AL ib hx mw x
    cases p' with
    | nil=>exact nomatch ep
    | cons t' p'=>
     injection ep with et ep
     obtain rfl:=bH et
     exact .inr ⟨_,p',.cl _ _ y mw,rfl,ep⟩
 ·rcases h with h | ⟨q',p',h,rfl,rfl⟩
  ·rcases h with ⟨q0,x,m⟩ | ⟨q0,t,p0,e,x,m⟩ | ⟨q0,t,x,m⟩
   ·exact .on q0 (.inl x) (List.mem_append_left _ m)
   ·exact .op q0 t p0 e (.inl x) (List.mem_append_left _ m)
   ·exact .cl q0 t (.inl x) (List.mem_append_left _ m)
  ·rcases h with ⟨q0,x,m⟩ | ⟨q0,t,p0,e,x,m⟩ | ⟨q0,t,x,m⟩
   ·exact .on (q0+k) (.inr ⟨q0,p',x,rfl,rfl⟩) (List.mem_append_right _ (qB.mpr m))
   ·exact .op (q0+k) (t+k) (p0.map (· + k)) (by rw [e]; rfl) (.inr ⟨q0,p0,x,rfl,rfl⟩) (List.mem_append_right _ (qB.mpr m))
   ·exact .cl (q0+k) (t+k) (.inr ⟨q0,t :: p',x,rfl,rfl⟩) (List.mem_append_right _ (qB.mpr m))
include ia in
theorem yk {X:Rel} (h:nx a c X q p):In k q:=by
 rcases h with ⟨q0,x,m⟩ | ⟨q0,t,p0,e,x,m⟩ | ⟨q0,t,x,m⟩
 ·exact (ia _ m).2.2
 ·exact (ia _ m).2.2.1
 ·exact (ia _ m).2.2.2
include ia ib in
theorem oh:∀ (w:List Nat) {X Y:Rel},(∀ q p,X q p→In k q)→(∀ q p,Y q p→In R q)→ip (bK k a b) w (orR X (shR k Y))=orR (ip a w X) (shR k (ip b w Y))∧(∀ q p,ip a w X q p→In k q)∧∀ q p,ip b w Y q p→In R q
 | [],_,_,hx,hy=>⟨rfl,hx,hy⟩
 | c :: w,X,Y,hx,hy=>by
  unfold ip
  rw [wV ia ib (fun q p h=>(hx q p h).2) fun q p h=>(hy q p h).1]
  exact oh w (fun q p h=>yk ia h) fun q p h=>yk ib h
include ia ib in
theorem ve (h1:∀ i∈st,In k i) (h2:∀ i∈st',In R i) (e1:∀ i∈en,In k i) (e2:∀ i∈en',In R i):Acc (bK k a b) (both k st st') (both k en en') w ↔ Acc a st en w∨Acc b st' en' w:=by
 have e0:st0 (both k st st')=orR (st0 st) (shR k (st0 st')):=by
  funext q p
  refine propext ⟨fun ⟨h,e⟩=>?_,fun h=>?_⟩
  ·rcases List.mem_append.mp h with h | h
   ·exact .inl ⟨h,e⟩
   ·obtain ⟨j,mj,rfl⟩:=zA7 h
    exact .inr ⟨j,[],⟨mj,rfl⟩,rfl,e⟩
  ·rcases h with h | ⟨q',p',⟨h,rfl⟩,rfl,rfl⟩
   ·exact ⟨List.mem_append_left _ h.1,h.2⟩
   ·exact ⟨List.mem_append_right _ (List.mem_map.mpr ⟨q',h,rfl⟩),rfl⟩
 obtain ⟨er,ra,rb⟩:=oh ia ib w (X:=st0 st) (Y:=st0 st') (fun q p h=>h1 q h.1) fun q p h=>h2 q h.1
 unfold Acc
 rw [e0,er]
 constructor
 ·rintro ⟨q,p,h,hq⟩
  rcases h with h | ⟨q',p',h,rfl,rfl⟩
  ·rcases List.mem_append.mp hq with hq | hq
   ·exact .inl ⟨q,p,h,hq⟩
   ·obtain ⟨j,mj,rfl⟩:=zA7 hq
    exact absurd (ra _ _ h).2 (Int.not_lt.mpr (Int.le_add_of_nonneg_left (e2 j mj).1))
  ·rcases List.mem_append.mp hq with hq | hq
   ·exact absurd (e1 _ hq).2 (Int.not_lt.mpr (Int.le_add_of_nonneg_left (rb _ _ h).1))
   ·obtain ⟨j,mj,e⟩:=zA7 hq
    exact .inr ⟨q',p',h,bH e▸mj⟩
 ·rintro (⟨q,p,h,hq⟩ | ⟨q,p,h,hq⟩)
  ·exact ⟨q,p,.inl h,List.mem_append_left _ hq⟩
  ·exact ⟨q+k,p.map (· + k),.inr ⟨q,p,h,rfl,rfl⟩,List.mem_append_right _ (List.mem_map.mpr ⟨q,hq,rfl⟩)⟩
end
theorem vd (h:∀ w,w∈a ↔ w∈a') (hs:∀ i,i∈st ↔ i∈st') (he:∀ i,i∈en ↔ i∈en'):Acc a st en w ↔ Acc a' st' en' w:=by
 unfold Acc
 rw [og h,show st0 st=st0 st' from funext fun q=>funext fun p=>propext (and_congr_left fun _=>hs q)]
 exact exists_congr fun q=>exists_congr fun p=>and_congr_right fun _=>he q
noncomputable def ofV (s0 s1 s2:List Nat) (R:Int) (st en:List Int) (r:List V):V:=p5V (sg s0 s1 s2) (.int R) (aj st) (aj en) (.list r)
def S35 (cf:ai):Prop:=∀ s0 s1 s2 R st en r (K:V→Prop),st.length≤40→en.length≤40→r.length≤4000→K (ofV s0 s1 s2 R st en r)→cf 35 [aJ (sg s0 s1 s2) R st en r] K
theorem p35 (cf:ai) (me:MethOk cf):S35 (step cf):=fun s0 s1 s2 R st en r K l1 l2 l3 h=>run (fn:=f35) rfl rfl rfl (ay (v:=ofV s0 s1 s2 R st en r) (aa (.cons (mJ me ix) (.cons (mK me ix) (.cons (qz me ix l1) (.two (qA me ix l2) (mI me ix l3))))) rfl) h)
inductive AccI {α β:Type} (xs:List α) (g:α→V) (J:Gs→List β→Prop) (f:α→List β) (tot:List β) (l:List V) (G:Gs):Prop
 | mk (ys:List α) (us:List β) (e:l=ys.map g) (my:∀ y∈ys,y∈xs) (j:J G us) (h:us++ys.flatMap f=tot):AccI xs g J f tot l G
theorem xW {α β:Type} {K:Option V→Gs→Prop} {xs:List α} {g:α→V} {J:Gs→List β→Prop} {f:α→List β} {l:List β} (hs:Val cf G s v) (hq:bL v=some (xs.map g)) (h0:J G l) (hz:(l++xs.flatMap f).length≤5000)
  (turn:∀ x∈xs,∀ G l Kt,J G l→(l++f x).length≤5000→(∀ G',J G' (l++f x)→Kt none G')→exs sup cf body (G.set k (.v (g x))) Kt) (n:∀ G,J G (l++xs.flatMap f)→exs sup cf r G K):exs sup cf (.mk (.forS k) [s] body [] :: r) G K:=by
 refine gU (P:=AccI xs g J f (l++xs.flatMap f)) hs hq ⟨xs,l,rfl,fun _ m=>m,h0,rfl⟩ (fun G hP=>?_) fun x m G Kt hP nx rt=>?_
 ·obtain ⟨ys,us,e,_,j,h⟩:=hP
  obtain rfl:=List.map_eq_nil_iff.mp e.symm
  rw [List.flatMap_nil,List.append_nil] at h
  exact n G (h▸j)
 ·obtain ⟨ys,us,e,my,j,h⟩:=hP
  cases ys with
  | nil=>(injection e; done)
  | cons y ys=>
   obtain ⟨rfl,rfl⟩:=zA5 e
   rw [List.flatMap_cons,← List.append_assoc] at h
   refine turn y (my y (.head _)) G us Kt j ?_ fun G' j'=>nx G' ⟨ys,us++f y,rfl,fun z q=>my z (.tail _ q),j',h⟩
   rw [← h,zB5] at hz
   exact zB1 (Nat.le_add_right _ _) hz
noncomputable def kW:List Int:=[0,1,2,3,4,5,6,7,8,9,10,11,12]
noncomputable def wT (c:Nat) (a b:Int):List W:=kW.map fun t=>.op a c b t
noncomputable def yj (c:Nat) (a:Int):List W:=kW.flatMap (wT c a)
noncomputable def ops (c:Nat):List W:=kW.flatMap (yj c)
theorem jG {α β:Type} {f:α→List β} {n:Nat} (h:∀ x,(f x).length=n) (l:List α):(l.flatMap f).length=l.length * n:=by
 rw [List.length_flatMap,show (fun a=>(f a).length)=fun _=>n from funext h,List.map_const',List.sum_replicate_nat]
theorem oA (c:Nat) (a:Int):(yj c a).length=169:=jG (n:=13) (fun b=>List.length_map _) kW
theorem lJ (c:Nat):(ops c).length=2197:=jG (oA c) kW
theorem lO:kW.Nodup:=by decide
theorem lP:∀ i∈kW,In 13 i:=by unfold In; decide
theorem zy (c:Nat):(ops c).Nodup:=by
 refine List.pairwise_flatMap.mpr ⟨fun a _=>List.pairwise_flatMap.mpr ⟨fun b _=>lO.map _ fun x y h e=>h (by injection e),lO.imp fun h x mx y my e=>?_⟩,lO.imp fun h x mx y my e=>?_⟩
 ·obtain ⟨t,_,rfl⟩:=zA7 mx
  obtain ⟨t',_,rfl⟩:=zA7 my
  injection e with _ _ e
  exact h e
 ·obtain ⟨b,_,mx⟩:=List.mem_flatMap.mp mx
  obtain ⟨b',_,my⟩:=List.mem_flatMap.mp my
  obtain ⟨t,_,rfl⟩:=zA7 mx
  obtain ⟨t',_,rfl⟩:=zA7 my
  injection e with e
  exact h e
theorem zx (hc:c∈s0):∀ w∈ops c,W.ok s0 s1 s2 13 w:=fun w m=>by
 obtain ⟨a,ma,m⟩:=List.mem_flatMap.mp m
 obtain ⟨b,mb,m⟩:=List.mem_flatMap.mp m
 obtain ⟨t,mt,rfl⟩:=zA7 m
 exact ⟨lP a ma,hc,lP b mb,lP t mt⟩
noncomputable def g37 (c:Nat) (n:Int) (l:List W) (s3 s4:Slot):Gs:=[.v (text [c]),.v (.int n),.v (aC l),s3,s4,.unset,.unset]
inductive J37 (c:Nat) (n:Int) (G:Gs) (l:List W):Prop
 | mk (s3 s4:Slot) (e:G=g37 c n l s3 s4):J37 c n G l
inductive J37b (c:Nat) (n:Int) (s3:Slot) (G:Gs) (l:List W):Prop
 | mk (s4:Slot) (e:G=g37 c n l s3 s4):J37b c n s3 G l
theorem xT (c:Nat):(([]:List W)++kW.flatMap (yj c)).length≤5000:=by rw [List.nil_append,jG (oA c)]; decide
def S37 (cf:ai):Prop:=∀ c (n:Int) K,n=13→K (aC (ops c))→cf 37 [text [c],.int n] K
theorem zJ {a b:List W} (h:(a++b).length≤5000):opN (.bin .Add) [aC a,aC b]=some (aC (a++b)):=by
 unfold aC
 rw [List.map_append]
 exact jW (by rw [← List.map_append,zA4]; exact h)
theorem p37 (cf:ai):S37 (step cf):=fun c n K hn h=>by
 have r13:bL (.list (aW 0 n))=some (kW.map .int):=by subst hn; rfl
 have vr:∀ {G:Gs},Val cf G (vv 1) (.int n)→Val cf G (.nd .range [vv 1]) (.list (aW 0 n)):=fun h=>c6 h (by rw [hn]; decide) (by rw [hn]; decide)
 clear hn
 refine run (fn:=f37) rfl rfl rfl (af (v:=aC []) ix ?_)
 refine xW (xs:=kW) (g:=.int) (f:=yj c) (l:=[]) (J:=J37 c n) (vr ix) r13 ⟨_,_,rfl⟩ (xT c) (fun a _ G l Kt j hz nx=>?_) fun G j=>?_
 ·obtain ⟨s3,s4,rfl⟩:=j
  refine xW (xs:=kW) (g:=.int) (f:=wT c a) (l:=l) (J:=J37b c n (.v (.int a))) (vr ix) r13 ⟨_,rfl⟩ hz (fun b _ G l Kt j hz nx=>?_) fun G j=>aL (nx G ?_)
  ·obtain ⟨s4,rfl⟩:=j
   refine af (v:=aC (l++wT c a b)) (aa (.two (x:=aC l) (y:=aC (wT c a b)) ix ?_) (zJ hz)) (aL (nx _ ⟨_,rfl⟩))
   have q:=bY (cf:=cf) (k:=5) (G:=g37 c n l (.v (.int a)) (.v (.int b))) (s:=.nd .range [vv 1]) (e:=yL) (ws:=kW) (g:=.int) (f:=fun t=>(W.op a c b t).v) (vr ix) r13 fun t _=>ix
   unfold aC wT
   rw [List.map_map]
   exact q
  ·obtain ⟨s4,rfl⟩:=j
   exact ⟨_,_,rfl⟩
 ·rw [List.nil_append] at j
  have j:J37 c n G (ops c):=j
  obtain ⟨s3,s4,rfl⟩:=j
  exact ay (v:=aC (ops c)) ix h
structure All (cf:ai):Prop where
 me:MethOk cf
 h9:S9 cf
 h14:S14 cf
 h20:S20 cf
 h21:S21 cf
 h24:SgS 24 cf
 h26:S26 cf
 h27:S27 cf
 h29:S29 cf
 h30:S30 cf
 h35:S35 cf
 h36:S36 cf
 h37:S37 cf
 h38:S38 cf
theorem ww (h:dA x=true):aU .Eq x x=some true:=(if_pos (by rw [h]; rfl)).trans (congrArg some (PySem.SeqAt.eqv_refl x (zA2 h).1))
theorem vD:dA vB=true:=cj (n:=1) (cE (zA1 ⟨cF (x:=.str yx) (by refine (?_:PyData.strOk yx=true); rw [dg]; rfl),List.forall_mem_singleton.mpr ⟨rfl,Nat.le_refl _⟩⟩)) (by decide)
noncomputable def g39 (scr:List Int) (s0 s1 s2:List Nat) (z2 z3 z4 z5 z6 z7 z8 z9 z10 z11 z12:Slot):Gs:=[.v (nZ scr),.v (sg s0 s1 s2),z2,z3,z4,z5,z6,z7,z8,z9,z10,z11,z12,.unset,.unset,.unset,.unset]
theorem y9:∀ m:Nat,m < 2→∃ n:Nat,(n=2000∨n=2001)∧([.int 2000,.int 2001]:List V)[m]?=some (.int n)
 | 0,_=>⟨2000,.inl rfl,rfl⟩
 | 1,_=>⟨2001,.inr rfl,rfl⟩
theorem zH {l:List W} {j:Nat} (hz:l.length≤5000) (h1:j≤l.length):opN (.slice false true) [aC l,.int j]=some (aC (l.take j)):=by
 unfold aC
 rw [List.map_take]
 exact nj (l:=l.map W.v) (f:=.list) (lo:=none) (by rw [zA4]; exact hz) rfl (ni (i:=j) (Int.natCast_nonneg j) (by rw [zA4]; exact h1)) (Nat.zero_le _)
theorem vJ {l:List W} (h:l.length≤5000):opN .len [aC l]=some (.int l.length):=by
 have z:=kh (l:=l.map W.v) (by rw [zA4]; exact h)
 rw [zA4] at z
 exact z
theorem ty {a b:List W} (ha:a.length=n) (hb:b.length=n):(bK k a b).length=n+n:=by
 unfold bK
 rw [zB5,zA4,ha,hb]
theorem hV (h:In R i):∀ j∈[i],In R j:=List.forall_mem_singleton.mpr h
theorem Cs (A:All cf) (hs:scr.length≤63) (sk:SgOk s0 s1 s2) (hn:s0≠[]) {K:V→Prop} (h:K (.bool true)):exs sup cf (yK++r) (g39 scr s0 s1 s2 z2 z3 z4 z5 z6 z7 z8 z9 z10 z11 z12) fun fl _=>K (fl.getD .none):=by
 cases s0 with
 | nil=>exact absurd rfl hn
 | cons c s0=>
 obtain ⟨n,hn,hv⟩:=y9 _ (iN (cell:=(a8 scr 25).fdiv 32) (n:=2) (by decide))
 have n1:n≤2197:=hn.elim (fun e=>e▸by decide) fun e=>e▸by decide
 have ln:((ops c).take n).length=n:=by rw [List.length_take,lJ]; exact Nat.min_eq_left n1
 have ok:∀ w∈(ops c).take n,W.ok (c :: s0) s1 s2 13 w:=fun w m=>zx (.head _) w (List.mem_of_mem_take m)
 have nd:((ops c).take n).Nodup:=(zy c).sublist (List.take_sublist _ _)
 have e0:opN (.slice false true) [aC (ops c),.int n]=some (aC ((ops c).take n)):=zH (by rw [lJ]; decide) (by rw [lJ]; exact n1)
 refine af (aa (.two (aw (.two (aa (.two (x:=text (c :: s0)) ix ix) (qE (zB1 sk.la (by decide)) (Int.le_refl _) rfl)) ix) fun K k=>A.h37 c 13 K rfl k) (aa (.two ix (aa (.two (aa (.two (aw (.two ix ix) fun K k=>A.h20 scr 25 K hs (by decide) k) ix) (kj (by decide) (by decide))) ix) (cz (by decide)))) (fH (by decide:2≤5000) (aT _ (by decide)) hv))) e0) ?_
 generalize (ops c).take n=ws at ln ok nd
 clear e0 hv
 have g:ah (c :: s0) s1 s2 13 [0] [12] ws:=⟨sk,by decide,by decide,di (List.pairwise_singleton _ _) (hV ⟨by decide,by decide⟩) (by decide),di (List.pairwise_singleton _ _) (hV ⟨by decide,by decide⟩) (by decide),by rw [ln]; exact zB1 n1 (by decide),ok⟩
 refine cr (.cons ix (.cons ix (.cons ix (.two ix ix)))) (A.h14 (c :: s0) s1 s2 13 [0] [12] ws _ g fun st' en' r hd=>⟨rfl,?_⟩)
 obtain ⟨us,rfl,nu,hu⟩:=gm hd
 obtain rfl:=List.perm_singleton.mp hd.p1
 obtain rfl:=List.perm_singleton.mp hd.p2
 have lu:us.length=n:=(oG nu nd hu).trans ln
 have oku:∀ w∈us,W.ok (c :: s0) s1 s2 13 w:=fun w m=>ok w ((hu w).mp m)
 have lz:us.length≤2500:=lu.symm▸zB1 n1 (by decide)
 have nb:=gT nu nu oku oku
 have okb:=ge (by decide) (by decide) oku oku
 have lb:=ty (k:=13) lu lu
 have lw:ws.length≤5000:=ln.symm▸zB1 n1 (by decide)
 refine cr (.two ix ix) (A.h36 (c :: s0) s1 s2 13 13 [0] [0] [12] [12] us us _ sk (by decide) (by decide) (by decide) (by decide) lz lz ?_)
 rcases hn with rfl | rfl
 ·refine .made ⟨sk,by decide,by decide,di (by decide) (mz (by decide) (by decide) (hV ⟨by decide,by decide⟩) (hV ⟨by decide,by decide⟩)) (by decide),di (by decide) (mz (by decide) (by decide) (hV ⟨by decide,by decide⟩) (hV ⟨by decide,by decide⟩)) (by decide),zB2 lb,okb⟩ nb fun st' en' r hd=>⟨rfl,?_⟩
  have lr:r.length=4000:=by
   rw [((List.perm_ext_iff_of_nodup hd.nd (iT nb)).mpr hd.mem).length_eq,zA4,lb]
  refine aB (ae (aa (.one ix) (vJ lw)) ix (km (by rw [ln]; decide))) (ay (v:=.bool true) (az (.go (b:=true) (kA ix rfl) (.go (b:=true) (ae (mK A.me ix) ix (tQ rfl)) (.one (ae (aa (.one (mI A.me ix (zB2 lr))) (kh (zB1 (zB2 lr) (by decide)))) ix (tQ (by rw [lr]; rfl))))))) h)
 ·refine .ways okb nb (by rw [lb]; decide) (by rw [lb]; decide) ⟨rfl,?_⟩
  exact bN (ae (aa (.one ix) (vJ lw)) ix (xR (by rw [ln]; decide))) (ay (ae (x:=vB) ix ix (ww vD)) h)
structure Pt (s0 s1 s2:List Nat) (R:Int) (st en:List Int) (ws:List W):Prop where
 sk:SgOk s0 s1 s2
 r1:1≤R
 r2:R≤40
 ks:RoomsOk R st
 ke:RoomsOk R en
 rs:∀ i∈st,Rm i
 len:ws.length≤10
 ok4:∀ w∈ws,W.ok s0 s1 s2 4 w
 ok:∀ w∈ws,W.ok s0 s1 s2 R w
theorem Pt.r0 (p:Pt s0 s1 s2 R st en ws):0≤R:=Int.le_trans (by decide) p.r1
theorem Pt.good (p:Pt s0 s1 s2 R st en ws):ah s0 s1 s2 R st en ws:=⟨p.sk,p.r1,p.r2,p.ks,p.ke,zB1 p.len (by decide),p.ok⟩
theorem zI (hs:scr.length≤63) (h0:0≤i) (h:i≤j) (hj:j≤i+15):∃ cs:List Int,cs.length≤20∧opN (.slice true true) [nZ scr,.int i,.int j]=some (.list (cs.map .int)):=by
 have e:∀ {d n:Nat} {i:Int},0≤i→oY d n (some (.int i))=some (min i.toNat n):=fun h=>by
  refine (?_:some _=_)
  rw [if_pos h]
 refine ⟨(scr.drop (min i.toNat (scr.map PyData.int).length)).take (min j.toNat (scr.map PyData.int).length - min i.toNat (scr.map PyData.int).length),zB1 (List.length_take_le _ _) ?_,?_⟩
 ·have q:j.toNat≤i.toNat+15:=Int.toNat_le.mpr (by rw [Int.natCast_add,Int.toNat_of_nonneg h0]; exact hj)
  refine Nat.sub_le_of_le_add ?_
  rcases Nat.le_total (scr.map PyData.int).length i.toNat with z | z
  ·rw [Nat.min_eq_right z]; exact zB1 (Nat.min_le_right _ _) (Nat.le_add_left _ _)
  ·rw [Nat.min_eq_left z,Nat.add_comm]; exact zB1 (Nat.min_le_left _ _) (zB1 q (Nat.add_le_add_left (by decide) _))
 ·rw [List.map_take,List.map_drop]
  exact nj (l:=scr.map .int) (f:=.list) (by rw [zA4]; exact zB1 hs (by decide)) (e h0) (e (Int.le_trans h0 h)) (Nat.le_min.mpr ⟨zB1 (Nat.min_le_left _ _) (Int.toNat_le_toNat h),Nat.min_le_right _ _⟩)
theorem lT {ws:List W} (sk:SgOk s0 s1 s2) (ok:∀ w∈ws,W.ok s0 s1 s2 R w) (h:∀ y∈r,y∈ws.map W.v):eg 3 (ofV s0 s1 s2 R' st en r):=cE (n:=2) (zA1 ⟨eU (r5 sk) (by decide),zA1 ⟨eU (cF (x:=.int R') rfl) (by decide),zA1 ⟨eU (eK _) (by decide),zA1 ⟨eU (eK _) (by decide),List.forall_mem_singleton.mpr (cx (tg sk ok h))⟩⟩⟩⟩)
section
open Classical
variable {cf:ai} {s0 s1 s2:List Nat} {G:Gs} {w:List Nat}
theorem qW {P:Prop} (hv:fD cf G es vs) (h:∀ K:V→Prop,(∀ b:Bool,(b=true ↔ P)→K (.bool b))→cf f vs K):Val cf G (.nd (.call f) es) (.bool (decide P)):=fun K k=>hv _ (h _ fun b hb=>⟨rfl,by rw [show b=decide P by rw [Bool.eq_iff_iff,decide_eq_true_iff]; exact hb]; exact k⟩)
theorem qV (A:All cf) (p:Pt s0 s1 s2 R st en ws) (gw:Gd s0 s1 s2 4 0 0 w) (lw:w.length≤40) (ha:Val cf G a (bf (sg s0 s1 s2) R st en ws)) (hb:Val cf G b (text w)):Val cf G (.nd (.call 29) [a,b]) (.bool (decide (Acc ws st en w))):=
 qW (.two ha hb) fun K k=>A.h29 s0 s1 s2 R st en ws w K ⟨p.sk,by decide,Nat.lt_of_le_of_lt p.len (by decide),p.ok4⟩ p.ks.len p.ks.nodup p.rs gw (zB1 lw (by decide)) k
end
structure Fnd (s0 s1 s2:List Nat) (R R':Int) (st st' en en':List Int) (ws ws':List W) (fs fe:List Int) (us:List W):Prop where
 m:MOk s0 s1 s2 (R+R') us
 nd:us.Nodup
 mem:∀ w,w∈us ↔ w∈bK R ws ws'
 up:g8 (us.map W.v)
 ps:fs.Perm (both R st st')
 os:fs.Pairwise (·≤·)
 pe:fe.Perm (both R en en')
 oe:fe.Pairwise (·≤·)
 ks:RoomsOk (R+R') (both R st st')
 ke:RoomsOk (R+R') (both R en en')
section
variable {cf:ai} {scr:List Int} {s0 s1 s2:List Nat} {R R':Int} {st st' en en' fs fe:List Int} {ws ws' us:List W} {G:Gs}
open Classical in
theorem tY (A:All cf) (F:Fnd s0 s1 s2 R R' st st' en en' ws ws' fs fe us) (p:Pt s0 s1 s2 R st en ws) (p':Pt s0 s1 s2 R' st' en' ws') (gw:Gd s0 s1 s2 4 0 0 w) (lw:w.length≤40) (ha:Val cf G a (aJ (sg s0 s1 s2) (R+R') fs fe (us.map W.v))) (hb:Val cf G b (text w)):Val cf G (.nd (.call 9) [a,b]) (.bool (decide (Acc ws st en w)||decide (Acc ws' st' en' w))):=by
 have z:=qW (P:=Acc us fs fe w) (cf:=cf) (G:=G) (f:=9) (.two ha hb) fun K k=>A.h9 s0 s1 s2 (R+R') fs fe us w K F.m (F.ps.length_eq▸F.ks.len) (fun i mi=>F.ks.rooms i (F.ps.mem_iff.mp mi)) (F.pe.length_eq▸F.ke.len) (zB1 lw (by decide)) ((by have:=tK p.sk gw []; rw [List.append_nil] at this; exact this.trans rfl)) k
 have q:Acc us fs fe w ↔ Acc ws st en w∨Acc ws' st' en' w:=(vd (a':=bK R ws ws') (st':=both R st st') (en':=both R en en') F.mem (fun i=>F.ps.mem_iff) fun i=>F.pe.mem_iff).trans (ve (s0:=s0) (s1:=s1) (s2:=s2) p.ok p'.ok p.ks.rooms p'.ks.rooms p.ke.rooms p'.ke.rooms)
 have e:decide (Acc us fs fe w)=(decide (Acc ws st en w)||decide (Acc ws' st' en' w)):=by
  rw [Bool.eq_iff_iff,Bool.or_eq_true,decide_eq_true_iff,decide_eq_true_iff,decide_eq_true_iff]; exact q
 exact e▸z
noncomputable def hU (s0 s1 s2:List Nat) (R R':Int) (st st' en en':List Int) (ws ws':List W):V:=.list [bf (sg s0 s1 s2) R st en ws,bf (sg s0 s1 s2) R' st' en' ws']
theorem y6 (A:All cf) (hs:scr.length≤63) (F:Fnd s0 s1 s2 R R' st st' en en' ws ws' fs fe us) (p:Pt s0 s1 s2 R st en ws) (p':Pt s0 s1 s2 R' st' en' ws') (hk:0≤k) {Kt:Option V→Gs→Prop} (n:∀ z11,Kt none (g39 scr s0 s1 s2 (.v (hU s0 s1 s2 R R' st st' en en' ws ws')) z3 z4 z5 (.v (aJ (sg s0 s1 s2) (R+R') fs fe (us.map W.v))) z7 z8 z9 (.v (.int k)) z11 z12)) :
  exs sup cf yI (g39 scr s0 s1 s2 (.v (hU s0 s1 s2 R R' st st' en en' ws ws')) z3 z4 z5 (.v (aJ (sg s0 s1 s2) (R+R') fs fe (us.map W.v))) z7 z8 z9 (.v (.int k)) z11 z12) Kt:=by
 have k6:0≤6 * k:=Int.mul_nonneg (by decide) hk
 obtain ⟨cs,lc,hcs⟩:=zI (scr:=scr) (i:=26+6 * k) (j:=36+6 * k) hs (Int.add_nonneg (by decide) k6) (Int.add_le_add_right (by decide) _) (by rw [Int.add_right_comm]; exact Int.add_le_add_right (by decide) _)
 have vc:=bY (cf:=cf) (G:=g39 scr s0 s1 s2 (.v (hU s0 s1 s2 R R' st st' en en' ws ws')) z3 z4 z5 (.v (aJ (sg s0 s1 s2) (R+R') fs fe (us.map W.v))) z7 z8 z9 (.v (.int k)) z11 z12) (k:=13) (g:=.int) (f:=fun c=>.int (vN c k)) (ws:=cs) (e:=yJ) (s:=.nd (.slice true true) [vv 0,adE (ii 26) (mlE (ii 6) (vv 10)),adE (ii 36) (mlE (ii 6) (vv 10))])
  (aa (.cons ix (.two (aa (.two ix (aa (.two ix ix) (gX (.inr (by decide))))) rfl) (aa (.two ix (aa (.two ix ix) (gX (.inr (by decide))))) rfl))) hcs) (aX (by rw [zA4]; exact zB1 lc (by decide))) fun c _=>aw (vs:=[.int c,.int k]) (.two ix ix) fun K h=>A.h21 c k K h
 rw [show cs.map (fun c=>PyData.int (vN c k))=(cs.map fun c=>vN c k).map .int by rw [List.map_map]; rfl] at vc
 refine cr (.two ix vc) (A.h30 s0 s1 s2 _ _ p.sk (by rw [zA4]; exact lc) fun w gw lw=>⟨rfl,?_⟩)
 refine aB (ae (tY A F p p' gw lw ix ix) (bq (.or (qV A p gw lw ix ix) fun _=>.one' (qV A p' gw lw ix ix))) (wu rfl)) (aL (n _))
end
theorem qQ (hv:Val cf G a x) (h:cf 27 [x] fun u=>noX u=true∧ev cf b G fun y=>cf 27 [y] fun v=>noX v=true∧exs sup cf r (G.set k (.v (.list [u,v]))) K):exs sup cf (.mk (.assign k) [.nd .list [.nd (.call 27) [a],.nd (.call 27) [b]]] [] [] :: r) G K:=hv _ h
theorem sC (h:ev cf e G fun v=>exs sup cf r (G.set k (.v v)) K):exs sup cf (.mk (.assign k) [e] [] [] :: r) G K:=h
theorem nR {e s:E} (h:Val cf G s v) (hq:bL v=some [a,b]) (h1:Val cf (G.set k (.v a)) e x) (h2:Val cf (G.set k (.v b)) e y):Val cf G (.nd (.comp k) [s,e]) (.list [x,y]):=bY (ws:=[(a,x),(b,y)]) (g:=Prod.fst) (f:=Prod.snd) h hq (zA1 ⟨h1,List.forall_mem_singleton.mpr h2⟩)
inductive Ip39 (g:Slot→Slot→Gs) (xs:List V) (G:Gs):Prop
 | mk (z10 z11:Slot) (hx:∀ x∈xs,∃ i:Int,0≤i∧x=.int i) (e:G=g z10 z11):Ip39 g xs G
section
variable {cf:ai} {scr:List Int} {s0 s1 s2:List Nat} {R R':Int} {st st' en en' fs fe:List Int} {ws ws' us:List W}
theorem i7 (p:Pt s0 s1 s2 R st en ws) (hd:Held st en (ws.map W.v) st1 en1 (us.map W.v)):us.length≤10:=by
 have z:=fS hd.nd fun y m=>(hd.mem y).mp m
 rw [zA4,zA4] at z
 exact zB1 z p.len
theorem Pt.few (p:Pt s0 s1 s2 R st en ws):(ws.map W.v).length < 64:=by rw [zA4]; exact Nat.lt_of_le_of_lt p.len (by decide)
theorem jL {a b:List W} (ha:a.length≤10) (hb:b.length≤10):(bK R a b).length≤20:=by
 unfold bK
 rw [zB5,zA4]
 exact Nat.add_le_add ha hb
theorem Pt.both (p:Pt s0 s1 s2 R st en ws) (p':Pt s0 s1 s2 R' st' en' ws') (hR:R+R'≤40) (ps:a.Perm c) (pe:b.Perm d) (ka:RoomsOk R c) (kb:RoomsOk R' d):RoomsOk (R+R') (both R a b):=
 di (qt (ps.nodup_iff.mpr ka.nodup) (pe.nodup_iff.mpr kb.nodup) (fun i m=>ka.rooms i (ps.mem_iff.mp m)) fun i m=>kb.rooms i (pe.mem_iff.mp m)) (mz p.r0 p'.r0 (fun i m=>ka.rooms i (ps.mem_iff.mp m)) fun i m=>kb.rooms i (pe.mem_iff.mp m)) hR
theorem Ac (p:Pt s0 s1 s2 R st en ws) (p':Pt s0 s1 s2 R' st' en' ws') (hR:R+R'≤40) (hd1:Held st en (ws.map W.v) st1 en1 (us1.map W.v)) (hd2:Held st' en' (ws'.map W.v) st2 en2 (us2.map W.v)) (hu1:∀ w,w∈us1 ↔ w∈ws) (hu2:∀ w,w∈us2 ↔ w∈ws')
  (hd:Held (both R st1 st2) (both R en1 en2) ((bK R us1 us2).map W.v) fs fe (us.map W.v)) (nu:us.Nodup) (hu:∀ w,w∈us ↔ w∈bK R us1 us2):Fnd s0 s1 s2 R R' st st' en en' ws ws' fs fe us:=by
 have mem:∀ w,w∈us ↔ w∈bK R ws ws':=fun w=>(hu w).trans (tw hu1 hu2 w)
 have l20:=jL (R:=R) (i7 p hd1) (i7 p' hd2)
 have z:=fS hd.nd fun y m=>(hd.mem y).mp m
 rw [zA4,zA4] at z
 exact ⟨⟨p.sk,hR,Nat.lt_of_le_of_lt (zB1 z l20) (by decide),fun w mw=>ge p.r0 p'.r0 p.ok p'.ok w ((mem w).mp mw)⟩,nu,mem,hd.up (by rw [zA4]; exact Nat.lt_of_le_of_lt l20 (by decide)),hd.p1.trans (k9 hd1.p1 hd2.p1),hd.o1,hd.p2.trans (k9 hd1.p2 hd2.p2),hd.o2,p.both p' hR (.refl _) (.refl _) p.ks p'.ks,p.both p' hR (.refl _) (.refl _) p.ke p'.ke⟩
theorem BT (A:All cf) (hs:scr.length≤63) (p:Pt s0 s1 s2 R st en ws) (p':Pt s0 s1 s2 R' st' en' ws') (hR:R+R'≤40) (hd1:Held st en (ws.map W.v) st1 en1 r1) (hd2:Held st' en' (ws'.map W.v) st2 en2 r2) (F:Fnd s0 s1 s2 R R' st st' en en' ws ws' fs fe us) {K:V→Prop} (h:K (.bool true)) :
  exs sup cf (f39.body.drop 8) (g39 scr s0 s1 s2 (.v (hU s0 s1 s2 R R' st st' en en' ws ws')) z3 z4 z5 (.v (aJ (sg s0 s1 s2) (R+R') fs fe (us.map W.v))) (.v (.int R)) (.v (.list [aJ (sg s0 s1 s2) R st1 en1 r1,aJ (sg s0 s1 s2) R' st2 en2 r2])) z9 z10 z11 z12) fun fl _=>K (fl.getD .none):=by
 refine aB (ae (x:=.int (R+R')) ix ix (km (Int.not_lt.mpr hR))) ?_
 refine af (nR (x:=aj (both R st st')) (y:=aj (both R en en')) (v:=.tuple [.int 2,.int 3]) ix rfl (aa (.two (x:=aj st) ix (eB (R:=R) (is:=st') ix p'.ks.len fun i _=>ix)) (mZ p.ks.len p'.ks.len)) (aa (.two (x:=aj en) ix (eB (R:=R) (is:=en') ix p'.ke.len fun i _=>ix)) (mZ p.ke.len p'.ke.len))) ?_
 have l1:ws.length≤2500:=zB1 p.len (by decide)
 have l2:ws'.length≤2500:=zB1 p'.len (by decide)
 have lb:=jL (R:=R) p.len p'.len
 have okb:=ge p.r0 p'.r0 p.ok p'.ok
 refine sC (oS (l:=bK R ws ws') (aa (.two (x:=aC ws) ix (iC (R:=R) (ws:=ws') ix l2 fun w _=>aw (.two ix ix) (A.h38 w R))) (rG l1 l2)) p.sk okb (zB1 lb (by decide)) fun vs nv hv up=>?_)
 have ev:vs.map W.v=us.map W.v:=gy p.sk okb (iT nv) (wd hv) (up (Nat.lt_of_le_of_lt lb (by decide))) (iT F.nd) (wd F.mem) F.up
 rw [show aC vs=.list (us.map W.v) from congrArg PyData.list ev]
 have lr:(us.map W.v).length≤4000:=by rw [zA4]; exact zB1 (Nat.le_of_lt F.m.len) (by decide)
 refine aB (aF (t:=true) (kA ix rfl)) ?_
 refine aB (ae (x:=ofV s0 s1 s2 (R+R') fs fe (us.map W.v)) (aw (.one ix) fun K k=>A.h35 s0 s1 s2 _ _ _ _ K (F.ps.length_eq▸F.ks.len) (F.pe.length_eq▸F.ke.len) lr k) (aa (.cons ix (.cons ix (.cons (iB (is:=both R st st') (s:=fs) ix F.ks.len F.ps F.os) (.two (iB (is:=both R en en') (s:=fe) ix F.ke.len F.pe F.oe) ix)))) rfl) (wu (cj (lT p.sk F.m.ok fun y m=>m) (by decide)))) ?_
 refine gU (xs:=aW 0 5) (P:=Ip39 fun z10 z11=>g39 scr s0 s1 s2 (.v (hU s0 s1 s2 R R' st st' en en' ws ws')) z3 (.v (.list (us.map W.v))) z5 (.v (aJ (sg s0 s1 s2) (R+R') fs fe (us.map W.v))) (.v (.int R)) (.v (.list [aJ (sg s0 s1 s2) R st1 en1 r1,aJ (sg s0 s1 s2) R' st2 en2 r2])) (.v (.list [aj (both R st st'),aj (both R en en')])) z10 z11 z12) (c6 ix (by decide) (by decide)) (eE (by decide)) ⟨_,_,fun x m=>?_,rfl⟩ (fun G hP=>?_) fun x l G Kt hP nx rt=>?_
 ·rw [range_eq] at m
  obtain ⟨i,_,rfl⟩:=zA7 m
  exact ⟨_,Int.add_nonneg (by decide) (Int.natCast_nonneg i),rfl⟩
 ·obtain ⟨z10,z11,_,rfl⟩:=hP
  refine qQ (x:=bf (sg s0 s1 s2) R st en ws) ix (A.h27 _ _ _ _ _ _ _ _ p.good fun st1' en1' r1' q1=>⟨rfl,?_⟩)
  refine A.h27 s0 s1 s2 R' st' en' ws' _ p'.good fun st2' en2' r2' q2=>⟨rfl,?_⟩
  obtain rfl:=c9 q1.p1 q1.o1 hd1.p1 hd1.o1
  obtain rfl:=c9 q1.p2 q1.o2 hd1.p2 hd1.o2
  obtain rfl:=c9 q2.p1 q2.o1 hd2.p1 hd2.o1
  obtain rfl:=c9 q2.p2 q2.o2 hd2.p2 hd2.o2
  obtain rfl:=gy p.sk p.ok q1.nd q1.mem (q1.up p.few) hd1.nd hd1.mem (hd1.up p.few)
  obtain rfl:=gy p'.sk p'.ok q2.nd q2.mem (q2.up p'.few) hd2.nd hd2.mem (hd2.up p'.few)
  obtain ⟨a1,a2,a3⟩:=fY p.good hd1
  obtain ⟨b1,b2,b3⟩:=fY p'.good hd2
  have vo:∀ {G:Gs} {s:E},Val cf G s (.list [aJ (sg s0 s1 s2) R st1' en1' r1',aJ (sg s0 s1 s2) R' st2' en2' r2'])→(∀ x,Val cf (G.set 13 (.v x)) (vv 13) x)→Val cf G (.nd (.comp 13) [s,.nd (.call 35) [vv 13]]) (.list [ofV s0 s1 s2 R st1' en1' r1',ofV s0 s1 s2 R' st2' en2' r2']):=fun hv hx=>nR hv rfl (aw (.one (hx _)) fun K k=>A.h35 s0 s1 s2 _ _ _ _ K a1 a2 a3 k) (aw (.one (hx _)) fun K k=>A.h35 s0 s1 s2 _ _ _ _ K b1 b2 b3 k)
  exact ay (ae (vo ix fun _=>ix) (vo ix fun _=>ix) (ww (cj (n:=4) (cx (zA1 ⟨lT p.sk p.ok fun y m=>(hd1.mem y).mp m,List.forall_mem_singleton.mpr (lT p.sk p'.ok fun y m=>(hd2.mem y).mp m)⟩)) (by decide)))) h
 ·obtain ⟨z10,z11,hx,rfl⟩:=hP
  obtain ⟨i,hi,rfl⟩:=hx x (.head _)
  exact y6 A hs F p p' hi fun z11=>nx _ ⟨_,z11,fun y m=>hx y (.tail _ m),rfl⟩
theorem A8 (A:All cf) (hs:scr.length≤63) (p:Pt s0 s1 s2 R st en ws) (p':Pt s0 s1 s2 R' st' en' ws') {K:V→Prop} (h:K (.bool true)) :
  exs sup cf (f39.body.drop 5) (g39 scr s0 s1 s2 (.v (hU s0 s1 s2 R R' st st' en en' ws ws')) z3 z4 z5 z6 z7 z8 z9 z10 z11 z12) fun fl _=>K (fl.getD .none):=by
 refine af (v:=.int R) ix ?_
 refine qQ (x:=bf (sg s0 s1 s2) R st en ws) ix (A.h27 _ _ _ _ _ _ _ _ p.good fun st1 en1 r1 hd1=>⟨rfl,?_⟩)
 refine A.h27 s0 s1 s2 R' st' en' ws' _ p'.good fun st2 en2 r2 hd2=>⟨rfl,?_⟩
 obtain ⟨us1,rfl,nu1,hu1⟩:=gm hd1
 obtain ⟨us2,rfl,nu2,hu2⟩:=gm hd2
 obtain ⟨a1,a2,_⟩:=fY p.good hd1
 obtain ⟨b1,b2,_⟩:=fY p'.good hd2
 have l1:=i7 p hd1
 have l2:=i7 p' hd2
 refine cr (.two (x:=aJ (sg s0 s1 s2) R st1 en1 (us1.map W.v)) (y:=aJ (sg s0 s1 s2) R' st2 en2 (us2.map W.v)) ix ix) (A.h36 s0 s1 s2 R R' st1 st2 en1 en2 us1 us2 _ p.sk a1 b1 a2 b2 (zB1 l1 (by decide)) (zB1 l2 (by decide)) ?_)
 by_cases hR:40 < R+R'
 ·exact .rooms hR ⟨rfl,bN (ae (x:=.int (R+R')) ix ix (xR hR)) (ay (ae (x:=vB) ix ix (ww vD)) h)⟩
 ·have hR:=Int.not_lt.mp hR
  have o1:∀ w∈us1,W.ok s0 s1 s2 R w:=fun w m=>p.ok w ((hu1 w).mp m)
  have o2:∀ w∈us2,W.ok s0 s1 s2 R' w:=fun w m=>p'.ok w ((hu2 w).mp m)
  refine .made ⟨p.sk,Int.le_trans p.r1 (Int.le_add_of_nonneg_right p'.r0),hR,p.both p' hR hd1.p1 hd2.p1 p.ks p'.ks,p.both p' hR hd1.p2 hd2.p2 p.ke p'.ke,zB1 (jL l1 l2) (by decide),ge p.r0 p'.r0 o1 o2⟩ (gT nu1 nu2 o1 o2) fun fs fe r hd=>⟨rfl,?_⟩
  obtain ⟨us,rfl,nu,hu⟩:=gm hd
  exact BT A hs p p' hR hd1 hd2 (Ac p p' hR hd1 hd2 hu1 hu2 hd nu hu) h
end
theorem y1 (hv:fD cf G es vs) (h:cf f vs fun u=>noX u=true∧bJ (evs cf es') G fun vs'=>cf f vs' fun v=>noX v=true∧[u,v].length≤am∧exs sup cf r (G.set k (.ownL [u,v])) K):exs sup cf (.mk (.ownL k) [.nd (.call f) es,.nd (.call f) es'] [] [] :: r) G K:=hv _ h
section
variable {s0 s1 s2:List Nat} {R:Int} {st en:List Int} {ws:List W}
theorem PartsOk.pt (sk:SgOk s0 s1 s2) (q:PartsOk s0 s1 s2 R st en ws):Pt s0 s1 s2 R st en ws:=⟨sk,q.r1,Int.le_trans q.r4 (by decide),q.st,q.en,fun i m=>in4 (dE (q.st.rooms i m) q.r4),q.len,fun w m=>mW (q.ok w m) q.r4,q.ok⟩
theorem rH (k:RoomsOk R st) (h4:R≤4) (hN:N≤40) (h0:4≤i) (hi:i < N):RoomsOk N (st++[i]):=di (List.nodup_append.mpr ⟨k.nodup,List.pairwise_singleton _ _,fun a ha b hb e=>by
  obtain rfl:=zA6 hb
  exact absurd (k.rooms a ha).2 (Int.not_lt.mpr (by rw [e]; exact Int.le_trans h4 h0))⟩) (fun j m=>by
  rcases List.mem_append.mp m with m | m
  ·exact dE (k.rooms j m) (Int.le_trans h4 (Int.le_of_lt (Int.lt_of_le_of_lt h0 hi)))
  ·obtain rfl:=zA6 m; exact ⟨Int.le_trans (by decide) h0,hi⟩) hN
theorem x4 (k:RoomsOk R st) (h4:R≤N):RoomsOk N st:=⟨k.len,k.nodup,fun i m=>dE (k.rooms i m) h4⟩
theorem vh (c:Int):18≤18+c.fmod 4∧18+c.fmod 4≤22:=⟨Int.le_add_of_nonneg_right (aT c (by decide)),Int.le_trans (Int.add_le_add_left (Int.le_of_lt (bR c (b:=4) (by decide))) 18) (by decide)⟩
theorem PartsOk.wide1 (sk:SgOk s0 s1 s2) (q:PartsOk s0 s1 s2 R st en ws) (h:18≤N∧N≤22):Pt s0 s1 s2 N (st++[17]) en ws:=
 have h4:R≤N:=Int.le_trans q.r4 (Int.le_trans (by decide) h.1)
 ⟨sk,Int.le_trans (by decide) h.1,Int.le_trans h.2 (by decide),rH q.st q.r4 (Int.le_trans h.2 (by decide)) (by decide) (Int.lt_of_lt_of_le (by decide) h.1),x4 q.en h4,fun i m=>(List.mem_append.mp m).elim (fun m=>in4 (dE (q.st.rooms i m) q.r4)) fun m=>by
  obtain rfl:=zA6 m
  unfold Rm; decide,q.len,fun w m=>mW (q.ok w m) q.r4,fun w m=>mW (q.ok w m) h4⟩
theorem PartsOk.wide2 (sk:SgOk s0 s1 s2) (q:PartsOk s0 s1 s2 R st en ws) (h:18≤N∧N≤22):Pt s0 s1 s2 N st (en++[N - 1]) ws:=
 have h4:R≤N:=Int.le_trans q.r4 (Int.le_trans (by decide) h.1)
 ⟨sk,Int.le_trans (by decide) h.1,Int.le_trans h.2 (by decide),x4 q.st h4,rH q.en q.r4 (Int.le_trans h.2 (by decide)) (Int.le_sub_right_of_add_le (Int.le_trans (by decide) h.1)) (Int.sub_lt_self N (by decide)),fun i m=>in4 (dE (q.st.rooms i m) q.r4),q.len,fun w m=>mW (q.ok w m) q.r4,fun w m=>mW (q.ok w m) h4⟩
theorem vL (h:st.length≤40):opN (.bin .Add) [aj st,.list [.int i]]=some (aj (st++[i])):=by
 unfold aj
 rw [List.map_append]
 exact jW (by rw [zB5,zA4]; exact zB1 (Nat.add_le_add_right h 1) (by decide))
end
theorem Cv:(0:Int)≤0∧(0:Int) < ((2:Nat):Int)∧2≤am:=by decide
theorem Cu:(0:Int)≤1∧(1:Int) < ((2:Nat):Int)∧2≤am:=by decide
def S39 (cf:ai):Prop:=∀ scr:List Int,scr.length≤63→∀ K:V→Prop,K (.bool true)→cf 39 [nZ scr] K
theorem p39 (cf:ai) (A:All cf):S39 (step cf):=fun scr hs K h=>by
 refine run (fn:=f39) rfl rfl rfl ?_
 have cell:∀ {G:Gs} {b:E} {i:Int},Val cf G (vv 0) (nZ scr)→Val cf G b (.int i)→0≤i→Val cf G (.nd (.call 20) [vv 0,b]) (.int (a8 scr i)):=fun ha hb hi=>aw (.two ha hb) fun K h=>A.h20 scr _ K hs hi h
 obtain ⟨s0,s1,s2,sk,h24⟩:=A.h24 (a8 scr 0)
 refine af (v:=sg s0 s1 s2) (aw (.one (cell ix ix (by decide))) h24) ?_
 refine y1 (.cons ix (.cons ix (.two ix ix))) (A.h26 scr 1 s0 s1 s2 _ hs (by decide) sk fun R st en ws q=>⟨rfl,?_⟩)
 refine A.h26 scr 13 s0 s1 s2 _ hs (by decide) sk fun R' st' en' ws' q'=>⟨rfl,(by decide:2≤am),?_⟩
 have cont:∀ {R R' st st' en en' ws ws'} {z3:Slot},Pt s0 s1 s2 R st en ws→Pt s0 s1 s2 R' st' en' ws'→exs sup cf (f39.body.drop 3) (g39 scr s0 s1 s2 (.ownL [bf (sg s0 s1 s2) R st en ws,bf (sg s0 s1 s2) R' st' en' ws']) z3 .unset .unset .unset .unset .unset .unset .unset .unset .unset) fun fl _=>K (fl.getD .none):=fun {R R' st st' en en' ws ws' z3} p p'=>
  cV (az (.and (ae (aa (.two (cell (i:=25) ix ix (by decide)) ix) (cz (by decide))) ix pb) fun _=>.one (ae (x:=text s0) ix ix (tP fun c q=>sk.lowA q)))) (fun q=>Cs A hs sk (mY (zA2 q).2) h) fun _=>jv (l:=[bf (sg s0 s1 s2) R st en ws,bf (sg s0 s1 s2) R' st' en' ws']) rfl (A8 A hs p p' h)
 refine cV (ae (aa (.two (cell (i:=25) ix ix (by decide)) ix) (cz (by decide))) ix pb) (fun _=>?_) fun _=>cont (q.pt sk) (q'.pt sk)
 have mN:∀ {G:Gs} {k:Int},Val cf G (vv 0) (nZ scr)→0 < k→k≤1000000→Val cf G (adE (ii 18) (mdE (fdE (.nd (.call 20) [vv 0,ii 25]) (ii k)) (ii 4))) (.int (18+((a8 scr 25).fdiv k).fmod 4)):=fun h0 h1 h2=>aa (.two ix (aa (.two (aa (.two (cell h0 ix (by decide)) ix) (kj h1 h2)) ix) (cz (by decide)))) rfl
 have n1:=vh ((a8 scr 25).fdiv 8)
 have n2:=vh ((a8 scr 25).fdiv 32)
 refine af (mN (k:=8) ix (by decide) (by decide)) ?_
 generalize 18+((a8 scr 25).fdiv 8).fmod 4=N at n1
 refine vg (l:=[bf (sg s0 s1 s2) R st en ws,bf (sg s0 s1 s2) R' st' en' ws']) (i:=0) (v:=bf (sg s0 s1 s2) N (st++[17]) en ws) rfl (aa (.cons ix (.cons ix (.cons (aa (.two (x:=aj st) ix ix) (vL q.st.len)) (.two ix ix)))) rfl) ix Cv ?_
 refine af (mN (k:=32) ix (by decide) (by decide)) ?_
 generalize 18+((a8 scr 25).fdiv 32).fmod 4=N' at n2
 refine vg (l:=[bf (sg s0 s1 s2) N (st++[17]) en ws,bf (sg s0 s1 s2) R' st' en' ws']) (i:=1) (v:=bf (sg s0 s1 s2) N' st' (en'++[N' - 1]) ws') rfl (aa (.cons ix (.cons ix (.cons ix (.two (aa (.two (x:=aj en') (y:=.list [.int (N' - 1)]) ix ix) (vL q'.en.len)) ix)))) rfl) ix Cu ?_
 exact cont (q.wide1 sk n1) (q'.wide2 sk n2)
theorem meths (cf:ai):MethOk (step cf):=⟨fun _ _ _ _ _ _=>p15,fun _ _ _ _ _ _=>p16,fun _ _ _ _ _ _=>p17,fun _ _ _ _ _ _=>p18,fun _ _ _ _ _ _=>p19⟩
theorem Ay (scr:List Int) (hs:scr.length≤63):al prog 8 39 [.list (scr.map .int)] fun y=>y=.bool true:=by
 have b:∀ n,S14 (al prog (n+4)):=fun n=>p14 _ (p2 _ (p1 _ (p0 (al prog n)))) (p10 (al prog (n+2))) (p11 _ (p10 (al prog (n+1)))) (p13 _ (p12 _ (p3 (al prog n)) (p10 (al prog n))))
 have A:All (al prog 7):={
  me:=meths (al prog 6)
  h9:=p9 _ (p3 (al prog 5)) (p5 _ (p4 _ (p3 (al prog 3)))) (p6 (al prog 5)) (p7 (al prog 5)) (p8 (al prog 5)) (meths (al prog 5))
  h14:=b 3
  h20:=p20 (al prog 6)
  h21:=p21 (al prog 6)
  h24:=p24 _ (p23 (al prog 5))
  h26:=p26 _ (p20 (al prog 5)) (p21 (al prog 5)) (p25 (al prog 5))
  h27:=p27 _ (b 2)
  h29:=p29 _ (p28 (al prog 5))
  h30:=p30 (al prog 6)
  h35:=p35 _ (meths (al prog 5))
  h36:=p36 _ (p22 (al prog 5)) (p34 _ (meths (al prog 4)) (p31 _ (meths (al prog 3))) (p32 _ (b 0)) (p33 (al prog 4)))
  h37:=p37 (al prog 6)
  h38:=p38 (al prog 6) }
 exact p39 _ A scr hs _ rfl
end Mine.L07
end
noncomputable section
open PySem PySem.W PyProof.Rows
namespace Mine.L07
theorem said:PySem.Challenge.rw_uf010006_07.wellSaid=true:=by kernel_rfl
theorem law07:PySem.Challenge.rw_uf010006_07.Holds:=by
 w_on
 refine holds_law said fun said=>?_
 refine holds_open (q:=vw) (loose:=[]) (Xt:=vwX) (XP:=XL vw []) (Yf:=Hook.obs qf) (Ya:=Hook.val qf) (YP:=Hook.says qf) (N:=6498) zR (Hook.of qf) (Hook.keeps qf) (fun s e=>xl_of s (Bool.and_eq_true_iff.mp e).1) XL.keeps (by rfl) (by rfl) (by rfl) (fun s e=>recFacts_of (Bool.and_eq_true_iff.mp e).2) (by rfl) said (by decide +kernel) ⟨rfl,rfl,rfl,rfl,rfl,by decide +kernel⟩ ?hw ?hc
 case hw=>w_witness2
 intro w s₀ s₁ mg mb G Y fa o pm cd doc dV kV ho hd hcd hD hmg hg args vals as hpre hlay hrd hwl hlo
 obtain ⟨K,KX,e,hbd⟩:=Y
 have c:=xQ (g:=⟨PySem.Challenge.rw_uf010006_07.row.prog,w,s₁.heap,mg,mb,fun f=>fnA.getD f 0,mchA,K,fldN,s₁.os,prog,fun c=>clsA.getD c 0,8,safe,newf,fnN,clsN,conN⟩) KX e hbd rfl rfl rfl rfl rfl rfl rfl rfl rfl rfl rfl G.T.g G.T.b G.T.nolimit G.T.builtins (fun o ho=>let ⟨C,O,_⟩:=G.T.own o ho; ⟨C,O⟩) (by decide +kernel) 8
 have hm:some (Value.ref fa)=some (Value.ref 387):=hmg.symm.trans (c.1.fns "law" 39 rfl)
 cases hm
 exact uK (l:=PySem.Challenge.rw_uf010006_07) rfl rfl c.2 rfl rfl rfl hg (f:=39) (by decide) hpre hwl (fun scr hs=>Ay scr hs)
end Mine.L07
theorem PySem.Challenge.cw_uf010006_07_holds : PySem.Challenge.rw_uf010006_07.Holds :=
 Mine.L07.law07
end

import PyProof.Rows.All
import PySem.SetTable
import PyProof.WalkLemmas
import PyProof.CollectWalk
import PyProof.DictIter
import PyProof.TupleKey
import PyProof.DictRoadsH
import PyProof.Rows.RowHeap
import PyProof.DictWalks
import PyProof.IsRules
import PyProof.EqKinds
import PyProof.P3Eq
import PyProof.ExcAttrAll.ValueError
import PyProof.ListNew
import PyProof.ListMulAny
import PyProof.SetKind
import PyProof.Rows.SortRunsK
import PyProof.SetRoads
import PyProof.SetNew
import PyProof.Rows.SetFrom
import OpenK.KDescr
import OpenK.KCls
import Open.Line
import OpenK.KWalk
import OpenK.KMore
import Wide.FinOn
import Wide.All
import Lean
import PySem.Challenge.RW_uf010006_03
set_option Elab.async false
set_option linter.all false
set_option genSizeOf false
set_option tactic.hygienic false
set_option genSizeOfSpec false
set_option genInjectivity false
set_option maxRecDepth 100000
set_option linter.unusedVariables false
set_option maxHeartbeats 4000000
set_option maxHeartbeats 8000000
noncomputable section
namespace Mine
open PySem
theorem zA1 {α:Type _} {p:α→Prop} {a:α} {l:List α} (h:p a∧∀ x∈l,p x):∀ x∈a::l,p x:=List.forall_mem_cons.mpr h
theorem zA2 {a b:Bool} (h:(a&&b)=true):a=true∧b=true:=(Bool.and_eq_true _ _).mp h
theorem zA3 {a b:Bool} (h:a=true∧b=true):(a&&b)=true:=(Bool.and_eq_true _ _).mpr h
theorem zA4 {α:Type _} {β:Type _} {f:α→β} {l:List α}:(l.map f).length=l.length:=List.length_map _
theorem zA5 {α:Type _} {a b:α} {l m:List α} (h:a::l=b::m):a=b∧l=m:=List.cons.inj h
theorem zA6 {α:Type _} {a b:α} (h:a∈[b]):a=b:=List.mem_singleton.mp h
theorem zB1 {n m k:Nat} (a:n≤m) (b:m≤k):n≤k:=Nat.le_trans a b
theorem zB2 {n m:Nat} (a:n=m):n≤m:=Nat.le_of_eq a
theorem zB3 {α:Type _} {a:Array α}:a.toList.length=a.size:=Array.length_toList
theorem zB4 {α:Type _} {a:α} {l:List α}:(a::l).length=l.length+1:=rfl
theorem zB5 {α:Type _} {l m:List α}:(l++m).length=l.length+m.length:=List.length_append
theorem zC1 {α:Type _} {β:Type _} {M:Model} {A:Around} {m:Sem α} {f:α→Sem β} {Q:β→Shared→Prop} {E:Value→Shared→Prop} {s:Shared} (h:wpAny M A m (fun a s'=>wpAny M A (f a) Q E s') E s):wpAny M A (m>>=f) Q E s:=wpAny_bind h
theorem zC2 {α:Type _} {M:Model} {A:Around} {a:α} {Q:α→Shared→Prop} {E:Value→Shared→Prop} {s:Shared} (h:Q a s):wpAny M A (pure a) Q E s:=wpAny_pure h
theorem zA7 {α:Type _} {β:Type _} {f:α→β} {b:β} {l:List α} (h:b∈l.map f):∃ a,a∈l∧f a=b:=List.mem_map.mp h
theorem nB {C:Prop} (h:false=true):C:=absurd h Bool.false_ne_true
theorem nM {α:Type} {x:α} {C:Prop} (h:x∈([]:List α)):C:=absurd h List.not_mem_nil
theorem nN {α:Type} {x:α} {C:Prop} (h:some x=none):C:=absurd h (Option.some_ne_none x)
theorem aq {G:Prop} (h:∀ P:Prop,(G→P)→P):G:=h G id
theorem bv [Decidable c] (h:¬ c) (x:wpAny M A e Q E s):wpAny M A (if c then t else e) Q E s:=if_neg h▸x
theorem eY [Decidable c] (h:c) (x:wpAny M A t Q E s):wpAny M A (if c then t else e) Q E s:=if_pos h▸x
noncomputable abbrev V:=PyData
noncomputable abbrev Sc:=Int ⊕ Str
inductive Slot where
 | unset
 | v (x:V)
 | ownL (l:List V)
 | ownD (l:List (V×V))
 | ownI (l:List V)
noncomputable abbrev Gs:=List Slot
inductive Op where
 | lit (x:V)
 | var (k:Nat)
 | own (k:Nat)
 | bin (o:Operator)
 | cmp (o:CmpOp)
 | chain (lt:Bool)
 | and | or | not | neg
 | tuple | list | sub
 | slice (lo hi:Bool)
 | call (f:Nat)
 | meth (f:Nat)
 | attr (j:Nat)
 | isinst (t:Nat)
 | len | listOf | sorted | sortedSet | lenSet
 | join | count
 | isExc (c:Nat) (tb:List Bool)
 | edict
 | lenL (k:Nat)
 | lend (k:Nat)
 | comp (k:Nat)
 | compM (ks:List Nat)
 | range | zip
inductive E where
 | nd (o:Op) (es:List E)
inductive SOp where
 | assign (k:Nat)
 | assignM (ks:List Nat)
 | ownL (k:Nat)
 | ownD (k:Nat)
 | append (k:Nat)
 | setD (k:Nat)
 | setAttr (k j:Nat)
 | setAttrN (k j:Nat)
 | call (f:Nat)
 | ret
 | tryE (f c k:Nat)
 | popC (j k f:Nat)
 | popS (j k:Nat)
 | ite
 | forS (k:Nat)
 | forM (ks:List Nat)
 | freeze (k:Nat)
 | freezeD (k:Nat)
 | raise (c:Nat)
inductive S where
 | mk (o:SOp) (es:List E) (a b:List S)
section
variable {α:Type}
noncomputable def ai:Nat:=2 ^ 20
noncomputable def dI (l:List α) (z:β):Option β:=if l.length≤ai then some z else none
noncomputable def text (l:List Nat):V:=.str ⟨l.toArray⟩
noncomputable def dD (v:V):Bool:=v.canLay0&&decide (v.depth≤64)
noncomputable def c6 (x:V) (f:Bool→Option α):Option α:=match x with
 | .bool b=>f b
 | _=>none
noncomputable def oq (x:V) (f:Int→Option α):Option α:=match x with
 | .int i=>f i
 | _=>none
noncomputable def vf (x:V) (f:List Nat→Option α):Option α:=match x with
 | .str s=>f s.cps.toList
 | _=>none
noncomputable def hM (x:V) (f:List V→Option α):Option α:=match x with
 | .list l=>f l
 | _=>none
noncomputable def BL (x:V) (f:List V→Option α):Option α:=match x with
 | .tuple l=>f l
 | _=>none
noncomputable def oy (x y:V) (f:Int→Int→Option α):Option α:=oq x fun a=>oq y (f a)
end
noncomputable def B8 (x y:V):Option V:=match x with
 | .int a=>oq y fun b=>some (.int (a+b))
 | .str a=>vf y fun b=>dI (a.cps.toList++b) (text (a.cps.toList++b))
 | .list a=>hM y fun b=>dI (a++b) (.list (a++b))
 | .tuple a=>BL y fun b=>dI (a++b) (.tuple (a++b))
 | _=>none
noncomputable def tK (o:Operator) (x y:V):Option V:=match o with
 | .Add=>B8 x y
 | .Sub=>oy x y fun a b=>some (.int (a - b))
 | .Mult=>oy x y fun a b=>if b.natAbs≤1000000∨a.natAbs≤1000000 then some (.int (a * b)) else none
 | .FloorDiv=>oy x y fun a b=>if b=0∨1000000 < b.natAbs then none else some (.int (a.fdiv b))
 | .Mod=>oy x y fun a b=>if b=0 then none else some (.int (a.fmod b))
 | _=>none
noncomputable def eqO (a b:V):Option Bool:=if (dD a&&dD b)=true then some (PyData.eqv a b) else none
noncomputable def isNone:V→Bool
 | .none=>true
 | _=>false
noncomputable def inO (a b:V):Option Bool:=match b with
 | .str t=>vf a fun s=>match s with | [c]=>some (t.cps.toList.elem c) | _=>none
 | .list l=>if (dD a&&dD (.list l))=true then some (l.any fun x=>PyData.eqv x a) else none
 | .tuple l=>if (dD a&&dD (.tuple l))=true then some (l.any fun x=>PyData.eqv x a) else none
 | _=>none
noncomputable def aT (o:CmpOp) (x y:V):Option Bool:=match o with
 | .Eq=>eqO x y
 | .NotEq=>(eqO x y).map (!·)
 | .Lt=>oy x y fun a b=>some (decide (a < b))
 | .LtE=>oy x y fun a b=>some (decide (a≤b))
 | .Gt=>oy x y fun a b=>some (decide (b < a))
 | .GtE=>oy x y fun a b=>some (decide (b≤a))
 | .Is=>if isNone y=true then some (isNone x) else none
 | .IsNot=>if isNone y=true then some (!isNone x) else none
 | .In=>inO x y
 | .NotIn=>(inO x y).map (!·)
noncomputable def ba (s:List Nat):List V:=s.map fun c=>text [c]
noncomputable def aU (a b:Int):List V:=(List.range (b - a).toNat).map fun (i:Nat)=>.int (a+i)
noncomputable def rOk (i:Int):Bool:=Nat.ble i.natAbs 4611686018427387903
noncomputable def mE (a b:Int):Option V:=if rOk a=true∧rOk b=true then dI (aU a b) (.list (aU a b)) else none
noncomputable def aL (x:V):Bool:=match x with
 | .int _=>true
 | .str s=>PyData.strOk s
 | _=>false
noncomputable def itV (x:V):Bool:=match x with
 | .none=>true
 | .tuple l=>l.all aL
 | x=>aL x
noncomputable def dp (x:V):Bool:=match x with
 | .tuple l=>l.all itV
 | _=>false
noncomputable def dkV (kvs:List (V×V)):Bool:=kvs.all fun p=>dp p.1
noncomputable def kj (kvs:List (V×V)) (y:V):Option V:=(kvs.find? fun p=>PyData.eqv p.1 y).map (·.2)
noncomputable def lM (kvs:List (V×V)) (y v:V):List (V×V):=if (kvs.any fun p=>PyData.eqv p.1 y)=true then kvs.map fun p=>if PyData.eqv p.1 y=true then (p.1,v) else p else kvs++[(y,v)]
noncomputable def pF (l:List α) (f:α→V) (y:V):Option V:=oq y fun i=>if l.length≤ai then (if 0≤i then l[i.toNat]? else if 0≤i+l.length then l[(i+l.length).toNat]? else none).map f else none
noncomputable def g8 (x y:V):Option V:=match x with
 | .list l=>pF l id y
 | .tuple l=>pF l id y
 | .str s=>pF s.cps.toList (fun c=>text [c]) y
 | .dict kvs=>if (dkV kvs&&dp y)=true then kj kvs y else none
 | _=>none
noncomputable def oI (d n:Nat) (y:Option V):Option Nat:=match y with
 | none=>some d
 | some x=>oq x fun i=>some (if 0≤i then min i.toNat n else (i+n).toNat)
noncomputable def lZ (f:List α→V) (l:List α) (lo hi:Option V):Option V:=
 if l.length≤ai then (oI 0 l.length lo).bind fun i=>(oI l.length l.length hi).bind fun j=>if i≤j then some (f ((l.drop i).take (j - i))) else none else none
noncomputable def dN (a:V) (lo hi:Option V):Option V:=match a with
 | .list l=>lZ .list l lo hi
 | .tuple l=>lZ .tuple l lo hi
 | .str s=>lZ text s.cps.toList lo hi
 | _=>none
noncomputable def iH:List String:=["str", "tuple", "list", "int", "bool"]
noncomputable def isT (x:V) (t:Nat):Option Bool:=match x with
 | .none=>some false
 | .bool _=>some (t==4||t==3)
 | .int _=>some (t==3)
 | .str _=>some (t==0)
 | .list _=>some (t==2)
 | .tuple _=>some (t==1)
 | .dict kvs=>if kvs.isEmpty=true then some false else none
noncomputable def wB (x:V):Option (List V):=match x with
 | .list l=>dI l l
 | .tuple l=>dI l l
 | .str s=>dI s.cps.toList (ba s.cps.toList)
 | _=>none
noncomputable def bM (x:V):Option (List V):=match x with
 | .dict kvs=>if dkV kvs=true then dI kvs (kvs.map (·.1)) else none
 | x=>wB x
noncomputable def fU (l:List V):Option (List (List Nat)):=l.mapM fun x=>vf x some
noncomputable def gc (l:List V):Option (List Int):=l.mapM fun x=>oq x some
noncomputable def hO (sep:List Nat):List (List Nat)→List Nat
 | []=>[]
 | [x]=>x
 | x :: r=>x++sep++hO sep r
def okK {α:Type} (o:Option α) (K:α→Prop):Prop:=match o with
 | some z=>K z
 | none=>False
noncomputable abbrev D:=Gs→(V→Prop)→Prop
noncomputable abbrev B:=Gs→(Option V→Gs→Prop)→Prop
noncomputable abbrev aj:=Nat→List V→(V→Prop)→Prop
noncomputable def getSlot (G:Gs) (k:Nat):Slot:=G.getD k .unset
noncomputable def xI (G:Gs) (k:Nat):Option V:=match getSlot G k with
 | .v x=>some x
 | _=>none
noncomputable def bE (G:Gs) (k:Nat):Option (List V):=match getSlot G k with
 | .ownL l=>some l
 | _=>none
noncomputable def iU (G:Gs) (k:Nat):Option (List (V×V)):=match getSlot G k with
 | .ownD l=>some l
 | _=>none
noncomputable def dU (G:Gs) (k:Nat):Option (List V):=match getSlot G k with
 | .ownI l=>some l
 | _=>none
def bY (ds:List D) (G:Gs):(List V→Prop)→Prop:=
 List.rec (motive:=fun _=>(List V→Prop)→Prop) (fun f=>f []) (fun d _ ih f=>d G fun x=>ih fun xs=>f (x :: xs)) ds
def gW (ds:List D) (G:Gs) (f:V→Prop):Prop:=match ds with
 | [d]=>d G f
 | _=>False
def ci (b:Bool) (ds:List D) (G:Gs):(Bool→Prop)→Prop:=
 List.rec (motive:=fun _=>(Bool→Prop)→Prop) (fun f=>f b) (fun d _ ih f=>d G fun x=>okK (c6 x some) fun c=>if c=b then ih f else f c) ds
def Aa (lt:Bool) (ds:List D) (G:Gs) (K:V→Prop):Prop:=match ds with
 | [a,b,c]=>a G fun x=>b G fun y=>okK (aT .LtE x y) fun t=>if t=true then c G fun z=>okK (aT (if lt=true then .Lt else .LtE) y z) fun u=>K (.bool u) else K (.bool false)
 | _=>False
noncomputable def jV (k:Nat) (G:Gs) (x:V):Option Gs:=some (G.set k (.v x))
noncomputable def aW (ks:List Nat) (G:Gs) (x:V):Option Gs:=match x with
 | .tuple xs=>if xs.length=ks.length then some ((ks.zip xs).foldl (fun G p=>G.set p.1 (.v p.2)) G) else none
 | _=>none
def jh (e:D) (ts:List D) (b:Gs→V→Option Gs) (G:Gs) (xs:List V):(List V→Prop)→Prop:=
 List.rec (motive:=fun _=>(List V→Prop)→Prop) (fun f=>f [])
  (fun x _ ih f=>okK (b G x) fun G'=>ci true ts G' fun c=>if c=true then e G' fun y=>ih fun ys=>f (y :: ys) else ih f) xs
def tJ (b:Gs→V→Option Gs) (ds:List D) (G:Gs) (K:V→Prop):Prop:=match ds with
 | s :: e :: ts=>s G fun x=>okK (bM x) fun xs=>jh e ts b G xs fun ys=>K (.list ys)
 | _=>False
noncomputable def one {α:Type} (xs:List V) (f:V→Option α):Option α:=match xs with
 | [x]=>f x
 | _=>none
noncomputable def two {α:Type} (xs:List V) (f:V→V→Option α):Option α:=match xs with
 | [x,y]=>f x y
 | _=>none
noncomputable def yU (lo hi:Bool) (xs:List V):Option V:=match xs,lo,hi with
 | [x],false,false=>dN x none none
 | [x,y],true,false=>dN x (some y) none
 | [x,y],false,true=>dN x none (some y)
 | [x,y,z],true,true=>dN x (some y) (some z)
 | _,_,_=>none
noncomputable def u7 (l r:List V):List V:=List.zipWith (fun a b=>.tuple [a,b]) l r
noncomputable def iT (x:V):Option (List V):=match x with
 | .list l=>dI l l
 | .tuple l=>dI l l
 | _=>none
noncomputable def kOf (x:V):Sc:=match x with
 | .int i=>.inl i
 | .str t=>.inr t
 | _=>.inl 0
noncomputable def jR (x:V):Bool:=match x with
 | .tuple (.str s :: l)=>(aL (.str s)&&l.all aL)
 | _=>false
noncomputable def aO (x:V):List Sc:=match x with
 | .tuple l=>l.map kOf
 | _=>[]
noncomputable def ltK:List Sc→List Sc→Bool
 | k :: ks,m :: ms=>if k=m then ltK ks ms else k.isLeft==m.isLeft
 | _,_=>true
noncomputable def gU:Sc→Sc→Bool
 | .inl a,.inl b=>decide (a < b)
 | .inr x,.inr y=>decide (x.cps.toList < y.cps.toList)
 | .inl _,.inr _=>true
 | .inr _,.inl _=>false
noncomputable def bJ:List Sc→List Sc→Bool
 | k :: ks,m :: ms=>if k=m then bJ ks ms else gU k m
 | [],_ :: _=>true
 | _,[]=>false
theorem lex_cc (k m:Sc) (ks ms:List Sc):bJ (k :: ks) (m :: ms)=if k=m then bJ ks ms else gU k m:=rfl
theorem zo (k m:Sc) (ks ms:List Sc):ltK (k :: ks) (m :: ms)=if k=m then ltK ks ms else k.isLeft==m.isLeft:=rfl
def km (r:List V):Prop:=r.Pairwise fun x y=>bJ (aO y) (aO x)=false
noncomputable def vg (x:V):Option Nat:=match x with
 | .str s=>if s.cps.toList.Nodup∧s.cps.size < 4000 then some s.cps.size else none
 | .list l=>(gc l).bind fun is=>if is.Nodup∧is.length < 4000 then some is.length else none
 | _=>none
noncomputable def pH (kvs:List (V×V)):Bool:=match kvs with
 | (.none,_) :: _=>true
 | _=>false
noncomputable def gz (c:Nat):V:=.dict [(.int c,.none)]
noncomputable def lW (x:V):Option Nat:=match x with
 | .dict [(.int c,.none)]=>some c.toNat
 | _=>none
noncomputable def noX (x:V):Bool:=(lW x).isNone
noncomputable def opN (o:Op) (xs:List V):Option V:=match o with
 | .bin o=>two xs (tK o)
 | .neg=>one xs fun x=>oq x fun i=>some (.int (-i))
 | .tuple=>dI xs (.tuple xs)
 | .list=>dI xs (.list xs)
 | .sub=>two xs g8
 | .slice lo hi=>yU lo hi xs
 | .attr j=>one xs fun x=>match x with | .dict kvs=>if pH kvs=true then (kvs[j]?).map (·.2) else none | _=>none
 | .isinst t=>one xs fun x=>(isT x t).map .bool
 | .len=>one xs fun x=>(wB x).map fun l=>.int l.length
 | .listOf=>one xs fun x=>(iT x).map .list
 | .isExc _ tb=>one xs fun x=>((lW x).bind fun e=>tb[e]?).map .bool
 | .edict=>match xs with | []=>some (.dict []) | _=>none
 | .lenSet=>one xs fun x=>(vg x).map fun (n:Nat)=>PyData.int n
 | .join=>two xs fun x y=>vf x fun sep=>hM y fun l=>(fU l).bind fun ss=>if (ss.map List.length).sum+ss.length * sep.length≤ai then some (text (hO sep ss)) else none
 | .count=>two xs fun x y=>hM x fun l=>if (dD y&&dD (.list l))=true then some (.int (l.countP fun z=>PyData.eqv z y)) else none
 | .range=>match xs with
  | [x]=>oq x fun b=>mE 0 b
  | [x,y]=>oy x y mE
  | _=>none
 | .zip=>two xs fun x y=>(iT x).bind fun l=>(iT y).map fun r=>.list (u7 l r)
 | _=>none
noncomputable def isStr (x:V):Bool:=match x with
 | .str _=>true
 | _=>false
noncomputable def w6 (x:V):Bool:=match x with
 | .bool _=>true
 | _=>false
noncomputable def j5 (x:V):Bool:=match x with
 | .list _=>true
 | _=>false
def BP (ok:V→Bool) (ds:List D) (G:Gs) (f:V→V→Prop):Prop:=match ds with
 | [a,b]=>a G fun x=>ok x=true∧b G fun y=>f x y
 | _=>False
noncomputable def pJ (l:List V):V:=.dict (l.map fun x=>(.none,x))
noncomputable def qv (x:V):Bool:=match x with
 | .dict kvs=>pH kvs
 | _=>false
def bA (cf:aj) (o:Op) (ds:List D) (G:Gs) (K:V→Prop):Prop:=match o with
 | .lit x=>K x
 | .var k=>okK (xI G k) K
 | .own k=>okK (bE G k) fun l=>K (.list l)
 | .cmp o=>bY ds G fun xs=>okK (two xs (aT o)) fun b=>K (.bool b)
 | .not=>gW ds G fun x=>okK (c6 x some) fun b=>K (.bool (!b))
 | .chain lt=>Aa lt ds G K
 | .and=>ci true ds G fun b=>K (.bool b)
 | .or=>ci false ds G fun b=>K (.bool b)
 | .call f=>bY ds G fun xs=>cf f xs fun y=>noX y=true∧K y
 | .meth f=>gW ds G fun x=>qv x=true∧cf f [x] fun y=>noX y=true∧K y
 | .sorted=>gW ds G fun x=>okK (hM x gc) fun is=>is.length < 64∧∀ r:List Int,r.Perm is→r.Pairwise (·≤·)→K (.list (r.map .int))
 | .sortedSet=>gW ds G fun x=>okK (hM x some) fun l=>(l.all jR&&decide (l.length≤ai))=true∧(∀ x∈l,∀ y∈l,ltK (aO x) (aO y)=true)∧(∃ m:List V,m.length < 128∧∀ x∈l,x∈m)∧∀ r:List V,r.Nodup→(∀ y,y∈r ↔ y∈l)→((∃ m:List V,m.length < 64∧∀ x∈l,x∈m)→km r)→K (.list r)
 | .lenL k=>okK (bE G k) fun l=>l.length≤ai∧K (.int l.length)
 | .lend k=>okK (bE G k) fun l=>gW ds (G.set k (.v (.list l))) fun x=>okK (c6 x some) fun b=>K (.bool b)
 | .comp k=>tJ (jV k) ds G K
 | .compM ks=>tJ (aW ks) ds G K
 | .join=>BP isStr ds G fun x y=>okK (opN .join [x,y]) K
 | .count=>BP j5 ds G fun x y=>okK (opN .count [x,y]) K
 | o=>bY ds G fun xs=>okK (opN o xs) K
noncomputable def ev (cf:aj) (e:E):D:=
 E.rec (motive_1:=fun _=>D) (motive_2:=fun _=>List D) (fun o _ ih=>bA cf o ih) [] (fun _ _ i is=>i :: is) e
noncomputable def jb (b:Gs→V→Option Gs) (A:B) (xs:List V):B:=
 List.rec (motive:=fun _=>B) (fun G K=>K none G)
  (fun x _ ih G K=>okK (b G x) fun G'=>A G' fun fl G''=>match fl with | none=>ih G'' K | some y=>noX y=true∧K (some y) G'') xs
def AM (cf:aj) (j k f:Nat) (ds:List D) (G:Gs) (K:Option V→Gs→Prop):Prop:=match ds with
 | [a,b,c]=>a G fun x=>okK (bE G k) fun l=>l.length≤ai∧okK l.getLast? fun y=>b (G.set k (.ownL l.dropLast)) fun u=>c (G.set k (.ownL l.dropLast)) fun w=>cf f [x,y,u,w] fun z=>noX z=true∧K none ((G.set k (.ownL l.dropLast)).set j (.v z))
 | _=>False
def AL (j k:Nat) (ds:List D) (G:Gs) (K:Option V→Gs→Prop):Prop:=match ds with
 | [d,a,b,c]=>d G fun D=>a G fun x=>b G fun y=>okK (bE G k) fun l=>l.length≤ai∧okK l.getLast? fun z=>c (G.set k (.ownL l.dropLast)) fun w=>[x,y,z,w].length≤ai∧okK (g8 D (.tuple [x,y,z,w])) fun r=>K none ((G.set k (.ownL l.dropLast)).set j (.v r))
 | _=>False
def d8 (sup:Nat→Nat→Bool) (cf:aj) (o:SOp) (ds:List D) (X Y:B) (G:Gs) (K:Option V→Gs→Prop):Prop:=match o with
 | .assign k=>gW ds G fun x=>K none (G.set k (.v x))
 | .assignM ks=>gW ds G fun x=>okK (aW ks G x) (K none)
 | .ownL k=>bY ds G fun xs=>xs.length≤ai∧K none (G.set k (.ownL xs))
 | .ownD k=>K none (G.set k (.ownD []))
 | .append k=>okK (bE G k) fun l=>gW ds G fun x=>l.length < ai∧K none (G.set k (.ownL (l++[x])))
 | .setD k=>okK (iU G k) fun l=>bY ds G fun xs=>okK (two xs fun v x=>if (dp x&&decide (l.length < ai))=true then some (lM l x v) else none) fun l'=>K none (G.set k (.ownD l'))
 | .setAttr k j=>gW ds G fun x=>j5 x=false∧okK (dU G k) fun l=>l.length=j∧K none (G.set k (.ownI (l++[x])))
 | .setAttrN k j=>gW ds G fun x=>okK (dU G k) fun l=>l.length=j∧K none (G.set k (.ownI (l++[x])))
 | .call f=>bY ds G fun xs=>cf f xs fun y=>if noX y=true then isNone y=true∧K none G else K (some y) G
 | .ret=>gW ds G fun x=>noX x=true∧K (some x) G
 | .tryE f c k=>bY ds G fun xs=>cf f xs fun y=>match lW y with
  | none=>w6 y=true∧K none G
  | some d=>sup d c=true∧X (G.set k (.v y)) fun fl G'=>(match fl with | some x=>noX x=true | none=>False)∧K fl (G'.set k .unset)
 | .popC j k f=>AM cf j k f ds G K
 | .popS j k=>AL j k ds G K
 | .ite=>gW ds G fun x=>okK (c6 x some) fun t=>if t=true then X G K else Y G K
 | .forS k=>gW ds G fun x=>okK (bM x) fun xs=>jb (jV k) X xs G K
 | .forM ks=>gW ds G fun x=>okK (bM x) fun xs=>jb (aW ks) X xs G K
 | .freeze k=>okK (bE G k) fun l=>K none (G.set k (.v (.list l)))
 | .freezeD k=>okK (iU G k) fun l=>K none (G.set k (.v (.dict l)))
 | .raise c=>K (some (gz c)) G
noncomputable def ex (sup:Nat→Nat→Bool) (cf:aj) (s:S):B:=
 S.rec (motive_1:=fun _=>B) (motive_2:=fun _=>B) (fun o es _ _ x y=>d8 sup cf o (es.map (ev cf)) x y) (fun G K=>K none G)
  (fun _ _ i is G K=>i G fun fl G'=>match fl with | none=>is G' K | some x=>K (some x) G') s
noncomputable def exs (sup:Nat→Nat→Bool) (cf:aj) (l:List S):B:=
 List.rec (motive:=fun _=>B) (fun G K=>K none G) (fun s _ is G K=>ex sup cf s G fun fl G'=>match fl with | none=>is G' K | some x=>K (some x) G') l
structure Fn where
 npar:Nat
 nslots:Nat
 init:Bool
 body:List S
structure Prog where
 fns:List Fn
 sup:Nat→Nat→Bool
noncomputable def cP (fn:Fn) (args:List V):Gs:=(if fn.init=true then [.ownI []] else [])++args.map .v++List.replicate (fn.nslots - fn.npar) .unset
noncomputable def am (P:Prog) (d:Nat):aj:=
 Nat.rec (motive:=fun _=>aj) (fun _ _ _=>False)
  (fun _ cf f args K=>okK (P.fns[f]?) fun fn=>args.length+(if fn.init=true then 1 else 0)=fn.npar∧exs P.sup cf fn.body (cP fn args) fun fl G=>
   if fn.init=true then (match fl with | none=>okK (dU G 0) fun l=>l.length=5∧K (pJ l) | some y=>noX y=false∧K y) else K (fl.getD .none)) d
end Mine
end
noncomputable section
namespace Mine
open PySem PySem.Calls PyProof.Rows PySem.W
noncomputable def qu (a:List Nat):List Nat→Bool:=List.rec (motive:=fun _=>List Nat→Bool) (fun b=>match b with | []=>true | _=>false) (fun x _ ih b=>match b with | []=>false | y :: r=>Nat.beq x y&&ih r) a
theorem listEq_iff:∀ a b:List Nat,qu a b=true ↔ a=b
 | [],[]=>⟨fun _=>rfl,fun _=>rfl⟩
 | [],_ :: _=>⟨fun h=>(nomatch h),fun h=>(nomatch h)⟩
 | _ :: _,[]=>⟨fun h=>(nomatch h),fun h=>(nomatch h)⟩
 | x :: a,y :: b=>by
  refine (?_:(Nat.beq x y&&qu a b)=true ↔ _)
  rw [Bool.and_eq_true,listEq_iff a b,Nat.beq_eq,List.cons.injEq]
set_option warn.classDefReducibility false in
noncomputable def lU:BEq Str:=⟨fun a b=>qu a.cps.toList b.cps.toList⟩
theorem rS:lU=instBEqOfDecidableEq:=congrArg BEq.mk (funext fun a=>funext fun b=>by
 rw [Bool.eq_iff_iff,listEq_iff,decide_eq_true_iff]
 exact ⟨fun h=>by cases a; cases b; exact congrArg Str.mk (Array.toList_inj.mp h),fun h=>by rw [h]⟩)
noncomputable def qo [BEq Str]:List Str→Bool
 | []=>true
 | x :: r=>!r.elem x&&qo r
theorem nW:∀ {l:List Str},qo l=true→l.Nodup
 | [],_=>List.nodup_nil
 | x :: r,h=>by
  have h:=zA2 h
  exact List.nodup_cons.mpr ⟨fun m=>by rw [List.elem_iff.mpr m] at h; exact (nB h.1),nW h.2⟩
noncomputable def aV [BEq Str] (x:Str):Bool:=!(x==("__debug__" : Str))&&!(x==("__classdict__" : Str))
noncomputable def bH:List (Str×Value):=[("len",.builtin "len"),("isinstance",.builtin "isinstance"),("str",.type "str"),("int",.type "int"),("bool",.type "bool"),("list",.type "list"),("tuple",.type "tuple"),
 ("set",.type "set"),("range",.type "range"),("zip",.type "zip"),("sorted",.builtin "sorted"),("ValueError",.type "ValueError")]
noncomputable def bx (e:Expr):Bool:=e.ctorIdx != 7
noncomputable def ao (e:Expr):Bool:=e.ctorIdx != 22
noncomputable def bz [BEq Str] (sc:List (Str×NameKind)) (x:Str):Bool:=(sc.lookup x==some .globalImplicit)&&aV x
noncomputable def r5 (c:Const) (x:V):Bool:=match x with
 | .none=>c==.none
 | .bool b=>c==.bool b
 | .int i=>c==.int i
 | .str t=>c==.str t
 | _=>false
noncomputable def cx (e:Expr):Bool:=!(Nat.ble 8 e.ctorIdx&&Nat.ble e.ctorIdx 10)
noncomputable def mI (e:Expr):Bool:=cx e&&e.ctorIdx != 25
noncomputable def g9 [BEq Str] (sc names:List (Str×NameKind)):List (Str×NameKind):=names.map fun (n,k)=>if k==.free&&sc.lookup n==some .cell then (n,.cell) else (n,k)
structure Sx where
 sc:List (Str×NameKind)
 ρ:List (Str×Nat)
 nf:Nat
 ns:Nat
 hm:Bool
 nw:Bool
inductive Pz where
 | val
 | test
 | new
 | src (st:Bool) (T:Expr)
 | asg (y:Str) (py sp:Pos)
noncomputable abbrev Kid:=Sx×Pz×Expr
structure Zx where
 fns:List (Str×Nat)
 cons:List (Str×V)
 flds:List Str
 meths:List (Str×Nat)
 clss:List (Str×Nat)
 nc:Nat
 sup:Nat→Nat→Bool
 safe:Nat→Bool
 newf:Nat→Bool
 cf:Nat
noncomputable def cq (xs:List Expr):Bool:=xs.all ao
noncomputable def bf (x:Expr):Option (Str×Pos):=if h:x.ctorIdx=23 then some (Expr.Name.elim (motive_1:=fun _=>Str×Pos) x h fun n p=>(n,p)) else none
noncomputable def oY (x:Expr):Option (List Expr×Nat×Pos):=if h:x.ctorIdx=25 then some (Expr.Tuple.elim (motive_1:=fun _=>List Expr×Nat×Pos) x h fun xs k p=>(xs,k,p)) else none
noncomputable def wn (x:Expr):Option (List Expr×Pos):=if h:x.ctorIdx=24 then some (Expr.List.elim (motive_1:=fun _=>List Expr×Pos) x h fun xs p=>(xs,p)) else none
noncomputable def tM (x:Expr):Option (Expr×Expr×Pos):=if h:x.ctorIdx=21 then some (Expr.Subscript.elim (motive_1:=fun _=>Expr×Expr×Pos) x h fun v s p=>(v,s,p)) else none
noncomputable def xK (x:Expr):Option (Option Expr×Option Expr×Option Expr×Pos):=if h:x.ctorIdx=26 then some (Expr.Slice.elim (motive_1:=fun _=>Option Expr×Option Expr×Option Expr×Pos) x h fun l u st p=>(l,u,st,p)) else none
noncomputable def iG (x:Expr):Option (Expr×List Expr×List Keyword×Pos):=if h:x.ctorIdx=16 then some (Expr.Call.elim (motive_1:=fun _=>Expr×List Expr×List Keyword×Pos) x h fun u xs ks p=>(u,xs,ks,p)) else none
noncomputable def b8 (e:Expr):Bool:=e.ctorIdx==19||e.ctorIdx==23||(iG e).any fun c=>!c.2.1.isEmpty
noncomputable def kg (x:Expr):Option (Expr×Str×Pos):=if h:x.ctorIdx=20 then some (Expr.Attribute.elim (motive_1:=fun _=>Expr×Str×Pos) x h fun o n q=>(o,n,q)) else none
noncomputable def oZ (x:Expr):Option (List (Option Expr)×List Expr×Pos):=if h:x.ctorIdx=6 then some (Expr.Dict.elim (motive_1:=fun _=>List (Option Expr)×List Expr×Pos) x h fun ks vs p=>(ks,vs,p)) else none
noncomputable def kD {α:Type}:List α→Option α
 | [y]=>some y
 | _=>none
noncomputable def two? {α:Type}:List α→Option (α×α)
 | [y,z]=>some (y,z)
 | _=>none
noncomputable def x0 (x y:V):Bool:=match x with
 | .int i=>(match y with | .int j=>i==j | _=>false)
 | .str s=>(match y with | .str t=>s==t | _=>false)
 | _=>false
noncomputable def jS (x:Expr):Option (Const×Nat×Pos):=if h:x.ctorIdx=19 then some (Expr.Constant.elim (motive_1:=fun _=>Const×Nat×Pos) x h fun c k p=>(c,k,p)) else none
noncomputable def xN (x:Expr):Option (Expr×Operator×Expr×Pos):=if h:x.ctorIdx=2 then some (Expr.BinOp.elim (motive_1:=fun _=>Expr×Operator×Expr×Pos) x h fun l o r p=>(l,o,r,p)) else none
noncomputable def wt (x:Expr):Option (Expr×List CmpOp×List Expr×Pos):=if h:x.ctorIdx=15 then some (Expr.Compare.elim (motive_1:=fun _=>Expr×List CmpOp×List Expr×Pos) x h fun l o r p=>(l,o,r,p)) else none
noncomputable def o6 (x:Expr):Option (BoolOp×List Expr×Pos):=if h:x.ctorIdx=0 then some (Expr.BoolOp.elim (motive_1:=fun _=>BoolOp×List Expr×Pos) x h fun o xs p=>(o,xs,p)) else none
noncomputable def vUn (x:Expr):Option (UnaryOp×Expr×Pos):=if h:x.ctorIdx=3 then some (Expr.UnaryOp.elim (motive_1:=fun _=>UnaryOp×Expr×Pos) x h fun o y p=>(o,y,p)) else none
noncomputable def o5 (x:Expr):Option (Expr×List Comprehension×Scope×Pos):=if h:x.ctorIdx=8 then some (Expr.ListComp.elim (motive_1:=fun _=>Expr×List Comprehension×Scope×Pos) x h fun y gs sc p=>(y,gs,sc,p)) else none
@[irreducible] def nCall [BEq Str] (X:Sx) (nm:Str) (x:Expr) (f:List Expr→Bool):Bool:=(iG x).any fun c=>(bf c.1).any fun n=>n.1==nm&&(bz X.sc nm&&(c.2.2.1.isEmpty&&f c.2.1))
noncomputable def dZ [BEq Str] (X:Sx) (nm:Str) (x:Expr) (f:Expr→Bool):Bool:=nCall X nm x fun xs=>(kD xs).any f
@[irreducible] def mCall (x:Expr) (f:Expr→Str→List Expr→Bool):Bool:=(iG x).any fun c=>(kg c.1).any fun a=>c.2.2.1.isEmpty&&(a.2.2.endLine==c.2.2.2.line&&f a.1 a.2.1 c.2.1)
noncomputable def qt [BEq Str] (X:Sx) (k:List Kid→Bool) (nm:Str) (x:Expr):Bool:=mCall x fun y n xs=>n==nm&&(b8 y&&(kD xs).any fun e=>ao e&&k [(X,.val,y),(X,.val,e)])
noncomputable def ji [BEq Str] (X:Sx) (scope:Scope) (x x':Str):Bool:=scope.kind==.function&&(scope.names.lookup x==some .local&&(scope.names.lookup x'==some .local&&(scope.names.all (fun p=>p.2 != .cell)&&(scope.names.all (fun p=>p.2 != .local||scope.names.lookup p.1==some .local)&&(scope.names.all (fun p=>p.2 != .free||((X.sc.lookup p.1==some .cell||X.sc.lookup p.1==some .free)&&(X.ρ.lookup p.1).isSome))&&decide (X.nf+2≤X.ns))))))
noncomputable def Sx.comp [BEq Str] (X:Sx) (scope:Scope) (x x':Str):Sx:=⟨g9 X.sc scope.names,(x,X.nf) :: (x',X.nf+1) :: X.ρ.filter (fun p=>scope.names.lookup p.1==some .free),X.nf+2,X.ns,X.hm,X.nw⟩
@[irreducible] def cCall [BEq Str] (Z:Zx) (X:Sx) (f:Nat) (x:Expr) (k:List Expr→Bool):Bool:=(iG x).any fun c=>(bf c.1).any fun n=>Z.fns.lookup n.1==some f&&(bz X.sc n.1&&((!X.hm||Z.safe f)&&(c.2.2.1.isEmpty&&k c.2.1)))
noncomputable def AU:Pz→Bool
 | .val=>true
 | _=>false
noncomputable def isComp (o:Op):Bool:=o.ctorIdx==(Op.comp 0).ctorIdx||o.ctorIdx==(Op.compM []).ctorIdx
section
variable [BEq Str] (Z:Zx) (o:Op) (k:List Kid→Bool) (X:Sx)
noncomputable def j9 (p:Pz) (x:Expr):Bool:=match o with
 | .lit v=>(jS x).any (fun q=>r5 q.1 v&&k [])||(bf x).any fun m=>bz X.sc m.1&&((Z.cons.lookup m.1).any (x0 v)&&k [])
 | .var j=>(bf x).any fun m=>X.ρ.lookup m.1==some j&&(aV m.1&&k [])
 | .bin op=>(xN x).any fun q=>decide (op=q.2.1)&&k [(X,.val,q.1),(X,.val,q.2.2.1)]
 | .cmp c=>(wt x).any fun q=>(kD q.2.1).any fun c'=>decide (c=c')&&(kD q.2.2.1).any fun r=>bx r&&k [(X,.val,q.1),(X,.val,r)]
 | .chain lt=>(wt x).any fun q=>(two? q.2.1).any fun c=>decide (.LtE=c.1)&&(decide ((if lt=true then CmpOp.Lt else .LtE)=c.2)&&(two? q.2.2.1).any fun r=>bx r.2&&k [(X,.val,q.1),(X,.val,r.1),(X,.val,r.2)])
 | .and=>(o6 x).any fun q=>decide (.And=q.1)&&(!q.2.1.isEmpty&&k (q.2.1.map fun x=>(X,p,x)))
 | .or=>(o6 x).any fun q=>decide (.Or=q.1)&&(!q.2.1.isEmpty&&k (q.2.1.map fun x=>(X,p,x)))
 | .not=>(vUn x).any fun q=>decide (.Not=q.1)&&k [(X,p,q.2.1)]
 | .neg=>(vUn x).any fun q=>decide (.USub=q.1)&&(AU p&&k [(X,.val,q.2.1)])
 | .tuple=>(oY x).any fun q=>cq q.1&&k (q.1.map fun x=>(X,.val,x))
 | .list=>(wn x).any fun q=>cq q.1&&k (q.1.map fun x=>(X,.val,x))
 | .sub=>(tM x).any fun q=>k [(X,.val,q.1),(X,.val,q.2.1)]
 | .slice bl bh=>(tM x).any fun v=>(xK v.2.1).any fun q=>q.2.2.1.isNone&&(q.1.isSome==bl&&(q.2.1.isSome==bh&&k ((X,.val,v.1) :: (q.1.toList++q.2.1.toList).map fun x=>(X,.val,x))))
 | .attr j=>(kg x).any fun q=>b8 q.1&&(Z.flds[j]?==some q.2.1&&k [(X,.val,q.1)])
 | .comp j=>!X.hm&&(o5 x).any fun q=>(kD q.2.1).any fun c=>c.is_async==0&&(bf c.target).any fun n=>ji X q.2.2.1 n.1 n.1&&(j==X.nf&&(bx c.iter&&k ((X,.src false (.Name n.1 n.2),c.iter) :: (X.comp q.2.2.1 n.1 n.1,.val,q.1) :: c.ifs.map fun x=>(X.comp q.2.2.1 n.1 n.1,.test,x))))
 | .compM js=>!X.hm&&(o5 x).any fun q=>(kD q.2.1).any fun c=>c.is_async==0&&(oY c.target).any fun T=>(two? T.1).any fun y=>(bf y.1).any fun n=>(bf y.2).any fun n'=>ji X q.2.2.1 n.1 n'.1&&(!(n'.1==n.1)&&(js==[X.nf,X.nf+1]&&(bx c.iter&&k ((X,.src false (.Tuple [.Name n.1 n.2,.Name n'.1 n'.2] T.2.1 T.2.2),c.iter) :: (X.comp q.2.2.1 n.1 n'.1,.val,q.1) :: c.ifs.map fun x=>(X.comp q.2.2.1 n.1 n'.1,.test,x)))))
 | .lenL j=>dZ X "len" x fun y=>(bf y).any fun m=>X.ρ.lookup m.1==some j&&aV m.1
 | .lend _=>k [(X,p,x)]
 | .isinst t=>nCall X "isinstance" x fun xs=>(two? xs).any fun y=>ao y.1&&(bf y.2).any fun T=>bz X.sc T.1&&((iH[t]?).any (fun T'=>T.1==Str.ofString T')&&k [(X,.val,y.1)])
 | .len=>dZ X "len" x fun y=>ao y&&k [(X,.val,y)]
 | .lenSet=>!X.hm&&dZ X "len" x fun y=>dZ X "set" y fun z=>ao z&&k [(X,.val,z)]
 | .listOf=>dZ X "list" x fun y=>ao y&&k [(X,.val,y)]
 | .sorted=>dZ X "sorted" x fun y=>ao y&&k [(X,.val,y)]
 | .sortedSet=>!X.hm&&dZ X "sorted" x fun y=>dZ X "set" y fun z=>ao z&&k [(X,.val,z)]
 | .call f=>cCall Z X f x fun xs=>cq xs&&k (xs.map fun x=>(X,.val,x))
 | .join=>qt X k "join" x
 | .count=>qt X k "count" x
 | .meth f=>mCall x fun y nm xs=>b8 y&&(xs.isEmpty&&((!X.hm||Z.safe f)&&(Z.meths.lookup nm==some f&&k [(X,.val,y)])))
 | .isExc c tb=>nCall X "isinstance" x fun xs=>(two? xs).any fun y=>ao y.1&&(bf y.2).any fun T=>bz X.sc T.1&&((Z.clss.lookup T.1==some c||(T.1==("ValueError" : Str)&&c==Z.nc))&&((List.range Z.nc).all (fun e=>tb[e]?==some (Z.sup e c))&&k [(X,.val,y.1)]))
 | .edict=>(oZ x).any fun q=>q.1.isEmpty&&(q.2.1.isEmpty&&k [])
 | _=>false
noncomputable def Ax (f:Str) (x:Expr):Bool:=nCall X f x fun xs=>cq xs&&k (xs.map fun x=>(X,.val,x))
noncomputable def yx (x:Expr):Bool:=cx x&&j9 Z o k X .val x||isComp o&&j9 Z o k X .val x
noncomputable def BN:Bool:=match o with
 | .tuple=>true
 | .listOf=>true
 | .sorted=>true
 | .sortedSet=>true
 | .call f=>Z.newf f
 | .meth f=>Z.newf f
 | _=>false
noncomputable def yw (p:Pz) (x:Expr):Bool:=match p with
 | .val=>j9 Z o k X .val x
 | .test=>j9 Z o k X .test x
 | .new=>BN Z o&&j9 Z o k X .val x
 | .src st T=>!X.hm&&(match o with
  | .own j=>!st&&(bf x).any fun m=>X.ρ.lookup m.1==some j&&(aV m.1&&k [])
  | .range=>Ax k X "range" x
  | .zip=>(oY T).any fun _=>Ax k X "zip" x
  | _=>j9 Z o k X .val x)
 | .asg _ _ _=>yx Z o k X x
end
noncomputable abbrev Ck:=Kid→Bool
noncomputable def pE (cs:List Ck):List Kid→Bool:=
 List.rec (motive:=fun _=>List Kid→Bool) (fun ts=>ts.isEmpty) (fun c _ ih ts=>match ts with | []=>false | t :: r=>c t&&ih r) cs
noncomputable def xE [BEq Str] (Z:Zx) (e:E):Ck:=
 E.rec (motive_1:=fun _=>Ck) (motive_2:=fun _=>List Ck) (fun o _ ih t=>yw Z o (pE ih) t.1 t.2.1 t.2.2) [] (fun _ _ i is=>i :: is) e
noncomputable def iI [BEq Str] (X:Sx) (m:Str) (j:Nat):Bool:=X.ρ.lookup m==some j&&!(X.sc.lookup m==some .free)
noncomputable def mC [BEq Str] (X:Sx):List Expr→List Nat→Bool
 | [],js=>js.isEmpty
 | t :: r,js=>(bf t).any fun m=>match js with | []=>false | j :: q=>iI X m.1 j&&mC X r q
noncomputable def kB (x:Stmt) (f:Expr→Expr→Pos→Bool):Bool:=if h:x.ctorIdx=5 then Stmt.Assign.elim (motive_2:=fun _=>Bool) x h fun ts v p=>(kD ts).any fun t=>f t v p else false
noncomputable def vd (x:Stmt) (f:Expr→Bool):Bool:=if h:x.ctorIdx=24 then Stmt.Expr.elim (motive_2:=fun _=>Bool) x h fun e _=>f e else false
noncomputable def xL (x:Stmt) (f:Expr→Bool):Bool:=if h:x.ctorIdx=3 then Stmt.Return.elim (motive_2:=fun _=>Bool) x h fun e _=>e.any f else false
noncomputable def xM (x:Stmt) (f:Expr→List Stmt→List Stmt→Bool):Bool:=if h:x.ctorIdx=12 then Stmt.If.elim (motive_2:=fun _=>Bool) x h fun c a b _=>f c a b else false
noncomputable def wq (x:Stmt) (f:Expr→Expr→List Stmt→Bool):Bool:=if h:x.ctorIdx=9 then Stmt.For.elim (motive_2:=fun _=>Bool) x h fun T it body el _=>el.isEmpty&&f T it body else false
noncomputable def vRs (x:Stmt) (f:Expr→Bool):Bool:=if h:x.ctorIdx=16 then Stmt.Raise.elim (motive_2:=fun _=>Bool) x h fun e c _=>c.isNone&&e.any f else false
noncomputable def xJ (x:Stmt) (f:Stmt→Option Expr→Option Str→List Stmt→Bool):Bool:=if h:x.ctorIdx=17 then Stmt.Try.elim (motive_2:=fun _=>Bool) x h fun bd hs el fi _=>el.isEmpty&&(fi.isEmpty&&(kD bd).any fun b=>(kD hs).any fun hd=>match hd with | .ExceptHandler t n hb _=>f b t n hb) else false
noncomputable def vU {α:Type}:List α→Option (α×α×α×α)
 | [a,b,c,d]=>some (a,b,c,d)
 | _=>none
noncomputable def Al [BEq Str] (X:Sx) (i:Nat) (x:Expr):Bool:=mCall x fun y nm xs=>nm==("pop" : Str)&&(xs.isEmpty&&(bf y).any fun m=>X.ρ.lookup m.1==some i&&aV m.1)
noncomputable abbrev CkS:=Sx→List Stmt→Bool
noncomputable abbrev CkM:=Sx→List Stmt→(List Stmt→Bool)→Bool
noncomputable def BM (c:Stmt→Bool) (rest:List Stmt→Bool):List Stmt→Bool
 | []=>false
 | x :: r=>c x&&rest r
section
variable [BEq Str] (Z:Zx) (o:SOp) (k:List Kid→Bool) (ca cb:CkS) (X:Sx)
noncomputable def v9 (x:Stmt):Bool:=match o with
 | .assign j=>kB x fun t v p=>(bf t).any fun m=>iI X m.1 j&&k [(X,.asg m.1 m.2 p,v)]
 | .assignM js=>!X.hm&&kB x fun t v p=>(oY t).any fun q=>mC X q.1 js&&(mI v&&k [(X,.val,v)])
 | .ownL j=>kB x fun t v p=>(bf t).any fun m=>iI X m.1 j&&(wn v).any fun q=>cq q.1&&k (q.1.map fun x=>(X,.val,x))
 | .ownD j=>kB x fun t v p=>(bf t).any fun m=>iI X m.1 j&&(oZ v).any fun q=>q.1.isEmpty&&(q.2.1.isEmpty&&k [])
 | .setD j=>kB x fun t v p=>(tM t).any fun q=>(bf q.1).any fun m=>X.ρ.lookup m.1==some j&&(aV m.1&&(mI v&&k [(X,.val,v),(X,.val,q.2.1)]))
 | .setAttr i j=>kB x fun t v p=>(kg t).any fun u=>(bf u.1).any fun m=>X.ρ.lookup m.1==some i&&(aV m.1&&(Z.flds[j]?==some u.2.1&&(cx v&&k [(X,.val,v)])))
 | .setAttrN i j=>kB x fun t v p=>(kg t).any fun u=>(bf u.1).any fun m=>X.ρ.lookup m.1==some i&&(aV m.1&&(Z.flds[j]?==some u.2.1&&(cx v&&k [(X,.new,v)])))
 | .call f=>vd x fun e=>cCall Z X f e fun xs=>cq xs&&k (xs.map fun x=>(X,.val,x))
 | .append j=>vd x fun e=>mCall e fun y nm xs=>nm==("append" : Str)&&((kD xs).any (fun e=>ao e&&k [(X,.val,e)])&&(bf y).any fun m=>X.ρ.lookup m.1==some j&&aV m.1)
 | .ret=>xL x fun e=>if X.nw then k [(X,.new,e)] else k [(X,.val,e)]
 | .tryE f c j=>xJ x fun b t n hb=>!X.hm&&(t.any fun t=>(bf t).any fun C=>bz X.sc C.1&&(Z.clss.lookup C.1==some c&&n.any fun n=>X.ρ.lookup n==some j&&(X.sc.lookup n==some .local&&(!hb.isEmpty&&(ca { X with hm:=true } hb&&vd b fun e=>cCall Z X f e fun xs=>cq xs&&k (xs.map fun x=>(X,.val,x)))))))
 | .popC j i f=>!X.hm&&kB x fun t v p=>(bf t).any fun m=>iI X m.1 j&&cCall Z X f v fun xs=>(vU xs).any fun y=>Al X i y.2.1&&(cq [y.1,y.2.2.1,y.2.2.2]&&k [(X,.val,y.1),(X,.val,y.2.2.1),(X,.val,y.2.2.2)])
 | .popS j i=>!X.hm&&kB x fun t v p=>(bf t).any fun m=>iI X m.1 j&&(tM v).any fun q=>(oY q.2.1).any fun T=>(vU T.1).any fun y=>Al X i y.2.2.1&&(cq [y.1,y.2.1,y.2.2.2]&&k [(X,.val,q.1),(X,.val,y.1),(X,.val,y.2.1),(X,.val,y.2.2.2)])
 | .ite=>xM x fun c a b=>k [(X,.test,c)]&&(ca X a&&cb X b)
 | .forS j=>!X.hm&&wq x fun T it body=>bx it&&(ca X body&&(bf T).any fun m=>iI X m.1 j&&k [(X,.src true (.Name m.1 m.2),it)])
 | .forM js=>!X.hm&&wq x fun T it body=>bx it&&(ca X body&&(oY T).any fun q=>mC X q.1 js&&k [(X,.src true (.Tuple q.1 q.2.1 q.2.2),it)])
 | .raise c=>!X.hm&&vRs x fun e=>(iG e).any fun u=>(bf u.1).any fun n=>bz X.sc n.1&&(Z.clss.lookup n.1==some c&&(u.2.2.1.isEmpty&&(kD u.2.1).any fun z=>(jS z).any fun q=>match q.1 with | .str _=>true | _=>false))
 | _=>false
noncomputable def wa (sts:List Stmt) (rest:List Stmt→Bool):Bool:=match o with
 | .freeze _=>rest sts
 | .freezeD _=>rest sts
 | _=>BM (v9 Z o k ca cb X) rest sts
end
noncomputable def Aw [BEq Str] (Z:Zx) (s:S):CkM:=
 S.rec (motive_1:=fun _=>CkM) (motive_2:=fun _=>CkS) (fun o es _ _ a b X sts rest=>wa Z o (pE (es.map (xE Z))) a b X sts rest) (fun _ sts=>sts.isEmpty) (fun _ _ i is X sts=>i X sts (is X)) s
noncomputable def chkSs [BEq Str] (Z:Zx) (l:List S):CkS:=List.rec (motive:=fun _=>CkS) (fun _ sts=>sts.isEmpty) (fun s _ is X sts=>Aw Z s X sts (is X)) l
noncomputable def l5 [BEq Str] (K:Frag) (cd:Value) (q:Str):Bool:=match cd with
 | .ref c=>(match K.lookup c with
  | some ⟨_,_,.fields vs,_⟩=>(match (vs[1]?:Option Value) with | some (.str q' _)=>q'==q | _=>false)
  | _=>false)
 | _=>false
noncomputable def AP:Value→Bool
 | .none=>true
 | _=>false
noncomputable abbrev gk:=List Stmt×Scope×Arguments
noncomputable def fg (K:Frag) (a:Addr):Option gk:=match K.lookup a with
 | some ⟨_,_,.func fd,_⟩=>(match fd.body with
  | .stmts body=>some (body,fd.scope,fd.params)
  | _=>none)
 | _=>none
noncomputable def qz [BEq Str] (K:Frag) (a:Addr):Bool:=match K.lookup a with
 | some ⟨_,_,.func fd,_⟩=>l5 K fd.code fd.qualname&&(fd.globals==mainGlobals&&(fd.builtins==builtinsNs&&(fd.closure.isEmpty&&AP fd.defaults)))
 | _=>false
noncomputable def jr [BEq Str] (Z:Zx) (fn:Fn) (nms:List Str) (safe nw:Bool) (b:Option gk):Bool:=match b with
 | some (body,scope,params)=>!scope.isCoroutine&&(!scope.isGenerator&&(scope.kind==.function&&(params.posonlyargs.isEmpty&&((params.args.map (·.arg))==nms.take fn.npar&&(params.kwonlyargs.isEmpty&&(params.vararg.isNone&&(params.kwarg.isNone &&
    (qo nms&&(decide (fn.npar≤nms.length)&&(decide (nms.length≤fn.nslots)&&(nms.all (fun x=>scope.names.lookup x==some .local||scope.names.lookup x==some .cell) &&
    (chkSs Z fn.body ⟨scope.names,nms.zipIdx,nms.length,fn.nslots,false,nw⟩ body&&(!safe||chkSs Z fn.body ⟨scope.names,nms.zipIdx,nms.length,fn.nslots,true,nw⟩ body)))))))))))))
 | none=>false
noncomputable def oM (K:Frag) (u:Value) (v:V):Bool:=match v with
 | .int j=>Value.isInt j u
 | .str l=>Value.isStrOf l u
 | _=>false
noncomputable def nsF [BEq Str] (K:Frag) (ns:Addr) (name:Str):Option (Option Value):=match K.lookup ns with
 | some ⟨_,_,.dict es _,_⟩=>(match es.toList.find? (fun e=>match e.key with | .str s _=>s==name | _=>false) with
   | some e=>some (some e.val)
   | none=>if es.toList.any (·.refKey) then none else some none)
 | _=>none
set_option tactic.hygienic true in
theorem vt (K:Frag) (ns:Addr) (name:Str):nsF K ns name=nsIn K ns name:=by
 unfold nsF nsIn
 split
 ·rename_i c d es n sl h
  have e:(fun e:DictEntry=>match e.key with | .str s _=>s==name | _=>false)=fun e=>e.key.isStr name:=funext fun e=>by cases e.key <;> rfl
  rw [h,e]; rfl
 ·rename_i h
  split
  ·rename_i c d es n sl h'
   exact (h c d es n sl h').elim
  ·rfl
noncomputable def qC [BEq Str] (K:Frag) (p:Str×V):Bool:=match nsF K mainGlobals p.1 with | some (some u)=>oM K u p.2 | _=>false
noncomputable def qE (K:Frag) (C:Addr) (flds:List Str):Bool:=
 findIn K (.ref C) "__getattribute__"==some (some (.builtin "object.__getattribute__"))&&(findIn K (.ref C) "__getattr__"==some none&&(findIn K (.ref C) "__setattr__"==some (some (.builtin "object.__setattr__"))&&(plainOver K C&&((clsIn K C).any (·.hasDict) &&
 (flds.all (fun x=>findIn K (.ref C) x==some none)&&(makesIn K C&&(decide flds.Nodup&&decide (flds.length≤1000))))))))
noncomputable def vC [BEq Str] (K:Frag) (C:Addr) (flds:List Str) (fn:Nat→Addr) (p:Str×Nat):Bool:=!flds.elem p.1&&(findIn K (.ref C) p.1==some (some (.ref (fn p.2)))&&(typeIn K (.ref (fn p.2))==some (.type "function")&&keepIn K (.ref (fn p.2))))
noncomputable def lE (K:Frag) (sup:Nat→Nat→Bool) (nc:Nat) (clsA:Nat→Addr) (c:Nat):Bool:=
 findIn K (.ref (clsA c)) "__getattribute__"==some (some (.builtin "BaseException.__getattribute__"))&&(findIn K (.ref (clsA c)) "__getattr__"==some none&&(hasDictIn K (clsA c)&&(findIn K (.ref (clsA c)) "__class__"==some (some (.builtin "object.__class__"))&&(mroIn K (clsA c) (.type "object")==some true&&(mroIn K (clsA c) (.type "BaseException")==some true &&
 (typeIn K (.ref (clsA c))==some (.type "type")&&(mroIn K (clsA c) (.type "ValueError")==some (sup c nc)&&(sup c c &&
 (List.range nc).all fun c'=>mroIn K (clsA c) (.ref (clsA c'))==some (sup c c')))))))))
end Mine
end
noncomputable section
namespace Mine.L03
open PySem
noncomputable def abc:Str:=⟨#[97,98,99,100,101,102,103,104,105,106,107,108,109,110,111,112,113,114,115,116,117,118,119,120,121,122]⟩
noncomputable def aR:Str:=⟨#[111,112,101,110]⟩
noncomputable def aH:Str:=⟨#[99,108,111,115,101]⟩
noncomputable def kOn:Str:=⟨#[111,110]⟩
noncomputable def k0:Str:=⟨#[]⟩
noncomputable def ii (i:Int):E:=.nd (.lit (.int i)) []
noncomputable def ss (t:Str):E:=.nd (.lit (.str t)) []
noncomputable def bb (b:Bool):E:=.nd (.lit (.bool b)) []
noncomputable def nn:E:=.nd (.lit .none) []
noncomputable def vv (k:Nat):E:=.nd (.var k) []
noncomputable def sup (e c:Nat):Bool:=c==e||c==0||c==8
noncomputable abbrev sbE (a b:E):E:=.nd .sub [a,b]
noncomputable abbrev mdE (a b:E):E:=.nd (.bin .Mod) [a,b]
noncomputable abbrev fdE (a b:E):E:=.nd (.bin .FloorDiv) [a,b]
noncomputable abbrev adE (a b:E):E:=.nd (.bin .Add) [a,b]
noncomputable abbrev mlE (a b:E):E:=.nd (.bin .Mult) [a,b]
noncomputable abbrev siE (a b:E):E:=.nd (.bin .Sub) [a,b]
noncomputable abbrev eqE (a b:E):E:=.nd (.cmp .Eq) [a,b]
noncomputable abbrev neE (a b:E):E:=.nd (.cmp .NotEq) [a,b]
noncomputable abbrev lnE (a:E):E:=.nd .len [a]
noncomputable def xx (c:Nat) (x:E):E:=.nd (.isExc c [sup 0 c,sup 1 c,sup 2 c,sup 3 c,sup 4 c,sup 5 c,sup 6 c,sup 7 c]) [x]
noncomputable def CC:List S:=[.mk .ite [.nd (.cmp .NotIn) [vv 1,ss abc]] [.mk .ret [bb false] [] []] []]
noncomputable def f0:Fn:=⟨1,2,false,[.mk .ite [.nd .or [.nd .not [.nd (.isinst 0) [vv 0]],.nd (.cmp .Gt) [(lnE (vv 0)),ii 4]]] [.mk .ret [bb false] [] []] [],
  .mk (.forS 1) [vv 0] CC [],
  .mk .ret [bb true] [] []]⟩
noncomputable def n0:List Str:=["thing", "sign"]
noncomputable def CB:List S:=[.mk .ite [.nd .not [.nd (.call 0) [vv 1]]] [.mk .ret [bb false] [] []] []]
noncomputable def f1:Fn:=⟨1,3,false,[.mk .ite [.nd .or [.nd .not [.nd (.isinst 1) [vv 0]],neE (lnE (vv 0)) (ii 3)]] [.mk .ret [bb false] [] []] [],
  .mk (.forS 1) [vv 0] CB [],
  .mk (.assign 2) [adE (adE (sbE (vv 0) (ii 0)) (sbE (vv 0) (ii 1))) (sbE (vv 0) (ii 2))] [] [],
  .mk .ret [eqE (.nd .lenSet [vv 2]) (lnE (vv 2))] [] []]⟩
noncomputable def n1:List Str:=["thing", "text", "whole"]
noncomputable def f2:Fn:=⟨1,1,false,[.mk .ite [.nd .not [.nd (.call 1) [vv 0]]] [.mk (.raise 1) [] [] []] []]⟩
noncomputable def n2:List Str:=["signs"]
noncomputable def xi:List S:=[.mk .ite [.nd (.cmp .In) [vv 1,vv 2]] [.mk .ret [vv 3] [] []] []]
noncomputable def f3:Fn:=⟨2,4,false,[.mk .ite [.nd .or [.nd .not [.nd (.isinst 0) [vv 1]],neE (lnE (vv 1)) (ii 1)]] [.mk .ret [ss k0] [] []] [],
  .mk (.forM [2,3]) [.nd .zip [vv 0,.nd .list [ss aR,ss aH,ss kOn]]] xi [],
  .mk .ret [ss k0] [] []]⟩
noncomputable def n3:List Str:=["signs", "thing", "text", "kind"]
noncomputable def CA:List S:=[.mk (.assign 4) [.nd (.call 3) [vv 0,vv 3]] [] [],
  .mk .ite [eqE (vv 4) (ss aR)] [.mk (.assign 2) [adE (vv 2) (ii 1)] [] []] [.mk .ite [eqE (vv 4) (ss aH)] [.mk (.assign 2) [siE (vv 2) (ii 1)] [] []] []],
  .mk .ite [.nd .or [(eqE (vv 4) (ss k0)),.nd (.cmp .Lt) [vv 2,ii 0]]] [.mk .ret [bb false] [] []] []]
noncomputable def f4:Fn:=⟨2,5,false,[.mk .ite [.nd .not [.nd (.isinst 0) [vv 1]]] [.mk .ret [bb false] [] []] [],
  .mk (.assign 2) [ii 0] [] [],
  .mk (.forS 3) [vv 1] CA [],
  .mk .ret [eqE (vv 2) (ii 0)] [] []]⟩
noncomputable def n4:List Str:=["signs", "word", "depth", "sign", "kind"]
noncomputable def f5:Fn:=⟨2,2,false,[.mk .ite [.nd .not [.nd (.call 4) [vv 0,vv 1]]] [.mk (.raise 2) [] [] []] []]⟩
noncomputable def n5:List Str:=["signs", "word"]
noncomputable def Cz:List S:=[.mk .ite [.nd .and [(eqE (sbE (vv 6) (ii 0)) (ss kOn)),eqE (sbE (vv 6) (ii 1)) (vv 5),eqE (sbE (vv 6) (ii 2)) (vv 2)]] [.mk (.setD 3) [bb true,.nd .tuple [vv 4,sbE (vv 6) (ii 3)]] [] []] []]
noncomputable def Cy:List S:=[.mk (.forS 6) [vv 0] Cz []]
noncomputable def f6:Fn:=⟨3,7,false,[.mk (.ownD 3) [] [] [],
  .mk (.forM [4,5]) [vv 1] Cy [],
  .mk (.freezeD 3) [] [] [],
  .mk .ret [vv 3] [] []]⟩
noncomputable def n6:List Str:=["ways", "here", "sign", "found", "begun", "room", "way"]
noncomputable def Cx:List S:=[.mk .ite [.nd .and [(eqE (sbE (vv 6) (ii 0)) (ss aR)),eqE (sbE (vv 6) (ii 1)) (vv 5),eqE (sbE (vv 6) (ii 2)) (vv 2)]] [.mk (.setD 3) [bb true,.nd .tuple [vv 6,sbE (vv 6) (ii 3)]] [] []] []]
noncomputable def Cw:List S:=[.mk (.forS 6) [vv 0] Cx []]
noncomputable def f7:Fn:=⟨3,7,false,[.mk (.ownD 3) [] [] [],
  .mk (.forM [4,5]) [vv 1] Cw [],
  .mk (.freezeD 3) [] [] [],
  .mk .ret [vv 3] [] []]⟩
noncomputable def n7:List Str:=["ways", "here", "sign", "found", "begun", "room", "way"]
noncomputable def Cv:List S:=[.mk .ite [eqE (vv 9) (sbE (vv 5) (ii 1))] [.mk (.setD 4) [bb true,.nd .tuple [vv 8,sbE (vv 7) (ii 4)]] [] []] []]
noncomputable def Cu:List S:=[.mk .ite [.nd .and [(eqE (sbE (vv 7) (ii 0)) (ss aH)),eqE (sbE (vv 7) (ii 1)) (vv 6),eqE (sbE (vv 7) (ii 2)) (sbE (vv 5) (ii 4)),eqE (sbE (vv 7) (ii 3)) (vv 3)]] [.mk (.forM [8,9]) [vv 1] Cv []] []]
noncomputable def Cs:List S:=[.mk (.forS 7) [vv 0] Cu []]
noncomputable def f8:Fn:=⟨4,10,false,[.mk (.ownD 4) [] [] [],
  .mk (.forM [5,6]) [vv 2] Cs [],
  .mk (.freezeD 4) [] [] [],
  .mk .ret [vv 4] [] []]⟩
noncomputable def n8:List Str:=["ways", "outer", "inner", "sign", "found", "opening", "room", "way", "begun", "last"]
noncomputable def Cr:List S:=[.mk (.setD 3) [bb true,.nd .tuple [nn,vv 4]] [] []]
noncomputable def Cq:List S:=[.mk .ite [eqE (vv 7) (ss aR)] [.mk (.append 5) [vv 3] [] [],
  .mk (.assign 3) [.nd (.call 7) [vv 2,vv 3,vv 6]] [] []] [.mk (.popC 3 5 8) [vv 2,vv 3,vv 6] [] []]]
noncomputable def Cp:List S:=[.mk (.assign 7) [.nd (.call 3) [.nd (.meth 15) [vv 0],vv 6]] [] [],
  .mk .ite [eqE (vv 7) (ss kOn)] [.mk (.assign 3) [.nd (.call 6) [vv 2,vv 3,vv 6]] [] []] Cq]
noncomputable def BY:List S:=[.mk .ite [.nd (.cmp .In) [vv 4,vv 8]] [.mk .ret [bb true] [] []] []]
noncomputable def f9:Fn:=⟨2,10,false,[.mk (.call 5) [.nd (.meth 15) [vv 0],vv 1] [] [],
  .mk (.assign 2) [.nd (.meth 19) [vv 0]] [] [],
  .mk (.ownD 3) [] [] [],
  .mk (.forS 4) [.nd (.meth 17) [vv 0]] Cr [],
  .mk (.ownL 5) [] [] [],
  .mk (.freezeD 3) [] [] [],
  .mk (.forS 6) [vv 1] Cp [],
  .mk (.assign 8) [.nd (.meth 18) [vv 0]] [] [],
  .mk (.forM [9,4]) [vv 3] BY [],
  .mk .ret [bb false] [] []]⟩
noncomputable def n9:List Str:=["machine", "word", "ways", "here", "room", "outside", "sign", "kind", "ends", "begun"]
noncomputable def f10:Fn:=⟨2,2,false,[.mk .ret [.nd .and [.nd (.isinst 3) [vv 0],.nd .not [.nd (.isinst 4) [vv 0]],.nd (.chain true) [ii 0,vv 0,vv 1]]] [] []]⟩
noncomputable def n10:List Str:=["thing", "rooms"]
noncomputable def Bu:List S:=[.mk .ite [.nd .not [.nd (.call 10) [vv 2,vv 1]]] [.mk .ret [bb false] [] []] []]
noncomputable def f11:Fn:=⟨2,3,false,[.mk .ite [.nd .not [.nd (.isinst 2) [vv 0]]] [.mk .ret [bb false] [] []] [],
  .mk (.forS 2) [vv 0] Bu [],
  .mk .ret [eqE (.nd .lenSet [vv 0]) (lnE (vv 0))] [] []]⟩
noncomputable def n11:List Str:=["thing", "rooms", "room"]
noncomputable def Bt:List S:=[.mk .ret [.nd .and [(eqE (lnE (vv 0)) (ii 4)),eqE (.nd (.call 3) [vv 1,sbE (vv 0) (ii 2)]) (ss kOn),.nd (.call 10) [(sbE (vv 0) (ii 3)),vv 2]]] [] []]
noncomputable def f12:Fn:=⟨3,3,false,[.mk .ite [.nd .or [.nd .not [.nd (.isinst 1) [vv 0]],.nd (.cmp .Lt) [(lnE (vv 0)),ii 4],.nd .not [.nd (.call 10) [(sbE (vv 0) (ii 1)),vv 2]]]] [.mk .ret [bb false] [] []] [],
  .mk .ite [.nd .not [.nd (.isinst 0) [(sbE (vv 0) (ii 0))]]] [.mk .ret [bb false] [] []] [],
  .mk .ite [eqE (sbE (vv 0) (ii 0)) (ss kOn)] Bt [],
  .mk .ite [.nd .or [(neE (lnE (vv 0)) (ii 5)),.nd .not [.nd (.call 10) [(sbE (vv 0) (ii 4)),vv 2]]]] [.mk .ret [bb false] [] []] [],
  .mk .ite [eqE (sbE (vv 0) (ii 0)) (ss aR)] [.mk .ret [.nd .and [(eqE (.nd (.call 3) [vv 1,sbE (vv 0) (ii 2)]) (ss aR)),.nd (.call 10) [(sbE (vv 0) (ii 3)),vv 2]]] [] []] [],
  .mk .ret [.nd .and [(eqE (sbE (vv 0) (ii 0)) (ss aH)),.nd (.call 10) [(sbE (vv 0) (ii 2)),vv 2],eqE (.nd (.call 3) [vv 1,sbE (vv 0) (ii 3)]) (ss aH)]] [] []]⟩
noncomputable def n12:List Str:=["thing", "signs", "rooms"]
noncomputable def Bs:List S:=[.mk .ite [.nd .not [.nd (.call 12) [vv 3,vv 1,vv 2]]] [.mk .ret [bb false] [] []] []]
noncomputable def f13:Fn:=⟨3,4,false,[.mk .ite [.nd .or [.nd .not [.nd (.isinst 2) [vv 0]],.nd (.cmp .Gt) [(lnE (vv 0)),ii 4000]]] [.mk .ret [bb false] [] []] [],
  .mk (.forS 3) [vv 0] Bs [],
  .mk .ret [bb true] [] []]⟩
noncomputable def n13:List Str:=["thing", "signs", "rooms", "way"]
noncomputable def f14:Fn:=⟨6,6,true,[.mk (.call 2) [vv 1] [] [],
  .mk .ite [.nd .or [.nd .not [.nd (.call 10) [vv 2,adE (ii 40) (ii 1)]],.nd (.cmp .Lt) [vv 2,ii 1]]] [.mk (.raise 3) [] [] []] [],
  .mk .ite [.nd .or [.nd .not [.nd (.call 11) [vv 3,vv 2]],.nd .not [.nd (.call 11) [vv 4,vv 2]],.nd .not [.nd (.call 13) [vv 5,vv 1,vv 2]]]] [.mk (.raise 3) [] [] []] [],
  .mk (.setAttr 0 0) [vv 1] [] [],
  .mk (.setAttr 0 1) [vv 2] [] [],
  .mk (.setAttrN 0 2) [.nd .sorted [vv 3]] [] [],
  .mk (.setAttrN 0 3) [.nd .sorted [vv 4]] [] [],
  .mk (.setAttrN 0 4) [.nd .sortedSet [vv 5]] [] []]⟩
noncomputable def n14:List Str:=["self", "signs", "rooms", "starts", "ends", "ways"]
noncomputable def f15:Fn:=⟨1,1,false,[.mk .ret [.nd (.attr 0) [vv 0]] [] []]⟩
noncomputable def n15:List Str:=["self"]
noncomputable def f16:Fn:=⟨1,1,false,[.mk .ret [.nd (.attr 1) [vv 0]] [] []]⟩
noncomputable def n16:List Str:=["self"]
noncomputable def f17:Fn:=⟨1,1,false,[.mk .ret [.nd .listOf [.nd (.attr 2) [vv 0]]] [] []]⟩
noncomputable def n17:List Str:=["self"]
noncomputable def f18:Fn:=⟨1,1,false,[.mk .ret [.nd .listOf [.nd (.attr 3) [vv 0]]] [] []]⟩
noncomputable def n18:List Str:=["self"]
noncomputable def f19:Fn:=⟨1,1,false,[.mk .ret [.nd .listOf [.nd (.attr 4) [vv 0]]] [] []]⟩
noncomputable def n19:List Str:=["self"]
noncomputable def f20:Fn:=⟨2,2,false,[.mk .ite [.nd (.cmp .Lt) [vv 1,lnE (vv 0)]] [.mk .ret [sbE (vv 0) (vv 1)] [] []] [],
  .mk .ret [ii 0] [] []]⟩
noncomputable def n20:List Str:=["_law_script", "_law_k"]
noncomputable def f21:Fn:=⟨2,2,false,[.mk .ret [mdE (adE (mlE (vv 0) (ii 48271)) (mlE (ii 7919) (vv 1))) (ii 1000003)] [] []]⟩
noncomputable def n21:List Str:=["_law_cell", "_law_k"]
noncomputable def f22:Fn:=⟨2,3,false,[.mk (.assign 2) [.nd .list [xx 1 (vv 0),xx 2 (vv 0),xx 3 (vv 0),xx 4 (vv 0)]] [] [],
  .mk (.assign 2) [adE (vv 2) (.nd .list [xx 5 (vv 0),xx 6 (vv 0),xx 7 (vv 0)])] [] [],
  .mk .ret [.nd .and [(eqE (.nd .count [vv 2,bb true]) (ii 1)),sbE (vv 2) (vv 1),xx 0 (vv 0),xx 8 (vv 0)]] [] []]⟩
noncomputable def n22:List Str:=["_law_e", "_law_own", "_law_some"]
noncomputable def v7:E:=(sbE (vv 1) (mdE (adE (vv 0) (mlE (vv 2) (vv 6))) (ii 26)))
noncomputable def f23:Fn:=⟨1,8,false,[.mk (.assign 1) [ss abc] [] [],
  .mk (.assign 2) [adE (ii 1) (mlE (ii 2) (mdE (fdE (vv 0) (ii 26)) (ii 5)))] [] [],
  .mk (.assign 3) [.nd .join [ss k0,.nd (.comp 6) [.nd .range [ii 6],v7]]] [] [],
  .mk (.assign 4) [sbE (.nd .list [ii 1,ii 1,ii 2,ii 0]) (mdE (fdE (vv 0) (ii 130)) (ii 4))] [] [],
  .mk (.assign 5) [adE (vv 4) (sbE (.nd .list [ii 1,ii 2,ii 1,ii 1,ii 0]) (mdE (fdE (vv 0) (ii 520)) (ii 5)))] [] [],
  .mk .ret [.nd .tuple [.nd (.slice false true) [vv 3,vv 4],.nd (.slice true true) [vv 3,vv 4,vv 5],.nd (.slice true true) [vv 3,vv 5,adE (vv 5) (mdE (fdE (vv 0) (ii 2600)) (ii 3))]]] [] []]⟩
noncomputable def n23:List Str:=["_law_cell", "_law_letters", "_law_step_here", "_law_row", "_law_one", "_law_other"]
noncomputable def Br:E:=(sbE (vv 1) (mdE (adE (vv 0) (mlE (vv 2) (vv 6))) (ii 26)))
noncomputable def f24:Fn:=⟨1,8,false,[.mk .ite [neE (mdE (fdE (vv 0) (ii 7800)) (ii 8)) (ii 3)] [.mk .ret [.nd (.call 23) [vv 0]] [] []] [],
  .mk (.assign 1) [ss abc] [] [],
  .mk (.assign 2) [adE (ii 1) (mlE (ii 2) (mdE (fdE (vv 0) (ii 26)) (ii 5)))] [] [],
  .mk (.assign 3) [.nd .join [ss k0,.nd (.comp 6) [.nd .range [ii 12],Br]]] [] [],
  .mk (.assign 4) [adE (ii 1) (mdE (fdE (vv 0) (ii 130)) (ii 4))] [] [],
  .mk (.assign 5) [adE (adE (vv 4) (ii 1)) (mdE (fdE (vv 0) (ii 520)) (ii 4))] [] [],
  .mk .ret [.nd .tuple [.nd (.slice false true) [vv 3,vv 4],.nd (.slice true true) [vv 3,vv 4,vv 5],.nd (.slice true true) [vv 3,vv 5,adE (adE (vv 5) (ii 1)) (mdE (fdE (vv 0) (ii 2600)) (ii 4))]]] [] []]⟩
noncomputable def n24:List Str:=["_law_cell", "_law_letters", "_law_step_here", "_law_row", "_law_one", "_law_other"]
noncomputable def Bq:List S:=[.mk .ret [.nd .tuple [ss aR,siE (siE (vv 2) (ii 1)) (sbE (sbE (vv 3) (ii 0)) (ii 1)),sbE (sbE (vv 3) (ii 0)) (ii 2),vv 6,vv 7]] [] []]
noncomputable def yr:List S:=[.mk .ite [.nd .and [(neE (vv 3) (.nd .list [])),eqE (mdE (fdE (vv 0) (ii 1024)) (ii 3)) (ii 0)]] [.mk .ret [adE (.nd (.slice false true) [(sbE (vv 3) (ii 0)),ii 3]) (.nd .tuple [vv 6,vv 7])] [] []] [],
  .mk .ite [.nd .and [(neE (vv 3) (.nd .list [])),eqE (mdE (fdE (vv 0) (ii 1024)) (ii 3)) (ii 1)]] Bq [],
  .mk .ret [.nd .tuple [ss aR,vv 5,sbE (sbE (vv 1) (ii 0)) (mdE (fdE (vv 0) (ii 256)) (lnE (sbE (vv 1) (ii 0)))),vv 6,vv 7]] [] []]
noncomputable def yq:List S:=[.mk .ite [.nd .and [(neE (vv 3) (.nd .list [])),.nd (.cmp .Gt) [(mdE (fdE (vv 0) (ii 1024)) (ii 4)),ii 0]]] [.mk (.assignM [5,6]) [.nd (.slice true false) [(sbE (vv 3) (mdE (fdE (vv 0) (ii 16)) (lnE (vv 3)))),ii 3]] [] []] [],
  .mk .ret [.nd .tuple [ss aH,vv 5,vv 6,sbE (sbE (vv 1) (ii 1)) (mdE (fdE (vv 0) (ii 256)) (lnE (sbE (vv 1) (ii 1)))),vv 7]] [] []]
noncomputable def Bp:List S:=[.mk .ret [.nd .tuple [ss kOn,vv 5,sbE (sbE (vv 1) (ii 2)) (mdE (fdE (vv 0) (ii 256)) (lnE (sbE (vv 1) (ii 2)))),vv 6]] [] []]
noncomputable def f25:Fn:=⟨5,8,false,[.mk (.assign 5) [mdE (fdE (vv 0) (ii 4)) (vv 2)] [] [],
  .mk (.assign 6) [mdE (fdE (vv 0) (ii 16)) (vv 2)] [] [],
  .mk (.assign 7) [mdE (fdE (vv 0) (ii 64)) (vv 2)] [] [],
  .mk .ite [.nd .and [(eqE (mdE (vv 0) (ii 4)) (ii 0)),.nd (.cmp .Lt) [(lnE (vv 3)),vv 4],neE (sbE (vv 1) (ii 0)) (ss k0)]] yr [],
  .mk .ite [.nd .and [.nd (.cmp .Lt) [(mdE (vv 0) (ii 4)),ii 2],neE (sbE (vv 1) (ii 1)) (ss k0)]] yq [],
  .mk .ite [neE (sbE (vv 1) (ii 2)) (ss k0)] Bp [],
  .mk .ret [nn] [] []]⟩
noncomputable def n25:List Str:=["_law_cell", "_law_signs", "_law_rooms", "_law_opens", "_law_most", "_law_one", "_law_other", "_law_third"]
noncomputable def f26c0:E:=(vv 12)
noncomputable def f26c1:E:=(vv 12)
noncomputable def f26c2:E:=(vv 12)
noncomputable def Bo:List S:=[.mk (.assign 10) [.nd (.comp 12) [.nd (.own 8) [],f26c2,eqE (sbE (vv 12) (ii 0)) (ss aR)]] [] [],
  .mk (.assign 11) [.nd (.call 25) [.nd (.call 21) [.nd (.call 20) [vv 0,adE (adE (vv 1) (ii 2)) (vv 9)],vv 9],vv 2,vv 4,vv 10,vv 5]] [] [],
  .mk .ite [.nd (.cmp .IsNot) [vv 11,nn]] [.mk (.append 8) [vv 11] [] []] []]
noncomputable def f26:Fn:=⟨4,14,false,[.mk (.assign 4) [adE (ii 1) (mdE (.nd (.call 20) [vv 0,vv 1]) (vv 3))] [] [],
  .mk (.assign 5) [sbE (.nd .list [ii 4,ii 2,ii 1,ii 1]) (siE (vv 4) (ii 1))] [] [],
  .mk (.assign 6) [.nd (.comp 12) [.nd .range [vv 4],f26c0,.nd (.cmp .Gt) [(mdE (fdE (.nd (.call 20) [vv 0,adE (vv 1) (ii 1)]) (adE (mlE (ii 4) (vv 12)) (ii 1))) (ii 3)),ii 0]]] [] [],
  .mk (.assign 7) [.nd (.comp 12) [.nd .range [vv 4],f26c1,eqE (mdE (fdE (.nd (.call 20) [vv 0,adE (vv 1) (ii 1)]) (adE (mlE (ii 5) (vv 12)) (ii 7))) (ii 2)) (ii 0)]] [] [],
  .mk (.ownL 8) [] [] [],
  .mk (.forS 9) [.nd .range [(adE (ii 2) (mdE (fdE (.nd (.call 20) [vv 0,vv 1]) (ii 4)) (ii 9)))]] Bo [],
  .mk (.freeze 8) [] [] [],
  .mk .ret [.nd .tuple [vv 2,vv 4,vv 6,vv 7,vv 8]] [] []]⟩
noncomputable def n26:List Str:=["_law_script", "_law_at", "_law_signs", "_law_most", "_law_rooms", "_law_many", "_law_starts", "_law_ends", "_law_ways", "_law_k", "_law_opens", "_law_way"]
noncomputable def f27:Fn:=⟨1,1,false,[.mk .ret [.nd (.call 14) [(sbE (vv 0) (ii 0)),sbE (vv 0) (ii 1),.nd .listOf [(sbE (vv 0) (ii 2))],.nd .listOf [(sbE (vv 0) (ii 3))],.nd .listOf [(sbE (vv 0) (ii 4))]]] [] []]⟩
noncomputable def n27:List Str:=["_law_parts"]
noncomputable def Bn:List S:=[.mk .ite [.nd .or [(eqE (vv 2) (.nd .list [])),neE (sbE (vv 0) (ii 2)) (sbE (vv 2) (.nd .neg [ii 1])),neE (sbE (vv 0) (ii 3)) (vv 3)]] [.mk .ret [nn] [] []] [],
  .mk .ret [.nd .tuple [(sbE (vv 0) (ii 4)),.nd (.slice false true) [vv 2,.nd .neg [ii 1]]]] [] []]
noncomputable def f28:Fn:=⟨4,4,false,[.mk .ite [neE (sbE (vv 0) (ii 1)) (vv 1)] [.mk .ret [nn] [] []] [],
  .mk .ite [eqE (sbE (vv 0) (ii 0)) (ss aH)] Bn [],
  .mk .ite [neE (sbE (vv 0) (ii 2)) (vv 3)] [.mk .ret [nn] [] []] [],
  .mk .ite [eqE (sbE (vv 0) (ii 0)) (ss aR)] [.mk .ret [.nd .tuple [(sbE (vv 0) (ii 3)),adE (vv 2) (.nd .list [(sbE (vv 0) (ii 4))])]] [] []] [],
  .mk .ret [.nd .tuple [(sbE (vv 0) (ii 3)),vv 2]] [] []]⟩
noncomputable def n28:List Str:=["_law_way", "_law_room", "_law_pile", "_law_sign"]
noncomputable def Bm:E:=(.nd .tuple [vv 9,.nd .list []])
noncomputable def Bl:List S:=[.mk (.assign 8) [.nd (.call 28) [vv 7,vv 5,vv 6,vv 3]] [] [],
  .mk .ite [.nd .and [.nd (.cmp .IsNot) [vv 8,nn],.nd (.lend 4) [.nd (.cmp .NotIn) [vv 8,vv 4]]]] [.mk (.append 4) [vv 8] [] []] []]
noncomputable def Bk:List S:=[.mk (.forS 7) [sbE (vv 0) (ii 4)] Bl []]
noncomputable def Bj:List S:=[.mk (.ownL 4) [] [] [],
  .mk (.forM [5,6]) [vv 2] Bk [],
  .mk (.freeze 4) [] [] [],
  .mk (.assign 2) [vv 4] [] []]
noncomputable def f29c4:E:=(vv 9)
noncomputable def f29:Fn:=⟨2,11,false,[.mk (.assign 2) [.nd (.comp 9) [(sbE (vv 0) (ii 2)),Bm]] [] [],
  .mk (.forS 3) [vv 1] Bj [],
  .mk .ret [neE (.nd (.compM [9,10]) [vv 2,f29c4,.nd (.cmp .In) [vv 9,sbE (vv 0) (ii 3)]]) (.nd .list [])] [] []]⟩
noncomputable def n29:List Str:=["_law_parts", "_law_word", "_law_now", "_law_sign", "_law_found", "_law_room", "_law_pile", "_law_way", "_law_state"]
noncomputable def Bi:List S:=[.mk (.assign 2) [adE (vv 2) (sbE (sbE (vv 0) (ii 0)) (mdE (fdE (vv 4) (ii 3)) (lnE (sbE (vv 0) (ii 0)))))] [] [],
  .mk (.assign 3) [adE (vv 3) (ii 1)] [] []]
noncomputable def Bh:List S:=[.mk (.assign 2) [adE (vv 2) (sbE (sbE (vv 0) (ii 1)) (mdE (fdE (vv 4) (ii 3)) (lnE (sbE (vv 0) (ii 1)))))] [] [],
  .mk (.assign 3) [siE (vv 3) (ii 1)] [] []]
noncomputable def Bf:List S:=[.mk .ite [neE (sbE (vv 0) (ii 2)) (ss k0)] [.mk (.assign 2) [adE (vv 2) (sbE (sbE (vv 0) (ii 2)) (mdE (fdE (vv 4) (ii 3)) (lnE (sbE (vv 0) (ii 2)))))] [] []] []]
noncomputable def Be:List S:=[.mk .ite [.nd .and [(eqE (mdE (vv 4) (ii 3)) (ii 0)),.nd (.cmp .Lt) [vv 3,ii 4],neE (sbE (vv 0) (ii 0)) (ss k0),neE (sbE (vv 0) (ii 1)) (ss k0)]] Bi [.mk .ite [.nd .and [(eqE (mdE (vv 4) (ii 3)) (ii 1)),.nd (.cmp .Gt) [vv 3,ii 0]]] Bh Bf]]
noncomputable def Bd:List S:=[.mk (.assign 2) [adE (vv 2) (sbE (sbE (vv 0) (ii 1)) (mdE (adE (lnE (vv 2)) (vv 5)) (lnE (sbE (vv 0) (ii 1)))))] [] []]
noncomputable def f30:Fn:=⟨2,6,false,[.mk (.assign 2) [ss k0] [] [],
  .mk (.assign 3) [ii 0] [] [],
  .mk (.forS 4) [vv 1] Be [],
  .mk (.forS 5) [.nd .range [vv 3]] Bd [],
  .mk .ret [vv 2] [] []]⟩
noncomputable def n30:List Str:=["_law_signs", "_law_cells", "_law_word", "_law_deep_here", "_law_cell", "_law_k"]
noncomputable def f31c0:E:=(vv 8)
noncomputable def Bc:E:=(.nd .tuple [(adE (vv 6) (vv 8)),vv 7])
noncomputable def Bb:E:=(.nd .tuple [(adE (vv 6) (vv 8)),adE (vv 7) (ii 1)])
noncomputable def Ba:E:=(.nd .tuple [(adE (vv 6) (vv 8)),siE (vv 7) (ii 1)])
noncomputable def yp:List S:=[.mk .ite [.nd (.cmp .LtE) [(adE (adE (vv 4) (ii 1)) (vv 7)),vv 1]] [.mk (.assign 5) [adE (vv 5) (.nd (.comp 8) [(sbE (vv 0) (ii 2)),Bc])] [] []] [],
  .mk .ite [.nd (.cmp .LtE) [(adE (adE (vv 4) (ii 2)) (vv 7)),vv 1]] [.mk (.assign 5) [adE (vv 5) (.nd (.comp 8) [(sbE (vv 0) (ii 0)),Bb])] [] []] [],
  .mk .ite [.nd (.cmp .Gt) [vv 7,ii 0]] [.mk (.assign 5) [adE (vv 5) (.nd (.comp 8) [(sbE (vv 0) (ii 1)),Ba])] [] []] []]
noncomputable def A9:List S:=[.mk (.assign 3) [adE (vv 3) (.nd (.compM [8,9]) [vv 2,f31c0,eqE (vv 9) (ii 0)])] [] [],
  .mk (.assign 5) [.nd .list []] [] [],
  .mk (.forM [6,7]) [vv 2] yp [],
  .mk (.assign 2) [vv 5] [] []]
noncomputable def f31:Fn:=⟨2,10,false,[.mk (.assign 2) [.nd .list [.nd .tuple [ss k0,ii 0]]] [] [],
  .mk (.assign 3) [.nd .list []] [] [],
  .mk (.forS 4) [.nd .range [(adE (vv 1) (ii 1))]] A9 [],
  .mk .ret [vv 3] [] []]⟩
noncomputable def n31:List Str:=["_law_signs", "_law_most", "_law_rows", "_law_found", "_law_size", "_law_fresh", "_law_text", "_law_deep_here"]
noncomputable def f32:Fn:=⟨2,3,false,[.mk (.tryE 9 0 2) [vv 0,vv 1] [.mk .ret [.nd (.call 22) [vv 2,ii 1]] [] []] [],
  .mk .ret [bb false] [] []]⟩
noncomputable def n32:List Str:=["_law_machine", "_law_word", "_law_e"]
noncomputable def yo:E:=(.nd (.call 21) [.nd (.call 20) [vv 0,adE (vv 1) (mdE (vv 10) (ii 9))],vv 10])
noncomputable def A8:List S:=[.mk (.append 5) [.nd .tuple [ss kOn,vv 6,vv 7,mdE (sbE (vv 4) (.nd (.lenL 5) [])) (vv 3)]] [] []]
noncomputable def A7:List S:=[.mk (.append 5) [.nd .tuple [ss aR,vv 6,vv 7,mdE (sbE (vv 4) (.nd (.lenL 5) [])) (vv 3),mdE (fdE (sbE (vv 4) (.nd (.lenL 5) [])) (ii 4)) (vv 3)]] [] []]
noncomputable def A6:List S:=[.mk (.append 5) [.nd .tuple [ss aH,vv 6,vv 8,vv 7,mdE (sbE (vv 4) (.nd (.lenL 5) [])) (vv 3)]] [] []]
noncomputable def A5:List S:=[.mk (.forS 7) [sbE (vv 2) (ii 1)] A6 []]
noncomputable def yn:List S:=[.mk (.forS 7) [sbE (vv 2) (ii 2)] A8 [],
  .mk (.forS 7) [sbE (vv 2) (ii 0)] A7 [],
  .mk (.forS 8) [.nd .range [vv 3]] A5 []]
noncomputable def f33c6:E:=(vv 10)
noncomputable def f33:Fn:=⟨4,12,false,[.mk (.assign 4) [.nd (.comp 10) [.nd .range [ii 110],yo]] [] [],
  .mk (.ownL 5) [] [] [],
  .mk (.forS 6) [.nd .range [vv 3]] yn [],
  .mk (.assign 9) [.nd (.comp 10) [.nd .range [vv 3],f33c6,eqE (mdE (fdE (sbE (vv 4) (ii 109)) (adE (vv 10) (ii 3))) (ii 2)) (ii 0)]] [] [],
  .mk (.freeze 5) [] [] [],
  .mk .ret [.nd .tuple [vv 2,vv 3,.nd .list [(mdE (sbE (vv 4) (ii 108)) (vv 3))],vv 9,vv 5]] [] []]⟩
noncomputable def n33:List Str:=["_law_script", "_law_at", "_law_signs", "_law_rooms", "_law_cells", "_law_ways", "_law_room", "_law_sign", "_law_kept", "_law_ends"]
noncomputable def A4:List S:=[.mk .ite [eqE (sbE (vv 2) (ii 0)) (ss aH)] [.mk (.setD 1) [sbE (vv 2) (ii 4),.nd (.slice false true) [vv 2,ii 4]] [] []] [.mk (.setD 1) [.nd (.slice true false) [vv 2,ii 3],.nd (.slice false true) [vv 2,ii 3]] [] []]]
noncomputable def f34:Fn:=⟨1,3,false,[.mk (.ownD 1) [] [] [],
  .mk (.forS 2) [sbE (vv 0) (ii 4)] A4 [],
  .mk (.freezeD 1) [] [] [],
  .mk .ret [vv 1] [] []]⟩
noncomputable def n34:List Str:=["_law_parts", "_law_found", "_law_way"]
noncomputable def A3:List S:=[.mk .ite [.nd (.cmp .In) [vv 5,sbE (sbE (vv 0) (ii 0)) (ii 1)]] [.mk (.popS 3 4) [vv 1,ss aH,vv 3,vv 5] [] []] [.mk (.assign 3) [sbE (sbE (vv 1) (.nd .tuple [ss kOn,vv 3,vv 5])) (ii 0)] [] []]]
noncomputable def A2:List S:=[.mk .ite [.nd (.cmp .In) [vv 5,sbE (sbE (vv 0) (ii 0)) (ii 0)]] [.mk (.assignM [3,6]) [sbE (vv 1) (.nd .tuple [ss aR,vv 3,vv 5])] [] [],
  .mk (.append 4) [vv 6] [] []] A3]
noncomputable def f35:Fn:=⟨3,7,false,[.mk (.assign 3) [sbE (sbE (vv 0) (ii 2)) (ii 0)] [] [],
  .mk (.ownL 4) [] [] [],
  .mk (.forS 5) [vv 2] A2 [],
  .mk .ret [.nd (.cmp .In) [vv 3,sbE (vv 0) (ii 3)]] [] []]⟩
noncomputable def n35:List Str:=["_law_parts", "_law_paths_here", "_law_word", "_law_room", "_law_pile", "_law_sign", "_law_kept"]
noncomputable def f36:Fn:=⟨2,8,false,[.mk (.assign 2) [.nd (.call 21) [.nd (.call 20) [vv 0,ii 47],ii 2]] [] [],
  .mk (.assign 3) [sbE (sbE (vv 1) (ii 0)) (mdE (fdE (vv 2) (ii 512)) (lnE (sbE (vv 1) (ii 0))))] [] [],
  .mk (.assign 4) [sbE (sbE (vv 1) (ii 1)) (mdE (fdE (vv 2) (ii 512)) (lnE (sbE (vv 1) (ii 1))))] [] [],
  .mk (.ownL 5) [.nd .tuple [ss aR,ii 0,vv 3,ii 1,mdE (vv 2) (ii 2)],.nd .tuple [ss aR,ii 0,vv 3,ii 2,mdE (fdE (vv 2) (ii 2)) (ii 2)]] [] [],
  .mk (.append 5) [.nd .tuple [ss aH,adE (ii 1) (mdE (fdE (vv 2) (ii 4)) (ii 2)),mdE (fdE (vv 2) (ii 8)) (ii 2),vv 4,adE (ii 1) (mdE (fdE (vv 2) (ii 16)) (ii 2))]] [] [],
  .mk (.append 5) [.nd .tuple [ss aH,adE (ii 1) (mdE (fdE (vv 2) (ii 32)) (ii 2)),mdE (fdE (vv 2) (ii 64)) (ii 2),vv 4,adE (ii 1) (mdE (fdE (vv 2) (ii 128)) (ii 2))]] [] [],
  .mk (.freeze 5) [] [] [],
  .mk (.assign 6) [.nd .tuple [vv 1,ii 3,.nd .list [ii 0],.nd .list [(adE (ii 1) (mdE (fdE (vv 2) (ii 256)) (ii 2)))],vv 5]] [] [],
  .mk (.assign 7) [.nd (.call 9) [.nd (.call 27) [vv 6],adE (vv 3) (vv 4)]] [] [],
  .mk .ret [.nd .and [.nd (.isinst 4) [vv 7],eqE (vv 7) (.nd (.call 29) [vv 6,adE (vv 3) (vv 4)])]] [] []]⟩
noncomputable def n36:List Str:=["_law_script", "_law_signs", "_law_cell", "_law_one", "_law_other", "_law_ways", "_law_parts", "_law_found"]
noncomputable def A1:List S:=[.mk .ite [.nd .and [(eqE (mdE (fdE (vv 4) (ii 20)) (ii 2)) (ii 1)),neE (sbE (vv 1) (ii 2)) (ss k0)]] [.mk (.assign 3) [adE (vv 3) (sbE (sbE (vv 1) (ii 2)) (mdE (.nd (.call 21) [vv 4,vv 6]) (lnE (sbE (vv 1) (ii 2)))))] [] []] [],
  .mk (.assign 3) [adE (vv 3) (sbE (sbE (vv 1) (ii 0)) (mdE (.nd (.call 21) [vv 4,mlE (ii 2) (vv 6)]) (lnE (sbE (vv 1) (ii 0)))))] [] []]
noncomputable def A0:List S:=[.mk (.assign 3) [adE (vv 3) (sbE (sbE (vv 1) (ii 1)) (mdE (.nd (.call 21) [vv 4,mlE (ii 3) (vv 6)]) (lnE (sbE (vv 1) (ii 1)))))] [] []]
noncomputable def f37:Fn:=⟨2,8,false,[.mk (.assign 2) [.nd (.call 33) [vv 0,ii 50,vv 1,adE (ii 2) (mdE (.nd (.call 20) [vv 0,ii 49]) (ii 3))]] [] [],
  .mk (.assign 3) [ss k0] [] [],
  .mk (.assign 4) [.nd (.call 21) [.nd (.call 20) [vv 0,ii 48],ii 1]] [] [],
  .mk (.assign 5) [adE (ii 1) (mdE (vv 4) (ii 20))] [] [],
  .mk (.forS 6) [.nd .range [vv 5]] A1 [],
  .mk (.forS 6) [.nd .range [vv 5]] A0 [],
  .mk (.assign 7) [.nd (.call 9) [.nd (.call 27) [vv 2],vv 3]] [] [],
  .mk .ret [.nd .and [.nd (.isinst 4) [vv 7],eqE (vv 7) (.nd (.call 35) [vv 2,.nd (.call 34) [vv 2],vv 3])]] [] []]⟩
noncomputable def n37:List Str:=["_law_script", "_law_signs", "_law_parts", "_law_word", "_law_cell", "_law_many", "_law_k", "_law_found"]
noncomputable def AZ:E:=(.nd (.call 21) [vv 12,vv 5])
noncomputable def AY:List S:=[.mk (.assign 6) [.nd (.comp 12) [.nd (.slice true true) [vv 0,adE (ii 15) (mlE (ii 10) (vv 5)),adE (adE (ii 25) (mlE (ii 10) (vv 5))) (mlE (ii 5) (fdE (vv 5) (ii 2)))],AZ]] [] [],
  .mk (.append 4) [.nd (.call 30) [vv 1,vv 6]] [] []]
noncomputable def AX:List S:=[.mk (.assign 9) [.nd (.call 9) [vv 3,vv 8]] [] [],
  .mk .ite [.nd .or [.nd .not [.nd (.isinst 4) [vv 9]],neE (vv 9) (.nd (.call 29) [vv 2,vv 8])]] [.mk .ret [bb false] [] []] []]
noncomputable def AW:List S:=[.mk (.assign 11) [sbE (sbE (vv 1) (ii 0)) (mdE (fdE (.nd (.call 20) [vv 0,ii 1]) (ii 8)) (lnE (sbE (vv 1) (ii 0))))] [] [],
  .mk .ite [.nd .not [.nd (.call 32) [vv 3,adE (sbE (vv 4) (ii 1)) (vv 11)]]] [.mk .ret [bb false] [] []] []]
noncomputable def f38:Fn:=⟨1,14,false,[.mk (.assign 1) [.nd (.call 24) [.nd (.call 20) [vv 0,ii 0]]] [] [],
  .mk (.assign 2) [.nd (.call 26) [vv 0,ii 2,vv 1,ii 4]] [] [],
  .mk (.assign 3) [.nd (.call 27) [vv 2]] [] [],
  .mk (.ownL 4) [] [] [],
  .mk (.forS 5) [.nd .range [ii 3]] AY [],
  .mk (.assign 7) [sbE (.nd .list [ii 4,ii 4,ii 4,ii 4,ii 3,ii 2,ii 2,ii 2,ii 2,ii 2,ii 2,ii 2,ii 2]) (lnE (adE (adE (sbE (vv 1) (ii 0)) (sbE (vv 1) (ii 1))) (sbE (vv 1) (ii 2))))] [] [],
  .mk (.freeze 4) [] [] [],
  .mk (.forS 8) [adE (adE (vv 4) (.nd (.call 31) [vv 1,vv 7])) (vv 4)] AX [],
  .mk .ite [.nd .and [(neE (sbE (vv 1) (ii 0)) (ss k0)),neE (sbE (vv 1) (ii 1)) (ss k0),.nd .not [.nd .and [.nd (.call 37) [vv 0,vv 1],.nd (.call 36) [vv 0,vv 1]]]]] [.mk .ret [bb false] [] []] [],
  .mk (.assign 10) [sbE (.nd .list [(adE (sbE (vv 4) (ii 0)) (ss (⟨#[65]⟩))),nn,ii 5,.nd .list [ss (⟨#[97]⟩)],adE (sbE (vv 4) (ii 1)) (ss (⟨#[32]⟩)),.nd .tuple [(sbE (vv 4) (ii 2))],bb true,.nd .edict []]) (mdE (.nd (.call 20) [vv 0,ii 1]) (ii 8))] [] [],
  .mk .ite [neE (sbE (vv 1) (ii 0)) (ss k0)] AW [],
  .mk .ite [.nd .and [(neE (sbE (vv 1) (ii 1)) (ss k0)),.nd .not [.nd (.call 32) [vv 3,adE (sbE (sbE (vv 1) (ii 1)) (ii 0)) (sbE (vv 4) (ii 2))]]]] [.mk .ret [bb false] [] []] [],
  .mk .ret [.nd .and [.nd (.call 32) [vv 3,vv 10],eqE (.nd (.meth 19) [vv 3]) (.nd (.meth 19) [.nd (.call 27) [vv 2]])]] [] []]⟩
noncomputable def n38:List Str:=["_law_script", "_law_signs", "_law_parts", "_law_machine", "_law_words_here", "_law_k", "_law_cells", "_law_most", "_law_word", "_law_found", "_law_odd", "_law_more"]
noncomputable def fns:List Fn:=[f0,f1,f2,f3,f4,f5,f6,f7,f8,f9,f10,f11,f12,f13,f14,f15,f16,f17,f18,f19,f20,f21,f22,f23,f24,f25,f26,f27,f28,f29,f30,f31,f32,f33,f34,f35,f36,f37,f38]
noncomputable def prog:Prog:=⟨fns,sup⟩
noncomputable def clsN:List (Str×Nat):=[("NestError",0),("BadSigns",1),("BadWord",2),("BadMachine",3),("TooMany",4),("NotPlain",5),("Unlike",6),("NoNote",7)]
noncomputable def safe (f:Nat):Bool:=f==22
noncomputable def newf (f:Nat):Bool:=f==14||f==17||f==18||f==19
noncomputable def cfn:Nat:=14
noncomputable def fnM:List (Str×Nat):=[("_law_way_by",25),("_law_parts_by",26),("_law_made",27),("_law_step",28),("_law_lets",29),("_law_word_by",30),("_law_words",31),("_law_refused",32),("_law_full",33),("_law_paths",34),("_law_goes",35),("_law_choice",36),("_law_deep",37),("law",38)]
noncomputable def fnN:List (Str×Nat):=("are_letters",0) :: ("are_signs",1) :: ("need_signs",2) :: ("kind_of",3) :: ("is_word",4) :: ("need_word",5) :: ("gone_on",6) :: ("opened",7) :: ("closed",8) :: ("lets",9) :: ("is_room",10) :: ("are_rooms",11) :: ("is_way",12) :: ("are_ways",13) :: ("Machine",14) :: ("_law_cell_at",20) :: ("_law_mixed",21) :: ("_law_alone",22) :: ("_law_signs_by",23) :: ("_law_any_signs_by",24) :: fnM
noncomputable def metN:List (Str×Nat):=[("signs",15),("rooms",16),("starts",17),("ends",18),("ways",19)]
noncomputable def fldN:List Str:=["marks", "many", "first", "last", "told"]
noncomputable def conN:List (Str×V):=[("LETTERS",.str abc),("MOST_SIGNS",.int 4),("MOST_ROOMS",.int 40),("MOST_WAYS",.int 4000)]
end Mine.L03
end
noncomputable section
namespace Mine.L03
open PySem PySem.Calls PyProof.Rows PySem.W
noncomputable def Z:Zx:=⟨fnN,conN,fldN,metN,clsN,8,sup,safe,newf,cfn⟩
noncomputable def mchA:Addr:=261
noncomputable def clsA:List Addr:=[24,37,49,61,73,85,97,109]
noncomputable def fnA:List Addr:=[118,125,132,139,146,153,160,167,174,181,188,195,202,209,261,230,237,244,251,258,272,279,286,291,296,303,308,315,322,327,334,339,346,351,358,365,372,379,384]
noncomputable def fnB:List Addr:=[118,125,132,139,146,153,160,167,174,181,188,195,202,209,223,230,237,244,251,258,272,279,286,291,296,303,308,315,322,327,334,339,346,351,358,365,372,379,384]
noncomputable def Ay:List Addr:=[3,1,261,260,266,24,37,49,61,73,85,97,109,23,36,48,60,72,84,96,108]++fnB++[117,124,131,138,145,152,159,166,173,180,187,194,201,208,222,229,236,243,250,257,271,278,285,290,295,302,307,314,321,326,333,338,345,350,357,364,371,378,383]
noncomputable def nms:List (List Str):=[n0,n1,n2,n3,n4,n5,n6,n7,n8,n9,n10,n11,n12,n13,n14,n15,n16,n17,n18,n19,n20,n21,n22,n23,n24,n25,n26,n27,n28,n29,n30,n31,n32,n33,n34,n35,n36,n37,n38]
noncomputable def txt (s:Stmt):Option gk:=if h:s.ctorIdx=0 then Stmt.FunctionDef.elim (motive_2:=fun _=>Option gk) s h fun _ args body _ _ _ scope _ _ _=>some (body,scope,args) else none
noncomputable def xD (s:Stmt):List Stmt:=if h:s.ctorIdx=2 then Stmt.ClassDef.elim (motive_2:=fun _=>List Stmt) s h fun _ _ _ body _ _ _ _ _ _ _=>body else []
noncomputable def bW (i:Nat):Option gk:=(PySem.Challenge.rw_uf010006_03.row.prog.main.body[i]?).bind txt
noncomputable def vB (i:Nat):Option gk:=((PySem.Challenge.rw_uf010006_03.row.prog.main.body[30]?).bind fun c=>(xD c)[i]?).bind txt
noncomputable def wl:List (Option gk):=[bW 12,bW 13,bW 14,bW 15,bW 16,bW 17,bW 19,bW 20,bW 21,bW 22,bW 26,bW 27,bW 28,bW 29,vB 0,vB 1,vB 2,vB 3,vB 4,vB 5,bW 32,bW 33,bW 34,bW 35,bW 36,bW 37,bW 38,bW 39,bW 40,bW 41,bW 42,bW 43,bW 44,bW 45,bW 46,bW 47,bW 48,bW 49,bW 50]
noncomputable def jt [BEq Str]:Nat→List Fn→List (List Str)→List (Option gk)→Bool
 | _,[],_,_=>true
 | i,fn :: r,n :: m,a :: b=>jr Z fn n (safe i) (newf i&&!fn.init) a&&jt (i+1) r m b
 | _,_,_,_=>false
noncomputable def l6 (K:Frag):Nat→Bool
 | 0=>true
 | c+1=>lE K sup 8 (fun c=>clsA.getD c 0) c&&l6 K c
noncomputable def chk [BEq Str] (K:Frag):Bool:=
 (K.lookup sysModules).isSome&&(qE K mchA fldN&&(fnN.all (fun p=>nsF K mainGlobals p.1==some (some (.ref (fnA.getD p.2 0))))&&(conN.all (qC K)&&(bH.all (fun p=>nsF K mainGlobals p.1==some none)&&(fnN.all (fun p=>keepIn K (.ref (fnA.getD p.2 0))) &&
 (metN.all (vC K mchA fldN fun f=>fnA.getD f 0)&&(findIn K (.ref mchA) "__init__"==some (some (.ref 223))&&(typeIn K (.ref 223)==some (.type "function")&&(fnB.all (qz K) &&
 (clsN.all (fun p=>decide (p.2 < 8)&&nsF K mainGlobals p.1==some (some (.ref (clsA.getD p.2 0))))&&(specialIn K (.builtin "object.__class__") "__get__"==some (some (.builtin "getset_descriptor.__get__"))&&(takesIn K (.builtin "object.__class__")==some true&&l6 K 8))))))))))))
noncomputable def dv (h:Heap):List Addr→Frag
 | []=>[]
 | a :: r=>match h.get? a with
  | some o=>(a,o) :: dv h r
  | none=>dv h r
theorem gN (h:Heap):∀ as:List Addr,Frag.In (dv h as) h
 | [],a,o,e=>nN e.symm
 | b :: r,a,o,e=>by
  unfold dv at e
  cases hb:h.get? b with
  | none=>rw [hb] at e; exact gN h r a o e
  | some p=>
   rw [hb] at e
   by_cases q:a=b
   ·subst q
    have:List.lookup a ((a,p) :: dv h r)=some p:=List.lookup_cons_self
    rw [hb]; exact this.symm.trans e
   ·have:List.lookup a ((b,p) :: dv h r)=List.lookup a (dv h r):=by rw [List.lookup_cons,beq_false_of_ne q]
    exact gN h r a o (this.symm.trans e)
noncomputable def pL:Hook:=⟨Bool×List (Option gk),fun s=>(@chk lU (dv s.heap Ay),fnB.map (fg (dv s.heap Ay))),fun _=>(true,wl),fun _ h=>∃ K:Frag,K.In h∧chk K=true∧fnB.map (fg K)=wl,fun _ s e=>⟨dv s.heap Ay,gN _ _,rS▸congrArg Prod.fst e,congrArg Prod.snd e⟩,fun _ _ _ y k=>y.elim fun K x=>⟨K,fun a o e=>k a o (x.1 a o e),x.2⟩⟩
end Mine.L03
end
noncomputable section
open PySem PySem.W PyProof.Rows
namespace Mine.L03
noncomputable abbrev pg:Program:=PySem.Challenge.rw_uf010006_03.row.toRowW.prog
noncomputable def vw:Program:=view pg [1,2,3,4,5,6,7,8,10,11,12,13,14,15,16,17,19,20,21,22,24,25,26,27,28,29,30,32,33,34,35,36,37,38,39,40,41,42,43,44,45,46,47,48,49,50]
noncomputable def vwX (s:Shared):Bool:=xlAt vw [] s&&recOk (RowW.records PySem.Challenge.rw_uf010006_03.row.toRowW) s
theorem BR {α β γ:Type} {o:Option α} {f:α→β} {g:α→γ} {x:β} {y:γ} (h:o.map f=some x) (h':o.map g=some y):o.map (fun s=>(f s,g s))=some (x,y):=by
 cases o with
 | none=>(injection h; done)
 | some s=>exact congrArg some (Prod.ext (Option.some.inj h) (Option.some.inj h'))
noncomputable def pA {α β:Type} (p:α×β):α:=Prod.rec (fun a _=>a) p
noncomputable def pB {α β:Type} (p:α×β):β:=Prod.rec (fun _ b=>b) p
noncomputable abbrev ty (s:Shared):=openSeen vw [] (importedModules pg.main.body) vwX true s
theorem AS:∀ w,(openEnds treeTable pg w 6468).map (fun s=>((ty s).1,(ty s).2.1,(ty s).2.2.1))=some (pA (openGood vw []),pA (pB (openGood vw [])),pA (pB (pB (openGood vw [])))):=fun w=>by kernel_rfl
theorem AR:∀ w,(openEnds treeTable pg w 6468).map (fun s=>(ty s).2.2.2)=some (pB (pB (pB (openGood vw [])))):=fun w=>by kernel_rfl
theorem AQ:∀ w,(openEnds treeTable pg w 6468).map pL.obs=some (pL.val w):=fun w=>by kernel_rfl
theorem zr:LeftO pg vw [] vwX (Hook.obs pL) (Hook.val pL) 6468:=fun w=>by
 have z:=congrArg (Option.map fun z=>((z.1.1,z.1.2.1,z.1.2.2,z.2.1),z.2.2)) (BR (AS w) (BR (AR w) (AQ w)))
 rw [Option.map_map] at z
 exact z
end Mine.L03
end
noncomputable section
namespace Mine
open PySem
noncomputable def wD:Sc→Value→Bool
 | .inl i,v=>Value.isInt i v
 | .inr x,v=>Value.isStrOf x v
theorem bt {C:Sc→Value→Prop} (h:wD k v=true) (hi:∀ i t,C (.inl i) (.int i t)) (hs:∀ x t,C (.inr x) (.str x t)):C k v:=by
 cases k with
 | inl i=>obtain ⟨t,rfl⟩:=Value.isInt_shape h; exact hi i t
 | inr x=>obtain ⟨t,rfl⟩:=Value.isStrOf_shape h; exact hs x t
noncomputable def aA (prog:Program) (w:World):KeyKind prog w Sc where
 is:=wD
 hash:=fun k=>match k with | .inl i=>hashInt i | .inr x=>hashStr w x
 inj:=fun v a b ha hb=>bt (C:=fun a v=>wD b v=true→a=b) ha (fun i t hb=>by cases b with | inl j=>exact congrArg _ (Value.isInt_inj (.int i t) i j (by simp [Value.isInt]) hb) | inr y=>(injection hb; done))
  (fun x t hb=>by cases b with | inl j=>(injection hb; done) | inr y=>exact congrArg _ (Value.isStrOf_inj (.str x t) x y (by simp [Value.isStrOf]) hb)) hb
 byValue:=fun k v h=>bt (C:=fun _ v=>carriedByValue v=true) h (fun _ _=>rfl) fun _ _=>rfl
 pyHash:=fun {A E s k v Q} h hq=>bt (C:=fun k v=>Q (match k with | .inl i=>hashInt i | .inr x=>hashStr w x) { s with toks:=s.toks+1 }→wpAny (model prog w) A (PySem.pyHash v) Q E s) h (fun _ _ hq=>wpAny_pyHash_int hq) (fun _ _ hq=>wpAny_pyHash_str hq) hq
 eqBool:=fun {A E s a b u v Q} hu hv hq=>bt (C:=fun a u=>Q (decide (a=b)) s→wpAny (model prog w) A (PySem.eqBool u v) Q E s) hu
  (fun i t hq=>bt (C:=fun b v=>Q (decide (Sum.inl i=b)) s→wpAny (model prog w) A (PySem.eqBool (.int i t) v) Q E s) hv (fun j u hq=>wpAny_eqBool_int (by rw [show (i==j)=decide ((Sum.inl i:Sc)=.inl j) by by_cases e:i=j <;> simp [e]]; exact hq)) (fun y u hq=>SeqAt.EqAt.int_str i t y u _ _ _ _ (by simpa using hq)) hq)
  (fun x t hq=>bt (C:=fun b v=>Q (decide (Sum.inr x=b)) s→wpAny (model prog w) A (PySem.eqBool (.str x t) v) Q E s) hv (fun j u hq=>SeqAt.EqAt.str_int x t j u _ _ _ _ (by simpa using hq)) (fun y u hq=>wpAny_eqBool_str (by rw [show decide (x=y)=decide ((Sum.inr x:Sc)=.inr y) by by_cases e:x=y <;> simp [e]]; exact hq)) hq) hq
 «strs»:=fun k x t v h=>by
  cases k with
  | inl i=>(injection h; done)
  | inr y=>exact (strKind prog w).«strs» y x t v h
end Mine
end
noncomputable section
namespace Mine
open PySem PySem.W
noncomputable def scH (w:World) (x:V):Int:=match x with
 | .int i=>hashInt i
 | .str s=>hashStr w s
 | _=>0xFCA86420
noncomputable def Am (l:List Int):Int:=reduceHash (Builtin.Tuple.tupleHashOf l)
noncomputable def itH (w:World) (x:V):Int:=match x with
 | .tuple l=>Am (l.map (scH w))
 | x=>scH w x
noncomputable def vG (w:World) (x:V):Int:=match x with
 | .tuple l=>Am (l.map (itH w))
 | _=>0
noncomputable def itN (x:V):Nat:=match x with
 | .tuple l=>(l.map fun _=>1).sum+1
 | _=>1
noncomputable def Au (x:V):Nat:=match x with
 | .tuple l=>(l.map itN).sum+1
 | _=>0
section
variable {prog:Program} {w:World} {A:Around} {E:Value→Shared→Prop} {s:Shared}
def kf (prog:Program) (w:World) (A:Around) (E:Value→Shared→Prop) (ok:V→Bool) (H:V→Int) (N:V→Nat):Prop:=∀ x v as (s:Shared) (Q:Int→Shared→Prop),ok x=true→Reads s.heap v x as→Q (H x) { s with toks:=s.toks+N x }→wpAny (model prog w) A (pyHash v) Q E s
theorem kW (hk:kf prog w A E ok H N):∀ (xs:List V) (vs:List Value) (as:List Addr) (s:Shared) (b:Array Int) (Q:Array Int→Shared→Prop),xs.all ok=true→ReadsAll s.heap vs xs as→(∀ b',b'.toList=b.toList++xs.map H→Q b' { s with toks:=s.toks+(xs.map N).sum }) →
  wpAny (model prog w) A (forIn vs b fun x r=>do let h ← pyHash x; pure PUnit.unit; pure (ForInStep.yield (r.push h))) Q E s
 | [],_,_,s,b,Q,_,r,h=>by
  cases r
  exact zC2 (h b (List.append_nil _).symm)
 | x :: xs,_,_,s,b,Q,ok,r,h=>by
  cases r with
  | cons r rs=>
  have ok:=zA2 ok
  rw [List.forIn_cons]
  refine zC1 (zC1 (hk x _ _ s _ ok.1 r (zC1 (zC2 (zC2 ?_)))))
  refine kW hk xs _ _ _ _ Q ok.2 rs fun b' hb=>?_
  have q:=h b' (by rw [hb,Array.toList_push,List.append_assoc]; rfl)
  rw [List.map_cons,List.sum_cons,← Nat.add_assoc] at q
  exact q
theorem oz (hk:kf prog w A.in1 E ok H N) (hu:A.units < cLine) (ho:s.heap.get? a=some o) (hc:o.cls=.type "tuple") (hd:o.data=.seq vs n) (hl:l.all ok=true) (r:ReadsAll s.heap vs.toList l as)
  (h:Q (Am (l.map H)) { s with toks:=s.toks+((l.map N).sum+1) }):wpAny (model prog w) A (pyHash (.ref a)) Q E s:=by
 refine pyHash_slot (T:="tuple") ⟨o,ho,hc⟩ F.slot_tuple_hash F.entry_tuple_hash (F.args_tuple_hash_1 _) (beq_builtin_none _) (.inr hu) ?_
 refine (?_:wpAny _ _ (Builtin.Tuple.tupleItemsOf (.ref a) >>= _) _ _ s)
 refine zC1 (wpAny_tupleItemsOf ho hd (zC1 ?_))
 rw [← Array.forIn_toList]
 refine kW hk l _ _ s #[] _ hl r fun b hb=>?_
 refine (?_:wpAny _ _ (retInt (Builtin.Tuple.tupleHashOf b.toList)) _ _ _)
 exact hb.symm▸zC1 (wpAny_mkInt (zC2 ⟨_,_,rfl,h⟩))
theorem w8:kf prog w A E aL (scH w) (fun _=>1):=fun x v as s Q ok r h=>by
 cases r with
 | int i t=>exact wpAny_pyHash_int h
 | str x t=>exact wpAny_pyHash_str h
 | _=>exact nB ok
theorem w9 (hu:A.units < cLine):kf prog w A E itV (itH w) itN:=fun x v as s Q ok r h=>by
 cases r with
 | none=>exact pyHash_slot (T:="NoneType") rfl F.slot_NoneType_hash F.entry_NoneType_hash (F.args_NoneType_hash_1 _) (beq_builtin_none _) (.inr hu) (zC1 (zC2 (zC1 (wpAny_mkInt (zC2 ⟨_,_,rfl,h⟩)))))
 | int i t=>exact wpAny_pyHash_int h
 | str x t=>exact wpAny_pyHash_str h
 | tuple ho hc hd hl=>exact oz w8 hu ho hc hd ok hl h
 | _=>exact nB ok
theorem uL (hu:A.units+1 < cLine):kf prog w A E dp (vG w) Au:=fun x v as s Q ok r h=>by
 cases r with
 | tuple ho hc hd hl=>exact oz (w9 hu) (Nat.lt_of_succ_lt hu) ho hc hd ok hl h
 | _=>exact nB ok
theorem yX (h:aL x=true):x.canLay0=true∧x.depth≤0:=by
 cases x with
 | int=>exact ⟨rfl,Nat.le_refl _⟩
 | str=>exact ⟨h,Nat.le_refl _⟩
 | _=>exact nB h
theorem l8 (hk:∀ x,ok x=true→x.canLay0=true∧x.depth≤n):∀ l:List V,l.all ok=true→PyData.canLayAll0 l=true∧PyData.depthAll l≤n
 | [],_=>⟨rfl,Nat.zero_le _⟩
 | x :: l,h=>by
  have h:=zA2 h
  have q:=l8 hk l h.2
  exact ⟨zA3 ⟨(hk x h.1).1,q.1⟩,Nat.max_le.mpr ⟨(hk x h.1).2,q.2⟩⟩
theorem zA (h:itV x=true):x.canLay0=true∧x.depth≤1:=by
 cases x with
 | none=>exact ⟨rfl,Nat.zero_le _⟩
 | tuple l=>exact (l8 (fun x=>yX) l h).imp id Nat.succ_le_succ
 | int=>exact ⟨rfl,Nat.zero_le _⟩
 | str=>exact ⟨h,Nat.zero_le _⟩
 | _=>exact nB h
theorem gx (h:dp x=true):x.canLay0=true∧x.depth≤2:=by
 cases x with
 | tuple l=>exact (l8 (fun x=>zA) l h).imp id Nat.succ_le_succ
 | _=>exact nB h
def tL (ok:V→Bool):Prop:=∀ x y,ok x=true→ok y=true→(PyData.eqv x y=true ↔ x=y)
theorem lY (hk:tL ok):∀ l m:List V,l.all ok=true→m.all ok=true→(PyData.eqvAll l m=true ↔ l=m)
 | [],[],_,_=>⟨fun _=>rfl,fun _=>rfl⟩
 | [],_ :: _,_,_=>iff_of_false nofun nofun
 | _ :: _,[],_,_=>iff_of_false nofun nofun
 | x :: l,y :: m,h1,h2=>by
  have h1:=zA2 h1
  have h2:=zA2 h2
  refine (?_:(PyData.eqv x y&&PyData.eqvAll l m)=true ↔ _)
  rw [Bool.and_eq_true,hk x y h1.1 h2.1,lY hk l m h1.2 h2.2,List.cons.injEq]
theorem j7:tL aL:=fun x y hx hy=>by
 cases x with
 | int i=>cases y with
  | int j=>exact ⟨fun h=>congrArg _ (eq_of_beq h),fun h=>by (injection h with h; subst h); exact beq_self_eq_true i⟩
  | str t=>exact iff_of_false nofun nofun
  | _=>exact nB hy
 | str s=>cases y with
  | int j=>exact iff_of_false nofun nofun
  | str t=>exact ⟨fun h=>congrArg _ (eq_of_beq h),fun h=>by (injection h with h; subst h); exact beq_self_eq_true s⟩
  | _=>exact nB hy
 | _=>exact nB hx
theorem zU:tL itV:=fun x y hx hy=>by
 cases x with
 | none=>cases y with
  | none=>exact ⟨fun _=>rfl,fun _=>rfl⟩
  | _=>exact iff_of_false nofun nofun
 | tuple l=>cases y with
  | tuple m=>exact (lY j7 l m hx hy).trans ⟨fun h=>congrArg _ h,fun h=>PyData.tuple.inj h⟩
  | _=>exact iff_of_false nofun nofun
 | int i=>cases y with
  | int j=>exact j7 _ _ hx hy
  | str t=>exact j7 _ _ hx hy
  | bool=>exact nB hy
  | _=>exact iff_of_false nofun nofun
 | str s=>cases y with
  | int j=>exact j7 _ _ hx hy
  | str t=>exact j7 _ _ hx hy
  | _=>exact iff_of_false nofun nofun
 | _=>exact nB hx
theorem eqv_key:tL dp:=fun x y hx hy=>by
 cases x with
 | tuple l=>cases y with
  | tuple m=>exact (lY zU l m hx hy).trans ⟨fun h=>congrArg _ h,fun h=>PyData.tuple.inj h⟩
  | _=>exact nB hy
 | _=>exact nB hx
end
section
variable {prog:Program} {w:World} {A:Around} {E:Value→Shared→Prop} {s:Shared}
def ju (prog:Program) (w:World) (A:Around) (E:Value→Shared→Prop) (ok:V→Bool) (m:Nat):Prop:=∀ x v as (s:Shared) (Q:Bool→Shared→Prop),ok x=true→Reads s.heap v x as→Q true s→wpAny (model prog w) A (eqIsQuiet m v) Q E s
theorem kK (hk:ju prog w A E ok m) (ho:s.heap.get? a=some o) (hc:o.cls=.type "tuple") (hd:o.data=.seq vs n) (hl:l.all ok=true) (r:ReadsAll s.heap vs.toList l as) (h:Q true s) :
  wpAny (model prog w) A (eqIsQuiet (m+1) (.ref a)) Q E s:=by
 have hT:s.TypeIs (.ref a) "tuple":=⟨o,ho,hc⟩
 unfold eqIsQuiet
 refine zC1 (wpAny_specialOf hT F.slot_tuple_eq.lookup ?_)
 refine (?_:wpAny _ _ (isInstance (.ref a) (.type "tuple") >>= _) _ _ s)
 refine zC1 (wpAny_isInstance hT isSubtype_tuple_tuple ?_)
 refine bv (c:=(!true)=true) Bool.false_ne_true (zC1 (wpAny_seqItems ho hd (zC1 ?_)))
 refine (?_:wpAny _ _ (forIn vs _ _) _ _ s)
 rw [← Array.forIn_toList]
 refine wpAny_forIn_list _ (fun rest r s'=>r.1=none∧s'=s∧∃ l' as',l'.all ok=true∧ReadsAll s.heap rest l' as') _ ?_ ?_ _ _ ⟨rfl,rfl,l,as,hl,r⟩
 ·rintro v rest r s' ⟨hr,rfl,l',as',hl',rr⟩
  cases rr with
  | cons r1 rs=>
   have q:=zA2 hl'
   refine zC1 (hk _ _ _ s' _ q.1 r1 ?_)
   exact bv (c:=(!true)=true) Bool.false_ne_true (zC2 ⟨rfl,rfl,_,_,q.2,rs⟩)
 ·rintro ⟨r1,r2⟩ s' ⟨hr,rfl,_⟩
  obtain rfl:r1=none:=hr
  exact wpAny_pure h
theorem di (hv:carriedByValue v=true) (h:Q true s):wpAny (model prog w) A (eqIsQuiet m v) Q E s:=by
 rw [eqIsQuiet_byValue _ hv]; exact wpAny_pure h
theorem ul:ju prog w A E aL m:=fun x v as s Q ok r h=>by
 cases r with
 | int i t=>exact di rfl h
 | str x t=>exact di rfl h
 | _=>exact nB ok
theorem um:ju prog w A E itV (m+1):=fun x v as s Q ok r h=>by
 cases r with
 | none=>exact di rfl h
 | int i t=>exact di rfl h
 | str x t=>exact di rfl h
 | tuple ho hc hd hl=>exact kK ul ho hc hd ok hl h
 | _=>exact nB ok
theorem sK:ju prog w A E dp 8:=fun x v as s Q ok r h=>by
 cases r with
 | tuple ho hc hd hl=>exact kK (um (m:=6)) ho hc hd ok hl h
 | _=>exact nB ok
end
def mU (h h':Heap) (ok:V→Bool):Prop:=∀ x v as,ok x=true→Reads h v x as→Reads h' v x as
section
variable {h h':Heap}
theorem qG (hk:mU h h' ok):∀ (l:List V) (vs:List Value) (as:List Addr),l.all ok=true→ReadsAll h vs l as→ReadsAll h' vs l as
 | [],_,_,_,r=>by
  cases r; exact .nil
 | x :: l,_,_,q,r=>by
  cases r with
  | cons r rs=>exact .cons (hk x _ _ (zA2 q).1 r) (qG hk l _ _ (zA2 q).2 rs)
theorem AJ:mU h h' aL:=fun x v as ok r=>by
 cases r with
 | int i t=>exact .int i t
 | str x t=>exact .str x t
 | _=>exact nB ok
theorem AT (k:∀ b o vs n,h.get? b=some o→o.data=.seq vs n→h'.get? b=some o):mU h h' itV:=fun x v as ok r=>by
 cases r with
 | none=>exact .none
 | int i t=>exact .int i t
 | str x t=>exact .str x t
 | tuple ho hc hd hl=>exact .tuple (k _ _ _ _ ho hd) hc hd (qG AJ _ _ _ ok hl)
 | _=>exact nB ok
theorem zt (k:∀ b o vs n,h.get? b=some o→o.data=.seq vs n→h'.get? b=some o):mU h h' dp:=fun x v as ok r=>by
 cases r with
 | tuple ho hc hd hl=>exact .tuple (k _ _ _ _ ho hd) hc hd (qG (AT k) _ _ _ ok hl)
 | _=>exact nB ok
end
def KIs (h:Heap) (x:V) (a:Addr):Prop:=dp x=true∧∃ as,Reads h (.ref a) x as
theorem KIs.keep (r:KIs h x a) (k:∀ b o vs n,h.get? b=some o→o.data=.seq vs n→h'.get? b=some o):KIs h' x a:=⟨r.1,r.2.imp fun as q=>zt k x _ _ r.1 q⟩
theorem wK {h:Heap} {d:Addr} {o o':Obj} {es:Array DictEntry} {ep n:Nat} {vs:Array Value} (hd:o.data=.dict es ep) (ho:h.get? d=some o) (c:o'.data=.seq vs n) (e:h.get? d=some o'):False:=by
 rw [ho] at e
 injection e with e
 subst e
 exact nomatch hd.symm.trans c
noncomputable def fF:DecidableEq V:=fun a b=>Classical.propDecidable (a=b)
theorem lX (hx:dp x=true) (hy:dp y=true):PyData.eqv x y=@decide (x=y) (fF x y):=by
 rw [Bool.eq_iff_iff,eqv_key x y hx hy]
 exact (@decide_eq_true_iff _ (fF x y)).symm
noncomputable def i6 (prog:Program) (w:World):@HeapKind prog w V fF:=
 @HeapKind.mk prog w V fF KIs (vG w) Au (fun A=>A.units+2 < cLine)
  (fun hx hy=>hx.2.elim fun _ r=>hy.2.elim fun _ r'=>SeqAt.Reads.unique _ _ _ _ _ (gx hx.1).1 r r')
  (fun r ho hd hs=>r.keep fun b o' vs n e c=>(hs.2 b fun q=>wK hd ho c (q▸e)).trans e)
  (fun hu hk h=>hk.2.elim fun _ r=>uL (Nat.lt_of_succ_lt hu) _ _ _ _ _ hk.1 r h)
  (fun hu hx hy h=>hx.2.elim fun _ r=>hy.2.elim fun _ r'=>SeqAt.eqBoolOverData _ _ _ _ _ _ _ _ _ _ _ _ r r' (gx hx.1).1 (gx hy.1).1 (Nat.lt_of_le_of_lt (Nat.add_le_add_left (zB1 (Nat.min_le_right _ _) (gx hy.1).2) _) hu) ((lX hx.1 hy.1).symm▸h))
  (fun hk h=>hk.2.elim fun _ r=>sK _ _ _ _ _ hk.1 r h)
end Mine
end
noncomputable section
namespace Mine
open PySem PySem.Calls PyProof.Rows PySem.W
section
def aI (h h':Heap):Prop:=∀ b o,h.get? b=some o→h'.get? b=some o
def iy (o:Obj):Prop:=o.cls≠.type "frame"
def bB (h':Heap) (b:Addr) (o:Obj):Prop:=∃ sl,h'.get? b=some { o with slots:=sl }∧(iy o→sl=o.slots)
def aF (h h':Heap):Prop:=∀ b o,h.get? b=some o→bB h' b o
def aS (h:Heap) (a:Addr):Prop:=∃ o,h.get? a=some o
theorem bB.of (e:h'.get? b=some o):bB h' b o:=⟨o.slots,e,fun _=>rfl⟩
theorem bB.get (x:bB h' b o) (n:iy o):h'.get? b=some o:=by
 obtain ⟨sl,e',q⟩:=x
 rw [e',q n]
theorem bB.live (x:bB h' b o):aS h' b:=x.elim fun _ q=>⟨_,q.1⟩
theorem bB.step (x:bB h₂ b o) (y:∀ o',h₂.get? b=some o'→bB h₃ b o'):bB h₃ b o:=by
 obtain ⟨sl,e₁,q₁⟩:=x
 obtain ⟨sl',e₂,q₂⟩:=y _ e₁
 exact ⟨sl',e₂,fun n=>(q₂ n).trans (q₁ n)⟩
theorem aI.keeps (x:aI h h'):aF h h':=fun b o e=>⟨o.slots,x b o e,fun _=>rfl⟩
theorem aF.get (x:aF h h') (e:h.get? b=some o) (n:iy o):h'.get? b=some o:=(x b o e).get n
theorem aF.refl (h:Heap):aF h h:=aI.keeps fun _ _ e=>e
theorem aF.trans (x:aF h₁ h₂) (y:aF h₂ h₃):aF h₁ h₃:=fun b o e=>(x b o e).step (y b)
theorem aF.live (x:aF h h'):aS h a→aS h' a:=fun Zq1=>Zq1.elim fun o e=>(x a o e).live
theorem aI.trans (x:aI h₁ h₂) (y:aI h₂ h₃):aI h₁ h₃:=fun b o e=>y b o (x b o e)
theorem aI.live (x:aI h h'):aS h a→aS h' a:=x.keeps.live
theorem wN (h:o.cls=.type n) (q:n≠"frame"):iy o:=fun e=>q (Value.type.inj (h.symm.trans e))
def dL (h:Heap) (a:Addr):Prop:=∃ o,h.get? a=some o∧iy o
theorem dL.live (x:dL h a):aS h a:=x.elim fun o q=>⟨o,q.1⟩
theorem dL.nf (x:dL h a) (e:h.get? a=some o):iy o:=by obtain ⟨o',e',n⟩:=x; rw [e] at e'; (injection e' with e'; subst e'); exact n
def lj (h:Heap) (v:Value):Prop:=∀ a b,v=.ref a→aS h b→b < a
theorem lj.le (x:lj h' v) (k:∀ b,aS h b→aS h' b):lj h v:=fun a b e l=>x a b e (k b l)
theorem eQ (q:h.objs.size≤n):lj h (.ref n):=fun a b e Zq2=>Zq2.elim fun o l=>by (injection e with e; subst e); exact Nat.lt_of_lt_of_le (Heap.lt_size l) q
theorem ak (h:Heap):h.get? h.objs.size=none:=by
 cases e:h.get? h.objs.size with
 | none=>rfl
 | some o=>exact absurd (Heap.lt_size e) (Nat.lt_irrefl _)
theorem aM (l:aS h a→aS h' a) (e:h'.get? a=none):h.get? a=none:=by
 cases q:h.get? a with
 | none=>rfl
 | some o=>obtain ⟨o',e'⟩:=l ⟨o,q⟩; rw [e] at e'; (injection e'; done)
theorem aw (h:Heap) (o:Obj):aI h (h.push o):=fun _ _ e=>Heap.get?_push_of_some _ e
theorem dH (h:Heap) (o:Obj):aF h (h.push o):=(aw h o).keeps
structure Gl where
 prog:Program
 w:World
 h0:Heap
 mg:Str→Option Value
 mb:Str→Option Value
 fn:Nat→Addr
 C:Addr
 K:Frag
 flds:List Str
 os:OsState
 P:Prog
 cls:Nat→Addr
 nc:Nat
 safe:Nat→Bool
 newf:Nat→Bool
 fns:List (Str×Nat)
 clss:List (Str×Nat)
 cons:List (Str×V)
structure Base (g:Gl) (s:Shared):Prop where
 stays:aI g.h0 s.heap
 os:s.os=g.os
 gens:s.gens=#[]
def d7 (g:Gl) (o:Obj) (ws:List Value):Prop:=o.ExactDict∧∃ es n,o.data=.dict es n∧es.toList.map (·.val)=ws∧∀ (j:Nat) e,es[j]?=some e→∃ x t,g.flds[j]?=some x∧e.key=.str x t
def tO (a:Addr) (ws:List Value) (l:List V):Prop:=∀ (j:Nat) b m,ws[j]?=some (.ref b)→l[j]?=some (.list m)→a < b
def DOk (w:World) (kvs:List (V×V)) (es:Array DictEntry):Prop:=dkV kvs=true∧(kvs.map (·.1)).Nodup∧es.toList.map (·.hash)=kvs.map fun p=>vG w p.1
mutual
inductive Rp (g:Gl) (bad:Addr→Prop) (h:Heap):Value→V→Prop
 | none:Rp g bad h .none .none
 | bool (b:Bool):Rp g bad h (.bool b) (.bool b)
 | int (i:Int) (t:Tok):Rp g bad h (.int i t) (.int i)
 | str (x:Str) (t:Tok):Rp g bad h (.str x t) (.str x)
 | list {a:Addr} {o:Obj} {vs:Array Value} {n:Nat} {l:List V}:¬ bad a→h.get? a=some o→o.cls=.type "list"∧o.dict=none→o.data=.seq vs n→RpAll g bad h vs.toList l→Rp g bad h (.ref a) (.list l)
 | tuple {a:Addr} {o:Obj} {vs:Array Value} {n:Nat} {l:List V}:¬ bad a→h.get? a=some o→o.cls=.type "tuple"→o.data=.seq vs n→RpAll g bad h vs.toList l→Rp g bad h (.ref a) (.tuple l)
 | inst {a d:Addr} {o:Obj} {ws:List Value} {kvs:List (V×V)} {l:List V}:¬ bad a→¬ bad d→h.get? a=some (instObj g.C d)→h.get? d=some o→d7 g o ws→tO a ws l→pH kvs=true→kvs.map (·.2)=l→RpAll g bad h ws l→Rp g bad h (.ref a) (.dict kvs)
 | exc {a:Addr} {o:Obj} {c:Nat} {vs:Array Value}:c < g.nc→¬ bad a→h.get? a=some o→o.cls=.ref (g.cls c)∧o.dict=none→o.data=.fields vs→Rp g bad h (.ref a) (.dict [(.int c,.none)])
 | dict {a:Addr} {o:Obj} {es:Array DictEntry} {n:Nat} {kvs:List (V×V)} {l m:List V}:¬ bad a→a≠sysModules→h.get? a=some o→o.ExactDict→o.data=.dict es n→DOk g.w kvs es→kvs.map (·.1)=l→kvs.map (·.2)=m→RpAll g bad h (es.toList.map (·.key)) l→RpAll g bad h (es.toList.map (·.val)) m→Rp g bad h (.ref a) (.dict kvs)
inductive RpAll (g:Gl) (bad:Addr→Prop) (h:Heap):List Value→List V→Prop
 | nil:RpAll g bad h [] []
 | cons {v:Value} {vs:List Value} {x:V} {l:List V}:Rp g bad h v x→RpAll g bad h vs l→RpAll g bad h (v :: vs) (x :: l)
end
section
variable {g:Gl} {bad bad':Addr→Prop} {h h':Heap} {v:Value} {x:V} {vs ws:List Value} {l m:List V}
def cX (bad bad':Addr→Prop) (h h':Heap):Prop:=∀ a o,h.get? a=some o→iy o→¬ bad a→¬ bad' a∧h'.get? a=some o
theorem Rp.ind {C:Value→V→Prop} {D:List Value→List V→Prop} (none:C .none .none) (bool:∀ b,C (.bool b) (.bool b)) (int:∀ i t,C (.int i t) (.int i)) (str:∀ x t,C (.str x t) (.str x))
  (list:∀ a (o:Obj) vs n l,¬ bad a→h.get? a=some o→o.cls=.type "list"∧o.dict=.none→o.data=.seq vs n→RpAll g bad h vs.toList l→D vs.toList l→C (.ref a) (.list l))
  (tuple:∀ a (o:Obj) vs n l,¬ bad a→h.get? a=some o→o.cls=.type "tuple"→o.data=.seq vs n→RpAll g bad h vs.toList l→D vs.toList l→C (.ref a) (.tuple l))
  (inst:∀ a d o ws kvs,¬ bad a→¬ bad d→h.get? a=some (instObj g.C d)→h.get? d=some o→d7 g o ws→tO a ws (kvs.map (·.2))→pH kvs=true→RpAll g bad h ws (kvs.map (·.2))→D ws (kvs.map (·.2))→C (.ref a) (.dict kvs))
  (exc:∀ a (o:Obj) c vs,c < g.nc→¬ bad a→h.get? a=some o→o.cls=.ref (g.cls c)∧o.dict=.none→o.data=.fields vs→C (.ref a) (.dict [(.int c,.none)]))
  (dict:∀ a (o:Obj) es n kvs,¬ bad a→a≠sysModules→h.get? a=some o→o.ExactDict→o.data=.dict es n→DOk g.w kvs es→RpAll g bad h (es.toList.map (·.key)) (kvs.map (·.1))→RpAll g bad h (es.toList.map (·.val)) (kvs.map (·.2))→D (es.toList.map (·.key)) (kvs.map (·.1))→D (es.toList.map (·.val)) (kvs.map (·.2))→C (.ref a) (.dict kvs))
  (nil:D [] []) (cons:∀ v vs x l,Rp g bad h v x→RpAll g bad h vs l→C v x→D vs l→D (v :: vs) (x :: l)):(Rp g bad h v x→C v x)∧(RpAll g bad h vs l→D vs l):=by
 constructor
 ·exact fun r=>Rp.rec (motive_1:=fun v x _=>C v x) (motive_2:=fun vs l _=>D vs l) none bool int str (fun a b c d e i=>list _ _ _ _ _ a b c d e i) (fun a b c d e i=>tuple _ _ _ _ _ a b c d e i) (fun a b c d e f k q r i=>by subst q; exact inst _ _ _ _ _ a b c d e f k r i) (exc _ _ _ _) (fun a f b c d e q1 q2 r1 r2 i j=>by subst q1 q2; exact dict _ _ _ _ _ a f b c d e r1 r2 i j) nil (fun a b c d=>cons _ _ _ _ a b c d) r
 ·exact fun r=>RpAll.rec (motive_1:=fun v x _=>C v x) (motive_2:=fun vs l _=>D vs l) none bool int str (fun a b c d e i=>list _ _ _ _ _ a b c d e i) (fun a b c d e i=>tuple _ _ _ _ _ a b c d e i) (fun a b c d e f k q r i=>by subst q; exact inst _ _ _ _ _ a b c d e f k r i) (exc _ _ _ _) (fun a f b c d e q1 q2 r1 r2 i j=>by subst q1 q2; exact dict _ _ _ _ _ a f b c d e r1 r2 i j) nil (fun a b c d=>cons _ _ _ _ a b c d) r
theorem fc:iy (instObj C d):=nofun
theorem zc (h:o.cls=.ref c):iy o:=fun e=>nomatch h.symm.trans e
theorem aK (h:o.cls=.type n) (q:n≠"frame":=by decide):iy o:=wN h q
theorem vm (k:cX bad bad' h h'):(Rp g bad h v x→Rp g bad' h' v x)∧(RpAll g bad h vs l→RpAll g bad' h' vs l):=
 Rp.ind .none .bool .int .str (fun a o vs n l hb ha hc hd _ ih=>let q:=k a o ha (aK hc.1) hb; .list q.1 q.2 hc hd ih) (fun a o vs n l hb ha hc hd _ ih=>let q:=k a o ha (aK hc) hb; .tuple q.1 q.2 hc hd ih)
  (fun a d o ws kvs hb hb' ha hd hf hn hi r ih=>let q:=k a _ ha fc hb; let q':=k d o hd (aK hf.1.1) hb'; .inst q.1 q'.1 q.2 q'.2 hf hn hi rfl ih)
  (fun a o c vs hn hb ha hc hd=>let q:=k a o ha (zc hc.1) hb; .exc hn q.1 q.2 hc hd) (fun a o es n kvs hb hm ha hc hd he _ _ i j=>let q:=k a o ha (aK hc.1) hb; .dict q.1 hm q.2 hc hd he rfl rfl i j) .nil fun _ _ _ _ _ _ i j=>.cons i j
theorem Rp.map (r:Rp g bad h v x) (k:cX bad bad' h h'):Rp g bad' h' v x:=(vm (vs:=[]) (l:=[]) k).1 r
theorem RpAll.map (r:RpAll g bad h vs l) (k:cX bad bad' h h'):RpAll g bad' h' vs l:=(vm (v:=.none) (x:=.none) k).2 r
theorem aF.mapK (k:aF h h'):cX bad bad h h':=fun a o e q n=>⟨n,k.get e q⟩
theorem Rp.keep (r:Rp g bad h v x) (k:aF h h'):Rp g bad h' v x:=r.map k.mapK
theorem RpAll.keep (r:RpAll g bad h vs l) (k:aF h h'):RpAll g bad h' vs l:=r.map k.mapK
theorem RpAll.ind {D:List Value→List V→Prop} (r:RpAll g bad h vs l) (n:D [] []) (c:∀ v vs x l,Rp g bad h v x→RpAll g bad h vs l→D vs l→D (v :: vs) (x :: l)):D vs l:=
 (Rp.ind (v:=.none) (x:=.none) (C:=fun _ _=>True) trivial (fun _=>trivial) (fun _ _=>trivial) (fun _ _=>trivial) (fun _ _ _ _ _ _ _ _ _ _ _=>trivial) (fun _ _ _ _ _ _ _ _ _ _ _=>trivial) (fun _ _ _ _ _ _ _ _ _ _ _ _ _ _=>trivial) (fun _ _ _ _ _ _ _ _ _=>trivial) (fun _ _ _ _ _ _ _ _ _ _ _ _ _ _ _=>trivial) n fun v vs x l r rs _ i=>c v vs x l r rs i).2 r
theorem RpAll.length (r:RpAll g bad h vs l):vs.length=l.length:=r.ind (D:=fun vs l=>vs.length=l.length) rfl fun _ _ _ _ _ _ i=>congrArg (· + 1) i
theorem RpAll.get {i:Nat} (r:RpAll g bad h vs l):l[i]?=some x→∃ v,vs[i]?=some v∧Rp g bad h v x:=by
 refine r.ind (D:=fun vs l=>∀ i,l[i]?=some x→∃ v,vs[i]?=some v∧Rp g bad h v x) (fun i e=>absurd (List.getElem?_nil (i:=i)▸e) nofun) (fun v vs y l r _ ih i e=>?_) i
 cases i with
 | zero=>(injection e with e; subst e); exact ⟨_,rfl,r⟩
 | succ i=>exact ih i e
theorem RpAll.append (r:RpAll g bad h vs l) (q:RpAll g bad h ws m):RpAll g bad h (vs++ws) (l++m):=r.ind (D:=fun vs l=>RpAll g bad h (vs++ws) (l++m)) q fun _ _ _ _ r _ i=>.cons r i
theorem RpAll.take (n:Nat) (r:RpAll g bad h vs l):RpAll g bad h (vs.take n) (l.take n):=by
 refine r.ind (D:=fun vs l=>∀ n,RpAll g bad h (vs.take n) (l.take n)) (fun n=>?_) (fun v vs x l r _ ih n=>?_) n
 ·rw [List.take_nil,List.take_nil]; exact .nil
 ·cases n with
  | zero=>exact .nil
  | succ n=>exact .cons r (ih n)
theorem RpAll.drop (n:Nat) (r:RpAll g bad h vs l):RpAll g bad h (vs.drop n) (l.drop n):=by
 refine r.ind (D:=fun vs l=>∀ n,RpAll g bad h (vs.drop n) (l.drop n)) (fun n=>?_) (fun v vs x l r rs ih n=>?_) n
 ·rw [List.drop_nil,List.drop_nil]; exact .nil
 ·cases n with
  | zero=>exact .cons r rs
  | succ n=>exact ih n
theorem nK:(Rp g bad h v x→x.canLay0=true→∃ as,Reads h v x as)∧(RpAll g bad h vs l→PyData.canLayAll0 l=true→∃ as,ReadsAll h vs l as):=
 Rp.ind (C:=fun v x=>x.canLay0=true→∃ as,Reads h v x as) (D:=fun vs l=>PyData.canLayAll0 l=true→∃ as,ReadsAll h vs l as) (fun _=>⟨_,.none⟩) (fun b _=>⟨_,.bool b⟩) (fun i t _=>⟨_,.int i t⟩) (fun x t _=>⟨_,.str x t⟩)
  (fun a o vs n l hb ha hc hd _ ih q=>(ih q).elim fun _ r=>⟨_,.list ha hc.1 hd r⟩) (fun a o vs n l hb ha hc hd _ ih q=>(ih q).elim fun _ r=>⟨_,.tuple ha hc hd r⟩) (fun _ _ _ _ _ _ _ _ _ _ _ _ _ _ q=>nB q) (fun _ _ _ _ _ _ _ _ _ q=>nB q) (fun _ _ _ _ _ _ _ _ _ _ _ _ _ _ _ q=>nB q) (fun _=>⟨_,.nil⟩)
  fun v vs x l _ _ i j q=>by
   have q:=zA2 q
   obtain ⟨as,r⟩:=i q.1
   obtain ⟨bs,rs⟩:=j q.2
   exact ⟨_,.cons r rs⟩
theorem Rp.reads (r:Rp g bad h v x) (q:x.canLay0=true):∃ as,Reads h v x as:=(nK (vs:=[]) (l:=[])).1 r q
@[elab_as_elim] theorem Rp.none_elim {C:Value→Prop} (r:Rp g bad h v .none) (k:C .none):C v:=by cases r; exact k
@[elab_as_elim] theorem Rp.bool_elim {C:Value→Prop} {b:Bool} (r:Rp g bad h v (.bool b)) (k:C (.bool b)):C v:=by cases r; exact k
@[elab_as_elim] theorem Rp.int_elim {C:Value→Prop} {i:Int} (r:Rp g bad h v (.int i)) (k:∀ t,C (.int i t)):C v:=by cases r; exact k _
@[elab_as_elim] theorem Rp.str_elim {C:Value→Prop} {x:Str} (r:Rp g bad h v (.str x)) (k:∀ t,C (.str x t)):C v:=by cases r with | str _ t=>exact k t
@[elab_as_elim] theorem Rp.list_elim {C:Value→Prop} (r:Rp g bad h v (.list l)) (k:∀ a (o:Obj) vs n,¬ bad a→h.get? a=some o→o.cls=.type "list"∧o.dict=Option.none→o.data=.seq vs n→RpAll g bad h vs.toList l→C (.ref a)):C v:=by
 cases r with | list hb ha hc hd hl=>exact k _ _ _ _ hb ha hc hd hl
@[elab_as_elim] theorem Rp.tuple_elim {C:Value→Prop} (r:Rp g bad h v (.tuple l)) (k:∀ a (o:Obj) vs n,¬ bad a→h.get? a=some o→o.cls=.type "tuple"→o.data=.seq vs n→RpAll g bad h vs.toList l→C (.ref a)):C v:=by
 cases r with | tuple hb ha hc hd hl=>exact k _ _ _ _ hb ha hc hd hl
theorem yl (q:pH kvs=true) (d:dkV kvs=true):False:=by
 cases kvs with
 | nil=>exact nB q
 | cons p r=>
  obtain ⟨x,y⟩:=p
  cases x with
  | none=>exact nomatch (List.all_eq_true.mp d _ (.head _):dp .none=true)
  | _=>exact nB q
@[elab_as_elim] theorem Rp.inst_elim {C:Value→Prop} {kvs:List (V×V)} (r:Rp g bad h v (.dict kvs)) (q:pH kvs=true) (k:∀ a d o ws,¬ bad a→¬ bad d→h.get? a=some (instObj g.C d)→h.get? d=some o→d7 g o ws→tO a ws (kvs.map (·.2))→RpAll g bad h ws (kvs.map (·.2))→C (.ref a)):C v:=by
 cases r with
 | inst hb hb' ha hd hf hn _ e hl=>subst e; exact k _ _ _ _ hb hb' ha hd hf hn hl
 | exc=>(injection q; done)
 | dict _ _ _ _ _ he=>exact (yl q he.1).elim
@[elab_as_elim] theorem Rp.dict_elim {C:Value→Prop} {kvs:List (V×V)} (r:Rp g bad h v (.dict kvs)) (q:dkV kvs=true) (k:∀ a (o:Obj) es n,¬ bad a→a≠sysModules→h.get? a=some o→o.ExactDict→o.data=.dict es n→DOk g.w kvs es→RpAll g bad h (es.toList.map (·.key)) (kvs.map (·.1))→RpAll g bad h (es.toList.map (·.val)) (kvs.map (·.2))→C (.ref a)):C v:=by
 cases r with
 | inst _ _ _ _ _ _ q'=>exact (yl q' q).elim
 | exc=>(injection q; done)
 | dict hb hm ha hc hd he e1 e2 r1 r2=>subst e1 e2; exact k _ _ _ _ hb hm ha hc hd he r1 r2
end
end
inductive Pl where
 | ns (a:Addr) (x:Str)
 | cell (c:Addr)
 | off
noncomputable def Pl.addr:Pl→Option Addr
 | .ns a _=>some a
 | .cell c=>some c
 | .off=>none
noncomputable def aZ (h:Heap):Pl→Option Value→Prop
 | .ns a x,v=>∃ m,h.Ns a m∧m x=v
 | .cell c,v=>h.IsCell c v
 | .off,v=>v=none
structure Fx where
 g:Gl
 A:Around
 env:Env
 ρ:List (Str×Nat)
 pl:Nat→Pl
 Mo:Addr→Prop
 nf:Nat
 ns:Nat
 d:Nat
 hm:Bool
 nw:Bool
structure Ct where
 fx:Fx
 oa:Nat→Option Addr
 G:Gs
def Ct.own (Φ:Ct) (a:Addr):Prop:=(∃ k,(Φ.fx.pl k).addr=some a)∨∃ k,Φ.oa k=some a
def Ct.bad (Φ:Ct) (a:Addr):Prop:=Φ.fx.Mo a∨Φ.own a
inductive OwnLAt (g:Gl) (bad:Addr→Prop) (h:Heap) (a:Addr) (u:Value) (l:List V):Prop
 | mk (e:u=.ref a) (o:Obj) (vs:Array Value) (n:Nat) (ho:h.get? a=some o) (hc:o.cls=.type "list"∧o.dict=none) (hd:o.data=.seq vs n) (hl:RpAll g bad h vs.toList l):OwnLAt g bad h a u l
inductive OwnDAt (g:Gl) (bad:Addr→Prop) (h:Heap) (a:Addr) (u:Value) (l:List (V×V)):Prop
 | mk (e:u=.ref a) (o:Obj) (es:Array DictEntry) (n:Nat) (ho:h.get? a=some o) (hc:o.ExactDict) (hd:o.data=.dict es n) (hk:DOk g.w l es) (r1:RpAll g bad h (es.toList.map (·.key)) (l.map (·.1))) (r2:RpAll g bad h (es.toList.map (·.val)) (l.map (·.2))):OwnDAt g bad h a u l
inductive OwnIAt (g:Gl) (bad:Addr→Prop) (h:Heap) (a:Addr) (u:Value) (l:List V):Prop
 | mk (b:Addr) (o:Obj) (ws:List Value) (e:u=.ref b) (eb:b=a+1) (nb:¬ bad b) (hb:h.get? b=some (instObj g.C a)) (ho:h.get? a=some o) (hf:d7 g o ws) (hn:tO b ws l) (hl:RpAll g bad h ws l):OwnIAt g bad h a u l
noncomputable def gj (g:Gl) (bad:Addr→Prop) (h:Heap) (a:Addr) (u:Value):Slot→Prop
 | .ownL l=>OwnLAt g bad h a u l
 | .ownD l=>OwnDAt g bad h a u l
 | .ownI l=>OwnIAt g bad h a u l
 | _=>False
noncomputable def d5 (g:Gl) (bad:Addr→Prop) (h:Heap) (oak:Option Addr) (v:Option Value):Slot→Prop
 | .unset=>oak=none∧v=none
 | .v x=>oak=none∧∃ u,v=some u∧Rp g bad h u x
 | sl=>∃ a u,oak=some a∧v=some u∧gj g bad h a u sl
def gD (h0 h:Heap) (l:List Env):Prop:=∀ env∈l,env.scope.kind≠.module∧∃ L o,env.frame=some L∧h0.get? L=none∧h.get? L=some o∧o.cls=.type "frame"∧∀ vs,o.data≠.fields vs
def fw (g:Gl) (A:Around) (h:Heap):Prop:=∃ l,A.frames=some l∧gD g.h0 h l
inductive ExcAt (h:Heap) (lo:Heap) (e:Addr) (cls fl:Value):Prop
 | mk (oe:Obj) (vs:Array Value):h.get? e=some oe→oe.cls=cls→oe.dict=none→oe.data=.fields vs→lo.get? e=none→1 < vs.size →
  (vs[1]?=some .none∨∃ T oT ts,vs[1]?=some (.ref T)∧T≠e∧lo.get? T=none∧h.get? T=some oT∧oT.data=.fields ts∧ts[3]?=some fl)→ExcAt h lo e cls fl
theorem fw.of (x:fw g A h) (e:A.frames=some l):gD g.h0 h l:=x.elim fun _ q=>Option.some.inj (q.1.symm.trans e)▸q.2
theorem ExcAt.el {h lo:Heap} {e:Addr} {cls fl:Value} {Z:Prop} (x:ExcAt h lo e cls fl) (k:∀ oe vs,h.get? e=some oe→oe.cls=cls→oe.dict=none→oe.data=.fields vs→lo.get? e=none→Z):Z:=by
 cases x with | mk oe vs a b c d e=>exact k oe vs a b c d e
inductive CallX (g:Gl) (s:Shared) (K:V→Prop) (x:Value) (s':Shared):Prop
 | mk:Base g s'→aF s.heap s'.heap→∀ c e,x=.ref e→c < g.nc→K (gz c)→ExcAt s'.heap s.heap e (.ref (g.cls c)) .none→CallX g s K x s'
inductive CallP (g:Gl) (bad:Addr→Prop) (f:Nat) (s:Shared) (K:V→Prop) (v:Value) (s':Shared):Prop
 | mk:Base g s'→aF s.heap s'.heap→∀ y,K y→noX y=true→Rp g bad s'.heap v y→(g.newf f=true→lj s.heap v)→CallP g bad f s K v s'
def mW (hm:Bool) (A:Around):Prop:=hm=false→A.handled=none
def fj (g:Gl) (cf:aj) (d:Nat):Prop:=∀ hm f args K A s bad vals,cf f args K→mW hm A→(hm=true→g.safe f=true)→A.depth+2 * d < 990→A.units+4 * d+100 < cLine→Base g s→fw g A s.heap→(∀ a,bad a→aS s.heap a)→(∀ a,bad a→g.h0.get? a=none)→RpAll g bad s.heap vals args →
 wpAny (model g.prog g.w) A (call (.ref (g.fn f)) vals) (CallP g bad f s K) (CallX g s K) s
structure ClsOk (g:Gl):Prop where
 hga:findIn g.K (.ref g.C) "__getattribute__"=some (some (.builtin "object.__getattribute__"))
 hgk:findIn g.K (.ref g.C) "__getattr__"=some none
 hsa:findIn g.K (.ref g.C) "__setattr__"=some (some (.builtin "object.__setattr__"))
 over:plainOver g.K g.C=true
 hdict:(clsIn g.K g.C).any (·.hasDict)=true
 flds:∀ x∈g.flds,findIn g.K (.ref g.C) x=some none
 makes:makesIn g.K g.C=true
 nodup:g.flds.Nodup
 few:g.flds.length≤1000
inductive RaiseOk (g:Gl) (c:Nat):Prop
 | mk (nm q:Str) (N:Addr) (bs bm bmB:List Value) (hdct:Bool) (sn:List Str) (sub:List Value) (ab:Bool) (col:Option Bool) (dd:Option Addr) (k0 k1 k2 k3 k5:Option Value) (B newId initId:String) (mN:Str→Option Value) (f0:ExcBaseFacts B newId initId bmB) (f1:bm.contains (.type "BaseException")=true) (f2:mN "__init__"=none) (f3:g.h0.get? (g.cls c)=some (excClassObj nm q (g.cls c) N bs bm hdct sn sub ab col dd k0 k1 k2 k3 k5 newId)) (f4:g.h0.Ns N mN) (f5:OwnTail g.h0 bmB bm):RaiseOk g c
def mh (g:Gl) (c c':Nat) (b:Bool):Prop:=∀ (A:Around) (E:Value→Shared→Prop) (Q:Bool→Shared→Prop) (s:Shared) (e:Addr) (o:Obj),aI g.h0 s.heap→s.heap.get? e=some o→o.cls=.ref (g.cls c)→Q b s →
 wpAny (model g.prog g.w) A (excMatches (.ref e) (.ref (g.cls c'))) Q E s
def yE (g:Gl) (c:Nat) (cv:Value) (b:Bool):Prop:=∀ (A:Around) (E:Value→Shared→Prop) (Q:Value→Shared→Prop) (s:Shared) (e:Addr) (o:Obj),aI g.h0 s.heap→s.heap.get? e=some o→o.cls=.ref (g.cls c)→o.dict=none→(∃ vs,o.data=.fields vs) →
 (∀ n,Q (.bool b) { s with toks:=n })→wpAny (model g.prog g.w) A (call (.builtin "isinstance") [.ref e,cv]) Q E s
noncomputable def iv (g:Gl) (c:Nat):Value:=if c=g.nc then .type "ValueError" else .ref (g.cls c)
structure Ground (g:Gl):Prop where
 main:g.h0.Ns mainGlobals g.mg
 blt:g.h0.Ns builtinsNs g.mb
 nolim:g.h0.NoLimit
 sysm:aS g.h0 sysModules
 frag:g.K.In g.h0
 cls:ClsOk g
 fns:∀ x f,g.fns.lookup x=some f→g.mg x=some (.ref (g.fn f))
 cons:∀ x v,g.cons.lookup x=some v→∃ u,g.mg x=some u∧∀ (bad:Addr→Prop) h,aI g.h0 h→(∀ a,bad a→g.h0.get? a=none)→Rp g bad h u v
 blts:∀ x v,bH.lookup x=some v→g.mg x=none∧g.mb x=some v
 clss:∀ x c,g.clss.lookup x=some c→c < g.nc∧g.mg x=some (.ref (g.cls c))
 raises:∀ c,c < g.nc→RaiseOk g c
 catches:∀ c c',c < g.nc→c' < g.nc→mh g c c' (g.P.sup c c')
 isi:∀ c c',c < g.nc→c'≤g.nc→yE g c (iv g c') (g.P.sup c c')
class Hm (fx:Fx):Prop where
 no:fx.hm=false
structure FxOk (fx:Fx):Prop where
 gr:Ground fx.g
 hand:mW fx.hm fx.A
 kind:fx.env.scope.kind=.function
 globals:fx.env.globals=mainGlobals
 builtins:fx.env.builtins=builtinsNs
 vis:∀ x k,fx.ρ.lookup x=some k→(fx.env.kindOf x=some .local∧fx.pl k=.ns fx.env.locals x)∨((fx.env.kindOf x=some .cell∨fx.env.kindOf x=some .free)∧∃ c,fx.env.cells.lookup x=some c∧fx.pl k=.cell c)
 inj:∀ k j,fx.pl k=fx.pl j→fx.pl k≠.off→k=j
 apart:∀ k j a x c,fx.pl k=.ns a x→fx.pl j=.cell c→a≠c
 offs:∀ k,fx.nf≤k→fx.pl k=.off
 nfs:fx.nf≤fx.ns
 room:fx.A.depth+2 * fx.d < 990
 units:fx.A.units+4 * fx.d+100 < cLine
 call:fj fx.g (am fx.g.P fx.d) fx.d
 mo0:∀ a,fx.Mo a→fx.g.h0.get? a=none
structure Inv (Φ:Ct) (s:Shared):Prop where
 ok:FxOk Φ.fx
 base:Base Φ.fx.g s
 slot:∀ k,∃ v,aZ s.heap (Φ.fx.pl k) v∧d5 Φ.fx.g Φ.bad s.heap (Φ.oa k) v (getSlot Φ.G k)
 new:∀ a,Φ.own a→aS s.heap a∧Φ.fx.g.h0.get? a=none∧¬ Φ.fx.Mo a
 inj:∀ k j a,Φ.oa k=some a→Φ.oa j=some a→k=j
 off:∀ k a,Φ.oa k=some a→∀ j,(Φ.fx.pl j).addr≠some a
 gl:Φ.G.length=Φ.fx.ns
 mo:∀ a,Φ.fx.Mo a→aS s.heap a
 fr:fw Φ.fx.g Φ.fx.A s.heap
section
variable {g:Gl} {Φ:Ct} {s s' s₁:Shared} {h h':Heap} {bad bad':Addr→Prop} {α β γ δ:Type}
theorem uv (k:aF h h') (r:h.Ns a m):h'.Ns a m:=by
 obtain ⟨o,es,n,ho,q⟩:=r
 obtain ⟨sl,e,_⟩:=k a o ho
 exact ⟨_,es,n,e,q⟩
theorem aZ.keep (k:aF h h') (r:aZ h p v):aZ h' p v:=by
 cases p with
 | ns a x=>obtain ⟨m,hn,hv⟩:=r; exact ⟨m,uv k hn,hv⟩
 | cell c=>obtain ⟨o,ho,hd⟩:=r; obtain ⟨sl,e,_⟩:=k c o ho; exact ⟨_,e,hd⟩
 | off=>exact r
theorem gD.keep (f:gD h0 h l) (k:aF h h'):gD h0 h' l:=fun env m=>by
 obtain ⟨hk,L,o,hf,hn,ho,hc,hd⟩:=f env m
 obtain ⟨sl,e,_⟩:=k L o ho
 exact ⟨hk,L,_,hf,hn,e,hc,hd⟩
theorem fw.keep (f:fw g A h) (k:aF h h'):fw g A h':=f.elim fun l q=>⟨l,q.1,q.2.keep k⟩
theorem gj.map (r:gj g bad h a u sl) (k:cX bad bad' h h') (t:∀ o,h.get? a=some o→iy o→h'.get? a=some o):gj g bad' h' a u sl:=by
 cases sl with
 | ownL l=>obtain ⟨e,o,vs,n,ho,hc,hd,hl⟩:=r; exact ⟨e,o,vs,n,t o ho (aK hc.1),hc,hd,hl.map k⟩
 | ownD l=>obtain ⟨e,o,es,n,ho,hc,hd,hk,r1,r2⟩:=r; exact ⟨e,o,es,n,t o ho (aK hc.1),hc,hd,hk,r1.map k,r2.map k⟩
 | ownI l=>obtain ⟨b,o,ws,e,eb,nb,hb,ho,hf,hn,hl⟩:=r; exact ⟨b,o,ws,e,eb,(k _ _ hb fc nb).1,(k _ _ hb fc nb).2,t o ho (aK hf.1.1),hf,hn,hl.map k⟩
 | _=>exact r
theorem d5.map (r:d5 g bad h oak v sl) (k:cX bad bad' h h') (t:∀ a,oak=some a→∀ o,h.get? a=some o→iy o→h'.get? a=some o):d5 g bad' h' oak v sl:=by
 cases sl with
 | unset=>exact r
 | v x=>obtain ⟨e,u,q,rp⟩:=r; exact ⟨e,u,q,rp.map k⟩
 | _=>obtain ⟨a,u,e,q,rp⟩:=r; exact ⟨a,u,e,q,rp.map k (t a e)⟩
theorem Inv.keep (I:Inv Φ s) (B:Base Φ.fx.g s') (k:aF s.heap s'.heap):Inv Φ s' where
 ok:=I.ok
 base:=B
 slot:=fun j=>let ⟨v,r,x⟩:=I.slot j; ⟨v,r.keep k,x.map k.mapK fun a _ o e n=>k.get e n⟩
 new:=fun a q=>let ⟨x,y⟩:=I.new a q; ⟨k.live x,y⟩
 inj:=I.inj
 off:=I.off
 gl:=I.gl
 mo:=fun a q=>k.live (I.mo a q)
 fr:=I.fr.keep k
theorem Inv.bad0 (I:Inv Φ s) (b:Φ.bad a):Φ.fx.g.h0.get? a=none:=b.elim (I.ok.mo0 a) fun b=>(I.new a b).2.1
theorem Inv.badLive (I:Inv Φ s) (b:Φ.bad a):aS s.heap a:=b.elim (I.mo a) fun b=>(I.new a b).1
abbrev Ct.wp (Φ:Ct) (t:Sem α) (Q:α→Shared→Prop) (s:Shared):Prop:=∀ E,wpAny (model Φ.fx.g.prog Φ.fx.g.w) Φ.fx.A t Q E s
inductive Post (Φ:Ct) (R:Heap→α→β→Prop) (s:Shared) (K:β→Prop) (a:α) (s':Shared):Prop
 | mk:Base Φ.fx.g s'→aF s.heap s'.heap→∀ y,K y→R s'.heap a y→Post Φ R s K a s'
def EvR (Φ:Ct) (R:Heap→α→β→Prop) (t:Sem α) (d:(β→Prop)→Prop):Prop:=∀ K s,d K→Inv Φ s→Φ.wp t (Post Φ R s K) s
noncomputable abbrev Ct.rp (Φ:Ct):Heap→Value→V→Prop:=Rp Φ.fx.g Φ.bad
noncomputable abbrev Ct.rps (Φ:Ct):Heap→List Value→List V→Prop:=RpAll Φ.fx.g Φ.bad
abbrev Ev (Φ:Ct) (t:Sem Value) (d:(V→Prop)→Prop):Prop:=EvR Φ Φ.rp t d
abbrev EvT (Φ:Ct) (t:Sem Bool) (d:(Bool→Prop)→Prop):Prop:=EvR Φ (fun _=>Eq) t d
abbrev EvL (Φ:Ct) (t:Sem (List Value)) (d:(List V→Prop)→Prop):Prop:=EvR Φ Φ.rps t d
def hW (Φ:Ct) (s:Shared) (K:V→Prop) (v:Value) (s':Shared):Prop:=Post Φ (Rp Φ.fx.g Φ.bad) s K v s'∧lj s.heap v
def EvN (Φ:Ct) (t:Sem Value) (d:(V→Prop)→Prop):Prop:=∀ K s,d K→Inv Φ s→Φ.wp t (hW Φ s K) s
theorem Post.lift {R:Heap→α→β→Prop} {K:β→Prop} (p:Post Φ R s₁ K a s') (k:aF s.heap s₁.heap):Post Φ R s K a s':=by
 cases p with | mk B k' y ky r=>exact ⟨B,k.trans k',y,ky,r⟩
theorem hW.lift {K:V→Prop} (p:hW Φ s₁ K v s') (k:aF s.heap s₁.heap):hW Φ s K v s':=⟨p.1.lift k,p.2.le fun _=>k.live⟩
def jv (Φ:Ct) (n:Bool) (s:Shared) (K:V→Prop) (v:Value) (s':Shared):Prop:=Post Φ (Rp Φ.fx.g Φ.bad) s K v s'∧(n=true→lj s.heap v)
def EvC (Φ:Ct) (n:Bool) (t:Sem Value) (d:(V→Prop)→Prop):Prop:=∀ K s,d K→Inv Φ s→Φ.wp t (jv Φ n s K) s
theorem jv.lift {K:V→Prop} (p:jv Φ n s₁ K v s') (k:aF s.heap s₁.heap):jv Φ n s K v s':=⟨p.1.lift k,fun q=>(p.2 q).le fun _=>k.live⟩
theorem EvC.ev (x:EvC Φ n t d):Ev Φ t d:=fun K s hd I E=>wpAny_mono (x K s hd I E) (fun _ _ p=>p.1) fun _ _ z=>z
theorem EvC.evN (x:EvC Φ n t d) (h:n=true):EvN Φ t d:=fun K s hd I E=>wpAny_mono (x K s hd I E) (fun _ _ p=>⟨p.1,p.2 h⟩) fun _ _ z=>z
theorem EvN.ev (x:EvN Φ t d):Ev Φ t d:=fun K s hd I E=>wpAny_mono (x K s hd I E) (fun _ _ p=>p.1) fun _ _ z=>z
theorem EvR.bind {R:Heap→α→β→Prop} {R':Heap→γ→δ→Prop} {f:α→Sem γ} {d:(β→Prop)→Prop} {K₁:β→Prop} {K:δ→Prop} (x:EvR Φ R t d) (hd:d K₁) (I:Inv Φ s)
  (y:∀ a b s₁,Inv Φ s₁→aF s.heap s₁.heap→K₁ b→R s₁.heap a b→Φ.wp (f a) (Post Φ R' s₁ K) s₁):Φ.wp (t >>= f) (Post Φ R' s K) s:=fun E=>
 zC1 (wpAny_mono (x K₁ s hd I E) (fun a s₁ ⟨B,k,b,kb,r⟩=>wpAny_mono (y a b s₁ (I.keep B k) k kb r E) (fun _ _ p=>p.lift k) fun _ _ z=>z) fun _ _ z=>z)
theorem EvR.bindC {R:Heap→α→β→Prop} {f:α→Sem Value} {d:(β→Prop)→Prop} {K₁:β→Prop} {K:V→Prop} (x:EvR Φ R t d) (hd:d K₁) (I:Inv Φ s)
  (y:∀ a b s₁,Inv Φ s₁→aF s.heap s₁.heap→K₁ b→R s₁.heap a b→Φ.wp (f a) (jv Φ n s₁ K) s₁):Φ.wp (t >>= f) (jv Φ n s K) s:=fun E=>
 zC1 (wpAny_mono (x K₁ s hd I E) (fun a s₁ ⟨B,k,b,kb,r⟩=>wpAny_mono (y a b s₁ (I.keep B k) k kb r E) (fun _ _ p=>p.lift k) fun _ _ z=>z) fun _ _ z=>z)
theorem EvR.holding (x:EvR Φ R t d):EvR Φ R (holding vs t) d:=fun K s hd I E=>wpAny_holding (x K s hd I E)
theorem EvR.pure {R:Heap→α→β→Prop} {K:β→Prop} (I:Inv Φ s) (k:K b) (r:R s.heap a b):Φ.wp (pure a) (Post Φ R s K) s:=fun E=>zC2 ⟨I.base,.refl _,b,k,r⟩
theorem a9 (x:Φ.wp (t ()) Q s):Φ.wp (standAt p >>= t) Q s:=fun E=>zC1 (wpAny_standAt (x E))
structure Grown (s s':Shared):Prop where
 stays:aI s.heap s'.heap
 os:s'.os=s.os
 gens:s'.gens=s.gens
theorem Grown.keeps (x:Grown s s'):aF s.heap s'.heap:=x.stays.keeps
theorem Grown.refl (s:Shared):Grown s s:=⟨fun _ _ e=>e,rfl,rfl⟩
theorem Grown.trans (x:Grown s₁ s₂) (y:Grown s₂ s₃):Grown s₁ s₃:=⟨x.stays.trans y.stays,y.os.trans x.os,y.gens.trans x.gens⟩
theorem Grown.toks (s:Shared) (n:Nat):Grown s { s with toks:=n }:=⟨fun _ _ e=>e,rfl,rfl⟩
theorem Grown.push (s:Shared) (o:Obj) (n:Nat):Grown s { s with heap:=s.heap.push o,toks:=n }:=⟨aw _ _,rfl,rfl⟩
theorem Base.grown (B:Base g s) (x:Grown s s'):Base g s':=⟨B.stays.trans x.stays,x.os.trans B.os,x.gens.trans B.gens⟩
abbrev Ct.Gives (Φ:Ct) (s:Shared) (z:V) (v:Value) (s':Shared):Prop:=Grown s s'∧Φ.rp s'.heap v z
theorem step {R:Heap→α→β→Prop} {K:β→Prop} (I:Inv Φ s) (kz:K z) (h:Φ.wp t (fun a s'=>Grown s s'∧R s'.heap a z) s):Φ.wp t (Post Φ R s K) s:=fun E=>
 wpAny_mono (h E) (fun a s' p=>⟨I.base.grown p.1,p.1.keeps,z,kz,p.2⟩) fun _ _ z=>z
theorem ag {o:Option α} {K:α→Prop} {C:Prop} (h:okK o K) (k:∀ z,o=some z→K z→C):C:=by
 cases o with
 | none=>exact h.elim
 | some z=>exact k z rfl h
theorem cK {E:Value→Shared→Prop} {Q:Unit→Shared→Prop} (h:Q () s):wpAny M A (release vs keep) Q E s:=by
 unfold release
 generalize (vs.filter fun | .ref _=>true | _=>false)=l
 induction l with
 | nil=>exact wpAny_pure h
 | cons x r ih=>
  cases r with
  | nil=>exact wpAny_pure h
  | cons y r=>
   unfold release.go
   exact zC1 (wpAny_holding (wpAny_point ih))
theorem dA (x:Φ.wp t Q s):Φ.wp (operate vs t) Q s:=fun E=>by
 unfold PySem.operate
 exact zC1 (wpAny_holding (wpAny_mono (x E) (fun a s' p=>zC1 (cK (wpAny_pure p))) fun _ _ z=>z))
end
section
variable {Φ:Ct} {s:Shared}
theorem cu (ok:FxOk Φ.fx) (hx:Φ.fx.ρ.lookup x=some k) (hn:aV x=true) (r:aZ s.heap (Φ.fx.pl k) (some v)) (h:Q v s):Φ.wp (eval (.Name x pos) Φ.fx.env) Q s:=fun E=>by
 have hn:=zA2 hn
 have h1:=Bool.not_eq_true' _▸hn.1
 rcases ok.vis x k hx with ⟨hl,hp⟩ | ⟨hl,c,hc,hp⟩
 ·rw [hp] at r
  obtain ⟨m,hns,hv⟩:=r
  exact wpAny_Name (wpAny_loadName_local ok.kind hl hns hv h) h1
 ·rw [hp] at r
  rcases hl with hl | hl
  ·exact wpAny_Name (wpAny_loadName_cell ok.kind hl hc r h) h1
  ·exact wpAny_Name (wpAny_loadName_free ok.kind hl hc r h (Bool.not_eq_true' _▸hn.2)) h1
theorem tS (e:xI G k=some x):getSlot G k=.v x:=by
 unfold xI at e
 revert e
 cases getSlot G k with
 | v m=>exact fun e=>congrArg Slot.v (Option.some.inj e)
 | _=>exact fun e=>nN e.symm
theorem zL {x:Str} {k:Nat} {pos:Pos} (hx:Φ.fx.ρ.lookup x=some k) (hn:aV x=true):Ev Φ (eval (.Name x pos) Φ.fx.env) (okK (xI Φ.G k)):=fun K s hd I=>ag hd fun y e ky=>by
 obtain ⟨v,pr,so⟩:=I.slot k
 rw [tS e] at so
 obtain ⟨_,u,rfl,rp⟩:=so
 exact cu I.ok hx hn pr ⟨I.base,.refl _,y,ky,rp⟩
theorem nS (hx:Φ.fx.ρ.lookup x=some k) (hn:aV x=true) (I:Inv Φ s) (e:getSlot Φ.G k=sl) (ho:∀ {oak v},d5 Φ.fx.g Φ.bad s.heap oak v sl→∃ a u,oak=some a∧v=some u∧gj Φ.fx.g Φ.bad s.heap a u sl)
  (h:∀ a u,Φ.oa k=some a→gj Φ.fx.g Φ.bad s.heap a u sl→Q u s):Φ.wp (eval (.Name x pos) Φ.fx.env) Q s:=by
 obtain ⟨v,pr,so⟩:=I.slot k
 rw [e] at so
 obtain ⟨a,u,ha,rfl,oa⟩:=ho so
 exact cu I.ok hx hn pr (h a u ha oa)
end
section
variable {α:Type} {C:V→Prop} {x:V} {z:α}
theorem bN (e:oq x f=some z) (k:∀ i,f i=some z→C (.int i)):C x:=by
 cases x <;> first | exact k _ e | (injection e; done)
theorem eN (e:vf x f=some z) (k:∀ t:Str,f t.cps.toList=some z→C (.str t)):C x:=by
 cases x <;> first | exact k _ e | (injection e; done)
theorem cz (e:hM x f=some z) (k:∀ l,f l=some z→C (.list l)):C x:=by
 cases x <;> first | exact k _ e | (injection e; done)
theorem sy (e:BL x f=some z) (k:∀ l,f l=some z→C (.tuple l)):C x:=by
 cases x <;> first | exact k _ e | (injection e; done)
theorem fv (e:c6 x f=some z) (k:∀ b,f b=some z→C (.bool b)):C x:=by
 cases x <;> first | exact k _ e | (injection e; done)
end
section
variable {α β:Type}
@[elab_as_elim] theorem some_elim {C:α→Prop} {a b:α} (e:some a=some b) (k:C a):C b:=Option.some.inj e▸k
@[elab_as_elim] theorem if_elim {C:α→Prop} {p:Prop} [Decidable p] {a z:α} (e:(if p then some a else none)=some z) (k:p→C a):C z:=by
 by_cases h:p
 ·rw [if_pos h] at e; exact some_elim e (k h)
 ·rw [if_neg h] at e; (injection e; done)
@[elab_as_elim] theorem ifn_elim {C:α→Prop} {p:Prop} [Decidable p] {a z:α} (e:(if p then none else some a)=some z) (k:¬ p→C a):C z:=by
 by_cases h:p
 ·rw [if_pos h] at e; (injection e; done)
 ·rw [if_neg h] at e; exact some_elim e (k h)
theorem bG {C:Prop} {p:Prop} [Decidable p] {a:Option α} {z:α} (e:(if p then a else none)=some z) (k:p→a=some z→C):C:=by
 by_cases h:p
 ·rw [if_pos h] at e; exact k h e
 ·rw [if_neg h] at e; (injection e; done)
@[elab_as_elim] theorem map_elim {C:β→Prop} {f:α→β} {o:Option α} {z:β} (e:o.map f=some z) (k:∀ a,o=some a→C (f a)):C z:=by
 cases o with
 | none=>(injection e; done)
 | some a=>exact some_elim e (k a rfl)
@[elab_as_elim] theorem fit_elim {C:β→Prop} {l:List α} {a z:β} (e:dI l a=some z) (k:l.length≤ai→C a):C z:=if_elim e k
end
theorem cH (h:n≤ai):n≤sizeLine:=zB1 h (by decide)
section
variable {Φ:Ct} {s:Shared} {v u:Value} {x y z:V}
theorem Inv.fresh (I:Inv Φ s):¬ Φ.bad s.heap.objs.size:=fun q=>by obtain ⟨o,e⟩:=I.badLive q; rw [ak] at e; (injection e; done)
theorem Inv.room (I:Inv Φ s):Φ.fx.A.units+100 < cLine:=by exact Nat.lt_of_le_of_lt (Nat.add_le_add_right (Nat.le_add_right _ _) _) I.ok.units
theorem gI (I:Inv Φ s) (r:Φ.rps s.heap vs l):Φ.Gives s (.list l) (.ref s.heap.objs.size) { s with heap:=s.heap.push { cls:=.type "list",data:=.seq vs.toArray n },toks:=tk }:=
 ⟨Grown.push _ _ _,.list I.fresh (Heap.get?_push_size _ rfl) ⟨rfl,rfl⟩ rfl (r.keep (dH _ _))⟩
theorem dF (I:Inv Φ s) (r:Φ.rps s.heap vs l):Φ.Gives s (.tuple l) (.ref s.heap.objs.size) { s with heap:=s.heap.push { cls:=.type "tuple",data:=.seq vs.toArray n },toks:=tk }:=
 ⟨Grown.push _ _ _,.tuple I.fresh (Heap.get?_push_size _ rfl) rfl rfl (r.keep (dH _ _))⟩
theorem As {b:Int} (h:b.natAbs≤1000000):b < 2 ^ 64:=Int.lt_of_le_of_lt Int.le_natAbs (Int.lt_of_le_of_lt (Int.ofNat_le.mpr h) (by decide))
theorem BX (h:b.natAbs≤1000000):-2 ^ 64 < b:=Int.neg_lt_of_neg_lt (As ((Int.natAbs_neg b).symm▸h))
theorem sV (h:b.natAbs≤1000000∨a.natAbs≤1000000):IntMulOk a b:=by
 rcases h with h | h
 ·exact .of_right (intBits_le_64 (BX h) (As h))
 ·exact .of_left (intBits_le_64 (BX h) (As h))
theorem iL (x:Str):(⟨x.cps.toList.toArray⟩:Str)=x:=by cases x; simp
theorem Rp.text {g:Gl} {bad:Addr→Prop} {h:Heap} {x:Str} {l:List Nat} {t:Tok} (e:x.cps.toList=l):Rp g bad h (.str x t) (text l):=by
 subst e; unfold Mine.text; rw [iL]; exact .str x t
theorem qf (hz:(a.cps.toList++b.cps.toList).length≤ai):Φ.wp (binaryOp .Add (.str a t) (.str b t')) (Φ.Gives s (text (a.cps.toList++b.cps.toList))) s:=fun E=>by
 refine P.add_str ?_
 split
 ·rename_i h0
  have:a.cps.toList=[]:=List.length_eq_zero_iff.mp (Array.length_toList.trans (eq_of_beq h0))
  exact ⟨.refl _,.text (by rw [this]; rfl)⟩
 ·split
  ·rename_i h0
   have:b.cps.toList=[]:=List.length_eq_zero_iff.mp (Array.length_toList.trans (eq_of_beq h0))
   exact ⟨.refl _,.text (by rw [this,List.append_nil])⟩
  ·refine ⟨?_,.toks _ _,.text Array.toList_append⟩
   refine (?_:(_++_:Array Nat).size≤sizeLine)
   rw [zB5,zB3,zB3] at hz
   rw [Array.size_append]; exact cH hz
theorem ny (I:Inv Φ s) (hz:(l++m).length≤ai) (r1:Φ.rp s.heap v (.list l)) (r2:Φ.rp s.heap u (.list m)):Φ.wp (binaryOp .Add v u) (Φ.Gives s (.list (l++m))) s:=fun E=>by
 refine r1.list_elim fun a1 o1 vs1 n1 _ ha1 hc1 hd1 hl1=>r2.list_elim fun a2 o2 vs2 n2 _ ha2 hc2 hd2 hl2=>?_
 obtain ⟨cls,dd,data,sl⟩:=o1
 obtain ⟨cls2,dd2,data2,sl2⟩:=o2
 obtain ⟨rfl,rfl⟩:=hc1
 obtain ⟨rfl,rfl⟩:=hc2
 subst hd1
 subst hd2
 refine concat_meets ⟨_,ha1,rfl⟩ ⟨_,ha2,rfl⟩ noFill_list_add seq_list_add PySem.F.slot_list_add PySem.F.entry_list_add (PySem.F.args_list_add_2 _ _) (list_addW a1 a2 vs1 vs2 n1 n2 _ _ sl sl2 ?_) ⟨ha1,ha2,?_⟩
 ·have:=(hl1.append hl2).length
  rw [zB5,zB3,zB3] at this
  rw [this]; exact cH hz
 ·have q:=gI (n:=0) (tk:=s.toks) I (hl1.append hl2)
  rw [show (vs1.toList++vs2.toList).toArray=vs1++vs2 by simp] at q
  exact q
theorem lD (I:Inv Φ s) (hz:(l++m).length≤ai) (r1:Φ.rp s.heap v (.tuple l)) (r2:Φ.rp s.heap u (.tuple m)):Φ.wp (binaryOp .Add v u) (Φ.Gives s (.tuple (l++m))) s:=fun E=>by
 refine Rp.tuple_elim (C:=fun v=>Φ.rp s.heap v (.tuple l)→wpAny (model Φ.fx.g.prog Φ.fx.g.w) Φ.fx.A (binaryOp .Add v u) (Φ.Gives s (.tuple (l++m))) E s) r1 (fun a1 o1 vs1 n1 _ ha1 hc1 hd1 hl1 r1=>?_) r1
 refine Rp.tuple_elim (C:=fun u=>Φ.rp s.heap u (.tuple m)→wpAny (model Φ.fx.g.prog Φ.fx.g.w) Φ.fx.A (binaryOp .Add (.ref a1) u) (Φ.Gives s (.tuple (l++m))) E s) r2 (fun a2 o2 vs2 n2 _ ha2 hc2 hd2 hl2 r2=>?_) r2
 obtain ⟨cls,dd,data,sl⟩:=o1
 obtain ⟨cls2,dd2,data2,sl2⟩:=o2
 subst hc1
 subst hc2
 subst hd1
 subst hd2
 have len:=(hl1.append hl2).length
 replace len:=Array.length_toList▸Array.length_toList▸List.length_append▸len
 by_cases c0:vs1.isEmpty=true
 ·have:vs1.toList=[]:=by simpa using c0
  have hl:l=[]:=List.length_eq_zero_iff.mp (by rw [← hl1.length,this]; rfl)
  subst hl
  exact concat_meets ⟨_,ha1,rfl⟩ ⟨_,ha2,rfl⟩ noFill_tuple_add seq_tuple_add PySem.F.slot_tuple_add PySem.F.entry_tuple_add (PySem.F.args_tuple_add_2 _ _) (tuple_addW0 a1 a2 vs1 vs2 n1 n2 dd dd2 sl sl2 c0) ⟨ha1,ha2,.refl _,r2⟩
 ·by_cases c1:vs2.isEmpty=true
  ·have:vs2.toList=[]:=by simpa using c1
   have hl:m=[]:=List.length_eq_zero_iff.mp (by rw [← hl2.length,this]; rfl)
   subst hl
   rw [List.append_nil]
   exact concat_meets ⟨_,ha1,rfl⟩ ⟨_,ha2,rfl⟩ noFill_tuple_add seq_tuple_add PySem.F.slot_tuple_add PySem.F.entry_tuple_add (PySem.F.args_tuple_add_2 _ _) (tuple_addW1 a1 a2 vs1 vs2 n1 n2 dd dd2 sl sl2 c0 c1) ⟨ha1,ha2,.refl _,r1⟩
  ·refine concat_meets ⟨_,ha1,rfl⟩ ⟨_,ha2,rfl⟩ noFill_tuple_add seq_tuple_add PySem.F.slot_tuple_add PySem.F.entry_tuple_add (PySem.F.args_tuple_add_2 _ _) (tuple_addW2 a1 a2 vs1 vs2 n1 n2 dd dd2 sl sl2 c0 c1 (by rw [len]; exact cH hz)) ⟨ha1,ha2,?_⟩
   have q:=dF (n:=0) (tk:=s.toks) I (hl1.append hl2)
   rw [show (vs1.toList++vs2.toList).toArray=vs1++vs2 by simp] at q
   exact q
theorem Ai (e:B8 x y=some z) (I:Inv Φ s) (r1:Φ.rp s.heap v x) (r2:Φ.rp s.heap u y):Φ.wp (binaryOp .Add v u) (Φ.Gives s z) s:=by
 cases x with
 | int a=>exact bN (C:=fun y=>Φ.rp s.heap u y→Φ.wp (binaryOp .Add v u) (Φ.Gives s z) s) e (fun b e r2=>some_elim e (r1.int_elim fun t=>r2.int_elim fun t' E=>PyProof.Rows.add_int ⟨.toks _ _,.int _ _⟩)) r2
 | str a=>exact eN (f:=fun b=>dI (a.cps.toList++b) (text (a.cps.toList++b))) (C:=fun y=>Φ.rp s.heap u y→Φ.wp (binaryOp .Add v u) (Φ.Gives s z) s) e (fun b e r2=>fit_elim e fun q=>r1.str_elim fun t=>r2.str_elim fun t'=>qf q) r2
 | list l=>exact cz (C:=fun y=>Φ.rp s.heap u y→Φ.wp (binaryOp .Add v u) (Φ.Gives s z) s) e (fun m e r2=>fit_elim e fun q=>ny I q r1 r2) r2
 | tuple l=>exact sy (C:=fun y=>Φ.rp s.heap u y→Φ.wp (binaryOp .Add v u) (Φ.Gives s z) s) e (fun m e r2=>fit_elim e fun q=>lD I q r1 r2) r2
 | _=>(injection e; done)
theorem cC {α:Type} {f:Int→Int→Option α} {w:α} {C:Value→Value→Prop} (e:oy x y f=some w) (r1:Φ.rp s.heap v x) (r2:Φ.rp s.heap u y) (k:∀ i j t t',f i j=some w→C (.int i t) (.int j t')):C v u:=
 bN (C:=fun x=>Φ.rp s.heap v x→C v u) e (fun i e r1=>bN (C:=fun y=>Φ.rp s.heap u y→C v u) e (fun j e r2=>r1.int_elim fun t=>r2.int_elim fun t'=>k i j t t' e) r2) r1
theorem Ad {o:Operator} (e:tK o x y=some z) (I:Inv Φ s) (r1:Φ.rp s.heap v x) (r2:Φ.rp s.heap u y):Φ.wp (binaryOp o v u) (Φ.Gives s z) s:=by
 cases o with
 | Add=>exact Ai e I r1 r2
 | Sub=>exact cC (C:=fun v u=>Φ.wp (binaryOp .Sub v u) (Φ.Gives s z) s) e r1 r2 fun i j t t' q=>some_elim q fun E=>PyProof.Rows.sub_int ⟨.toks _ _,.int _ _⟩
 | Mult=>exact cC (C:=fun v u=>Φ.wp (binaryOp .Mult v u) (Φ.Gives s z) s) e r1 r2 fun i j t t' q=>if_elim q fun q E=>PyProof.Rows.mul_int ⟨.toks _ _,.int _ _⟩ (sV q)
 | FloorDiv=>exact cC (C:=fun v u=>Φ.wp (binaryOp .FloorDiv v u) (Φ.Gives s z) s) e r1 r2 fun i j t t' q=>ifn_elim q fun q E=>floordiv_int (fun z=>q (.inl z)) ⟨.toks _ _,.int _ _⟩ (.inl (PyProof.noPylong_small (by omega)))
 | Mod=>exact cC (C:=fun v u=>Φ.wp (binaryOp .Mod v u) (Φ.Gives s z) s) e r1 r2 fun i j t t' q=>ifn_elim q fun q E=>PyProof.Rows.mod_int q ⟨.toks _ _,.int _ _⟩
 | _=>(injection e; done)
theorem okd (h:dD x=true):x.canLay0=true∧x.depth≤64:=(zA2 h).imp id of_decide_eq_true
theorem im (I:Inv Φ s) (h:n≤64):Φ.fx.A.units+1+min m n < cLine:=Nat.lt_of_le_of_lt (by rw [Nat.add_assoc]; exact Nat.add_le_add_left (zB1 (Nat.add_le_add_left (zB1 (Nat.min_le_right m n) h) 1) (by decide:65≤100)) _) I.room
abbrev Is (s:Shared) (c:Bool) (v:Value) (s':Shared):Prop:=s'=s∧v=.bool c
theorem yt (I:Inv Φ s) (q:(dD x&&dD y)=true) (r1:Φ.rp s.heap v x) (r2:Φ.rp s.heap u y):Φ.wp (compareOp .Eq v u) (Is s (PyData.eqv x y)) s∧Φ.wp (compareOp .NotEq v u) (Is s (!PyData.eqv x y)) s:=
 have q:=zA2 q
 have h1:=okd q.1
 have h2:=okd q.2
 (r1.reads h1.1).elim fun _ p1=>(r2.reads h2.1).elim fun _ p2=>have m:=Nat.lt_of_le_of_lt (by exact Nat.add_le_add_right (Nat.le_add_right _ _) _) (im I (m:=x.depth) h2.2); ⟨fun E=>SeqAt.compareEq_reads p1 p2 h1.1 h2.1 m ⟨rfl,rfl⟩,fun E=>SeqAt.compareNe_reads p1 p2 h1.1 h2.1 m ⟨rfl,rfl⟩⟩
theorem yj (r:Φ.rp s.heap v x):Φ.wp (compareOp .Is v .none) (Is s (isNone x)) s∧Φ.wp (compareOp .IsNot v .none) (Is s (!isNone x)) s:=by
 cases r with
 | none=>exact ⟨fun E=>is_none_gen ⟨rfl,rfl⟩,fun E=>isnot_none_gen ⟨rfl,rfl⟩⟩
 | _=>exact ⟨fun E=>is_none_ne nofun ⟨rfl,rfl⟩,fun E=>isnot_none_ne nofun ⟨rfl,rfl⟩⟩
theorem sW (e:a.cps.toList=[c]):Φ.wp (compareOp .In (.str a t) (.str b t')) (Is s (b.cps.toList.elem c)) s∧Φ.wp (compareOp .NotIn (.str a t) (.str b t')) (Is s (!b.cps.toList.elem c)) s:=by
 have f:(!(Builtin.Str.occurrences b a 0 b.length 1).isEmpty)=b.cps.toList.elem c:=by
  rw [← iL a,e,show (⟨[c].toArray⟩:Str)=⟨#[c]⟩ from rfl,StrLaws.found_one]
  rw [Bool.eq_iff_iff]; simp
 exact ⟨fun E=>P.in_str ⟨rfl,by rw [f]⟩,fun E=>P.notIn_str ⟨rfl,by rw [f]⟩⟩
theorem yk (I:Inv Φ s) (e:inO x y=some c) (r1:Φ.rp s.heap v x) (r2:Φ.rp s.heap u y):Φ.wp (compareOp .In v u) (Is s c) s∧Φ.wp (compareOp .NotIn v u) (Is s (!c)) s:=by
 cases y with
 | str b=>
  have e:vf x (fun s=>match s with | [c]=>some (b.cps.toList.elem c) | _=>none)=some c:=e
  refine eN (C:=fun x=>Φ.rp s.heap v x→Φ.wp (compareOp .In v u) (Is s c) s∧Φ.wp (compareOp .NotIn v u) (Is s (!c)) s) e (fun a e r1=>?_) r1
  split at e
  ·rename_i d q; exact some_elim e (r1.str_elim fun t=>r2.str_elim fun t'=>sW q)
  ·(injection e; done)
 | list l=>
  refine if_elim e fun q=>?_
  have q:=zA2 q
  have h1:=okd q.1
  have h2:=okd q.2
  obtain ⟨_,p1⟩:=r1.reads h1.1
  obtain ⟨_,p2⟩:=r2.reads h2.1
  exact ⟨fun E=>SeqAt.in_list_reads p2 p1 h2.1 h1.1 (im I h1.2) ⟨rfl,rfl⟩,fun E=>SeqAt.notIn_list_reads p2 p1 h2.1 h1.1 (im I h1.2) ⟨rfl,rfl⟩⟩
 | tuple l=>
  refine if_elim e fun q=>?_
  have q:=zA2 q
  have h1:=okd q.1
  have h2:=okd q.2
  obtain ⟨_,p1⟩:=r1.reads h1.1
  obtain ⟨_,p2⟩:=r2.reads h2.1
  exact ⟨fun E=>SeqAt.in_tuple_reads p2 p1 h2.1 h1.1 (im I h1.2) ⟨rfl,rfl⟩,fun E=>SeqAt.notIn_tuple_reads p2 p1 h2.1 h1.1 (im I h1.2) ⟨rfl,rfl⟩⟩
 | _=>(injection e; done)
theorem qD {o:CmpOp} {c:Bool} (e:aT o x y=some c) (I:Inv Φ s) (r1:Φ.rp s.heap v x) (r2:Φ.rp s.heap u y):Φ.wp (compareOp o v u) (Is s c) s:=by
 cases o with
 | Eq=>exact if_elim e fun q=>(yt I q r1 r2).1
 | NotEq=>exact map_elim e fun d e=>if_elim (C:=fun d=>Φ.wp (compareOp .NotEq v u) (Is s (!d)) s) e fun q=>(yt I q r1 r2).2
 | Lt=>exact cC (C:=fun v u=>Φ.wp (compareOp .Lt v u) (Is s c) s) e r1 r2 fun i j t t' q=>some_elim q fun E=>P.lt_int ⟨rfl,rfl⟩
 | LtE=>exact cC (C:=fun v u=>Φ.wp (compareOp .LtE v u) (Is s c) s) e r1 r2 fun i j t t' q=>some_elim q fun E=>P.le_int ⟨rfl,rfl⟩
 | Gt=>exact cC (C:=fun v u=>Φ.wp (compareOp .Gt v u) (Is s c) s) e r1 r2 fun i j t t' q=>some_elim q fun E=>P.gt_int ⟨rfl,rfl⟩
 | GtE=>exact cC (C:=fun v u=>Φ.wp (compareOp .GtE v u) (Is s c) s) e r1 r2 fun i j t t' q=>some_elim q fun E=>P.ge_int ⟨rfl,rfl⟩
 | Is=>
  refine if_elim e fun q=>?_
  cases y with
  | none=>exact r2.none_elim (yj r1).1
  | _=>(injection q; done)
 | IsNot=>
  refine if_elim e fun q=>?_
  cases y with
  | none=>exact r2.none_elim (yj r1).2
  | _=>(injection q; done)
 | In=>exact (yk I e r1 r2).1
 | NotIn=>exact map_elim e fun d e=>(yk I e r1 r2).2
end
noncomputable abbrev atK (xs:List (V×Addr×Value)) (k:V):Option (Addr×Value):=@atKey V fF xs k
noncomputable abbrev stK (xs:List (V×Addr×Value)) (k:V) (a:Addr) (v:Value):List (V×Addr×Value):=@storedH V fF xs k a v
abbrev yG (g:Gl) (h:Heap) (d:Addr) (xs:List (V×Addr×Value)):Prop:=@Heap.DictOfH g.prog g.w V fF (i6 g.prog g.w) h d xs
noncomputable abbrev enK (g:Gl) (x:V×Addr×Value):DictEntry:=@entryOfKey g.prog g.w V fF (i6 g.prog g.w) x
inductive Ent (g:Gl) (bad:Addr→Prop) (h:Heap):List (V×Addr×Value)→List (V×V)→Prop
 | nil:Ent g bad h [] []
 | cons {x y:V} {a:Addr} {v:Value} {xs:List (V×Addr×Value)} {kvs:List (V×V)}:dp x=true→Rp g bad h (.ref a) x→Rp g bad h v y→Ent g bad h xs kvs→Ent g bad h ((x,a,v) :: xs) ((x,y) :: kvs)
section
variable {g:Gl} {bad bad':Addr→Prop} {h h':Heap} {xs:List (V×Addr×Value)} {kvs:List (V×V)}
theorem lQ (r:Rp g bad h v x) (q:dp x=true):∃ a,v=.ref a:=by
 cases r with
 | tuple=>exact ⟨_,rfl⟩
 | _=>exact nB q
theorem Ent.of:∀ {kvs:List (V×V)} {es:List DictEntry},dkV kvs=true→es.map (·.hash)=kvs.map (fun p=>vG g.w p.1)→RpAll g bad h (es.map (·.key)) (kvs.map (·.1))→RpAll g bad h (es.map (·.val)) (kvs.map (·.2))→∃ xs,es=xs.map (enK g)∧Ent g bad h xs kvs:=by
 intro kvs
 induction kvs with
 | nil=>
  intro es _ e _ _
  exact ⟨[],List.map_eq_nil_iff.mp e,.nil⟩
 | cons p kvs ih=>
  intro es d e r1 r2
  obtain ⟨x,y⟩:=p
  cases es with
  | nil=>exact nomatch e
  | cons en es=>
   obtain ⟨e1,e2⟩:=zA5 e
   cases r1 with
   | cons k1 r1=>cases r2 with
    | cons v1 r2=>
     have d:=zA2 (d:(dp x&&dkV kvs)=true)
     obtain ⟨xs,ex,E⟩:=ih d.2 e2 r1 r2
     obtain ⟨a,ea⟩:=lQ k1 d.1
     obtain ⟨hs,ky,vl⟩:=en
     obtain rfl:ky=.ref a:=ea
     obtain rfl:hs=vG g.w x:=e1
     exact ⟨(x,a,vl) :: xs,congrArg (_ :: ·) ex,.cons d.1 k1 v1 E⟩
theorem Ent.back (E:Ent g bad h xs kvs):dkV kvs=true∧xs.map (·.1)=kvs.map (·.1)∧(xs.map (enK g)).map (·.hash)=kvs.map (fun p=>vG g.w p.1)∧RpAll g bad h ((xs.map (enK g)).map (·.key)) (kvs.map (·.1))∧RpAll g bad h ((xs.map (enK g)).map (·.val)) (kvs.map (·.2)):=by
 induction E with
 | nil=>exact ⟨rfl,rfl,rfl,.nil,.nil⟩
 | cons q r1 r2 _ ih=>exact ⟨zA3 ⟨q,ih.1⟩,congrArg (_ :: ·) ih.2.1,congrArg (_ :: ·) ih.2.2.1,.cons r1 ih.2.2.2.1,.cons r2 ih.2.2.2.2⟩
theorem KIs.of (q:dp x=true) (r:Rp g bad h (.ref a) x):KIs h x a:=⟨q,r.reads (gx q).1⟩
theorem Ent.kis (E:Ent g bad h xs kvs):∀ x∈xs,KIs h x.1 x.2.1:=by
 induction E with
 | nil=>exact fun _ m=>nM m
 | cons q r1 r2 _ ih=>exact zA1 ⟨.of q r1,ih⟩
theorem Ent.length (E:Ent g bad h xs kvs):xs.length=kvs.length:=by
 induction E with
 | nil=>rfl
 | cons _ _ _ _ ih=>exact congrArg (· + 1) ih
theorem Ent.map (E:Ent g bad h xs kvs) (k:cX bad bad' h h'):Ent g bad' h' xs kvs:=by
 induction E with
 | nil=>exact .nil
 | cons q r1 r2 _ ih=>exact .cons q (r1.map k) (r2.map k) ih
theorem Ent.app (E:Ent g bad h xs kvs) (q:dp x=true) (r1:Rp g bad h (.ref a) x) (r2:Rp g bad h v y):Ent g bad h (xs++[(x,a,v)]) (kvs++[(x,y)]):=by
 induction E with
 | nil=>exact .cons q r1 r2 .nil
 | cons q' s1 s2 _ ih=>exact .cons q' s1 s2 ih
theorem Ent.at (E:Ent g bad h xs kvs) (q:dp y=true):(atK xs y=none∧kj kvs y=none∧(kvs.any fun p=>PyData.eqv p.1 y)=false)∨∃ p z,atK xs y=some p∧kj kvs y=some z∧(kvs.any fun p=>PyData.eqv p.1 y)=true∧Rp g bad h p.2 z:=by
 induction E with
 | nil=>exact .inl ⟨rfl,rfl,rfl⟩
 | @cons x z a v xs kvs hk r1 r2 _ ih=>
  have e:=lX hk q
  unfold atK atKey kj at ih ⊢
  rw [List.find?_cons,List.find?_cons,List.any_cons]
  cases c:PyData.eqv x y with
  | true=>
   rw [show @decide (x=y) (fF x y)=true from e.symm.trans c]
   exact .inr ⟨_,z,rfl,rfl,rfl,r2⟩
  | false=>
   rw [show @decide (x=y) (fF x y)=false from e.symm.trans c]
   exact ih
theorem Ent.put0 (E:Ent g bad h xs kvs) (q:dp y=true) (r:Rp g bad h v z):Ent g bad h (xs.map (@putAt V fF y v)) (kvs.map fun p=>if PyData.eqv p.1 y=true then (p.1,z) else p):=by
 induction E with
 | nil=>exact .nil
 | @cons x u a v' xs kvs hk r1 r2 _ ih=>
  have e:=lX hk q
  rw [List.map_cons,List.map_cons]
  unfold putAt
  refine (?_:Ent g bad h ((@ite _ (x=y) (fF x y) (x,a,v) (x,a,v')) :: _) ((if PyData.eqv x y=true then (x,z) else (x,u)) :: _))
  by_cases c:x=y
  ·rw [@if_pos _ (fF x y) c,if_pos ((eqv_key x y hk q).mpr c)]; exact .cons hk r1 r ih
  ·rw [@if_neg _ (fF x y) c,if_neg fun z=>c ((eqv_key x y hk q).mp z)]; exact .cons hk r1 r2 ih
theorem Ent.put (E:Ent g bad h xs kvs) (q:dp y=true) (r1:Rp g bad h (.ref a) y) (r:Rp g bad h v z):Ent g bad h (stK xs y a v) (lM kvs y z):=by
 unfold lM
 rcases E.at q with ⟨e1,_,e2⟩ | ⟨p,_,e1,_,e2,_⟩
 ·rw [e2,if_neg Bool.false_ne_true,show stK xs y a v=_ from @storedH_new V fF _ _ e1 a v]; exact E.app q r1 r
 ·rw [e2,if_pos rfl,show stK xs y a v=_ from @storedH_old V fF _ _ _ e1 a v]; exact E.put0 q r
theorem Inv.room3 (I:Inv Φ s):Φ.fx.A.units+1+2 < cLine:=Nat.lt_of_le_of_lt (Nat.add_le_add_left (by decide:3≤100) _) I.room
abbrev DAt (g:Gl) (bad:Addr→Prop) (h:Heap) (a:Addr) (kvs:List (V×V)):Prop:=OwnDAt g bad h a (.ref a) kvs
theorem DAt.dk (r:DAt g bad h a kvs):∃ xs,yG g h a xs∧Ent g bad h xs kvs:=by
 obtain ⟨_,o,es,n,ho,hc,hd,hk,r1,r2⟩:=r
 obtain ⟨xs,e,E⟩:=Ent.of hk.1 hk.2.2 r1 r2
 exact ⟨xs,⟨o,es,n,ho,hc,hd,e,E.kis,E.back.2.1▸hk.2.1⟩,E⟩
theorem DAt.of (d:yG g h a xs) (E:Ent g bad h xs kvs):DAt g bad h a kvs:=by
 obtain ⟨o,es,n,ho,hc,hd,e,_,hn⟩:=d
 obtain ⟨b1,b2,b3,b4,b5⟩:=E.back
 rw [← e] at b3 b4 b5
 exact ⟨rfl,o,es,n,ho,hc,hd,⟨b1,b2▸hn,b3⟩,b4,b5⟩
end
section
variable {prog:Program} {w:World} {A:Around} {E:Value→Shared→Prop} {s:Shared} {I d:Addr} {od:Obj} {es:Array DictEntry} {ep i:Nat}
theorem wu {Q:Option Value→Shared→Prop} {P:Fin→Shared→Prop} (hh:A.handled=none) (h:∀ h',aI s.heap h'→Q none { s with heap:=h' }) :
  wpAny (model prog w) A.in1 (newExc (.type "StopIteration") [] >>= fun e=>raiseNew e) P (fun e s'=>wpAny (model prog w) A (isInstance e (.type "StopIteration") >>= fun b=>if b=true then pure none else throw e) Q E s') s:=by
 refine zC1 ?_
 simp only [newExc,newTuple]
 refine zC1 (wpAny_newObj_type ?_ (by size_fits))
 refine wpAny_bind (m:=firstArgMember _ _) (wpAny_of_eq (a:=Value.none) (by first | rfl | (simp only [firstArgMember]; rfl)) ?_)
 refine wpAny_newObj_type ?_ (by size_fits)
 refine zC1 (wpAny_handled ?_)
 refine (show A.in1.handled=none from hh).symm▸?_
 refine zC1 (zC2 (wpAny_throw ?_))
 refine zC1 (wpAny_isInstance (T:="StopIteration") (b:=true) ⟨_,Heap.get?_push_size _ rfl,rfl⟩ isSubtype_stop ?_)
 exact zC2 (h _ ((aw _ _).trans (aw _ _)))
theorem kR {Q:Option Value→Shared→Prop} (hh:A.handled=none) (hit:s.heap.IsKeyIter I d i es.size ep) (hod:s.heap.get? d=some od) (hdd:od.data=.dict es ep)
  (hQ:∀ e,es[i]?=some e→∀ h',h'.IsKeyIter I d (i+1) es.size ep→Heap.SameBut I s.heap h'→Q (some e.key) { s with heap:=h' })
  (hE:es[i]?=none→∀ h',(∀ b o,b≠I→s.heap.get? b=some o→h'.get? b=some o)→Q none { s with heap:=h' }):wpAny (model prog w) A (pyNext (.ref I)) Q E s:=by
 refine (id hit).elim fun o Zq1=>Zq1.elim fun ho Zq2=>Zq2.elim fun hc hd=>?_
 skip
 refine zC1 (wpAny_attempt (wpAny_callSpecial?_slot (name:=Str.ofString "__next__") hit.typeIs F.slot_dict_keyiterator_next
  (wpAny_call_entry F.slot_dict_keyiterator_next hit.typeIs F.entry_dict_keyiterator_next ?_ (F.args_dict_keyiterator_next_1 _))))
 refine zC1 (zC2 (zC1 (zC1 ?_)))
 refine zC1 (wpAny_typeNameOfWhole_keyiter hit.typeIs (zC2 ?_))
 refine zC1 (wpAny_fieldsOf ho hd ?_)
 have hown:Builtin.Dict_items.ownsTuple "dict_keyiterator"=false:=by decide
 rw [hown]
 refine bv (c:=(Value.ref d==Value.none)=true) Bool.false_ne_true (zC1 (zC2 (zC1 (wpAny_dictEntries hod hdd ?_))))
 refine bv (by simp) (zC1 (zC2 (zC1 (wpAny_dictEpoch hod hdd ?_))))
 refine bv (by simp) (zC2 ?_)
 simp only [show ¬ ((i:Int) < 0) from Int.not_lt.mpr (Int.natCast_nonneg _),if_false,Int.toNat_natCast]
 cases ei:es[i]? with
 | some e=>
  refine zC1 ?_
  refine zC1 (wpAny_typeNameOfWhole_keyiter hit.typeIs (zC2 ?_))
  refine zC1 (wpAny_isOneOf_keyiter hit.typeIs ?_)
  refine (?_:wpAny _ _ (setField (.ref I) 1 (rawInt ((i:Int)+1)) >>= _) _ _ s)
  refine zC1 (wpAny_setField ho hd (by simp) ?_)
  have hit':(s.heap.update I (Obj.mapFields (·.setIfInBounds 1 (rawInt ((i:Int)+1))))).IsKeyIter I d (i+1) es.size ep:=
   ⟨_,Heap.get?_update_self _ ho (Obj.isFreed_of_fields (Obj.data_mapFields hd _)),(Obj.cls_mapFields ..).trans hc,by rw [Obj.data_mapFields hd]; simp [rawInt]⟩
  refine zC1 (wpAny_holding ?_)
  refine zC1 (wpAny_isOneOf_keyiter (s:={ s with heap:=s.heap.update I (Obj.mapFields (·.setIfInBounds 1 (rawInt ((i:Int)+1)))) }) hit'.typeIs ?_)
  refine (?_:wpAny _ _ (pure e.key) _ _ _)
  exact zC2 (zC2 ⟨_,rfl,zC2 (hQ e ei _ hit' (Heap.SameBut.update ..))⟩)
 | none=>
  refine zC1 ?_
  refine zC1 (wpAny_typeNameOfWhole_keyiter hit.typeIs (zC2 ?_))
  refine (?_:wpAny _ _ (setField (.ref I) 0 .none >>= _) _ _ s)
  refine zC1 (wpAny_setField ho hd (Nat.zero_lt_succ _) ?_)
  exact wu hh fun h' k=>hE ei h' fun b o q e=>k b o ((Heap.get?_update_other _ _ (Ne.symm q)).trans e)
theorem oX (hh:A.handled=none) (hne:d≠I) (hdd:od.data=.dict es ep):Walks prog w A I [I,d] [I] es.size (fun i v=>(es.toList.map (·.key))[i]?=some v) (fun i h=>h.IsKeyIter I d i es.size ep∧h.get? d=some od) where
 sub:=fun b m=>by obtain rfl:=zA6 m; exact .head _
 frame:=fun i h h' q k=>⟨q.1.at fun o e=>k I (.head _) o e,k d (.tail _ (.head _)) _ q.2⟩
 item:=fun i s Q E hi q hQ=>kR hh q.1 q.2 hdd (fun e ei h' hi' sb=>hQ e.key h' s.toks (by rw [List.getElem?_map,Array.getElem?_toList,ei]; rfl) ⟨hi',(sb.2 d hne).trans q.2⟩ fun b o m e=>(sb.2 b fun q=>m (q▸.head _)).trans e) fun z=>nomatch (Array.getElem?_eq_getElem hi).symm.trans z
 done:=fun s Q E q hQ=>kR hh q.1 q.2 hdd (fun e ei=>absurd (Array.getElem?_eq_some_iff.mp ei).1 (Nat.lt_irrefl _)) fun _ h' k=>hQ h' s.toks fun b o m e=>k b o (fun q=>m (q▸.head _)) e
 self:=fun i s Q E q h=>wpAny_pyIter_keyiter q.1 h
theorem sU (hd:(d==sysModules)=false) (ho:s.heap.get? d=some od) (hx:od.ExactDict) (hdd:od.data=.dict es ep)
  (hQ:Q (.ref s.heap.objs.size) { s with heap:=s.heap.push { cls:=.type "dict_keyiterator",data:=.fields #[.ref d,.int 0 0,.int es.size 0,.int ep 0] } }):wpAny (model prog w) A (pyIter (.ref d)) Q E s:=by
 have hT:s.TypeIs (.ref d) "dict":=⟨od,ho,hx.1⟩
 refine wpAny_pyIter_slot hT F.slot_dict_iter (wpAny_call_entry F.slot_dict_iter hT F.entry_dict_iter ?_ (F.args_dict_iter_1 _))
 refine zC1 (zC1 (wpAny_notOrdered_dict hT ?_))
 refine (?_:wpAny _ _ (pure (Value.ref d)) _ _ s)
 refine zC2 ?_
 refine (?_:wpAny _ _ (Builtin.Dict.showsAll d >>= _) _ _ s)
 skip
 refine zC1 (bv (by rw [hd]; exact Bool.false_ne_true) (zC2 ?_))
 refine zC1 (wpAny_dictEntries ho hdd (zC1 (wpAny_dictEpoch ho hdd ?_)))
 exact zC1 (wpAny_newObj_type (zC2 ⟨_,rfl, "dict_keyiterator",_,⟨_,Heap.get?_push_size _ rfl,rfl⟩,F.slot_dict_keyiterator_next.lookup,hQ⟩))
end
def fh (s:Shared) (a:Value):Prop:=∃ T id,s.TypeIs a T∧typeLookup (.type T) "__getitem__"=pure (some (.builtin id))
section
variable {Φ:Ct} {s:Shared} {v u:Value} {x y z:V} {α:Type}
theorem gM {f:α→V} {C:Value→Prop} (e:pF l f y=some z) (r:Φ.rp s.heap u y) (k:∀ i t j w,-(2 ^ 63)≤i→i < 2 ^ 63→(0≤i∧j=i.toNat∨i < 0∧-(l.length:Int)≤i∧j=(i+l.length).toNat)→j < l.length→l[j]?=some w→f w=z→C (.int i t)):C u:=by
 refine bN (C:=fun y=>Φ.rp s.heap u y→C u) e (fun i e r=>?_) r
 refine bG e fun hz e=>?_
 have hz:l.length≤1048576:=hz
 obtain ⟨w,ew,rfl⟩:=Option.map_eq_some_iff.mp e
 clear e
 refine r.int_elim fun t=>?_
 by_cases h0:0≤i
 ·rw [if_pos h0] at ew
  have hj:=(List.getElem?_eq_some_iff.mp ew).1
  exact k i t i.toNat w (by exact Int.le_trans (by decide) h0) (Int.lt_of_lt_of_le ((Int.toNat_lt h0).mp hj) (Int.le_trans (Int.ofNat_le.mpr hz) (by decide))) (.inl ⟨h0,rfl⟩) hj ew rfl
 ·rw [if_neg h0] at ew
  refine bG ew fun h1 e=>?_
  have hj:=(List.getElem?_eq_some_iff.mp e).1
  exact k i t _ w (by lia) (by lia) (.inr ⟨by exact Int.not_le.mp h0,by lia,rfl⟩) hj e rfl
theorem jH {i:Int} {n j:Nat} (h:0≤i∧j=i.toNat∨i < 0∧-(n:Int)≤i∧j=(i+n).toNat) (hj:j < n):seqIndex? i n=some j:=by
 rcases h with ⟨h0,rfl⟩ | ⟨h0,h1,rfl⟩
 ·unfold seqIndex?
  rw [if_neg (Int.not_lt.mpr h0)]
  exact if_pos (by rw [decide_eq_true h0,decide_eq_true (show i < (n:Int) from (Int.toNat_lt h0).mp hj)]; rfl)
 ·exact seqIndex_neg h0 h1
theorem lS {vs:Array Value} {n:Nat} (h:vs.toList[n]?=some v):vs[n]?=some v:=by rw [Array.getElem?_toList] at h; exact h
theorem ve (I:Inv Φ s) (e:g8 x y=some z) (r1:Φ.rp s.heap v x) (r2:Φ.rp s.heap u y):fh s v∧Φ.wp (getItem v u) (Φ.Gives s z) s:=by
 cases x with
 | list l=>
  refine r1.list_elim fun a o vs n _ ha hc hd hl=>?_
  have hL:s.heap.IsList a vs:=⟨_,ha,hc.1,_,hd⟩
  have len:vs.size=l.length:=Array.length_toList▸hl.length
  refine ⟨⟨_,_,hL.typeIs,slot_list_getitem.lookup⟩,gM (C:=fun u=>Φ.wp (getItem (.ref a) u) (Φ.Gives s z) s) e r2 fun i t j w h1 h2 h3 hj ew ez=>?_⟩
  obtain ⟨q,eq,rq⟩:=hl.get ew
  subst ez
  rcases h3 with ⟨h0,rfl⟩ | ⟨h0,h4,rfl⟩
  ·exact fun E=>wpAny_getItem_list hL h0 h2 (lS eq) ⟨.refl _,rq⟩
  ·exact fun E=>wpAny_getItem_list_neg hL h0 (by rw [len]; exact h4) h1 (by rw [len]; exact lS eq) ⟨.refl _,rq⟩
 | tuple l=>
  refine r1.tuple_elim fun a o vs n _ ha hc hd hl=>?_
  have hL:IsTup s.heap a vs:=⟨_,ha,hc,_,hd⟩
  have len:vs.size=l.length:=Array.length_toList▸hl.length
  refine ⟨⟨_,_,hL.typeIs,slot_tuple_getitem.lookup⟩,gM (C:=fun u=>Φ.wp (getItem (.ref a) u) (Φ.Gives s z) s) e r2 fun i t j w h1 h2 h3 hj ew ez=>?_⟩
  obtain ⟨q,eq,rq⟩:=hl.get ew
  subst ez
  exact fun E=>getItem_tuple hL h1 h2 (by rw [len]; exact jH h3 hj) (lS eq) ⟨.refl _,rq⟩
 | str a=>
  refine r1.str_elim fun t0=>⟨⟨_,_,typeIs_str _ _ _,PySem.F.slot_str_getitem.lookup⟩,gM (C:=fun u=>Φ.wp (getItem (.str a t0) u) (Φ.Gives s z) s) e r2 fun i t j w h1 h2 h3 hj ew ez=>?_⟩
  subst ez
  refine fun E=>P.getItem_str (c:=w) ?_ ?_ ⟨.toks _ _,.text rfl⟩
  ·rw [decide_eq_false (Int.not_lt.mpr h1),decide_eq_false (Int.not_le.mpr h2)]; rfl
  ·have hn:a.cps.toList.length=a.length:=Array.length_toList
   rw [show seqIndex? i a.length=some j from hn▸jH h3 hj]
   rw [Array.getElem?_toList] at ew; exact ew
 | dict kvs=>
  have e:(if (dkV kvs&&dp y)=true then kj kvs y else none)=some z:=e
  refine bG e fun q e=>?_
  have q:=zA2 q
  refine r1.dict_elim q.1 fun a o es n _ _ ha hc hd hk k1 k2=>?_
  obtain ⟨xs,D,En⟩:=DAt.dk ⟨rfl,o,es,n,ha,hc,hd,hk,k1,k2⟩
  obtain ⟨b,rfl⟩:=lQ r2 q.2
  rcases En.at q.2 with ⟨_,e1,_⟩ | ⟨p,z',e1,e2,_,rz⟩
  ·exact nomatch e1.symm.trans e
  ·obtain rfl:z'=z:=Option.some.inj (e2.symm.trans e)
   exact ⟨⟨_,_,⟨o,ha,hc.1⟩,slot_dict_getitem.lookup⟩,fun E=>@wpAny_getItem_heap _ _ V fF (i6 Φ.fx.g.prog Φ.fx.g.w) _ _ _ _ _ _ _ _ _ I.room3 (KIs.of q.2 r2) D e1 ⟨.toks _ _,rz⟩⟩
 | _=>(injection e; done)
noncomputable def oJ (d n:Nat):Option Int→Nat
 | none=>d
 | some i=>if 0≤i then min i.toNat n else (i+n).toNat
def RpO (Φ:Ct) (h:Heap) (v:Value) (y:Option V):Prop:=match y with
 | none=>v=.none
 | some x=>Φ.rp h v x
theorem dw {d n i:Nat} {y:Option V} {C:Value→Prop} (e:oI d n y=some i) (r:RpO Φ s.heap v y) (k:∀ p:Option (Int×Tok),oJ d n (p.map (·.1))=i→C (partValue p)):C v:=by
 cases y with
 | none=>subst r; (injection e with e; subst e); exact k none rfl
 | some x=>exact bN (C:=fun x=>Φ.rp s.heap v x→C v) e (fun i e r=>r.int_elim fun t=>k (some (i,t)) (Option.some.inj e)) r
theorem q8 (p:Option (Int×Tok)):IsPart (partValue p) (p.map (·.1)):=by
 cases p with
 | none=>exact .none
 | some q=>exact .int _ _
theorem oU (h:i < 0):i+(n:Int)≤n:=Int.le_trans (Int.add_le_add_right (Int.le_of_lt h) n) (Int.le_of_eq (Int.zero_add _))
theorem jf (h:d≤n) (p:Option Int):oJ d n p≤n:=by
 cases p with
 | none=>exact h
 | some i=>
  refine (?_:(if 0≤i then min i.toNat n else (i+n).toNat)≤n)
  by_cases c:0≤i
  ·rw [if_pos c]; exact Nat.min_le_right _ _
  ·rw [if_neg c]; exact Int.toNat_le.mpr (oU (Int.not_le.mp c))
theorem rX {n:Nat} (i:Int):(if i < 0 then max (i+(n:Int)) 0 else min i n)=((oJ 0 n (some i):Nat):Int):=by
 refine (?_:_=(((if 0≤i then min i.toNat n else (i+n).toNat):Nat):Int))
 by_cases h:0≤i
 ·rw [if_pos h,if_neg (Int.not_lt.mpr h),Lean.Omega.Int.ofNat_min,Int.toNat_of_nonneg h]
 ·rw [if_neg h,if_pos (Int.not_le.mp h),Int.ofNat_toNat]
theorem v8 {n:Nat} (i:Int):max 0 (min (if i < 0 then i+(n:Int) else i) (n:Int))=((oJ 0 n (some i):Nat):Int):=by
 rw [← rX]
 by_cases h:i < 0
 ·rw [if_pos h,if_pos h,Int.min_eq_left (oU h),Int.max_comm]
 ·rw [if_neg h,if_neg h,Int.max_eq_right (Int.le_min.mpr ⟨Int.not_lt.mp h,Int.natCast_nonneg n⟩)]
theorem fP (h:d≤n):((d:Nat):Int)=max 0 (min (if (d:Int) < 0 then (d:Int)+(n:Int) else (d:Int)) (n:Int)):=by
 rw [if_neg (Int.not_lt.mpr (Int.natCast_nonneg d)),Int.min_eq_left (Int.ofNat_le.mpr h),Int.max_eq_right (Int.natCast_nonneg d)]
theorem mF (h:a=c) (k:b=d):sliceRange a b 1=sliceRange c d 1:=by rw [h,k]
theorem kJ {lo hi:Option Int} {n i j:Nat} (h1:oJ 0 n lo=i) (h2:oJ n n hi=j) (hle:i≤j):Builtin.Str.strSliceIndices lo hi 1 n=(List.range (j - i)).map (i + ·):=by
 have hj:j≤n:=h2▸jf (Nat.le_refl n) hi
 refine Eq.trans ?_ (StrLaws.strSliceIndices_plain (len:=n) hle hj)
 cases lo with
 | none=>cases hi with
  | none=>have h1:0=i:=h1; subst h1; have h2:n=j:=h2; subst h2; exact mF (fP (d:=0) (n:=n) (Nat.zero_le n)) (fP (Nat.le_refl n))
  | some b=>have h1:0=i:=h1; subst h1; exact mF (fP (d:=0) (n:=n) (Nat.zero_le n)) ((v8 b).trans ((congrArg _ h2).trans (fP hj)))
 | some a=>
  have ea:=(v8 (n:=n) a).trans ((congrArg _ h1).trans (fP (zB1 hle hj)))
  cases hi with
  | none=>have h2:n=j:=h2; subst h2; exact mF ea (fP (Nat.le_refl n))
  | some b=>exact mF ea ((v8 b).trans ((congrArg _ h2).trans (fP hj)))
theorem jD {xs:Array α} {i j:Nat} (hle:i≤j) (hj:j≤xs.size):((List.range (j - i)).map (i + ·)).filterMap (xs[·]?)=(xs.toList.drop i).take (j - i):=by
 rw [← StrLaws.picks xs.toList (j - i) i (by rw [zB3]; exact zB1 (zB2 (Nat.add_sub_cancel' hle)) hj)]
 exact congrArg (List.filterMap · _) (funext fun k=>(Array.getElem?_toList).symm)
theorem jK {l:List α} {f:List α→V} {lo hi:Option V} {C:V→Prop} (e:lZ f l lo hi=some z) (k:∀ i j,l.length≤ai→oI 0 l.length lo=some i→oI l.length l.length hi=some j→i≤j→C (f ((l.drop i).take (j - i)))):C z:=
 bG e fun hz e=>(Option.bind_eq_some_iff.mp e).elim fun i ⟨h1,e⟩=>(Option.bind_eq_some_iff.mp e).elim fun j ⟨h2,e⟩=>if_elim e fun hle=>k i j hz h1 h2 hle
theorem jT {l:List V} {lo hi:Option V} {vl vu:Value} {sl:Addr} (I:Inv Φ s) (e:lZ PyData.list l lo hi=some z) (r:Φ.rp s.heap v (.list l)) (rl:RpO Φ s.heap vl lo) (ru:RpO Φ s.heap vu hi) (hs:s.heap.IsSliceOf sl vl vu .none) :
  fh s v∧Φ.wp (getItem v (.ref sl)) (Φ.Gives s z) s:=by
 refine r.list_elim fun a o vs n _ ha hc hd hl=>?_
 have hL:s.heap.IsList a vs:=⟨_,ha,hc.1,_,hd⟩
 have len:vs.size=l.length:=Array.length_toList▸hl.length
 refine ⟨⟨_,_,hL.typeIs,slot_list_getitem.lookup⟩,jK (C:=fun z=>Φ.wp (getItem (.ref a) (.ref sl)) (Φ.Gives s z) s) e fun i j hz h1 h2 hle=>?_⟩
 refine dw (C:=fun vl=>s.heap.IsSliceOf sl vl vu .none→_) h1 rl (fun p hp hs=>?_) hs
 refine dw (C:=fun vu=>s.heap.IsSliceOf sl (partValue p) vu .none→_) h2 ru (fun q hq hs=>?_) hs
 refine fun E=>wpAny_getItem_list_slice hL hs (q8 p) (q8 q) .none (fun q=>nN q.symm) ?_ (by rw [len]; exact cH hz)
 have:slicePick vs (p.map (·.1)) (q.map (·.1)) none=((vs.toList.drop i).take (j - i)).toArray:=by
  refine congrArg List.toArray ?_
  refine (?_:(Builtin.Str.strSliceIndices _ _ 1 vs.size).filterMap (vs[·]?)=_)
  rw [len,kJ hp hq hle,jD hle (by rw [len,← hq]; exact jf (Nat.le_refl _) _)]
 rw [this]
 exact gI (tk:=s.toks) I ((hl.drop _).take _)
theorem tv {n i j:Nat} {lo hi:Option Int} (h1:oJ 0 n lo=i) (h2:oJ n n hi=j):Builtin.Slice.sliceAdjust lo hi 1 (n:Int)=((i:Int),(j:Int)):=by
 have c:=fun a:Int=>rX (n:=n) a
 unfold Builtin.Slice.sliceAdjust
 cases lo <;> cases hi
 ·subst h1; subst h2; rfl
 ·subst h1; exact Prod.ext rfl ((c _).trans (congrArg _ h2))
 ·subst h2; exact Prod.ext ((c _).trans (congrArg _ h1)) rfl
 ·exact Prod.ext ((c _).trans (congrArg _ h1)) ((c _).trans (congrArg _ h2))
theorem sL {i j:Nat} (h:i≤j):Builtin.Slice.slicePlaces (i:Int) (j:Int) 1=j - i:=by
 unfold Builtin.Slice.slicePlaces
 rw [if_pos (by decide),Int.ediv_one,Int.sub_add_cancel,← Int.ofNat_sub h]
 by_cases c:(i:Int) < j
 ·rw [if_pos c]; rfl
 ·rw [if_neg c,Nat.sub_eq_zero_of_le (Int.ofNat_le.mp (Int.not_lt.mp c))]; rfl
theorem qe {E:Value→Shared→Prop} {Q:Int×Int×Nat→Shared→Prop} (hs:s.heap.IsSliceOf sl (partValue p) (partValue q) .none) (h1:oJ 0 n (p.map (·.1))=i) (h2:oJ n n (q.map (·.1))=j) (hle:i≤j)
  (h:Q ((i:Int),1,j - i) s):wpAny (model prog w) A (Builtin.Slice.sliceApplied (.ref sl) (pure (n:Int))) Q E s:=by
 obtain ⟨os,hos,hcs,hds⟩:=id hs
 have part:∀ (p:Option (Int×Tok)) {Q:Option Int→Shared→Prop},Q (p.map (·.1)) s→wpAny (model prog w) A (Builtin.Slice.slicePartIndex (partValue p)) Q E s:=fun p Q h=>by
  cases p with
  | none=>exact slicePart_none h
  | some q=>exact slicePart_int h
 unfold Builtin.Slice.sliceApplied Builtin.Slice.sliceFields
 refine zC1 (zC1 (wpAny_field hos hds (x:=partValue p) rfl (zC1 (wpAny_field hos hds (x:=partValue q) rfl (zC1 (wpAny_field hos hds (x:=.none) rfl (zC2 ?_)))))))
 refine zC1 (slicePart_none ?_)
 refine (?_:wpAny _ _ (if ((1:Int)==0)=true then _ else _) _ _ s)
 rw [if_neg (by decide)]
 refine zC1 (part p (zC1 (part q (zC1 (zC2 ?_)))))
 refine (?_:wpAny _ _ (match Builtin.Slice.sliceAdjust (p.map (·.1)) (q.map (·.1)) 1 (n:Int) with | (lo,hi)=>pure (lo,(1:Int),Builtin.Slice.slicePlaces lo hi 1)) _ _ s)
 rw [tv h1 h2]
 refine (?_:wpAny _ _ (pure ((i:Int),(1:Int),Builtin.Slice.slicePlaces (i:Int) (j:Int) 1)) _ _ s)
 rw [sL hle]
 exact wpAny_pure h
theorem iB {l:List V} {lo hi:Option V} {vl vu:Value} {sl:Addr} (I:Inv Φ s) (e:lZ PyData.tuple l lo hi=some z) (r:Φ.rp s.heap v (.tuple l)) (rl:RpO Φ s.heap vl lo) (ru:RpO Φ s.heap vu hi) (hs:s.heap.IsSliceOf sl vl vu .none) :
  fh s v∧Φ.wp (getItem v (.ref sl)) (Φ.Gives s z) s:=by
 refine r.tuple_elim fun a o vs n hb ha hc hd hl=>?_
 have r:Φ.rp s.heap (.ref a) (.tuple l):=.tuple hb ha hc hd hl
 have ht:IsTup s.heap a vs:=⟨_,ha,hc,_,hd⟩
 have len:vs.size=l.length:=Array.length_toList▸hl.length
 refine ⟨⟨_,_,ht.typeIs,slot_tuple_getitem.lookup⟩,jK (C:=fun z=>Φ.wp (getItem (.ref a) (.ref sl)) (Φ.Gives s z) s) e fun i j hz h1 h2 hle=>?_⟩
 refine dw (C:=fun vl=>s.heap.IsSliceOf sl vl vu .none→_) h1 rl (fun p hp hs=>?_) hs
 refine dw (C:=fun vu=>s.heap.IsSliceOf sl (partValue p) vu .none→_) h2 ru (fun q hq hs=>?_) hs
 intro E
 have hj:j≤vs.size:=by rw [len,← hq]; exact jf (Nat.le_refl _) _
 obtain ⟨os,hos,hcs,hds⟩:=id hs
 have hTs:s.TypeIs (.ref sl) "slice":=⟨os,hos,hcs⟩
 unfold getItem
 refine wpAny_holding ?_
 refine zC1 (wpAny_sequenceKey ht.typeIs (by decide) ?_)
 refine zC1 (wpAny_callSpecial?_slot (name:=Str.ofString "__getitem__") ht.typeIs slot_tuple_getitem (wpAny_call_entry slot_tuple_getitem ht.typeIs entry_tuple_getitem ?_ (args_tuple_getitem _ _)))
 refine (?_:wpAny _ _ (Builtin.Tuple.tupleItemsOf (.ref a) >>= _) _ _ s)
 refine zC1 (tupleItemsOf_ ht ?_)
 refine zC1 (wpAny_typeOf hTs ?_)
 rw [if_pos (by decide)]
 rw [← len] at hp hq
 refine zC1 (qe hs hp hq hle ?_)
 refine (?_:wpAny _ _ (if ((i:Int)==0&&(1:Int)==1&&(j - i)==vs.size)=true then _ else _) _ _ s)
 by_cases c:((i:Int)==0&&(1:Int)==1&&(j - i)==vs.size)=true
 ·rw [if_pos c]
  have c:=zA2 c
  have c1:(i:Int)=0:=eq_of_beq (zA2 c.1).1
  have c2:j - i=vs.size:=eq_of_beq c.2
  have i0:i=0:=by lia
  subst i0
  rw [c2,len,List.drop_zero,List.take_length]
  refine zC1 (zC1 (wpAny_typeOf ht.typeIs (zC2 ?_)))
  exact zC1 (wpAny_rule (zC2 ⟨_,rfl,zC2 ⟨.refl _,r⟩⟩))
 ·rw [if_neg c]
  have ep:(List.range (j - i)).filterMap (fun (k:Nat)=>vs[((i:Int)+(k:Int) * 1).toNat]?)=(vs.toList.drop i).take (j - i):=by
   rw [← jD hle hj,List.filterMap_map]
   exact congrArg (List.filterMap · _) (funext fun k=>by refine (?_:vs[((i:Int)+(k:Int) * 1).toNat]?=vs[i+k]?); rw [Int.mul_one]; rfl)
  refine (?_:wpAny _ _ (Builtin.Tuple.tupleExact ((List.range (j - i)).filterMap (fun (k:Nat)=>vs[((i:Int)+(k:Int) * 1).toNat]?)).toArray >>= _) _ _ _)
  rw [ep]
  refine wpAny_bind (m:=Builtin.Tuple.tupleExact _) (wpAny_newObj_type (zC2 ⟨_,rfl,zC2 (dF (tk:=s.toks) I ((hl.drop _).take _))⟩) ?_)
  refine (?_:(List.toArray _).size≤sizeLine)
  rw [List.size_toArray]
  exact zB1 (List.length_take_le' ..) (zB1 (by rw [List.length_drop]; exact Nat.sub_le ..) (cH (hl.length▸hz)))
theorem lx {t:Str} {lo hi:Option V} {vl vu:Value} {sl:Addr} (e:lZ text t.cps.toList lo hi=some z) (r:Φ.rp s.heap v (.str t)) (rl:RpO Φ s.heap vl lo) (ru:RpO Φ s.heap vu hi) (hs:s.heap.IsSliceOf sl vl vu .none) :
  fh s v∧Φ.wp (getItem v (.ref sl)) (Φ.Gives s z) s:=by
 refine r.str_elim fun tk=>?_
 refine ⟨⟨_,_,typeIs_str _ _ _,PySem.F.slot_str_getitem.lookup⟩,jK (C:=fun z=>Φ.wp (getItem (.str t tk) (.ref sl)) (Φ.Gives s z) s) e fun i j hz h1 h2 hle=>?_⟩
 refine dw (C:=fun vl=>s.heap.IsSliceOf sl vl vu .none→_) h1 rl (fun p hp hs=>?_) hs
 refine dw (C:=fun vu=>s.heap.IsSliceOf sl (partValue p) vu .none→_) h2 ru (fun q hq hs=>?_) hs
 rw [zB3] at hp hq
 have hj:j≤t.cps.size:=hq▸jf (Nat.le_refl _) _
 refine fun E=>wpAny_getItem_str_slice (l:=p) (u:=q) (st:=none) hs rfl ?_
 unfold sliceMade
 have e3:slicePicked t p q none=(List.range (j - i)).map (i + ·):=kJ hp hq hle
 rw [e3]
 split
 ·rename_i hf
  have hf:=eq_of_beq (zA2 hf).2
  rw [zA4,List.length_range] at hf
  have hf:j - i=t.cps.size:=hf
  refine ⟨.refl _,.text ?_⟩
  rw [hf,show i=0 by grind,List.drop_zero,← zB3,List.take_length]
 ·rw [jD hle hj]
  refine ⟨?_,.toks _ _,.text rfl⟩
  show (List.toArray _).size≤sizeLine
  rw [List.size_toArray]
  exact zB1 (List.length_take_le' ..) (zB1 (by rw [List.length_drop]; exact Nat.sub_le ..) (cH hz))
theorem ua {lo hi:Option V} {vl vu:Value} {sl:Addr} (I:Inv Φ s) (e:dN x lo hi=some z) (r:Φ.rp s.heap v x) (rl:RpO Φ s.heap vl lo) (ru:RpO Φ s.heap vu hi) (hs:s.heap.IsSliceOf sl vl vu .none) :
  fh s v∧Φ.wp (getItem v (.ref sl)) (Φ.Gives s z) s:=by
 cases x with
 | list l=>exact jT I e r rl ru hs
 | tuple l=>exact iB I e r rl ru hs
 | str t=>exact lx e r rl ru hs
 | _=>(injection e; done)
end
noncomputable abbrev DV:=(V→Prop)→Prop
section
variable {Φ:Ct} {s:Shared} {d d1 d2 d3:DV}
theorem vK {r:Value→Sem Value} {t:Value→Value→Sem Value} {op:V→V→Option V} (h1:Ev Φ l d1) (h2:∀ v,Ev Φ (r v) d2)
  (st:∀ s v u x y z,Inv Φ s→Φ.rp s.heap v x→Φ.rp s.heap u y→op x y=some z→Φ.wp (t v u) (Φ.Gives s z) s):Ev Φ (do let v ← l; let u ← r v; t v u) (fun K=>d1 fun x=>d2 fun y=>okK (op x y) K):=fun K s hd I=>
 h1.bind hd I fun v x s₁ I₁ k₁ hx r1=>(h2 v).bind hx I₁ fun u y s₂ I₂ k₂ hy r2=>ag hy fun z e kz=>step I₂ kz (st s₂ v u x y z I₂ (r1.keep k₂) r2 e)
theorem zS (h1:Ev Φ (eval l Φ.fx.env) d1) (h2:Ev Φ (eval r Φ.fx.env) d2):Ev Φ (eval (.BinOp l o r pos) Φ.fx.env) (fun K=>d1 fun x=>d2 fun y=>okK (tK o x y) K):=by
 rw [eval_BinOp]
 exact vK (op:=tK o) h1 (fun v=>h2.holding) fun s v u x y z I r1 r2 e=>a9 (dA (Ad e I r1 r2))
theorem iW (h:bx e=true):markedBehindIn o e t=t:=markedBehindIn_of_false (by cases e <;> first | rfl | exact nB h)
theorem vL (hs:bx r=true) (h1:Ev Φ (eval l Φ.fx.env) d1) (h2:Ev Φ (eval r Φ.fx.env) d2):Ev Φ (eval (.Compare l [o] [r] pos) Φ.fx.env) (fun K=>d1 fun x=>d2 fun y=>okK (aT o x y) fun b=>K (.bool b)):=fun K s hd I=>by
 rw [eval_Compare1,iW hs]
 exact h1.bind hd I fun v x s₁ I₁ k₁ hx r1=>h2.holding.bind hx I₁ fun u y s₂ I₂ k₂ hy r2=>ag hy fun c e kc=>a9 (dA fun E=>wpAny_mono (qD e I₂ (r1.keep k₂) r2 E) (fun w s' q=>by obtain ⟨rfl,rfl⟩:=q; exact ⟨I₂.base,.refl _,_,kc,.bool c⟩) fun _ _ z=>z)
theorem fT (e:c6 y some=some b) (r:Φ.rp s.heap v y) (h:Q b s):Φ.wp (truthy v) Q s:=
 fv (C:=fun y=>Φ.rp s.heap v y→Φ.wp (truthy v) Q s) e (fun c e r=>r.bool_elim fun E=>wpAny_truthy_bool (Option.some.inj e▸h)) r
noncomputable abbrev tst (d:DV):(Bool→Prop)→Prop:=fun K=>d fun y=>okK (c6 y some) K
theorem xr (h:Ev Φ (eval x Φ.fx.env) d) (hx:isTrue x Φ.fx.env (eval x Φ.fx.env)=(do let v ← eval x Φ.fx.env; standAt x.pos; holding [v] (truthy v))):EvT Φ (isTrue x Φ.fx.env (eval x Φ.fx.env)) (tst d):=fun K s hd I=>by
 rw [hx]
 exact h.bind hd I fun v y s₁ I₁ k₁ hy r=>ag hy fun b e kb=>a9 fun E=>wpAny_holding (fT (Q:=Post Φ (fun _=>Eq) s₁ K) e r ⟨I₁.base,.refl _,b,kb,rfl⟩ E)
theorem t7 (hs:bx r=true) (h1:Ev Φ (eval l Φ.fx.env) d1) (h2:Ev Φ (eval r Φ.fx.env) d2):EvT Φ (isTrue (.Compare l [o] [r] pos) Φ.fx.env w) (fun K=>d1 fun x=>d2 fun y=>okK (aT o x y) K):=fun K s hd I=>by
 have e:isTrue (.Compare l [o] [r] pos) Φ.fx.env w=(eval (.Compare l [o] [r] pos) Φ.fx.env >>= fun c=>holding [c] (truthy c)):=by
  rw [isTrue_Compare1,eval_Compare1]; simp only [bind_assoc]
 rw [e]
 exact (vL hs h1 h2).bind (K₁:=fun y=>okK (c6 y some) K) hd I fun v y s₁ I₁ k₁ hy r=>ag hy fun b e kb=>fun E=>wpAny_holding (fT (Q:=Post Φ (fun _=>Eq) s₁ K) e r ⟨I₁.base,.refl _,b,kb,rfl⟩ E)
theorem zN (h:Ev Φ (eval x Φ.fx.env) d):Ev Φ (eval (.UnaryOp .Not x pos) Φ.fx.env) (fun K=>d fun y=>okK (c6 y some) fun b=>K (.bool (!b))):=fun K s hd I=>by
 rw [arm_eval_UnaryOp]
 refine h.bind hd I fun v y s₁ I₁ k₁ hy r=>a9 fun E=>wpAny_holding ?_
 refine (?_:wpAny _ _ (holding [v] (truthy v >>= fun t=>pure (Value.bool (!t)))) _ _ _)
 exact ag hy fun b e kb=>wpAny_holding (zC1 (fT e r (zC2 ⟨I₁.base,.refl _,_,kb,.bool _⟩) E))
theorem tY (h:EvT Φ (isTrue x Φ.fx.env (eval x Φ.fx.env)) (tst d)):EvT Φ (isTrue (.UnaryOp .Not x pos) Φ.fx.env w) (fun K=>d fun y=>okK (c6 y some) fun b=>K (!b)):=fun K s hd I=>by
 rw [arm_isTrue_UnaryOp]
 exact h.bind (K₁:=fun b=>K (!b)) hd I fun t b s₁ I₁ k₁ hb e=>EvR.pure I₁ hb (e▸rfl)
theorem zO (h:Ev Φ (eval x Φ.fx.env) d):Ev Φ (eval (.UnaryOp .USub x pos) Φ.fx.env) (fun K=>d fun y=>okK (oq y fun i=>some (.int (-i))) K):=fun K s hd I=>by
 rw [arm_eval_UnaryOp]
 refine h.bind hd I fun v y s₁ I₁ k₁ hy r=>a9 ?_
 refine ag hy fun z e kz=>step I₁ kz fun E=>wpAny_holding ?_
 exact bN (C:=fun y=>Φ.rp s₁.heap v y→wpAny _ _ _ _ _ s₁) e (fun i e r=>r.int_elim fun t=>neg_int ⟨.toks _ _,Option.some.inj e▸.int _ _⟩) r
noncomputable abbrev bop:Bool→BoolOp
 | true=>.And
 | false=>.Or
noncomputable abbrev oS (b:Bool) (ds:List DV):(Bool→Prop)→Prop:=ci b (ds.map fun d _=>d) []
theorem tZ:EvT Φ (allTrue (bop b) [] Φ.fx.env) (oS b []):=fun K s hd I=>by
 rw [arm_allTrue_nil]
 cases b <;> exact EvR.pure I hd rfl
theorem sA (h:EvT Φ (isTrue x Φ.fx.env (eval x Φ.fx.env)) (tst d)) (hr:EvT Φ (allTrue (bop b) r Φ.fx.env) (oS b ds)):EvT Φ (allTrue (bop b) (x :: r) Φ.fx.env) (oS b (d :: ds)):=fun K s hd I=>by
 rw [arm_allTrue_cons]
 refine h.bind (K₁:=fun c=>if c=b then oS b ds K else K c) hd I fun t c s₁ I₁ k₁ hk e=>?_
 subst e
 cases b <;> cases t
 ·exact hr K s₁ hk I₁
 ·exact EvR.pure I₁ hk rfl
 ·exact EvR.pure I₁ hk rfl
 ·exact hr K s₁ hk I₁
abbrev bi (Φ:Ct) (q:Expr×DV):Prop:=Ev Φ (eval q.1 Φ.fx.env) q.2
theorem tn {K:V→Prop} (hy:okK (c6 y some) fun c=>if c=b then K (.bool b) else K (.bool c)) (r:Φ.rp h v y):K y:=
 ag hy fun c e kc=>fv (C:=fun y=>K y) e fun c' e=>by
  cases e
  by_cases q:c=b
  ·rw [if_pos q] at kc; rw [q]; exact kc
  ·rw [if_neg q] at kc; exact kc
theorem oG:∀ {qs:List (Expr×DV)},(∀ q∈qs,bi Φ q)→qs≠[]→Ev Φ (boolOp pos (bop b) (qs.map fun q=>eval q.1 Φ.fx.env)) (fun K=>oS b (qs.map Prod.snd) fun c=>K (.bool c))
 | [],_,h=>absurd rfl h
 | [q],h,_=>fun K s hd I E=>by
  have e:boolOp pos (bop b) ([q].map fun q=>eval q.1 Φ.fx.env)=eval q.1 Φ.fx.env:=by cases b <;> rfl
  exact e.symm▸wpAny_mono (h q (.head _) (fun y=>okK (c6 y some) fun c=>if c=b then K (.bool b) else K (.bool c)) s hd I E) (fun v s' ⟨B,k,y,hy,r⟩=>⟨B,k,y,tn hy r,r⟩) fun _ _ z=>z
 | q :: q' :: r,h,_=>fun K s hd I=>by
  have hr:=oG (b:=b) (pos:=pos) (qs:=q' :: r) (fun x m=>h x (.tail _ m)) (by simp)
  have go:∀ t u (l:List (Sem Value)),boolOp pos (bop b) (t :: u :: l)=(do let v ← t; standAt pos; let c ← holding [v] (truthy v); if c=b then boolOp pos (bop b) (u :: l) else pure v):=fun t u l=>by
   cases b <;> exact bind_congr fun v=>bind_congr fun _=>bind_congr fun c=>by cases c <;> rfl
  rw [List.map_cons,List.map_cons,go]
  refine (h q (.head _)).bind (K₁:=fun y=>okK (c6 y some) fun c=>if c=b then oS b ((q' :: r).map Prod.snd) (fun c=>K (.bool c)) else K (.bool c)) hd I fun v y s₁ I₁ k₁ hy rp=>a9 ?_
  refine ag hy fun c e kc E=>zC1 (wpAny_holding (fT e rp ?_ E))
  by_cases qc:c=b
  ·rw [if_pos qc] at kc ⊢
   exact hr K s₁ kc I₁ E
  ·rw [if_neg qc] at kc ⊢
   exact zC2 ⟨I₁.base,.refl _,_,kc,fv (C:=fun y=>Φ.rp s₁.heap v y→Φ.rp s₁.heap v (.bool c)) e (fun c' e r=>by (injection e with e; subst e); exact r) rp⟩
theorem nC:∀ {qs:List (Expr×DV)},(∀ q∈qs,EvT Φ (isTrue q.1 Φ.fx.env (eval q.1 Φ.fx.env)) (tst q.2))→EvT Φ (allTrue (bop b) (qs.map Prod.fst) Φ.fx.env) (oS b (qs.map Prod.snd))
 | [],_=>tZ
 | q :: r,h=>sA (h q (.head _)) (nC fun x m=>h x (.tail _ m))
noncomputable abbrev bo (ds:List DV):(List V→Prop)→Prop:=bY (ds.map fun d _=>d) []
theorem aN (h:ao e=true):starEach (e :: r) env=(false,eval e env) :: starEach r env:=by
 cases e <;> first | rfl | exact nB h
theorem eL:∀ {qs:List (Expr×DV)},(∀ q∈qs,ao q.1=true∧bi Φ q)→EvL Φ (spliced (backTo pos (starEach (qs.map Prod.fst) Φ.fx.env))) (bo (qs.map Prod.snd))
 | [],_=>fun K s hd I=>EvR.pure (a:=[]) I hd .nil
 | q :: r,h=>fun K s hd I=>by
  refine List.map_cons.symm▸(aN (h q (.head _)).1).symm▸?_
  have e:spliced (backTo pos ((false,eval q.1 Φ.fx.env) :: starEach (r.map Prod.fst) Φ.fx.env))=(eval q.1 Φ.fx.env >>= fun v=>holding [v] (spliced (backTo pos (starEach (r.map Prod.fst) Φ.fx.env))) >>= fun vs=>pure (v :: vs)):=rfl
  rw [e]
  exact (h q (.head _)).2.bind (K₁:=fun x=>bo (r.map Prod.snd) fun xs=>K (x :: xs)) hd I fun v x s₁ I₁ k₁ hx r1=>(eL fun q m=>h q (.tail _ m)).holding.bind hx I₁ fun vs xs s₂ I₂ k₂ hxs rs=>EvR.pure I₂ hxs (.cons (r1.keep k₂) rs)
theorem uU {qs:List (Expr×DV)} {k:Nat} (h:∀ q∈qs,ao q.1=true∧bi Φ q):EvC Φ true (eval (.Tuple (qs.map Prod.fst) k pos) Φ.fx.env) (fun K=>bo (qs.map Prod.snd) fun xs=>okK (dI xs (.tuple xs)) K):=fun K s hd I=>by
 rw [arm_eval_Tuple]
 refine a9 ((eL h).bindC hd I fun vs xs s₁ I₁ k₁ hx rs=>ag hx fun z e kz=>fit_elim (C:=fun z=>K z→Φ.wp _ (jv Φ true s₁ K) s₁) e (fun q kz E=>?_) kz)
 have m:=dF (n:=0) (tk:=s₁.toks) I₁ rs
 exact wpAny_newObj_type ⟨⟨I₁.base.grown m.1,m.1.keeps,_,kz,m.2⟩,fun _=>eQ (Nat.le_refl _)⟩ (by refine (?_:vs.toArray.size≤sizeLine); rw [List.size_toArray,rs.length]; exact cH q)
theorem xu {qs:List (Expr×DV)} (h:∀ q∈qs,ao q.1=true∧bi Φ q):Ev Φ (eval (.List (qs.map Prod.fst) pos) Φ.fx.env) (fun K=>bo (qs.map Prod.snd) fun xs=>okK (dI xs (.list xs)) K):=fun K s hd I=>by
 rw [arm_eval_List]
 refine a9 ((eL h).bind hd I fun vs xs s₁ I₁ k₁ hx rs=>ag hx fun z e kz=>step I₁ kz ?_)
 exact fit_elim e fun q E=>wpAny_newObj_type (gI (tk:=s₁.toks) I₁ rs) (by refine (?_:vs.toArray.size≤sizeLine); rw [List.size_toArray,rs.length]; exact cH q)
theorem jA (h:fh s o∧Φ.wp (getItem o i) (Φ.Gives s z) s):Φ.wp (do standAt pos; let r ← subscripted slice (← getitemInPython o) o i; letTemporaryGo value o r; pure r) (Φ.Gives s z) s:=by
 obtain ⟨⟨T,id,hT,hl⟩,hg⟩:=h
 refine a9 fun E=>?_
 rw [getitemInPython_of_ne hT.not_modules]
 refine zC1 (zC1 (wpAny_specialOf hT hl ?_))
 refine zC2 ?_
 have fin:∀ vs,wpAny (model Φ.fx.g.prog Φ.fx.g.w) Φ.fx.A (operate vs (getItem o i) >>= fun r=>letTemporaryGo value o r >>= fun _=>pure r) (Φ.Gives s z) E s:=fun vs=>
  zC1 (wpAny_mono (dA hg E) (fun a s' p=>zC1 (wpAny_letTemporaryGo (wpAny_pure p))) fun _ _ z=>z)
 cases slice with
 | Slice a b c p=>cases c with
  | none=>exact fin _
  | some=>exact fin _
 | _=>exact fin _
theorem zM (h1:Ev Φ (eval value Φ.fx.env) d1) (h2:Ev Φ (eval slice Φ.fx.env) d2):Ev Φ (eval (.Subscript value slice pos) Φ.fx.env) (fun K=>d1 fun x=>d2 fun y=>okK (g8 x y) K):=by
 rw [arm_eval_Subscript]
 exact vK (op:=g8) h1 (fun v=>h2.holding) fun s v u x y z I r1 r2 e=>jA (ve I e r1 r2)
abbrev EvO (Φ:Ct) (t:Sem Value) (d:(Option V→Prop)→Prop):Prop:=EvR Φ (RpO Φ) t d
theorem jd:EvO Φ (valueOrNone (evalOpt none Φ.fx.env)) (fun K=>K none):=fun K s hd I=>EvR.pure (a:=Value.none) I hd rfl
theorem jc (h:Ev Φ (eval e Φ.fx.env) d):EvO Φ (valueOrNone (evalOpt (some e) Φ.fx.env)) (fun K=>d fun y=>K (some y)):=fun K s hd I E=>by
 refine (?_:wpAny _ _ (eval e Φ.fx.env) _ _ _)
 exact wpAny_mono (h _ s hd I E) (fun v s' ⟨B,k,y,hy,r⟩=>⟨B,k,some y,hy,r⟩) fun _ _ z=>z
theorem RpO.keep (r:RpO Φ h v y) (k:aF h h'):RpO Φ h' v y:=by
 cases y with
 | none=>exact r
 | some x=>exact Rp.keep r k
theorem ge {value:Expr} {lo hi:Option Expr} {p pos:Pos} {dl dh:(Option V→Prop)→Prop} (h1:Ev Φ (eval value Φ.fx.env) d1) (h2:EvO Φ (valueOrNone (evalOpt lo Φ.fx.env)) dl) (h3:EvO Φ (valueOrNone (evalOpt hi Φ.fx.env)) dh) :
  Ev Φ (eval (.Subscript value (.Slice lo hi none p) pos) Φ.fx.env) (fun K=>d1 fun x=>dl fun l=>dh fun h=>okK (dN x l h) K):=fun K s hd I=>by
 rw [arm_eval_Subscript]
 refine h1.bind hd I fun v x s₁ I₁ k₁ hx r1=>?_
 have hS:EvR Φ (fun h v (q:Option V×Option V)=>∃ sl vl vu,v=.ref sl∧h.IsSliceOf sl vl vu .none∧RpO Φ h vl q.1∧RpO Φ h vu q.2) (eval (.Slice lo hi none p) Φ.fx.env) (fun K=>dl fun l=>dh fun h=>K (l,h)):=fun K s hd I=>by
  rw [arm_eval_Slice]
  refine h2.bind hd I fun vl l s₁ I₁ k₁ hl rl=>h3.holding.bind hl I₁ fun vu h s₂ I₂ k₂ hh rh=>?_
  refine step (z:=(l,h)) I₂ hh fun E=>zC1 (wpAny_holding (zC2 ?_))
  exact wpAny_newObj_type ⟨Grown.push _ _ s₂.toks,_,vl,vu,rfl,Heap.IsSliceOf.new ..,(rl.keep k₂).keep (dH _ _),rh.keep (dH _ _)⟩
 refine hS.holding.bind (K₁:=fun q=>okK (dN x q.1 q.2) K) hx I₁ fun u q s₂ I₂ k₂ hq rq=>?_
 obtain ⟨sl,vl,vu,rfl,hs,rl,ru⟩:=rq
 exact ag hq fun z e kz=>step I₂ kz (jA (ua I₂ e (r1.keep k₂) rl ru hs))
end
section
variable {Φ:Ct} {s:Shared} {v u:Value} {x y z:V} {d:DV}
theorem ja {x:Str} (h:bz Φ.fx.env.scope.names x=true):Φ.fx.env.scope.names.lookup x=some .globalImplicit∧(x==("__debug__" : Str))=false:=by
 have h:=zA2 h
 exact ⟨eq_of_beq h.1,Bool.not_eq_true' _▸(zA2 h.2).1⟩
theorem bV {x:Str} {pos:Pos} {Q:Value→Shared→Prop} (I:Inv Φ s) (hx:bz Φ.fx.env.scope.names x=true) (hv:Φ.fx.g.mg x=some v) (h:Q v s):Φ.wp (eval (.Name x pos) Φ.fx.env) Q s:=fun E=>
 Name_function_global I.ok.kind (ja hx).1 (loadGlobal_global (by rw [I.ok.globals]; exact I.ok.gr.main.at' (I.base.stays _)) hv h) (ja hx).2
theorem bF {x:Str} {pos:Pos} {Q:Value→Shared→Prop} (I:Inv Φ s) (hx:bz Φ.fx.env.scope.names x=true) (hv:bH.lookup x=some v) (h:Q v s):Φ.wp (eval (.Name x pos) Φ.fx.env) Q s:=fun E=>
 have q:=I.ok.gr.blts x v hv
 Name_function_global I.ok.kind (ja hx).1 (loadGlobal_builtin (by rw [I.ok.globals]; exact I.ok.gr.main.at' (I.base.stays _)) q.1 (by rw [I.ok.builtins]; exact I.ok.gr.blt.at' (I.base.stays _)) q.2 h) (ja hx).2
theorem uY {n:Str} {pos:Pos} (hx:bz Φ.fx.env.scope.names n=true) (hv:Φ.fx.g.cons.lookup n=some x):Ev Φ (eval (.Name n pos) Φ.fx.env) (fun K=>K x):=fun K s hd I=>
 (I.ok.gr.cons n x hv).elim fun u q=>bV I hx q.1 ⟨I.base,.refl _,x,hd,q.2 _ _ I.base.stays fun a b=>I.bad0 b⟩
theorem zP (hc:r5 c x=true):Ev Φ (eval (.Constant c k pos) Φ.fx.env) (fun K=>K x):=fun K s hd I E=>by
 refine (?_:wpAny _ _ (constValue Φ.fx.env c) _ _ _)
 cases x with
 | none=>obtain rfl:=eq_of_beq hc; exact zC2 ⟨I.base,.refl _,_,hd,.none⟩
 | bool b=>obtain rfl:=eq_of_beq hc; exact zC2 ⟨I.base,.refl _,_,hd,.bool _⟩
 | int i=>obtain rfl:=eq_of_beq hc; exact wpAny_mkInt ⟨I.base.grown (.toks _ _),.refl _,_,hd,.int _ _⟩
 | str t=>obtain rfl:=eq_of_beq hc; exact wpAny_mkText ⟨I.base.grown (.toks _ _),.refl _,_,hd,.str _ _⟩
 | _=>(injection hc; done)
theorem dx:∀ {l:List (Bool×Sem Value)},(∀ q∈l,q.1=false)→(backTo pos l).any (·.1)=false
 | [],_=>rfl
 | [q],h=>by simp [backTo,h q (.head _)]
 | q :: q' :: l,h=>by
  have:=dx (pos:=pos) (l:=q' :: l) fun x m=>h x (.tail _ m)
  simpa [backTo,h q (.head _)] using this
theorem bT:∀ {qs:List (Expr×DV)},(∀ q∈qs,ao q.1=true)→∀ q∈starEach (qs.map Prod.fst) env,q.1=false
 | [],_,_,h=>nM h
 | q :: r,h,p,hp=>by
  rw [List.map_cons,aN (h q (.head _))] at hp
  cases hp with
  | head=>rfl
  | tail _ m=>exact bT (fun x m=>h x (.tail _ m)) p m
theorem cW {qs:List (Expr×DV)} {K:List V→Prop} {Q:Args→Shared→Prop} {E:Value→Shared→Prop} (hq:∀ q∈qs,ao q.1=true∧bi Φ q) (hd:bo (qs.map Prod.snd) K) (I:Inv Φ s)
  (h:∀ vs xs s₁,Inv Φ s₁→aF s.heap s₁.heap→K xs→Φ.rps s₁.heap vs xs→Q ⟨vs,[]⟩ s₁):wpAny (model Φ.fx.g.prog Φ.fx.g.w) Φ.fx.A (evalArgs F true (backTo pos (starEach (qs.map Prod.fst) Φ.fx.env)) []) Q E s:=by
 have it:=eL (pos:=pos) hq K s hd I E
 cases qs with
 | nil=>exact PySem.evalArgs_none (h [] [] s I (.refl _) hd .nil)
 | cons q r=>
  rw [List.map_cons,aN (hq q (.head _)).1] at it ⊢
  obtain ⟨l,hl⟩:∃ l,backTo pos ((false,eval q.1 Φ.fx.env) :: starEach (r.map Prod.fst) Φ.fx.env)=(false,eval q.1 Φ.fx.env) :: l:=by
   cases starEach (r.map Prod.fst) Φ.fx.env <;> exact ⟨_,rfl⟩
  rw [hl] at it ⊢
  exact Calls.evalArgs_plain (wpAny_mono it (fun vs s₁ ⟨B,k,xs,hx,rs⟩=>h vs xs s₁ (I.keep B k) k hx rs) fun _ _ z=>z)
theorem u0 {F:Value} {f:Str} {fp pos:Pos} {qs:List (Expr×DV)} {op:List V→Option V} (hx:bz Φ.fx.env.scope.names f=true) (hF:bH.lookup f=some F) (hk:(∃ id,F=.builtin id)∨∃ T,F=.type T) (hq:∀ q∈qs,ao q.1=true∧bi Φ q)
  (st:∀ s vs xs z,Inv Φ s→Φ.rps s.heap vs xs→op xs=some z→Φ.wp (call F vs) (Φ.Gives s z) s):Ev Φ (eval (.Call (.Name f fp) (qs.map Prod.fst) [] pos) Φ.fx.env) (fun K=>bo (qs.map Prod.snd) fun xs=>okK (op xs) K):=fun K s hd I E=>by
 refine (?_:wpAny _ _ (eval (.Name f fp) Φ.fx.env >>= fun F=>callWith pos F [] (backTo pos (starEach (qs.map Prod.fst) Φ.fx.env)) []) _ _ s)
 refine zC1 (bF I hx hF ?_ E)
 have hp:=dx (pos:=pos) (bT (env:=Φ.fx.env) fun q m=>(hq q m).1)
 have main:wpAny (model Φ.fx.g.prog Φ.fx.g.w) Φ.fx.A (evalArgs F true (backTo pos (starEach (qs.map Prod.fst) Φ.fx.env)) []) (fun a s₁=>wpAny (model Φ.fx.g.prog Φ.fx.g.w) Φ.fx.A (call F ([]++a.pos) a.kw) (Post Φ Φ.rp s K) E s₁) E s:=
  cW hq hd I fun vs xs s₁ I₁ k₁ hx rs=>ag hx fun z e kz=>wpAny_mono (step I₁ kz (st s₁ vs xs z I₁ rs e) E) (fun _ _ p=>p.lift k₁) fun _ _ z=>z
 rcases hk with ⟨id,rfl⟩ | ⟨T,rfl⟩
 ·exact callWith_builtin hp main
 ·exact PySem.callWith_type hp main
theorem eH {α:Type} {vs:List Value} {xs:List V} {f:V→Option α} {z:α} {C:List Value→Prop} (e:one xs f=some z) (rs:Φ.rps s.heap vs xs) (k:∀ v x,Φ.rp s.heap v x→f x=some z→C [v]):C vs:=by
 cases rs with
 | nil=>(injection e; done)
 | cons r rs=>cases rs with
  | nil=>exact k _ _ r e
  | cons _ _=>(injection e; done)
theorem tW {α:Type} {vs:List Value} {xs:List V} {f:V→V→Option α} {z:α} {C:List Value→Prop} (e:two xs f=some z) (rs:Φ.rps s.heap vs xs) (k:∀ v u x y,Φ.rp s.heap v x→Φ.rp s.heap u y→f x y=some z→C [v,u]):C vs:=by
 cases rs with
 | nil=>(injection e; done)
 | cons r rs=>cases rs with
  | nil=>(injection e; done)
  | cons r' rs=>cases rs with
   | nil=>exact k _ _ _ _ r r' e
   | cons _ _=>(injection e; done)
theorem xP (h:n≤ai):(n:Int) < 2 ^ 63:=Int.ofNat_lt.mpr (Nat.lt_of_le_of_lt h (by decide))
theorem aP {vs:Array Value} {l:List V} (r:Φ.rps h vs.toList l):vs.size=l.length:=Array.length_toList▸r.length
theorem kF {C:V→List V→Prop} (e:wB x=some l) (kl:∀ l:List V,l.length≤ai→C (.list l) l) (kt:∀ l:List V,l.length≤ai→C (.tuple l) l) (ks:∀ t:Str,t.cps.toList.length≤ai→C (.str t) (ba t.cps.toList)):C x l:=by
 cases x with
 | list m=>exact fit_elim e fun h=>kl m h
 | tuple m=>exact fit_elim e fun h=>kt m h
 | str m=>exact fit_elim e fun h=>ks m h
 | _=>(injection e; done)
theorem zq (e:wB x=some l) (r:Φ.rp s.heap v x):Φ.wp (call (.builtin "len") [v]) (Φ.Gives s (.int l.length)) s:=
 kF (C:=fun x l=>Φ.rp s.heap v x→Φ.wp (call (.builtin "len") [v]) (Φ.Gives s (.int l.length)) s) e
  (fun l hz r=>r.list_elim fun a o vs n _ ha hc hd hl E=>aP hl▸PyProof.Rows.len_list ⟨_,ha,hc.1,_,hd⟩ (by rw [aP hl]; exact xP hz) ⟨.toks _ _,.int _ _⟩)
  (fun l hz r=>r.tuple_elim fun a o vs n _ ha hc hd hl E=>aP hl▸PyProof.Rows.len_tuple ⟨_,ha,hc,_,hd⟩ (by rw [aP hl]; exact xP hz) ⟨.toks _ _,.int _ _⟩)
  (fun t hz r=>r.str_elim fun tk E=>by
   unfold ba
   rw [zA4,zB3]
   exact P.len_str (by rw [zB3] at hz; have:=xP hz; unfold Str.length; omega) ⟨.toks _ _,.int _ _⟩) r
theorem zQ {fp pos:Pos} {q:Expr×DV} (hx:bz Φ.fx.env.scope.names "len"=true) (hq:ao q.1=true∧bi Φ q):Ev Φ (eval (.Call (.Name "len" fp) [q.1] [] pos) Φ.fx.env) (fun K=>bo [q.2] fun xs=>okK (opN .len xs) K):=
 u0 (qs:=[q]) (op:=opN .len) hx rfl (.inl ⟨_,rfl⟩) (fun p m=>by obtain rfl:=zA6 m; exact hq) fun s vs xs z I rs e=>eH (C:=fun vs=>Φ.wp (call (.builtin "len") vs) (Φ.Gives s z) s) e rs fun v x r e=>map_elim e fun l e=>zq e r
end
section
variable {Φ:Ct} {s:Shared} {v u:Value} {x y z:V} {d:DV}
theorem j4 (q:pH kvs=true) (e:isT (.dict kvs) t=some b):False:=by
 cases kvs with
 | nil=>(injection q; done)
 | cons=>(injection e; done)
theorem zC (hT:iH[t]?=some T) (e:isT x t=some b) (r:Φ.rp s.heap v x):Φ.wp (call (.builtin "isinstance") [v,.type T]) (Φ.Gives s (.bool b)) s:=fun E=>by
 have G0:∀ {b},Φ.Gives s (.bool b) (.bool b) s:=⟨.refl _,.bool _⟩
 have G1:∀ {b},Φ.Gives s (.bool b) (.bool b) { s with toks:=s.toks+1 }:=⟨.toks _ _,.bool _⟩
 match t,hT with
 | 0,hT=>
  (injection hT with hT; subst hT)
  cases r with
  | none=>exact some_elim e (IsiPair.NoneType_str G1)
  | bool c=>exact some_elim e (IsiPair.bool_str G1)
  | int i t=>exact some_elim e (IsiPair.int_str G1)
  | str _ t=>exact some_elim e (IsiPair.str_str G0)
  | list _ ha hc=>exact some_elim e (IsiPair.list_str ha hc.1 G1)
  | tuple _ ha hc=>exact some_elim e (IsiPair.tuple_str ha hc G1)
  | inst _ _ _ _ _ _ q=>exact (j4 q e).elim
  | exc=>(injection e; done)
  | dict _ _ ha hc=>exact if_elim e fun _=>IsiPair.dict_str ha hc.1 G1
 | 1,hT=>
  (injection hT with hT; subst hT)
  cases r with
  | none=>exact some_elim e (IsiPair.NoneType_tuple G1)
  | bool c=>exact some_elim e (IsiPair.bool_tuple G1)
  | int i t=>exact some_elim e (IsiPair.int_tuple G1)
  | str _ t=>exact some_elim e (IsiPair.str_tuple G1)
  | list _ ha hc=>exact some_elim e (IsiPair.list_tuple ha hc.1 G1)
  | tuple _ ha hc=>exact some_elim e (IsiPair.tuple_tuple ha hc G0)
  | inst _ _ _ _ _ _ q=>exact (j4 q e).elim
  | exc=>(injection e; done)
  | dict _ _ ha hc=>exact if_elim e fun _=>IsiPair.dict_tuple ha hc.1 G1
 | 2,hT=>
  (injection hT with hT; subst hT)
  cases r with
  | none=>exact some_elim e (IsiPair.NoneType_list G1)
  | bool c=>exact some_elim e (IsiPair.bool_list G1)
  | int i t=>exact some_elim e (IsiPair.int_list G1)
  | str _ t=>exact some_elim e (IsiPair.str_list G1)
  | list _ ha hc=>exact some_elim e (IsiPair.list_list ha hc.1 G0)
  | tuple _ ha hc=>exact some_elim e (IsiPair.tuple_list ha hc G1)
  | inst _ _ _ _ _ _ q=>exact (j4 q e).elim
  | exc=>(injection e; done)
  | dict _ _ ha hc=>exact if_elim e fun _=>IsiPair.dict_list ha hc.1 G1
 | 3,hT=>
  (injection hT with hT; subst hT)
  cases r with
  | none=>exact some_elim e (IsiPair.NoneType_int G1)
  | bool c=>exact some_elim e (IsiPair.bool_int G0)
  | int i t=>exact some_elim e (IsiPair.int_int G0)
  | str _ t=>exact some_elim e (IsiPair.str_int G1)
  | list _ ha hc=>exact some_elim e (IsiPair.list_int ha hc.1 G1)
  | tuple _ ha hc=>exact some_elim e (IsiPair.tuple_int ha hc G1)
  | inst _ _ _ _ _ _ q=>exact (j4 q e).elim
  | exc=>(injection e; done)
  | dict _ _ ha hc=>exact if_elim e fun _=>IsiPair.dict_int ha hc.1 G1
 | 4,hT=>
  (injection hT with hT; subst hT)
  cases r with
  | none=>exact some_elim e (IsiPair.NoneType_bool G1)
  | bool c=>exact some_elim e (IsiPair.bool_bool G0)
  | int i t=>exact some_elim e (IsiPair.int_bool G1)
  | str _ t=>exact some_elim e (IsiPair.str_bool G1)
  | list _ ha hc=>exact some_elim e (IsiPair.list_bool ha hc.1 G1)
  | tuple _ ha hc=>exact some_elim e (IsiPair.tuple_bool ha hc G1)
  | inst _ _ _ _ _ _ q=>exact (j4 q e).elim
  | exc=>(injection e; done)
  | dict _ _ ha hc=>exact if_elim e fun _=>IsiPair.dict_bool ha hc.1 G1
theorem yR {t:Nat} (hT:iH[t]?=some T):bH.lookup (Str.ofString T)=some (.type T):=by
 match t,hT with
 | 0,hT=>(injection hT with hT; subst hT); decide
 | 1,hT=>(injection hT with hT; subst hT); decide
 | 2,hT=>(injection hT with hT; subst hT); decide
 | 3,hT=>(injection hT with hT; subst hT); decide
 | 4,hT=>(injection hT with hT; subst hT); decide
theorem zR {t:Nat} (hT:iH[t]?=some T) (hx:bz Φ.fx.env.scope.names "isinstance"=true) (hy:bz Φ.fx.env.scope.names (Str.ofString T)=true) (hp:ao q.1=true) (h:bi Φ q) :
  Ev Φ (eval (.Call (.Name "isinstance" fp) [q.1,.Name (Str.ofString T) pT] [] pos) Φ.fx.env) (fun K=>q.2 fun x=>okK (isT x t) fun b=>K (.bool b)):=fun K s hd I E=>by
 refine (?_:wpAny _ _ (eval (.Name "isinstance" fp) Φ.fx.env >>= fun F=>callWith pos F [] (backTo pos (starEach [q.1,.Name (Str.ofString T) pT] Φ.fx.env)) []) _ _ s)
 refine zC1 (bF (v:=.builtin "isinstance") I hx rfl ?_ E)
 rw [aN hp]
 refine callWith_builtin rfl (Calls.evalArgs_plain ?_)
 have q':spliced (backTo pos ((false,eval q.1 Φ.fx.env) :: starEach [.Name (Str.ofString T) pT] Φ.fx.env))=(eval q.1 Φ.fx.env >>= fun v=>holding [v] (eval (.Name (Str.ofString T) pT) Φ.fx.env >>= fun u=>holding [u] (pure []) >>= fun vs=>pure (u :: vs)) >>= fun vs=>pure (v :: vs)):=rfl
 refine (?_:wpAny _ _ (spliced (backTo pos ((false,eval q.1 Φ.fx.env) :: starEach [.Name (Str.ofString T) pT] Φ.fx.env))) _ _ _)
 rw [q']
 refine zC1 (wpAny_mono (h _ s hd I E) (fun v s₁ ⟨B,k,x,hx,r⟩=>?_) fun _ _ z=>z)
 have I₁:=I.keep B k
 refine zC1 (wpAny_holding (zC1 (bF I₁ hy (yR hT) ?_ E)))
 refine zC1 (wpAny_holding (zC2 (zC2 (zC2 ?_))))
 exact ag hx fun b e kb=>wpAny_mono (step I₁ kb (zC hT e r) E) (fun _ _ p=>p.lift k) fun _ _ z=>z
theorem oA (k:aI s.heap h'):Grown s { s with heap:=h',toks:=tk }:=⟨k,rfl,rfl⟩
theorem kN {C:V→List V→Prop} (e:iT x=some l) (kl:∀ l:List V,l.length≤ai→C (.list l) l) (kt:∀ l:List V,l.length≤ai→C (.tuple l) l):C x l:=by
 cases x with
 | list m=>exact fit_elim e fun h=>kl m h
 | tuple m=>exact fit_elim e fun h=>kt m h
 | _=>(injection e; done)
theorem rA (I:Inv Φ s) (k:aI s.heap h') (hD:h'.get? s.heap.objs.size=some { cls:=.type "list",dict:=none,data:=.seq vs c,slots:=#[] }) (rr:Φ.rps h' vs.toList l) :
  Φ.Gives s (.list l) (.ref s.heap.objs.size) { s with heap:=h',toks:=tk }:=⟨oA k,.list I.fresh hD ⟨rfl,rfl⟩ rfl rr⟩
theorem wT (I:Inv Φ s) (e:iT x=some l) (r:Φ.rp s.heap v x):Φ.wp (call (.type "list") [v]) (fun w s'=>w=.ref s.heap.objs.size∧Φ.Gives s (.list l) w s') s:=
 kN (C:=fun x l=>Φ.rp s.heap v x→Φ.wp (call (.type "list") [v]) (fun w s'=>w=.ref s.heap.objs.size∧Φ.Gives s (.list l) w s') s) e
  (fun l hz r=>r.list_elim fun a o vs n _ ha hc hd hl E=>call_list_seq (hsz:=by rw [aP hl]; exact cH hz) _ (.inl rfl) ha hc.1 hd fun h' c' hk hD=>⟨rfl,rA (tk:=s.toks) I hk hD (hl.keep (aI.keeps hk))⟩)
  (fun l hz r=>r.tuple_elim fun a o vs n _ ha hc hd hl E=>call_list_seq (hsz:=by rw [aP hl]; exact cH hz) _ (.inr rfl) ha hc hd fun h' c' hk hD=>⟨rfl,rA (tk:=s.toks) I hk hD (hl.keep (aI.keeps hk))⟩) r
theorem pb (e:fU l=some ss) (r:Φ.rps h vs l):StrsAre vs (ss.map fun x=>(⟨x.toArray⟩:Str)):=by
 refine r.ind (D:=fun vs l=>∀ ss,fU l=some ss→StrsAre vs (ss.map fun x=>(⟨x.toArray⟩:Str))) (fun ss e=>some_elim e .nil) (fun v vs x l r _ ih ss e=>?_) ss e
 unfold fU at e
 rw [List.mapM_cons] at e
 obtain ⟨a,ha,e⟩:=Option.bind_eq_some_iff.mp e
 obtain ⟨b,hb,e⟩:=Option.bind_eq_some_iff.mp e
 (injection e with e; subst e)
 exact eN (C:=fun x=>Φ.rp h v x→StrsAre (v :: vs) ((a :: b).map fun x=>(⟨x.toArray⟩:Str))) ha (fun t et r=>r.str_elim fun tk=>by (injection et with et; subst et); rw [List.map_cons,iL]; exact .cons _ _ (ih b hb)) r
theorem i9 (e:gc l=some ns) (r:Φ.rps h vs l):IntsAre vs ns:=by
 refine r.ind (D:=fun vs l=>∀ ns,gc l=some ns→IntsAre vs ns) (fun ss e=>some_elim e .nil) (fun v vs x l r _ ih ss e=>?_) ns e
 unfold gc at e
 rw [List.mapM_cons] at e
 obtain ⟨a,ha,e⟩:=Option.bind_eq_some_iff.mp e
 obtain ⟨b,hb,e⟩:=Option.bind_eq_some_iff.mp e
 (injection e with e; subst e)
 exact bN (C:=fun x=>Φ.rp h v x→IntsAre (v :: vs) (a :: b)) ha (fun i ei r=>r.int_elim fun tk=>by (injection ei with ei; subst ei); exact .cons _ _ (ih b hb)) r
theorem i7 (sep:List Nat):∀ (ss:List (List Nat)) (a:List Nat),((ss.map fun x=>(⟨x.toArray⟩:Str)).foldl (fun acc p=>acc++sep.toArray++p.cps) a.toArray).toList=hO sep (a :: ss)
 | [],a=>rfl
 | x :: r,a=>by
  have:=i7 sep r (a++sep++x)
  rw [List.map_cons,List.foldl_cons,show a.toArray++sep.toArray++x.toArray=(a++sep++x).toArray by simp,this]
  cases r <;> simp [hO]
theorem lA (sep:List Nat):∀ ss:List (List Nat),(Builtin.Str.glued ⟨sep.toArray⟩ (ss.map fun x=>(⟨x.toArray⟩:Str))).cps.toList=hO sep ss
 | []=>rfl
 | x :: r=>i7 sep r x
theorem w5 (e:fU l=some ss) (hz:(ss.map List.length).sum+ss.length * sep.cps.toList.length≤ai) (rs:Φ.rp s.heap u (.str sep)) (r:Φ.rp s.heap v (.list l)) :
  Φ.wp (call (.builtin "str.join") [u,v]) (Φ.Gives s (text (hO sep.cps.toList ss))) s:=by
 refine rs.str_elim fun t=>r.list_elim fun a o vs n _ ha hc hd hl E=>?_
 have q:=lA sep.cps.toList ss
 rw [iL] at q
 refine PyProof.Rows.join_list ⟨_,ha,hc.1,_,hd⟩ (pb e hl) ?_ fun t' k=>⟨.toks _ _,.text q⟩
 have e1:((ss.map fun x=>(⟨x.toArray⟩:Str)).map (·.length))=ss.map List.length:=by simp [Str.length]
 rw [e1,zA4]
 rw [zB3] at hz
 exact zB1 hz (show ai≤16777216 by decide)
theorem u1 (I:Inv Φ s) (q:(dD y&&dD (.list l))=true) (r:Φ.rp s.heap v (.list l)) (r2:Φ.rp s.heap u y):Φ.wp (call (.builtin "list.count") [v,u]) (Φ.Gives s (.int (l.countP fun z=>PyData.eqv z y))) s:=fun E=>by
 have q:=zA2 q
 have h1:=okd q.1
 have h2:=okd q.2
 obtain ⟨bs,p2⟩:=r2.reads h1.1
 obtain ⟨as,p1⟩:=r.reads h2.1
 refine r.list_elim fun a o vs n _ ha hc hd hl=>?_
 obtain ⟨cls,dd,data,sl⟩:=o
 obtain ⟨rfl,rfl⟩:=hc
 subst hd
 obtain ⟨as,ra⟩:=(nK (v:=.none) (x:=.none)).2 hl h2.1
 have:=SeqAt.items_eqAt (A:=Φ.fx.A) (vs:=vs) ra p2 h2.1 h1.1 (im I h1.2)
 refine call_meets PySem.F.slot_list_count ⟨_,ha,rfl⟩ PySem.F.entry_list_count (PySem.F.args_list_count_2 _ _) (SeqAt.list_countAt a vs n none sl u (fun y'=>PyData.eqv (SeqAt.readOf s.heap y') y)) ⟨ha,this,?_⟩
 have e:vs.toList.countP (fun y'=>PyData.eqv (SeqAt.readOf s.heap y') y)=l.countP fun z=>PyData.eqv z y:=by
  rw [← SeqAt.readsAll_map l _ _ h2.1 ra,List.countP_map]; rfl
 rw [e]
 exact ⟨.toks _ _,.int _ _⟩
end
section
variable {Φ:Ct} {s:Shared} {v u:Value} {x y z:V} {d d1 d2:DV}
abbrev Ct.safe (Φ:Ct) (f:Nat):Prop:=Φ.fx.hm=true→Φ.fx.g.safe f=true
theorem dz {K:V→Prop} {E:Value→Shared→Prop} (hs:Φ.safe f) (I:Inv Φ s) (h:am Φ.fx.g.P Φ.fx.d f xs fun y=>noX y=true∧K y) (rs:Φ.rps s.heap vs xs) :
  wpAny (model Φ.fx.g.prog Φ.fx.g.w) Φ.fx.A (call (.ref (Φ.fx.g.fn f)) vs) (jv Φ (Φ.fx.g.newf f) s K) E s:=
 wpAny_mono (I.ok.call Φ.fx.hm f xs _ Φ.fx.A s Φ.bad vs h I.ok.hand hs I.ok.room I.ok.units I.base I.fr (fun a b=>I.badLive b) (fun a b=>I.bad0 b) rs) (fun _ _ ⟨B,k,y,hy,_,r,nv⟩=>⟨⟨B,k,y,hy.2,r⟩,nv⟩) fun _ _ ⟨_,_,c,e,_,_,q,_⟩=>nB q.1
theorem Inv.frag (I:Inv Φ s):Φ.fx.g.K.In s.heap:=I.ok.gr.frag.keeps I.base.stays
theorem xy {f:Nat} {qs:List (Expr×DV)} (hx:bz Φ.fx.env.scope.names n=true) (hf:Φ.fx.g.fns.lookup n=some f) (hfn:keepIn Φ.fx.g.K (.ref (Φ.fx.g.fn f))=true) (hsf:Φ.safe f) (hq:∀ q∈qs,ao q.1=true∧bi Φ q) :
  EvC Φ (Φ.fx.g.newf f) (eval (.Call (.Name n fp) (qs.map Prod.fst) [] pos) Φ.fx.env) (fun K=>bo (qs.map Prod.snd) fun xs=>am Φ.fx.g.P Φ.fx.d f xs fun y=>noX y=true∧K y):=fun K s hd I E=>by
 refine (?_:wpAny _ _ (eval (.Name n fp) Φ.fx.env >>= fun F=>callWith pos F [] (backTo pos (starEach (qs.map Prod.fst) Φ.fx.env)) []) _ _ s)
 refine zC1 (bV I hx (I.ok.gr.fns n f hf) ?_ E)
 refine callWith_of (by rw [dx (bT fun q m=>(hq q m).1)]; rfl) (keeps_K hfn) (cW hq hd I fun vs xs s₁ I₁ k₁ hx rs=>⟨I₁.frag,?_⟩)
 exact wpAny_mono (dz hsf I₁ hx rs) (fun _ _ p=>p.lift k₁) fun _ _ z=>z
theorem bX (h:b8 o=true):attributeBase o name env t=t:=by
 cases o with
 | Call f xs ks p=>
  cases xs with
  | nil=>exact nB h
  | cons=>cases f <;> rfl
 | _=>first | rfl | exact nB h
theorem rV {o e:Expr} {name:Str} {T id:String} {apos pos:Pos} {op:V→V→Option V} (ho:b8 o=true) (hp:ao e=true) (hline:(apos.endLine==pos.line)=true)
  (pa:PlainAttrs T) (slot:PySem.Slot T name id) (hty:typeOf (.builtin id)=pure (.type "method_descriptor")) (h1:Ev Φ (eval o Φ.fx.env) d1) (h2:Ev Φ (eval e Φ.fx.env) d2) {ok:V→Bool}
  (hrecv:∀ (s:Shared) v x,ok x=true→Φ.rp s.heap v x→s.TypeIs v T∧∀ a,v=.ref a→∃ ob,s.heap.get? a=some ob∧ob.dict=none)
  (hop:∀ (s:Shared) u v x y z,Inv Φ s→Φ.rp s.heap u x→Φ.rp s.heap v y→op x y=some z→Φ.wp (call (.builtin id) [u,v]) (Φ.Gives s z) s) :
  Ev Φ (eval (.Call (.Attribute o name apos) [e] [] pos) Φ.fx.env) (fun K=>d1 fun x=>ok x=true∧d2 fun y=>okK (op x y) K):=fun K s hd I E=>by
 refine wpAny_Call_method (bX ho) ?_ hline pa slot hty ?_
 ·rw [aN hp]; rfl
 refine wpAny_mono (h1 _ s hd I E) (fun ov s₁ ⟨B,k,x,⟨hx,hd2⟩,r1⟩=>?_) fun _ _ z=>z
 have I₁:=I.keep B k
 obtain ⟨hT,hdd⟩:=hrecv s₁ ov x hx r1
 refine ⟨hT,hdd,callWith_builtin ?_ ?_⟩
 ·rw [aN hp]; rfl
 refine cW (qs:=[(e,d2)]) (K:=fun ys=>okK (one ys (op x)) K) (fun q m=>by obtain rfl:=zA6 m; exact ⟨hp,h2⟩) hd2 I₁ fun vs ys s₂ I₂ k₂ hy rs=>ag hy fun z e kz=>?_
 refine eH (C:=fun vs=>wpAny _ _ (call (.builtin id) ([ov]++vs) []) _ _ s₂) e rs fun v y r2 e=>?_
 exact wpAny_mono (step I₂ kz (hop s₂ ov v x y z I₂ (r1.keep k₂) r2 e) E) (fun _ _ p=>(p.lift k₂).lift k) fun _ _ z=>z
theorem uj (s:Shared) (v:Value) (x:V) (hx:isStr x=true) (r:Φ.rp s.heap v x):s.TypeIs v "str"∧∀ a,v=.ref a→∃ ob,s.heap.get? a=some ob∧ob.dict=none:=by
 cases x with
 | str t=>exact r.str_elim (C:=fun v=>s.TypeIs v "str"∧∀ a,v=.ref a→∃ o,s.heap.get? a=some o∧o.dict=none) fun tk=>⟨typeIs_str _ _ _,fun _ q=>nomatch q⟩
 | _=>(injection hx; done)
theorem xw (ho:b8 o=true) (hp:ao e=true) (hline:(apos.endLine==pos.line)=true) (h1:Ev Φ (eval o Φ.fx.env) d1) (h2:Ev Φ (eval e Φ.fx.env) d2) :
  Ev Φ (eval (.Call (.Attribute o "join" apos) [e] [] pos) Φ.fx.env) (fun K=>d1 fun x=>isStr x=true∧d2 fun y=>okK (opN .join [x,y]) K):=
 rV (op:=fun x y=>opN .join [x,y]) ho hp hline PySem.F.plainAttrs_str PySem.F.slot_str_join PySem.F.type_str_join h1 h2 uj
  fun s u v x y z I ru rv e=>eN (f:=fun sep=>hM y fun l=>(fU l).bind fun ss=>if (ss.map List.length).sum+ss.length * sep.length≤ai then some (text (hO sep ss)) else none) (C:=fun x=>Φ.rp s.heap u x→Φ.wp (call (.builtin "str.join") [u,v]) (Φ.Gives s z) s) e
   (fun t e ru=>cz (C:=fun y=>Φ.rp s.heap v y→Φ.wp (call (.builtin "str.join") [u,v]) (Φ.Gives s z) s) e (fun l e rv=>(Option.bind_eq_some_iff.mp e).elim fun ss ⟨h,e⟩=>if_elim e fun hz=>w5 h hz ru rv) rv) ru
theorem uX (ho:b8 o=true) (hp:ao e=true) (hline:(apos.endLine==pos.line)=true) (h1:Ev Φ (eval o Φ.fx.env) d1) (h2:Ev Φ (eval e Φ.fx.env) d2) :
  Ev Φ (eval (.Call (.Attribute o "count" apos) [e] [] pos) Φ.fx.env) (fun K=>d1 fun x=>j5 x=true∧d2 fun y=>okK (opN .count [x,y]) K):=
 rV (op:=fun x y=>opN .count [x,y]) ho hp hline PySem.F.plainAttrs_list PySem.F.slot_list_count PySem.F.type_list_count h1 h2
  (fun s v x hx r=>by
   cases x with
   | list l=>exact r.list_elim (C:=fun v=>s.TypeIs v "list"∧∀ a,v=.ref a→∃ o,s.heap.get? a=some o∧o.dict=none) fun a o vs n hb ha hc hd hl=>⟨⟨_,ha,hc.1⟩,fun a q=>by (injection q with q; subst q); exact ⟨_,ha,hc.2⟩⟩
   | _=>(injection hx; done))
  fun s u v x y z I ru rv e=>cz (f:=fun l=>if (dD y&&dD (.list l))=true then some (PyData.int (l.countP fun z=>PyData.eqv z y)) else none) (C:=fun x=>Φ.rp s.heap u x→Φ.wp (call (.builtin "list.count") [u,v]) (Φ.Gives s z) s) e (fun l e ru=>if_elim e fun q=>u1 I q ru rv) ru
end
structure Feed (g:Gl) (A:Around) (T:Expr) (I:Addr) (fp wr:List Addr) (vals:List Value) (l0 l:List V) (St:Nat→Heap→Prop):Prop where
 sub:∀ b∈wr,b∈fp
 frame:∀ i h h',St i h→(∀ b∈fp,∀ o,h.get? b=some o→h'.get? b=some o)→St i h'
 live:∀ i h b,St i h→b∈fp→dL h b
 item:∀ i x (s:Shared) bad (Q:Value→Shared→Prop) (E:Value→Shared→Prop),l[i]?=some x→St i s.heap→RpAll g bad s.heap vals l0→(∀ a,bad a→aS s.heap a)→(∀ b∈wr,bad b) →
  (∀ v h' tk,St (i+1) h'→(∀ b o,b∉wr→s.heap.get? b=some o→h'.get? b=some o)→Rp g bad h' v x→Q v { s with heap:=h',toks:=tk }) →
  wpAny (model g.prog g.w) A (pyNext (.ref I)) (fun r s₁=>∃ v,r=some v∧wpAny (model g.prog g.w) A (letOwnedTupleGo T (.ref I) v) (fun _ s₂=>Q v s₂) E s₁) E s
 done:∀ (s:Shared) (Q:Shared→Prop) (E:Value→Shared→Prop),St l.length s.heap→(∀ h' tk,(∀ b o,b∉wr→s.heap.get? b=some o→h'.get? b=some o)→Q { s with heap:=h',toks:=tk }) →
  wpAny (model g.prog g.w) A (pyNext (.ref I)) (fun r s₁=>r=none∧Q s₁) E s
 self:∀ i (s:Shared) (Q:Value→Shared→Prop) (E:Value→Shared→Prop),St i s.heap→Q (.ref I) s→wpAny (model g.prog g.w) A (pyIter (.ref I)) Q E s
def vS (I:Addr) (h:Heap):Prop:=∃ o n vs,h.get? I=some o∧o.cls=.type n∧o.data=.fields vs ∧
 ["enumerate", "zip", "dict_itemiterator", "dict_reverseitemiterator", "odict_iterator", "itertools.zip_longest", "itertools.pairwise"].contains n=false
theorem ni {E:Value→Shared→Prop} {Q:Unit→Shared→Prop} (go:vS I s.heap) (h:Q () s):wpAny M A (letOwnedTupleGo T (.ref I) v) Q E s:=by
 have main:∀ es k p,wpAny M A (letOwnedTupleGo (.Tuple es k p) (.ref I) v) Q E s:=fun es k p=>by
  obtain ⟨o,n,vs,ho,hc,hd,hn⟩:=go
  cases v with
  | ref a=>
   refine zC1 (wpAny_load ho ?_)
   rw [hc,hd]
   exact bv (by rw [hn]; exact Bool.false_ne_true) (wpAny_pure h)
  | _=>exact wpAny_pure h
 cases T with
 | Tuple es k p=>exact main es k p
 | List es p=>exact main [] 0 p
 | _=>exact wpAny_pure h
section
variable {g:Gl} {A:Around} {T:Expr} {I:Addr} {fp wr:List Addr} {n:Nat} {P:Nat→Value→Prop} {St:Nat→Heap→Prop} {vals:List Value} {l0 l:List V}
theorem Feed.ofWalks (W:Walks g.prog g.w A I fp wr n P St) (hn:l.length=n) (hlive:∀ i h b,St i h→b∈fp→dL h b) (hgo:∀ i h,St i h→vS I h)
  (hP:∀ i x v h bad,l[i]?=some x→P i v→RpAll g bad h vals l0→Rp g bad h v x):Feed g A T I fp wr vals l0 l St where
 sub:=W.sub
 frame:=W.frame
 live:=hlive
 item:=fun i x s bad Q E hx hst hv hb hw hQ=>W.item i s _ _ (hn▸(List.getElem?_eq_some_iff.mp hx).1) hst fun v h' tk hp hst' hk=>⟨v,rfl,ni (hgo _ _ hst') (hQ v h' tk hst' hk (hP i x v h' bad hx hp (hv.map fun b o e _ nb=>⟨nb,hk b o (fun m=>nb (hw b m)) e⟩)))⟩
 done:=fun s Q E hst hQ=>W.done s _ _ (hn▸hst) fun h' tk hk=>⟨rfl,hQ h' tk hk⟩
 self:=W.self
theorem vZ (ha:dL h a) (hc:dL h c) (m:b∈[a,c]):dL h b:=by
 rcases List.mem_cons.mp m with rfl | m
 ·exact ha
 ·obtain rfl:=zA6 m; exact hc
theorem td (hh:A.handled=none) (I ax:Addr) (hne:ax≠I) (items:Array Value) (l:List V) (hl:items.size=l.length) :
  Feed g A T I [I,ax] [I] items.toList l l (fun i h=>h.IsListIter I ax i∧h.IsList ax items):=
 Feed.ofWalks (Walks.list hh I ax hne items) hl.symm (fun i h b st=>vZ (st.1.elim fun _ q=>⟨_,q.1,aK q.2.1⟩) (st.2.elim fun _ q=>⟨_,q.1,aK q.2.1⟩))
  (fun i h st=>by obtain ⟨o',e',c,d⟩:=st.1; exact ⟨_,_,_,e',c,d,by decide⟩)
  fun i x v h bad hx hv r=>by
   obtain ⟨v',e,rr⟩:=r.get hx
   rw [Array.getElem?_toList,hv] at e
   (injection e with e; subst e); exact rr
theorem pS (hh:A.handled=none) (I ax:Addr) (hne:ax≠I) (items:Array Value) (l:List V) (hl:items.size=l.length) :
  Feed g A T I [I,ax] [I] items.toList l l (fun i h=>h.IsTupleIter I ax i∧h.IsTuple ax items):=
 Feed.ofWalks (Walks.tuple hh I ax hne items) hl.symm (fun i h b st=>vZ (st.1.elim fun _ q=>⟨_,q.1,aK q.2.1⟩) (st.2.elim fun _ q=>⟨_,q.1,aK q.2.1⟩))
  (fun i h st=>by obtain ⟨o',e',c,d⟩:=st.1; exact ⟨_,_,_,e',c,d,by decide⟩)
  fun i x v h bad hx hv r=>by
   obtain ⟨v',e,rr⟩:=r.get hx
   rw [Array.getElem?_toList,hv] at e
   (injection e with e; subst e); exact rr
theorem uS (nm:String) (hnm:nm="str_ascii_iterator"∨nm="str_iterator") (I:Addr) (x:Str) (t:Tok) (W:Walks g.prog g.w A I [I] [I] x.cps.size (SignAt x) (fun i h=>h.IsStrIter I nm x t i)) :
  Feed g A T I [I] [I] [] [] (ba x.cps.toList) (fun i h=>h.IsStrIter I nm x t i):=
 Feed.ofWalks W (by unfold ba; rw [zA4,zB3])
  (fun i h b st hb=>by obtain rfl:=zA6 hb; exact st.elim fun _ q=>⟨_,q.1,aK q.2.1 (by rcases hnm with rfl | rfl <;> decide)⟩)
  (fun i h st=>by obtain ⟨o',e',c,d⟩:=st; exact ⟨_,_,_,e',c,d,by rcases hnm with rfl | rfl <;> decide⟩)
  fun i y v h bad hx hv r=>by
   obtain ⟨c,u,hc,rfl⟩:=hv
   unfold ba at hx
   rw [List.getElem?_map,Array.getElem?_toList,hc] at hx
   (injection hx with hx; subst hx)
   exact .text rfl
theorem pU (hh:A.handled=none) (I:Addr) (a b:Int):Feed g A T I [I] [I] [] [] (aU a b) (fun i h=>IsRangeIter h I (a+(i:Nat) * 1) (((b - a).toNat:Int) - (i:Nat)) 1):=
 Feed.ofWalks (Walks.range hh I a 1 (b - a).toNat) (by unfold aU; rw [zA4,List.length_range])
  (fun i h b st hb=>by obtain rfl:=zA6 hb; exact ⟨_,st,aK rfl⟩)
  (fun i h st=>⟨_,_,_,st,rfl,rfl,by decide⟩)
  fun i x v h bad hx hv r=>by
   obtain ⟨t,rfl⟩:=hv
   unfold aU at hx
   rw [List.getElem?_map] at hx
   obtain ⟨j,hj,rfl⟩:=Option.map_eq_some_iff.mp hx
   rw [List.getElem?_range (by have:=(List.getElem?_eq_some_iff.mp hj).1; rwa [List.length_range] at this)] at hj
   (injection hj with hj; subst hj)
   rw [Int.mul_one]
   exact .int _ _
end
inductive FeedAt (Φ:Ct) (T:Expr) (st:Bool) (s₀ s₂:Shared) (it:Value) (l:List V):Prop
 | mk:∀ I fp wr vals l0 St,it=.ref I→Feed Φ.fx.g Φ.fx.A T I fp wr vals l0 l St→St 0 s₂.heap→Φ.rps s₀.heap vals l0→(∀ b∈wr,s₀.heap.get? b=none)→(∀ b∈fp,s₀.heap.get? b=none∨(st=true→¬ Φ.bad b))→l.length≤ai→FeedAt Φ T st s₀ s₂ it l
def eW (Φ:Ct) (T:Expr) (st:Bool) (iter:Expr) (d:(List V→Prop)→Prop):Prop:=∀ K s,d K→Inv Φ s→∀ (Q:Value→Shared→Prop) (E:Value→Shared→Prop),
 (∀ l s₀ it s₂,K l→Inv Φ s₀→aF s.heap s₀.heap→Grown s₀ s₂→FeedAt Φ T st s₀ s₂ it l→Q it s₂) →
 wpAny (model Φ.fx.g.prog Φ.fx.g.w) Φ.fx.A (eval iter Φ.fx.env) (fun x s₁=>wpAny (model Φ.fx.g.prog Φ.fx.g.w) Φ.fx.A (pyIter x) Q E s₁) E s
section
variable {Φ:Ct} [Hm Φ.fx] {s:Shared} {v:Value} {x:V} {l:List V} {T:Expr} {st:Bool} {d:DV} {E:Value→Shared→Prop}
theorem cy (e:s.heap.get? b=some o):b≠s.heap.objs.size:=Nat.ne_of_lt (Heap.lt_size e)
theorem kU (I:Inv Φ s) (hz:l.length≤ai) (hb:st=true→¬ Φ.bad a) (ha:s.heap.get? a=some o) (hc:o.cls=.type "list") (hd:o.data=.seq vs n) (hl:Φ.rps s.heap vs.toList l) :
  wpAny (model Φ.fx.g.prog Φ.fx.g.w) Φ.fx.A (pyIter (.ref a)) (fun it s'=>Grown s s'∧FeedAt Φ T st s s' it l) E s:=by
 have hL:s.heap.IsList a vs:=⟨_,ha,hc,_,hd⟩
 refine wpAny_pyIter_list hL ⟨Grown.push s _ s.toks,_,_,_,_,_,_,rfl,td (I.ok.hand Hm.no) _ a (cy ha) vs l (aP hl),⟨⟨_,Heap.get?_push_size _ rfl,rfl,rfl⟩,hL.push _⟩,hl,fun b q=>?_,fun b q=>?_,hz⟩
 ·obtain rfl:=zA6 q; exact ak _
 ·rcases List.mem_cons.mp q with rfl | q
  ·exact .inl (ak _)
  ·obtain rfl:=zA6 q; exact .inr hb
theorem zz (I:Inv Φ s) (e:wB x=some l) (r:Φ.rp s.heap v x):wpAny (model Φ.fx.g.prog Φ.fx.g.w) Φ.fx.A (pyIter v) (fun it s'=>Grown s s'∧FeedAt Φ T st s s' it l) E s:=by
 refine kF (C:=fun x l=>Φ.rp s.heap v x→wpAny (model Φ.fx.g.prog Φ.fx.g.w) Φ.fx.A (pyIter v) (fun it s'=>Grown s s'∧FeedAt Φ T st s s' it l) E s) e (fun l hz r=>?_) (fun l hz r=>?_) (fun t hz r=>?_) r
 ·exact r.list_elim fun a o vs n hb ha hc hd hl=>kU I hz (fun _=>hb) ha hc.1 hd hl
 ·refine r.tuple_elim fun a o vs n hb ha hc hd hl=>?_
  have hL:s.heap.IsTuple a vs:=⟨_,ha,hc,_,hd⟩
  refine wpAny_pyIter_tuple hL ⟨Grown.push s _ s.toks,_,_,_,_,_,_,rfl,pS (I.ok.hand Hm.no) _ a (cy ha) vs l (aP hl),⟨⟨_,Heap.get?_push_size _ rfl,rfl,rfl⟩,hL.at fun o e=>Heap.get?_push_of_some _ e⟩,hl,fun b q=>?_,fun b q=>?_,hz⟩
  ·obtain rfl:=zA6 q; exact ak _
  ·rcases List.mem_cons.mp q with rfl | q
   ·exact .inl (ak _)
   ·obtain rfl:=zA6 q; exact .inr fun _=>hb
 ·refine r.str_elim fun tk=>?_
  have mk:∀ nm (hnm:nm="str_ascii_iterator"∨nm="str_iterator") (o:Obj),Walks Φ.fx.g.prog Φ.fx.g.w Φ.fx.A s.heap.objs.size [s.heap.objs.size] [s.heap.objs.size] t.cps.size (SignAt t) (fun i h=>h.IsStrIter s.heap.objs.size nm t tk i)→(s.heap.push o).IsStrIter s.heap.objs.size nm t tk 0 →
    Grown s { s with heap:=s.heap.push o }∧FeedAt Φ T st s { s with heap:=s.heap.push o } (.ref s.heap.objs.size) (ba t.cps.toList):=fun nm hnm o W st=>
   ⟨Grown.push s _ s.toks,_,_,_,_,_,_,rfl,uS nm hnm _ t tk W,st,.nil,fun b q=>by obtain rfl:=zA6 q; exact ak _,fun b q=>by obtain rfl:=zA6 q; exact .inl (ak _),by unfold ba; rw [zA4]; exact hz⟩
  cases ha:t.cps.all (· < 128)
  ·exact wpAny_pyIter_wide ha (mk _ (.inr rfl) _ (Walks.strWide (I.ok.hand Hm.no) _ t tk) ⟨_,Heap.get?_push_size _ rfl,rfl,rfl⟩)
  ·exact wpAny_pyIter_ascii ha (mk _ (.inl rfl) _ (Walks.strAscii (I.ok.hand Hm.no) _ t tk) ⟨_,Heap.get?_push_size _ rfl,rfl,rfl⟩)
theorem sT (I:Inv Φ s) (hz:kvs.length≤ai) (q:dkV kvs=true) (r:Φ.rp s.heap v (.dict kvs)):wpAny (model Φ.fx.g.prog Φ.fx.g.w) Φ.fx.A (pyIter v) (fun it s'=>Grown s s'∧FeedAt Φ T st s s' it (kvs.map (·.1))) E s:=by
 refine r.dict_elim q fun a o es n hb hm ha hc hd hk k1 k2=>?_
 have hl:=k1.length
 rw [zA4,zB3] at hl
 refine sU ?_ ha hc hd ⟨Grown.push s _ s.toks,_,_,_,_,_,_,rfl,Feed.ofWalks (vals:=es.toList.map (·.key)) (l0:=kvs.map (·.1)) (oX (I.ok.hand Hm.no) (cy ha) hd) hl.symm (fun i h b st=>vZ (st.1.elim fun _ q=>⟨_,q.1,aK q.2.1⟩) ⟨_,st.2,aK hc.1⟩) (fun i h st=>st.1.elim fun _ q=>⟨_,_,_,q.1,q.2.1,q.2.2,by decide⟩) (fun i x v h bad hx hv r=>?_),⟨⟨_,Heap.get?_push_size _ rfl,rfl,rfl⟩,Heap.get?_push_of_some _ ha⟩,k1,fun b q=>?_,fun b q=>?_,by rw [zA4]; exact hz⟩
 ·exact beq_false_of_ne hm
 ·obtain ⟨v',e,rr⟩:=r.get hx
  rw [hv] at e
  (injection e with e; subst e); exact rr
 ·obtain rfl:=zA6 q; exact ak _
 ·rcases List.mem_cons.mp q with rfl | q
  ·exact .inl (ak _)
  ·obtain rfl:=zA6 q; exact .inr fun _=>hb
theorem zy (I:Inv Φ s) (e:bM x=some l) (r:Φ.rp s.heap v x):wpAny (model Φ.fx.g.prog Φ.fx.g.w) Φ.fx.A (pyIter v) (fun it s'=>Grown s s'∧FeedAt Φ T st s s' it l) E s:=by
 cases x with
 | dict kvs=>
  have e:(if dkV kvs=true then dI kvs (kvs.map (·.1)) else none)=some l:=e
  refine bG e fun q e=>?_
  exact fit_elim (C:=fun l=>wpAny _ _ _ (fun it s'=>Grown s s'∧FeedAt Φ T st s s' it l) E s) e fun hz=>sT I hz q r
 | _=>refine zz I ?_ r; exact e
theorem AF (h:Ev Φ (eval e Φ.fx.env) d):eW Φ T st e (fun K=>d fun x=>okK (bM x) K):=fun K s hd I Q E hQ=>
 wpAny_mono (h _ s hd I E) (fun v s₁ ⟨B,k,x,hx,r⟩=>ag hx fun l e kl=>wpAny_mono (zy (I.keep B k) e r) (fun it s₂ p=>hQ l s₁ it s₂ kl (I.keep B k) k p.1 p.2) fun _ _ z=>z) fun _ _ z=>z
theorem cF (e:bE G k=some l):getSlot G k=.ownL l:=by
 unfold bE at e
 revert e
 cases getSlot G k with
 | ownL m=>exact fun e=>congrArg Slot.ownL (Option.some.inj e)
 | _=>exact fun e=>nN e.symm
theorem wz (hx:Φ.fx.ρ.lookup n=some k) (hn:aV n=true):eW Φ T false (.Name n pos) (fun K=>okK (bE Φ.G k) fun l=>okK (dI l l) K):=fun K s hd I Q E hQ=>ag hd fun l e hk=>ag hk fun l' e' kl=>by
 refine fit_elim (C:=fun l'=>K l'→_) e' (fun hz kl=>?_) kl
 refine nS (sl:=.ownL l) hx hn I (cF e) id (fun a u ha ow=>?_) E
 obtain ⟨rfl,o,vs,n,ho,hc,hd,hl⟩:=ow
 exact wpAny_mono (kU (st:=false) (T:=T) I hz (fun q=>nB q) ho hc.1 hd hl) (fun it s₂ p=>hQ l s it s₂ kl I (.refl _) p.1 p.2) fun _ _ z=>z
theorem rOk_of (h:rOk i=true):-(2 ^ 62)≤i∧i < 2 ^ 62:=by
 have h:=Int.ofNat_le.mpr (Nat.le_of_ble_eq_true h)
 exact ⟨Int.neg_le_of_neg_le (Int.le_trans (Int.natAbs_neg i▸Int.le_natAbs) (Int.le_trans h (by decide))),Int.lt_of_le_of_lt (Int.le_trans Int.le_natAbs h) (by decide)⟩
theorem i8 (I:Inv Φ s₀) (h1:rOk a=true∧rOk b=true) (hz:(aU a b).length≤ai) (hr:IsRange s.heap r a b 1 t u w) (gr:Grown s₀ s) :
  wpAny (model Φ.fx.g.prog Φ.fx.g.w) Φ.fx.A (pyIter (.ref r)) (fun it s'=>Grown s₀ s'∧FeedAt Φ T st s₀ s' it (aU a b)) E s:=by
 have qa:=rOk_of h1.1
 have qb:=rOk_of h1.2
 refine wpAny_pyIter_range hr (small_one qa.1 qa.2 qb.1 qb.2) ?_
 have n0:s₀.heap.get? s.heap.objs.size=none:=aM gr.keeps.live (ak _)
 refine ⟨gr.trans (Grown.push s _ s.toks),_,_,_,_,_,_,rfl,pU (I.ok.hand Hm.no) _ a b,?_,.nil,fun c hc=>by obtain rfl:=zA6 hc; exact n0,fun c hc=>by obtain rfl:=zA6 hc; exact .inl n0,hz⟩
 have e1:a+((0:Nat):Int) * 1=a:=by simp
 have e2:((b - a).toNat:Int) - ((0:Nat):Int)=Builtin.Range.rangeSize a b 1:=by rw [rangeSize_one]; split <;> omega
 refine (?_:IsRangeIter _ _ (a+((0:Nat):Int) * 1) (((b - a).toNat:Int) - ((0:Nat):Int)) 1)
 rw [e1,e2]
 exact Heap.get?_push_size _ rfl
abbrev dy (Φ:Ct) (T:Expr) (st:Bool) (s:Shared) (E:Value→Shared→Prop) (F:String) (l:List V) (vs:List Value):Prop:=
 wpAny (model Φ.fx.g.prog Φ.fx.g.w) Φ.fx.A (call (.type F) vs) (fun z s₁=>wpAny (model Φ.fx.g.prog Φ.fx.g.w) Φ.fx.A (pyIter z) (fun it s'=>Grown s s'∧FeedAt Φ T st s s' it l) E s₁) E s
theorem nF {qs:List (Expr×DV)} {op:List V→Option V} (hx:bz Φ.fx.env.scope.names f=true) (hF:bH.lookup f=some (.type F)) (hq:∀ q∈qs,ao q.1=true∧bi Φ q)
  (hop:∀ s vs xs z l E,Inv Φ s→Φ.rps s.heap vs xs→op xs=some z→bM z=some l→dy Φ T st s E F l vs) :
  eW Φ T st (.Call (.Name f fp) (qs.map Prod.fst) [] pos) (fun K=>bo (qs.map Prod.snd) fun xs=>okK (op xs) fun z=>okK (bM z) K):=fun K s hd I Q E hQ=>by
 refine (?_:wpAny _ _ (eval (.Name f fp) Φ.fx.env >>= fun F=>callWith pos F [] (backTo pos (starEach (qs.map Prod.fst) Φ.fx.env)) []) _ _ s)
 refine zC1 (bF I hx hF ?_ E)
 refine PySem.callWith_type (dx (bT fun q m=>(hq q m).1)) (cW hq hd I fun vs xs s₁ I₁ k₁ hx rs=>ag hx fun z e hz=>ag hz fun l el kl=>?_)
 exact wpAny_mono (hop s₁ vs xs z l E I₁ rs e el) (fun z s₂ p=>wpAny_mono p (fun it s₃ p=>hQ l s₁ it s₃ kl I₁ k₁ p.1 p.2) fun _ _ z=>z) fun _ _ z=>z
theorem gV (e:mE a b=some z) (el:bM z=some l) {C:List V→Prop} (k:rOk a=true∧rOk b=true→(aU a b).length≤ai→C (aU a b)):C l:=
 bG e fun h1 e=>fit_elim (C:=fun z=>bM z=some l→C l) e (fun hz el=>fit_elim (C:=C) el fun _=>k h1 hz) el
theorem sC {qs:List (Expr×DV)} (hx:bz Φ.fx.env.scope.names "range"=true) (hq:∀ q∈qs,ao q.1=true∧bi Φ q) :
  eW Φ T st (.Call (.Name "range" fp) (qs.map Prod.fst) [] pos) (fun K=>bo (qs.map Prod.snd) fun xs=>okK (opN .range xs) fun z=>okK (bM z) K):=by
 refine nF (F:="range") hx rfl hq fun s vs xs z l E I rs e el=>?_
 cases rs with
 | nil=>(injection e; done)
 | cons r rs=>
  cases rs with
  | nil=>exact bN (f:=fun b=>mE 0 b) (C:=fun x=>Φ.rp s.heap _ x→dy Φ T st s E "range" l [_]) e (fun b e r=>r.int_elim (C:=fun v=>dy Φ T st s E "range" l [v]) fun t=>gV (C:=fun l=>dy Φ T st s E "range" l [.int b t]) e el fun h1 hz=>call_range_1 (i8 I h1 hz (IsRange.new ..) (Grown.push s _ _))) r
  | cons r' rs=>
   cases rs with
   | nil=>exact cC (C:=fun v u=>dy Φ T st s E "range" l [v,u]) e r r' fun a b t t' e=>gV (C:=fun l=>dy Φ T st s E "range" l [.int a t,.int b t']) e el fun h1 hz=>call_range_2 (i8 I h1 hz (IsRange.new ..) (Grown.push s _ _))
   | cons _ _=>(injection e; done)
end
def dS (h:Heap) (k:Bool) (l:Addr) (xs:Array Value):Prop:=match k with
 | true=>h.IsList l xs
 | false=>h.IsTuple l xs
def fH (h:Heap) (k:Bool) (it l:Addr) (i:Nat):Prop:=match k with
 | true=>h.IsListIter it l i
 | false=>h.IsTupleIter it l i
theorem dS.at (x:dS h k l xs) (e:∀ o,h.get? l=some o→h'.get? l=some o):dS h' k l xs:=by
 cases k
 ·exact Heap.IsTuple.at x e
 ·exact Heap.IsList.at x e
theorem fH.at (x:fH h k it l i) (e:∀ o,h.get? it=some o→h'.get? it=some o):fH h' k it l i:=by
 cases k
 ·exact Heap.IsTupleIter.at x e
 ·exact Heap.IsListIter.at x e
theorem fH.lt (x:fH h k it l i):dL h it∧it < h.objs.size:=by
 cases k
 ·obtain ⟨o,e,c,_⟩:=x; exact ⟨⟨o,e,aK c⟩,Heap.lt_size e⟩
 ·obtain ⟨o,e,c,_⟩:=x; exact ⟨⟨o,e,aK c⟩,Heap.lt_size e⟩
theorem dS.liveN (x:dS h k l xs):dL h l:=by
 cases k
 ·obtain ⟨o,e,c,_⟩:=x; exact ⟨o,e,aK c⟩
 ·obtain ⟨o,e,c,_⟩:=x; exact ⟨o,e,aK c⟩
theorem dS.live (x:dS h k l xs):aS h l:=x.liveN.live
section
variable {prog:Program} {w:World} {A:Around} {E:Value→Shared→Prop} {s:Shared}
theorem gX {items} (hit:fH s.heap k it l i) (hl:dS s.heap k l items) (hx:items[i]?=some x)
  (hQ:∀ h',fH h' k it l (i+1)→Heap.SameBut it s.heap h'→Q x { s with heap:=h' }):wpAny (model prog w) A (Builtin.SmallTypes.nextOf (.ref it)) Q E s:=by
 cases k with
 | true=>exact wpAny_nextOf_list_item hit hl hx hQ
 | false=>
  obtain ⟨o,ho,hc,hd⟩:=id hit
  obtain ⟨ol,hol,_,nl,hdl⟩:=hl
  have hT:s.TypeIs (.ref it) "tuple_iterator":=⟨o,ho,hc⟩
  refine zC1 (wpAny_callSpecial?_slot (name:=Str.ofString "__next__") hT PySem.F.slot_tuple_iterator_next
   (wpAny_call_entry PySem.F.slot_tuple_iterator_next hT PySem.F.entry_tuple_iterator_next ?_ (PySem.F.args_tuple_iterator_next_1 _)))
  refine (?_:wpAny _ _ (field (.ref it) 0 >>= _) _ _ s)
  refine zC1 (wpAny_field ho hd (x:=.ref l) rfl ?_)
  refine wpAny_ite_false (c:=(Value.ref l==Value.none)=true) rfl (zC1 (wpAny_field ho hd (x:=.int i 0) rfl ?_))
  refine (?_:wpAny _ _ (seqItems? (.ref l) >>= _) _ _ s)
  refine zC1 (wpAny_seqItems hol hdl ?_)
  dsimp only
  refine (hx:items[(i:Int).toNat]?=_).symm▸zC1 (wpAny_setField ho hd (by simp) (zC2 ⟨x,rfl,zC2 (hQ _ ?_ (Heap.SameBut.update ..))⟩))
  exact ⟨_,Heap.get?_update_self _ ho (Obj.isFreed_of_fields (Obj.data_mapFields hd _)),(Obj.cls_mapFields ..).trans hc,by rw [Obj.data_mapFields hd]; simp [rawInt]⟩
theorem iX {items} (hh:A.handled=none) (hit:fH s.heap k it l i) (hl:dS s.heap k l items) (hx:items[i]?=none)
  (hE:∀ h' e,Heap.ExtBut it s.heap h'→(∃ o,h'.get? e=some o∧o.cls=.type "StopIteration")→E (.ref e) { s with heap:=h' }):wpAny (model prog w) A (Builtin.SmallTypes.nextOf (.ref it)) Q E s:=by
 cases k with
 | true=>exact wpAny_nextOf_list_end hh hit hl hx hE
 | false=>
  obtain ⟨o,ho,hc,hd⟩:=id hit
  obtain ⟨ol,hol,_,nl,hdl⟩:=hl
  have hT:s.TypeIs (.ref it) "tuple_iterator":=⟨o,ho,hc⟩
  refine zC1 (wpAny_callSpecial?_slot (name:=Str.ofString "__next__") hT PySem.F.slot_tuple_iterator_next
   (wpAny_call_entry PySem.F.slot_tuple_iterator_next hT PySem.F.entry_tuple_iterator_next ?_ (PySem.F.args_tuple_iterator_next_1 _)))
  refine (?_:wpAny _ _ (field (.ref it) 0 >>= _) _ _ s)
  refine zC1 (wpAny_field ho hd (x:=.ref l) rfl ?_)
  refine wpAny_ite_false (c:=(Value.ref l==Value.none)=true) rfl (zC1 (wpAny_field ho hd (x:=.int i 0) rfl ?_))
  refine (?_:wpAny _ _ (seqItems? (.ref l) >>= _) _ _ s)
  refine zC1 (wpAny_seqItems hol hdl ?_)
  dsimp only
  refine (hx:items[(i:Int).toNat]?=_).symm▸zC1 (wpAny_rule (zC1 (wpAny_setField ho hd (by simp) ?_)))
  refine (?_:wpAny _ _ (newExc (.type "StopIteration") [] >>= _) _ _ _)
  refine zC1 (zC1 (wpAny_newObj_type (zC1 (wpAny_of_eq (a:=Value.none) rfl (wpAny_newObj_type ?_ (by size_fits)))) (by size_fits)))
  refine wpAny_raiseNew_none (hh:A.in1.handled=none) ?_
  exact hE _ _ (((Heap.SameBut.update ..).extBut.push _).push _) ⟨_,Heap.get?_push_size _ rfl,rfl⟩
theorem xZ:0 < 5:=by decide
theorem Ch:1 < 5:=by decide
theorem qI (hh:A.handled=none) (D:ZipApart z TI TO i1 i2 l1 l2)
  (hz:IsZip s.heap z TI TO .none) (hTI:IsPair s.heap TI (.ref i1) (.ref i2)) (hTO:IsPair s.heap TO a b)
  (h1:fH s.heap c1 i1 l1 k) (h2:fH s.heap c2 i2 l2 k) (hl1:dS s.heap c1 l1 xs) (hl2:dS s.heap c2 l2 ys)
  (hQ:∀ x y h',xs[k]?=some x→ys[k]?=some y→IsZip h' z TI TO (rawInt s.heap.objs.size)→IsPair h' TO x y→fH h' c1 i1 l1 (k+1)→fH h' c2 i2 l2 (k+1)→IsPair h' s.heap.objs.size x y →
   (∀ c o,c≠z→c≠TO→c≠i1→c≠i2→s.heap.get? c=some o→h'.get? c=some o)→Q (.done (.ret (.ref s.heap.objs.size))) { s with heap:=h' })
  (hE:(xs[k]?=none∨ys[k]?=none)→∀ h' e,(∀ c o,c≠z→c≠TO→c≠i1→c≠i2→s.heap.get? c=some o→h'.get? c=some o)→(∃ o,h'.get? e=some o∧o.cls=.type "StopIteration")→E (.ref e) { s with heap:=h' }) :
  wpAny (model prog w) A (Builtin.«zip.__next__» ⟨[.ref z],[]⟩) Q E s:=by
 have hne:∀ {h:Heap} {e:Addr} {oe:Obj},IsZip h z TI TO .ellipsis→h.get? e=some oe→oe.cls=.type "StopIteration"→e≠z:=fun hz₂ hoe hce x=>by
  subst x; (injection hz₂.symm.trans hoe with Xq; subst Xq); exact absurd (show Value.type "zip"=Value.type "StopIteration" from hce) (by decide)
 refine (?_:wpAny _ _ (field (.ref z) 2 >>= _) _ _ _)
 refine zC1 (wpAny_field hz rfl (x:=.bool false) rfl ?_)
 refine (?_:wpAny _ _ (field (.ref z) 3 >>= _) _ _ _)
 refine zC1 (wpAny_field hz rfl (x:=.ref TI) rfl ?_)
 refine zC1 (wpAny_seqItems hTI rfl ?_)
 refine wpAny_bind (m:=Builtin.SmallTypes.ownedTupleIsFree (.ref z)) (zC1 (wpAny_field hz rfl (x:=.none) rfl (zC2 ?_)))
 refine wpAny_ite_true rfl (zC1 (wpAny_rule ?_))
 refine zC1 (wpAny_field hz rfl (x:=.ref TO) rfl ?_)
 refine zC1 (wpAny_setField_rec hz xZ fun h₁ hz₁ hs₁=>?_)
 replace hz₁:IsZip h₁ z TI TO .ellipsis:=hz₁
 refine zC1 ?_
 simp only [List.zipIdx_cons,List.zipIdx_nil,List.forIn_cons,List.forIn_nil]
 refine zC1 (zC1 (wpAny_onRaise ?_))
 refine (?_:wpAny _ _ (Builtin.SmallTypes.nextOf (.ref i1) >>= _) _ _ _)
 cases hx:xs[k]? with
 | none=>
  refine zC1 (iX hh (h1.at fun o e=>hs₁.extBut _ o D.i1z e) (hl1.at fun o e=>hs₁.extBut _ o D.l1z e) hx fun h₂ e hs₂ ⟨oe,hoe,hce⟩=>?_)
  have hz₂:IsZip h₂ z TI TO .ellipsis:=hs₂ _ _ D.i1z.symm hz₁
  exact wpAny_setField_rec hz₂ xZ fun h₃ _ hs₃=>hE (.inl hx) h₃ e (fun c o c1 _ c3 _ x=>hs₃.extBut _ _ c1 (hs₂ _ _ c3 (hs₁.extBut _ _ c1 x))) ⟨oe,hs₃.extBut _ _ (hne hz₂ hoe hce) hoe,hce⟩
 | some x=>
 refine zC1 (gX (h1.at fun o e=>hs₁.extBut _ o D.i1z e) (hl1.at fun o e=>hs₁.extBut _ o D.l1z e) hx fun h₂ h1₂ hs₂=>zC2 ?_)
 have hTO₂:IsPair h₂ TO a b:=hs₂.extBut _ _ D.TOi1 (hs₁.extBut _ _ D.TOz hTO)
 refine zC1 (wpAny_seqItems hTO₂ rfl ?_)
 refine zC1 (wpAny_updateSeq_pair hTO₂ fun h₃ hTO₃ hs₃=>?_)
 replace hTO₃:IsPair h₃ TO x b:=hTO₃
 refine zC1 (wpAny_letGo (zC2 ?_))
 refine zC1 (zC1 (wpAny_onRaise ?_))
 refine (?_:wpAny _ _ (Builtin.SmallTypes.nextOf (.ref i2) >>= _) _ _ _)
 have h2₃:fH h₃ c2 i2 l2 k:=h2.at fun o e=>hs₃.extBut _ o D.TOi2.symm (hs₂.extBut _ o D.i12.symm (hs₁.extBut _ o D.i2z e))
 have hl2₃:dS h₃ c2 l2 ys:=hl2.at fun o e=>hs₃.extBut _ o D.l2TO (hs₂.extBut _ o D.l2i1 (hs₁.extBut _ o D.l2z e))
 have hz₃:IsZip h₃ z TI TO .ellipsis:=hs₃.extBut _ _ D.TOz.symm (hs₂.extBut _ _ D.i1z.symm hz₁)
 have hk₃:∀ c o,c≠z→c≠TO→c≠i1→s.heap.get? c=some o→h₃.get? c=some o:=fun c o c1 c2 c3 e=>hs₃.extBut _ _ c2 (hs₂.extBut _ _ c3 (hs₁.extBut _ _ c1 e))
 cases hy:ys[k]? with
 | none=>
  refine zC1 (iX hh h2₃ hl2₃ hy fun h₄ e hs₄ ⟨oe,hoe,hce⟩=>?_)
  have hz₄:IsZip h₄ z TI TO .ellipsis:=hs₄ _ _ D.i2z.symm hz₃
  exact wpAny_setField_rec hz₄ xZ fun h₅ _ hs₅=>hE (.inr hy) h₅ e (fun c o c1 c2 c3 c4 x=>hs₅.extBut _ _ c1 (hs₄ _ _ c4 (hk₃ c o c1 c2 c3 x))) ⟨oe,hs₅.extBut _ _ (hne hz₄ hoe hce) hoe,hce⟩
 | some y=>
 refine zC1 (gX h2₃ hl2₃ hy fun h₄ h2₄ hs₄=>zC2 ?_)
 have hTO₄:IsPair h₄ TO x b:=hs₄.extBut _ _ D.TOi2 hTO₃
 refine zC1 (wpAny_seqItems hTO₄ rfl ?_)
 refine zC1 (wpAny_updateSeq_pair hTO₄ fun h₅ hTO₅ hs₅=>?_)
 replace hTO₅:IsPair h₅ TO x y:=hTO₅
 refine zC1 (wpAny_letGo (zC2 (zC2 ?_)))
 refine zC1 (wpAny_seqItems hTO₅ rfl ?_)
 refine zC1 (wpAny_newTuple ?_)
 have hsz:h₅.objs.size=s.heap.objs.size:=hs₅.1.trans (hs₄.1.trans (hs₃.1.trans (hs₂.1.trans hs₁.1)))
 have hz₅:IsZip h₅ z TI TO .ellipsis:=hs₅.extBut _ _ D.TOz.symm (hs₄.extBut _ _ D.i2z.symm hz₃)
 have hn:h₅.objs.size≠z:=Nat.ne_of_gt (Heap.lt_size hz₅)
 refine wpAny_bind (m:=Builtin.SmallTypes.ownedTupleHandOut (.ref z) (.ref h₅.objs.size)) (zC1 (wpAny_setField_rec (Heap.get?_push_of_some _ hz₅) xZ fun h₇ hz₇ hs₇=>?_))
 refine wpAny_setField_rec hz₇ Ch fun h₈ hz₈ hs₈=>?_
 have up:∀ c o,c≠z→h₅.get? c=some o→h₈.get? c=some o:=fun c o c1 e=>hs₈.extBut _ _ c1 (hs₇.extBut _ _ c1 (Heap.get?_push_of_some _ e))
 refine zC2 ?_
 have fin:=hQ x y h₈ hx hy
 rw [← hsz] at fin
 exact fin hz₈ (up _ _ D.TOz hTO₅) (h1₂.at fun o e=>up _ o D.i1z (hs₅.extBut _ o D.TOi1.symm (hs₄.extBut _ o D.i12 (hs₃.extBut _ o D.TOi1.symm e)))) (h2₄.at fun o e=>up _ o D.i2z (hs₅.extBut _ o D.TOi2.symm e))
  (hs₈.extBut _ _ hn (hs₇.extBut _ _ hn (Heap.get?_push_size _ rfl))) fun c o c1 c2 c3 c4 e=>up c o c1 (hs₅.extBut _ _ c2 (hs₄.extBut _ _ c4 (hk₃ c o c1 c2 c3 e)))
end
theorem mc {P:Addr→Prop} (h:P a) (t:∀ x∈l,P x):∀ x∈a :: l,P x:=zA1 ⟨h,t⟩
theorem Aq {P:Addr→Prop} (h1:P a) (h2:P b) (h3:P c) (h4:P d):∀ x∈[a,b,c,d],P x:=mc h1 (mc h2 (mc h3 (mc h4 fun _ m=>nM m)))
theorem BQ {P:Addr→Prop} (h1:P a) (h2:P b) (h3:P c) (h4:P d) (h5:P e) (h6:P f) (h7:P g):∀ x∈[a,b,c,d,e,f,g],P x:=mc h1 (mc h2 (mc h3 (Aq h4 h5 h6 h7)))
theorem nm4 (h:x∉[a,b,c,d]):x≠a∧x≠b∧x≠c∧x≠d:=
 ⟨fun e=>h (e▸.head _),fun e=>h (e▸.tail _ (.head _)),fun e=>h (e▸.tail _ (.tail _ (.head _))),fun e=>h (e▸.tail _ (.tail _ (.tail _ (.head _))))⟩
theorem RpAll.unapp:∀ {l:List V},u.length=l.length→RpAll g bad h (u++v) (l++m)→RpAll g bad h u l∧RpAll g bad h v m:=by
 induction u with
 | nil=>intro l e x; obtain rfl:=List.length_eq_zero_iff.mp e.symm; exact ⟨.nil,x⟩
 | cons a u ih=>
  intro l e x
  cases l with
  | nil=>exact nomatch e
  | cons b l=>cases x with | cons y x=>exact (ih (Nat.succ.inj e) x).imp_left (.cons y)
structure ZipSt (c1 c2:Bool) (z TI TO i1 i2 l1 l2:Addr) (xs ys:Array Value) (i:Nat) (h:Heap):Prop where
 z:IsZip h z TI TO .none
 ti:IsPair h TI (.ref i1) (.ref i2)
 to:∃ a b,IsPair h TO a b
 h1:fH h c1 i1 l1 i
 h2:fH h c2 i2 l2 i
 hl1:dS h c1 l1 xs
 hl2:dS h c2 l2 ys
theorem tP {l r:List V} {i:Nat} (e:(u7 l r)[i]?=some x):∃ a b,l[i]?=some a∧r[i]?=some b∧x=.tuple [a,b]:=by
 unfold u7 at e
 rw [List.getElem?_zipWith] at e
 revert e
 cases l[i]? with
 | none=>exact fun e=>nN e.symm
 | some a=>cases r[i]? with
  | none=>exact fun e=>nN e.symm
  | some b=>exact fun e=>⟨_,_,rfl,rfl,(Option.some.inj e).symm⟩
theorem gS (l r:List V):(u7 l r).length=min l.length r.length:=List.length_zipWith
theorem uR (hh:A.handled=none) {elts:List Expr} {kk:Nat} {c1 c2:Bool} (D:ZipApart z TI TO i1 i2 l1 l2) (xs ys:Array Value) (la lb:List V) (hla:xs.size=la.length) (hlb:ys.size=lb.length) :
  Feed g A (.Tuple elts kk pos) z [z,TI,TO,i1,i2,l1,l2] [z,TO,i1,i2] (xs.toList++ys.toList) (la++lb) (u7 la lb) (ZipSt c1 c2 z TI TO i1 i2 l1 l2 xs ys) where
 sub:=Aq (.head _) (.tail _ (.tail _ (.head _))) (.tail _ (.tail _ (.tail _ (.head _)))) (.tail _ (.tail _ (.tail _ (.tail _ (.head _)))))
 frame:=fun i h h' st hk=>st.to.elim fun a ⟨b,e⟩=>
  have m4:TO∈[z,TI,TO,i1,i2,l1,l2]:=.tail _ (.tail _ (.head _))
  have t:∀ x∈[i1,i2,l1,l2],∀ o,h.get? x=some o→h'.get? x=some o:=fun x m=>hk x (.tail _ (.tail _ (.tail _ m)))
  ⟨hk z (.head _) _ st.z,hk TI (.tail _ (.head _)) _ st.ti,⟨a,b,hk TO m4 _ e⟩,st.h1.at (t _ (.head _)),st.h2.at (t _ (.tail _ (.head _))),st.hl1.at (t _ (.tail _ (.tail _ (.head _)))),st.hl2.at (t _ (.tail _ (.tail _ (.tail _ (.head _)))))⟩
 live:=fun i h b st hb=>st.to.elim fun a ⟨b',hto⟩=>BQ (P:=dL h) ⟨_,st.z,aK rfl⟩ ⟨_,st.ti,aK rfl⟩ ⟨_,hto,aK rfl⟩ st.h1.lt.1 st.h2.lt.1 st.hl1.liveN st.hl2.liveN b hb
 item:=fun i x s bad Q E hx st hv hb hw hQ=>by
  obtain ⟨xa,xb,ha,hbb,rfl⟩:=tP hx
  have hv:=RpAll.unapp hla hv
  obtain ⟨va,eva,ra⟩:=hv.1.get ha
  obtain ⟨vb,evb,rb⟩:=hv.2.get hbb
  replace eva:=Array.getElem?_toList.symm.trans eva
  replace evb:=Array.getElem?_toList.symm.trans evb
  obtain ⟨a,b,hto⟩:=st.to
  have hT:s.TypeIs (.ref z) "zip":=⟨_,st.z,rfl⟩
  unfold pyNext
  refine zC1 (wpAny_attempt (wpAny_callSpecial?_slot (name:=Str.ofString "__next__") hT PySem.F.slot_zip_next
   (wpAny_call_entry PySem.F.slot_zip_next hT PySem.F.entry_zip_next
    (qI hh D st.z st.ti hto st.h1 st.h2 st.hl1 st.hl2 (fun x y h' ex ey a1 a2 a3 a4 a5 hk=>⟨_,rfl,zC2 ?_⟩) fun q=>q.elim (fun q=>nomatch eva.symm.trans q) fun q=>nomatch evb.symm.trans q) (PySem.F.args_zip_next_1 _))))
  (injection eva.symm.trans ex with Xq; subst Xq)
  (injection evb.symm.trans ey with Xq; subst Xq)
  refine ⟨_,rfl,wpAny_letOwnedTupleGo_zip a1 fun h'' hz' hs'=>?_⟩
  have up:∀ c o,c∉[z,TO,i1,i2]→s.heap.get? c=some o→h''.get? c=some o:=fun c o hc e=>
   have hc:=nm4 hc
   hs'.extBut _ _ hc.1 (hk c o hc.1 hc.2.1 hc.2.2.1 hc.2.2.2 e)
  have hnew:s.heap.objs.size≠z:=Nat.ne_of_gt (Heap.lt_size st.z)
  have kb:cX bad bad s.heap h'':=fun c o e _ nb=>⟨nb,up c o (fun m=>nb (hw c m)) e⟩
  refine hQ _ h'' s.toks ⟨hz',?_,⟨_,_,hs'.extBut _ _ D.TOz a2⟩,a3.at fun o e=>hs'.extBut _ o D.i1z e,a4.at fun o e=>hs'.extBut _ o D.i2z e,?_,?_⟩ up (.tuple (fun q=>by obtain ⟨o,e⟩:=hb _ q; rw [ak] at e; (injection e; done)) (hs'.extBut _ _ hnew a5) rfl rfl ?_)
  ·exact hs'.extBut _ _ D.TIz (hk _ _ D.TIz D.TITO D.TIi1 D.TIi2 st.ti)
  ·exact st.hl1.at fun o e=>hs'.extBut _ o D.l1z (hk _ o D.l1z D.l1TO D.l1i1 D.l1i2 e)
  ·exact st.hl2.at fun o e=>hs'.extBut _ o D.l2z (hk _ o D.l2z D.l2TO D.l2i1 D.l2i2 e)
  ·exact .cons (ra.map kb) (.cons (rb.map kb) .nil)
 done:=fun s Q E st hQ=>by
  obtain ⟨a,b,hto⟩:=st.to
  have hT:s.TypeIs (.ref z) "zip":=⟨_,st.z,rfl⟩
  unfold pyNext
  refine zC1 (wpAny_attempt (wpAny_callSpecial?_slot (name:=Str.ofString "__next__") hT PySem.F.slot_zip_next
   (wpAny_call_entry PySem.F.slot_zip_next hT PySem.F.entry_zip_next (qI hh D st.z st.ti hto st.h1 st.h2 st.hl1 st.hl2 (fun x y h' ex ey _ _ _ _ _ _=>?_) fun _ h' e hk he=>?_) (PySem.F.args_zip_next_1 _))))
  ·exact absurd (Nat.lt_min.mpr ⟨hla▸(Array.getElem?_eq_some_iff.mp ex).1,hlb▸(Array.getElem?_eq_some_iff.mp ey).1⟩) (Nat.not_lt.mpr (zB2 (gS la lb).symm))
  ·obtain ⟨o,ho,hc⟩:=he
   refine zC1 (wpAny_isInstance (T:="StopIteration") (b:=true) ⟨o,ho,hc⟩ isSubtype_stop ?_)
   refine zC2 ⟨rfl,hQ _ s.toks fun c o hc e=>?_⟩
   have hc:=nm4 hc
   exact hk c o hc.1 hc.2.1 hc.2.2.1 hc.2.2.2 e
 self:=fun i s Q E st hQ=>wpAny_pyIter_zip st.z hQ
section
variable {A:Around} {E:Value→Shared→Prop} {s:Shared}
noncomputable def pG (c:Bool) (l:Addr):Obj:={ cls:=.type (if c then "list_iterator" else "tuple_iterator"),data:=.fields #[.ref l,.int 0 0] }
theorem oj (e:h.get? i=some (pG c l)):fH h c i l 0:=by
 cases c
 ·exact ⟨_,e,rfl,rfl⟩
 ·exact ⟨_,e,rfl,rfl⟩
theorem kL (h:dS s.heap c l xs) (hQ:Q (.ref s.heap.objs.size) { s with heap:=s.heap.push (pG c l) }):wpAny (model prog w) A (pyIter (.ref l)) Q E s:=by
 cases c
 ·exact wpAny_pyIter_tuple h hQ
 ·exact wpAny_pyIter_list h hQ
noncomputable def zH1 (h:Heap) (c1:Bool) (l1:Addr):Heap:=h.push (pG c1 l1)
noncomputable def zH2 (h:Heap) (c1 c2:Bool) (l1 l2:Addr):Heap:=(zH1 h c1 l1).push (pG c2 l2)
noncomputable def zH3 (h:Heap) (c1 c2:Bool) (l1 l2:Addr):Heap:=(zH2 h c1 c2 l1 l2).push { cls:=.type "tuple",data:=.seq #[.ref h.objs.size,.ref (zH1 h c1 l1).objs.size] }
noncomputable def zH4 (h:Heap) (c1 c2:Bool) (l1 l2:Addr):Heap:=(zH3 h c1 c2 l1 l2).push { cls:=.type "tuple",data:=.seq #[.none,.none] }
noncomputable def zH5 (h:Heap) (c1 c2:Bool) (l1 l2:Addr):Heap:=(zH4 h c1 c2 l1 l2).push { cls:=.type "zip",data:=.fields #[.none,.bool false,.bool false,.ref (zH2 h c1 c2 l1 l2).objs.size,.ref (zH3 h c1 c2 l1 l2).objs.size] }
theorem si (c1 c2:Bool) (l1 l2:Addr) (xs ys:Array Value) :
  Meets (Builtin.«zip.__new__» ⟨[.type "zip",.ref l1,.ref l2],[]⟩) (fun _ R s=>dS s.heap c1 l1 xs∧dS s.heap c2 l2 ys ∧
   R (.ok (.ret (.ref (zH4 s.heap c1 c2 l1 l2).objs.size))) { s with heap:=zH5 s.heap c1 c2 l1 l2 }):=
 .of_wp fun prog w A R s h=>by
  obtain ⟨hp,g,d,tk,os⟩:=s; obtain ⟨hl1,hl2,h⟩:=h
  have hsub:=sub_zip
  have hL1:dS (Shared.heap ⟨hp,g,d,tk,os⟩) c1 l1 xs:=hl1
  have hL2:dS (Shared.heap ⟨hp.push (pG c1 l1),g,d,tk,os⟩) c2 l2 ys:=hl2.at fun o e=>Heap.get?_push_of_some _ e
  wp_walk using kL hL1,kL hL2
  exact ⟨_,rfl,h⟩
theorem uA (hl1:dS s.heap c1 l1 xs) (hl2:dS s.heap c2 l2 ys)
  (h:∀ h',IsZip h' (s.heap.objs.size+4) (s.heap.objs.size+2) (s.heap.objs.size+3) .none→IsPair h' (s.heap.objs.size+2) (.ref s.heap.objs.size) (.ref (s.heap.objs.size+1)) →
   IsPair h' (s.heap.objs.size+3) .none .none→fH h' c1 s.heap.objs.size l1 0→fH h' c2 (s.heap.objs.size+1) l2 0 →
   (∀ c o,s.heap.get? c=some o→h'.get? c=some o)→Q (.ref (s.heap.objs.size+4)) { s with heap:=h' }) :
  wpAny (model prog w) A (call (.type "zip") [.ref l1,.ref l2]) Q E s:=by
 refine callType_new PySem.F.called_zip (by decide) (PySem.F.typeCall_zip_2 _ _) (PySem.F.newCall_zip_2 _ _) (fun obj=>PySem.F.args_object_init_3 obj _ _) PySem.F.entry_zip_new
  (si c1 c2 l1 l2 xs ys) ⟨hl1,hl2,?_⟩
 have z1:(zH1 s.heap c1 l1).objs.size=s.heap.objs.size+1:=Heap.size_push ..
 have z2:(zH2 s.heap c1 c2 l1 l2).objs.size=s.heap.objs.size+2:=by unfold zH2; rw [Heap.size_push,z1]
 have z3:(zH3 s.heap c1 c2 l1 l2).objs.size=s.heap.objs.size+3:=by unfold zH3; rw [Heap.size_push,z2]
 have z4:(zH4 s.heap c1 c2 l1 l2).objs.size=s.heap.objs.size+4:=by unfold zH4; rw [Heap.size_push,z3]
 have g5:(zH5 s.heap c1 c2 l1 l2).get? (zH4 s.heap c1 c2 l1 l2).objs.size=some _:=Heap.get?_push_size _ rfl
 have g4:(zH5 s.heap c1 c2 l1 l2).get? (zH3 s.heap c1 c2 l1 l2).objs.size=some _:=Heap.get?_push_of_some _ (Heap.get?_push_size _ rfl)
 have g3:(zH5 s.heap c1 c2 l1 l2).get? (zH2 s.heap c1 c2 l1 l2).objs.size=some _:=Heap.get?_push_of_some _ (Heap.get?_push_of_some _ (Heap.get?_push_size _ rfl))
 have g2:(zH5 s.heap c1 c2 l1 l2).get? (zH1 s.heap c1 l1).objs.size=some _:=Heap.get?_push_of_some _ (Heap.get?_push_of_some _ (Heap.get?_push_of_some _ (Heap.get?_push_size _ rfl)))
 have g1:(zH5 s.heap c1 c2 l1 l2).get? s.heap.objs.size=some _:=Heap.get?_push_of_some _ (Heap.get?_push_of_some _ (Heap.get?_push_of_some _ (Heap.get?_push_of_some _ (Heap.get?_push_size _ rfl))))
 refine (?_:_∧_)
 rw [z2,z3,z4] at g5
 rw [z1,z2] at g3
 rw [z3] at g4
 rw [z1] at g2
 rw [z4]
 exact ⟨⟨_,g5,rfl⟩,h _ g5 g3 g4 (oj g1) (oj g2) fun c o x=>
  Heap.get?_push_of_some _ (Heap.get?_push_of_some _ (Heap.get?_push_of_some _ (Heap.get?_push_of_some _ (Heap.get?_push_of_some _ x))))⟩
end
theorem Ag (n a b:Nat) (h1:a < n) (h2:b < n):ZipApart (n+4) (n+2) (n+3) n (n+1) a b:=by
 have q:∀ {i j:Nat},i≠j→n+i≠n+j:=fun h e=>h (Nat.add_left_cancel e)
 have p:∀ {i x:Nat},x < n→x≠n+i:=fun h=>Nat.ne_of_lt (Nat.lt_of_lt_of_le h (Nat.le_add_right _ _))
 constructor <;> first | exact p (i:=0) h1 | exact p h1 | exact p (i:=0) h2 | exact p h2 | exact q (by decide) | exact q (i:=0) (by decide) | exact q (j:=0) (by decide)
section
variable {Φ:Ct} [Hm Φ.fx] {E:Value→Shared→Prop} {s:Shared} {st:Bool}
theorem xT (e:iT x=some l) (r:Φ.rp s.heap v x):∃ c a xs,v=.ref a∧dS s.heap c a xs∧Φ.rps s.heap xs.toList l∧xs.size=l.length∧¬ Φ.bad a∧l.length≤ai:=
 kN (C:=fun x l=>Φ.rp s.heap v x→∃ c a xs,v=.ref a∧dS s.heap c a xs∧Φ.rps s.heap xs.toList l∧xs.size=l.length∧¬ Φ.bad a∧l.length≤ai) e
  (fun l hz r=>r.list_elim fun a o vs n hb ha hc hd hl=>⟨true,a,vs,rfl,⟨_,ha,hc.1,_,hd⟩,hl,aP hl,hb,hz⟩) (fun l hz r=>r.tuple_elim fun a o vs n hb ha hc hd hl=>⟨false,a,vs,rfl,⟨_,ha,hc,_,hd⟩,hl,aP hl,hb,hz⟩) r
theorem uG (I:Inv Φ s) (e1:iT x=some la) (e2:iT y=some lb) (r1:Φ.rp s.heap v1 x) (r2:Φ.rp s.heap v2 y):dy Φ (.Tuple elts kk pos) st s E "zip" (u7 la lb) [v1,v2]:=by
 obtain ⟨c1,a1,xs,rfl,h1,rr1,len1,nb1,sz1⟩:=xT e1 r1
 obtain ⟨c2,a2,ys,rfl,h2,rr2,len2,nb2,_⟩:=xT e2 r2
 refine uA h1 h2 fun h' hz hti hto hi1 hi2 hk=>wpAny_pyIter_zip hz ⟨⟨hk,rfl,rfl⟩,?_⟩
 have fresh:∀ k,s.heap.get? (s.heap.objs.size+k)=none:=fun k=>by
  cases e:s.heap.get? (s.heap.objs.size+k) with
  | none=>rfl
  | some o=>exact absurd (Heap.lt_size e) (Nat.not_lt.mpr (Nat.le_add_right _ _))
 have lt1:a1 < s.heap.objs.size:=by obtain ⟨o,e⟩:=h1.live; exact Heap.lt_size e
 have lt2:a2 < s.heap.objs.size:=by obtain ⟨o,e⟩:=h2.live; exact Heap.lt_size e
 have D:ZipApart (s.heap.objs.size+4) (s.heap.objs.size+2) (s.heap.objs.size+3) s.heap.objs.size (s.heap.objs.size+1) a1 a2:=Ag _ _ _ lt1 lt2
 refine ⟨_,_,_,_,_,_,rfl,uR (I.ok.hand Hm.no) (c1:=c1) (c2:=c2) D xs ys la lb len1 len2,⟨hz,hti,⟨_,_,hto⟩,hi1,hi2,h1.at fun o e=>hk _ o e,h2.at fun o e=>hk _ o e⟩,rr1.append rr2,Aq (fresh 4) (fresh 3) (fresh 0) (fresh 1),BQ (.inl (fresh 4)) (.inl (fresh 2)) (.inl (fresh 3)) (.inl (fresh 0)) (.inl (fresh 1)) (.inr fun _=>nb1) (.inr fun _=>nb2),gS la lb▸zB1 (Nat.min_le_left _ _) sz1⟩
theorem wy {qs:List (Expr×DV)} {elts:List Expr} {kk:Nat} (hx:bz Φ.fx.env.scope.names "zip"=true) (hq:∀ q∈qs,ao q.1=true∧bi Φ q) :
  eW Φ (.Tuple elts kk tp) st (.Call (.Name "zip" fp) (qs.map Prod.fst) [] pos) (fun K=>bo (qs.map Prod.snd) fun xs=>okK (opN .zip xs) fun z=>okK (bM z) K):=
 nF (F:="zip") hx rfl hq fun s vs xs z l E I rs e el=>tW (C:=dy Φ (.Tuple elts kk tp) st s E "zip" l) e rs fun v u x y r1 r2 e=>(Option.bind_eq_some_iff.mp e).elim fun la ⟨h1,e⟩=>map_elim (C:=fun z=>bM z=some l→dy Φ (.Tuple elts kk tp) st s E "zip" l [v,u]) e (fun lb h2 el=>fit_elim (C:=fun l=>dy Φ (.Tuple elts kk tp) st s E "zip" l [v,u]) el fun _=>uG I h1 h2 r1 r2) el
end
theorem au (h:x=none) (e:x=some a):False:=nomatch h.symm.trans e
theorem ng (name:Str) (h:Int) (k v:Value) (o:Obj):(Obj.putName name h k v o).cls=o.cls:=by
 refine Obj.putName_eq.symm▸?_
 obtain ⟨c,d,dt,sl⟩:=o
 cases dt with
 | dict es n=>
  show (match es.findIdx? (fun e:DictEntry=>e.key.isStr name) with
   | some i=>(⟨c,d,.dict (es.modify i fun e=>{ e with val:=v }) n,sl⟩:Obj)
   | none=>⟨c,d,.dict (es.push ⟨h,k,v⟩) (n+1),sl⟩).cls=c
  split <;> rfl
 | _=>rfl
theorem o7 {h:Heap} {a:Addr} {o o':Obj} {f:Obj→Obj} (e:h.get? a=some o) (e':(h.update a f).get? a=some o'):o'=f o:=by
 obtain ⟨e1,_⟩:=Heap.get?_some_iff.mp e
 obtain ⟨e2,_⟩:=Heap.get?_some_iff.mp e'
 cases h
 simp only [Heap.update,Array.getElem?_modify,if_true] at e2
 simp only at e1
 rw [e1] at e2
 simpa using e2.symm
theorem sw {M:Model} {Γ:Ctx} {E:Value→Pos→Shared→Prop} {p:Pos} {s:Shared} {a:Addr} {m} (hn:s.heap.Ns a m) (name:Str) (v:Value) (Q:Unit→Pos→Shared→Prop)
  (hQ:∀ h',h'.Ns a (fun x=>if x=name then some v else m x)→Heap.SameBut a s.heap h'→(∀ o,s.heap.get? a=some o→∃ o',h'.get? a=some o'∧o'.cls=o.cls) →
   Q () p { s with heap:=h',toks:=s.toks+1 }):Sem.wp M Γ (nsSet a name v) Q E p s:=by
 have h1:=Sem.wp_nsSet M Γ E p s hn name v (fun _ _ s'=>s'.heap.Ns a (fun x=>if x=name then some v else m x)) fun h' hn' _=>hn'
 refine aq fun Z4 kZ4=>?_
 obtain ⟨o,es,ep,ho,hd,hk,hm⟩:=hn
 refine kZ4 ?_
 simp only [nsSet,strHash,Sem.wp_bind',Sem.wp_cmd_ask,Sem.wp_pure',Sem.wp_cmd_mkText] at h1 ⊢
 rw [Sem.wp_loadPart_of M Γ E p { s with toks:=s.toks+1 } (o:=o) _ ho] at h1 ⊢
 have hany:es.any (·.refKey)=false:=by
  rw [Array.any_eq_false']; intro e he; obtain ⟨n,t,h⟩:=hk e he; simp [DictEntry.refKey,h]
 simp only [hd,aRefKeyMayBeTheName_eq,aRefKeyMayBeTheNameByArray,hany,Bool.and_false,Bool.false_eq_true,if_false,Sem.wp_cmd_updatePart] at h1 ⊢
 obtain ⟨h2,h3⟩:=h1
 refine ⟨h2,hQ _ h3 (Heap.SameBut.update ..) fun o' ho'=>?_⟩
 rw [ho] at ho'
 (injection ho' with ho'; subst ho')
 refine aq fun Z6 kZ6=>?_
 obtain ⟨o',_,_,he,hd',_⟩:=h3
 refine kZ6 ?_
 exact ⟨o',he,by rw [o7 ho he]; exact ng ..⟩
theorem fA {E:Value→Shared→Prop} {m} {Q:Unit→Shared→Prop} (hn:s.heap.Ns a m)
  (h:∀ h',h'.Ns a (fun x=>if x=name then some v else m x)→Heap.SameBut a s.heap h'→(∀ o,s.heap.get? a=some o→∃ o',h'.get? a=some o'∧o'.cls=o.cls)→Q () { s with heap:=h',toks:=s.toks+1 }) :
  wpAny M A (nsSet a name v) Q E s:=fun Γ p _=>sw hn name v _ h
theorem iA {E:Value→Shared→Prop} {Q:Unit→Shared→Prop} (hc:s.heap.IsCell c v₀)
  (h:∀ h',h'.IsCell c v→Heap.SameBut c s.heap h'→(∀ o,s.heap.get? c=some o→∃ o',h'.get? c=some o'∧o'.cls=o.cls)→Q () { s with heap:=h' }):wpAny M A (cellSet c v) Q E s:=by
 obtain ⟨o,ho,hd⟩:=hc
 skip
 refine zC1 (wpAny_load ho ?_)
 refine hd.symm▸?_
 have e:=Heap.get?_update_self (fun o:Obj=>{ o with data:=.cell v }) ho rfl
 exact wpAny_update ho (h _ ⟨{ o with data:=.cell v },e,rfl⟩ (Heap.SameBut.update ..) fun o' ho'=>⟨_,e,by replace ho':=ho▸ho'; (injection ho' with ho'; subst ho'); rfl⟩)
def xH (a:Addr) (h h':Heap):Prop:=∀ o,h.get? a=some o→∃ o',h'.get? a=some o'∧o'.cls=o.cls
theorem gD.but (f:gD h0 h l) (hs:Heap.SameBut a h h') (c:(∃ o,h.get? a=some o∧iy o)∨(xH a h h'∧∀ o,h'.get? a=some o→∀ vs,o.data≠.fields vs)):gD h0 h' l:=fun env m=>by
 refine aq fun Z8 kZ8=>?_
 obtain ⟨hk,L,o,hf,hn,ho,hc,hd⟩:=f env m
 refine kZ8 ?_
 by_cases q:L=a
 ·subst q
  rcases c with ⟨o',e',n⟩ | ⟨c,d⟩
  ·rw [ho] at e'; (injection e' with e'; subst e'); exact absurd hc n
  ·obtain ⟨o',e',q⟩:=c o ho
   exact ⟨hk,L,o',hf,hn,e',q.trans hc,d o' e'⟩
 ·exact ⟨hk,L,o,hf,hn,hs.extBut L o q ho,hc,hd⟩
theorem fw.but (f:fw g A h) (hs:Heap.SameBut a h h') (c:(∃ o,h.get? a=some o∧iy o)∨(xH a h h'∧∀ o,h'.get? a=some o→∀ vs,o.data≠.fields vs)):fw g A h':=f.elim fun l q=>⟨l,q.1,q.2.but hs c⟩
def hY (h:Heap) (p:Pl) (v:Option Value) (h':Heap):Prop:=match p with
 | .ns a x=>(∃ m,h.Ns a m∧h'.Ns a (fun y=>if y=x then v else m y))∧Heap.SameBut a h h'∧xH a h h'
 | .cell c=>h'.IsCell c v∧Heap.SameBut c h h'∧xH c h h'
 | .off=>False
section
variable {Φ Φ':Ct} {s s' s₀:Shared} {h h':Heap}
theorem eF (I:Inv Φ s) (hx:Φ.fx.ρ.lookup x=some k) (hnf:Φ.fx.env.kindOf x≠some .free) (h:∀ h' tk,hY s.heap (Φ.fx.pl k) (some v) h'→Q () { s with heap:=h',toks:=tk }):Φ.wp (storeName Φ.fx.env x v) Q s:=fun E=>by
 obtain ⟨u,pr,_⟩:=I.slot k
 rcases I.ok.vis x k hx with ⟨hl,hp⟩ | ⟨hl,c,hc,hp⟩
 ·rw [hp] at pr h
  obtain ⟨m,hns,hv⟩:=pr
  rw [storeName_local hl (by rw [I.ok.kind]; rfl)]
  exact fA hns fun h' hn' hs' hc'=>h h' _ ⟨⟨m,hns,hn'⟩,hs',hc'⟩
 ·rw [hp] at pr h
  rcases hl with hl | hl
  ·unfold storeName
   rw [hl]
   refine bv (c:=(Φ.fx.env.scope.kind==.class&&some NameKind.cell==some .cell)=true) (by rw [I.ok.kind]; decide) ?_
   exact zC1 (wpAny_cellOf hc (iA pr fun h' hc' hs' hk'=>h h' s.toks ⟨hc',hs',hk'⟩))
  ·exact absurd hl hnf
theorem hY.addr (ps:hY h p v h'):∃ a,p.addr=some a∧Heap.SameBut a h h'∧aS h' a∧xH a h h'∧∀ o,h'.get? a=some o→∀ vs,o.data≠.fields vs:=by
 cases p with
 | ns a x=>
  refine aq fun Z13 kZ13=>?_
  obtain ⟨⟨m,_,hn⟩,hs,hc⟩:=ps
  obtain ⟨o,es,ep,ho,hd,_⟩:=hn
  refine kZ13 ?_
  exact ⟨a,rfl,hs,⟨o,ho⟩,hc,fun o' e' vs q=>by replace e':=ho▸e'; (injection e' with e'; subst e'); exact nomatch hd.symm.trans q⟩
 | cell c=>
  refine aq fun Z14 kZ14=>?_
  obtain ⟨⟨o,ho,hd⟩,hs,hc⟩:=ps
  refine kZ14 ?_
  exact ⟨c,rfl,hs,⟨o,ho⟩,hc,fun o' e' vs q=>by replace e':=ho▸e'; (injection e' with e'; subst e'); exact nomatch hd.symm.trans q⟩
 | off=>exact ps.elim
theorem hY.self (ps:hY h p v h'):aZ h' p v:=by
 cases p with
 | ns a x=>obtain ⟨⟨m,_,hn⟩,hs,_⟩:=ps; exact ⟨_,hn,if_pos rfl⟩
 | cell c=>exact ps.1
 | off=>exact ps.elim
theorem hY.other (ps:hY h p v h') (hne:q≠p) (ap:∀ a x c,(p=.ns a x∧q=.cell c)∨(q=.ns a x∧p=.cell c)→a≠c) (r:aZ h q u):aZ h' q u:=by
 cases p with
 | ns a x=>
  obtain ⟨⟨m,hm,hn⟩,hs,_⟩:=ps
  cases q with
  | ns b y=>
   obtain ⟨m',hm',hu⟩:=r
   by_cases e:b=a
   ·subst e
    refine ⟨_,hn,?_⟩
    rw [if_neg fun q=>hne (by rw [q])]
    refine aq fun Z17 kZ17=>?_
    obtain ⟨o,es,ep,ho,hd,_,hf⟩:=hm
    obtain ⟨o',es',ep',ho',hd',_,hf'⟩:=hm'
    refine kZ17 ?_
    replace ho':=ho▸ho'; (injection ho' with ho'; subst ho')
    replace hd':=hd▸hd'; (injection hd' with hd'; subst hd')
    rw [← hf,hf']; exact hu
   ·exact ⟨m',hm'.sameBut hs e,hu⟩
  | cell c=>obtain ⟨o,ho,hd⟩:=r; exact ⟨o,hs.extBut c o (Ne.symm (ap a x c (.inl ⟨rfl,rfl⟩))) ho,hd⟩
  | off=>exact r
 | cell c=>
  obtain ⟨hc,hs,_⟩:=ps
  cases q with
  | ns b y=>obtain ⟨m',hm',hu⟩:=r; exact ⟨m',hm'.sameBut hs (ap b y c (.inr ⟨rfl,rfl⟩)),hu⟩
  | cell d=>obtain ⟨o,ho,hd⟩:=r; exact ⟨o,hs.extBut d o (fun q=>hne (by rw [q])) ho,hd⟩
  | off=>exact r
 | off=>exact ps.elim
noncomputable def isI:Slot→Prop
 | .ownI _=>True
 | _=>False
structure Tr (Φ:Ct) (s:Shared) (Φ':Ct) (s':Shared):Prop where
 fx:Φ'.fx=Φ.fx
 keep:∀ b o,s.heap.get? b=some o→¬ Φ.own b→bB s'.heap b o
 live:∀ b,aS s.heap b→aS s'.heap b
 grow:∀ a,aS s.heap a→Φ'.own a→Φ.own a
 inst:∀ k a,Φ'.oa k=some a→isI (getSlot Φ'.G k)→Φ.oa k=some a∧isI (getSlot Φ.G k)
theorem Tr.refl (Φ:Ct) (s:Shared):Tr Φ s Φ s:=⟨rfl,fun _ _ e _=>.of e,fun _ l=>l,fun _ _ q=>q,fun _ _ e q=>⟨e,q⟩⟩
theorem Tr.trans (x:Tr Φ s Φ₂ s₂) (y:Tr Φ₂ s₂ Φ₃ s₃):Tr Φ s Φ₃ s₃ where
 fx:=y.fx.trans x.fx
 keep:=fun b o e n=>(x.keep b o e n).step fun o' e'=>y.keep b o' e' fun q=>n (x.grow b ⟨o,e⟩ q)
 live:=fun b l=>y.live b (x.live b l)
 grow:=fun a l q=>x.grow a l (y.grow a (x.live a l) q)
 inst:=fun k a e q=>(y.inst k a e q).elim fun e q=>x.inst k a e q
theorem Tr.of_keeps (k:aF s.heap s'.heap):Tr Φ s Φ s':=⟨rfl,fun b o e _=>k b o e,fun _=>k.live,fun _ _ q=>q,fun _ _ e q=>⟨e,q⟩⟩
theorem Tr.mapK (t:Tr Φ s Φ' s'):cX Φ.bad Φ'.bad s.heap s'.heap:=fun a o e f n=>
 ⟨fun b=>b.elim (fun b=>n (.inl (t.fx▸b))) fun b=>n (.inr (t.grow a ⟨o,e⟩ b)),(t.keep a o e fun q=>n (.inr q)).get f⟩
theorem bP {G:Gs} {k:Nat} {x:Slot} (hk:k < G.length):getSlot (G.set k x) k=x:=by
 unfold getSlot; rw [List.getD_eq_getElem?_getD,List.getElem?_set_self hk]; rfl
theorem cD (h:j≠k):getSlot (G.set k x) j=getSlot G j:=by
 unfold getSlot; rw [List.getD_eq_getElem?_getD,List.getD_eq_getElem?_getD,List.getElem?_set_ne (Ne.symm h)]
noncomputable def Ct.put (Φ:Ct) (k:Nat) (oak:Option Addr) (sl:Slot):Ct:=⟨Φ.fx,fun j=>if j=k then oak else Φ.oa j,Φ.G.set k sl⟩
theorem put_own (q:(Φ.put k oak sl).own a):oak=some a∨Φ.own a:=by
 rcases q with q | ⟨j,q⟩
 ·exact .inr (.inl q)
 ·by_cases e:j=k
  ·exact .inl ((if_pos e).symm.trans q)
  ·exact .inr (.inr ⟨j,(if_neg e).symm.trans q⟩)
theorem jB (hon:k < Φ.G.length) (h:isI sl→Φ.oa k=oak∧isI (getSlot Φ.G k)):∀ j a,(Φ.put k oak sl).oa j=some a→isI (getSlot (Φ.put k oak sl).G j)→Φ.oa j=some a∧isI (getSlot Φ.G j):=fun j a e q=>by
 have e:(if j=k then oak else Φ.oa j)=some a:=e
 have q:isI (getSlot (Φ.G.set k sl) j):=q
 by_cases c:j=k
 ·subst c
  rw [bP hon] at q
  rw [if_pos rfl] at e
  exact ⟨(h q).1.trans e,(h q).2⟩
 ·rw [if_neg c] at e
  rw [cD c] at q
  exact ⟨e,q⟩
theorem Inv.put (I:Inv Φ s₀) (B:Base Φ.fx.g s) (k₀:aF s₀.heap s.heap) (ps:hY s.heap (Φ.fx.pl k) v h')
  (so:d5 Φ.fx.g (Φ.put k oak sl).bad h' oak v sl) (hnew:∀ a,oak=some a→s₀.heap.get? a=none∧aS h' a) (hni:¬ isI sl):Inv (Φ.put k oak sl) { s with heap:=h',toks:=tk }∧Tr Φ s₀ (Φ.put k oak sl) { s with heap:=h',toks:=tk }:=by
 refine aq fun Z20 kZ20=>?_
 obtain ⟨a,ha,hs,hl,hcl,hnd⟩:=ps.addr
 refine kZ20 ?_
 have hon:k < Φ.G.length:=by
  rw [I.gl]
  refine Nat.lt_of_lt_of_le (Nat.lt_of_not_le fun q=>?_) I.ok.nfs
  replace ha:=(I.ok.offs k q)▸ha; (injection ha; done)
 have hown:Φ.own a:=.inl ⟨k,ha⟩
 have kp:∀ b o,b≠a→s₀.heap.get? b=some o→bB h' b o:=fun b o n e=>(k₀ b o e).step fun o' e'=>.of (hs.extBut b o' n e')
 have live:∀ b,aS s₀.heap b→aS h' b:=fun b ⟨o,e⟩=>(Classical.em (b=a)).elim (fun q=>q▸hl) fun n=>(kp b o n e).live
 have nl:∀ b,oak=some b→¬ aS s₀.heap b:=fun b e ⟨o,q⟩=>by replace q:=((hnew b e).1)▸q; (injection q; done)
 have mk:cX Φ.bad (Φ.put k oak sl).bad s₀.heap h':=fun b o e f n=>by
  refine ⟨fun q=>?_,(kp b o (fun q=>n (.inr (q▸hown))) e).get f⟩
  rcases q with q | q
  ·exact n (.inl q)
  ·exact (put_own q).elim (fun q=>nl b q ⟨o,e⟩) fun q=>n (.inr q)
 have nonew:∀ b,Φ.own b→¬ oak=some b:=fun b q e=>nl b e (I.new b q).1
 refine ⟨⟨I.ok,⟨fun b o e=>hs.extBut b o (fun q=>au (I.new a hown).2.1 (q▸e)) (B.stays b o e),B.os,B.gens⟩,fun j=>?_,fun b q=>?_,fun i j b e1 e2=>?_,fun j b e i q=>?_,?_,fun b q=>live b (I.mo b q),(I.fr.keep k₀).but hs (.inr ⟨hcl,hnd⟩)⟩,
  ⟨rfl,fun b o e n=>kp b o (fun q=>n (q▸hown)) e,live,fun b l q=>(put_own q).elim (fun q=>absurd l (nl b q)) id,jB hon fun q=>absurd q hni⟩⟩
 ·by_cases e:j=k
  ·subst e
   refine ⟨v,ps.self,?_⟩
   have e1:(Φ.put j oak sl).oa j=oak:=if_pos rfl
   have e2:getSlot (Φ.put j oak sl).G j=sl:=bP hon
   rw [e1,e2]; exact so
  ·obtain ⟨u,pr,sj⟩:=I.slot j
   have e1:(Φ.put k oak sl).oa j=Φ.oa j:=if_neg e
   have e2:getSlot (Φ.put k oak sl).G j=getSlot Φ.G j:=cD e
   refine e1.symm▸e2.symm▸?_
   refine ⟨u,?_,sj.map mk fun b eb o e f=>(kp b o (fun q=>I.off j b eb k (q▸ha)) e).get f⟩
   by_cases ho:Φ.fx.pl j=.off
   ·refine (?_:aZ h' (Φ.fx.pl j) u)
    rw [ho] at pr ⊢; exact pr
   ·exact ps.other (fun q=>e (I.ok.inj j k q ho)) (fun a' x c q=>q.elim (fun q=>I.ok.apart k j a' x c q.1 q.2) fun q=>I.ok.apart j k a' x c q.1 q.2) (pr.keep k₀)
 ·rcases put_own q with q | q
  ·exact ⟨(hnew b q).2,aM (fun l=>I.base.stays.live l) (hnew b q).1,fun z=>nl b q (I.mo b z)⟩
  ·obtain ⟨l,n⟩:=I.new b q
   exact ⟨live b l,n⟩
 ·have c1:(if i=k then oak else Φ.oa i)=some b:=e1
  have c2:(if j=k then oak else Φ.oa j)=some b:=e2
  by_cases h1:i=k <;> by_cases h2:j=k
  ·exact h1.trans h2.symm
  ·rw [if_pos h1] at c1; rw [if_neg h2] at c2; exact absurd c1 (nonew b (.inr ⟨j,c2⟩))
  ·rw [if_neg h1] at c1; rw [if_pos h2] at c2; exact absurd c2 (nonew b (.inr ⟨i,c1⟩))
  ·rw [if_neg h1] at c1; rw [if_neg h2] at c2; exact I.inj i j b c1 c2
 ·have c:(if j=k then oak else Φ.oa j)=some b:=e
  by_cases h1:j=k
  ·rw [if_pos h1] at c; exact nonew b (.inl ⟨i,q⟩) c
  ·rw [if_neg h1] at c; exact I.off j b c i q
 ·refine (?_:(Φ.G.set k sl).length=_)
  rw [List.length_set]; exact I.gl
theorem Inv.mutate (I:Inv Φ s) (hk:Φ.oa k=some a) (pr:aZ s.heap (Φ.fx.pl k) (some u)) (hnf:∃ o,s.heap.get? a=some o∧iy o) (hs:Heap.SameBut a s.heap h') (hl:aS h' a) (ow:gj Φ.fx.g Φ.bad h' a u sl) (hsl:∀ x,sl≠.v x) (hsl':sl≠.unset) (hni:isI sl→isI (getSlot Φ.G k)) :
  Inv (Φ.put k (some a) sl) { s with heap:=h',toks:=tk }∧Tr Φ s (Φ.put k (some a) sl) { s with heap:=h',toks:=tk }:=by
 have kp:∀ b o,b≠a→s.heap.get? b=some o→h'.get? b=some o:=fun b o n e=>hs.extBut b o n e
 have hown:Φ.own a:=.inr ⟨k,hk⟩
 have hon:k < Φ.G.length:=by
  rw [I.gl]
  refine Nat.lt_of_lt_of_le (Nat.lt_of_not_le fun q=>?_) I.ok.nfs
  replace pr:=(I.ok.offs k q)▸pr; (injection pr; done)
 have eo:(Φ.put k (some a) sl).oa=Φ.oa:=funext fun j=>(Classical.em (j=k)).elim (fun e=>(if_pos e).trans (e▸hk.symm)) fun e=>if_neg e
 have eb:(Φ.put k (some a) sl).bad=Φ.bad:=by unfold Ct.bad Ct.own; rw [eo]; rfl
 have ew:(Φ.put k (some a) sl).own=Φ.own:=by unfold Ct.own; rw [eo]; rfl
 have live:∀ b,aS s.heap b→aS h' b:=fun b Zq3=>Zq3.elim fun o e=>(Classical.em (b=a)).elim (fun q=>q▸hl) fun n=>⟨o,kp b o n e⟩
 have mk:cX Φ.bad Φ.bad s.heap h':=fun b o e _ n=>⟨n,kp b o (fun q=>n (.inr (q▸hown))) e⟩
 have plr:∀ j u,aZ s.heap (Φ.fx.pl j) u→aZ h' (Φ.fx.pl j) u:=fun j u r=>by
  have na:∀ c,(Φ.fx.pl j).addr=some c→c≠a:=fun c e q=>I.off k a hk j (q▸e)
  generalize Φ.fx.pl j=p at r na
  cases p with
  | ns c x=>obtain ⟨m,hn,hu⟩:=r; exact ⟨m,hn.at' fun o e=>kp c o (na c rfl) e,hu⟩
  | cell c=>obtain ⟨o,ho,hd⟩:=r; exact ⟨o,kp c o (na c rfl) ho,hd⟩
  | off=>exact r
 refine ⟨⟨I.ok,⟨fun b o e=>kp b o (fun q=>au (I.new a hown).2.1 (q▸e)) (I.base.stays b o e),I.base.os,I.base.gens⟩,fun j=>?_,fun b q=>?_,by exact eo.symm▸I.inj,by exact eo.symm▸I.off,?_,fun b q=>live b (I.mo b q),I.fr.but hs (.inl hnf)⟩,
  ⟨rfl,fun b o e n=>.of (kp b o (fun q=>n (q▸hown)) e),live,fun b l q=>ew▸q,jB hon fun q=>⟨hk,hni q⟩⟩⟩
 ·refine eb.symm▸eo.symm▸?_
  by_cases e:j=k
  ·subst e
   refine ⟨some u,plr j _ pr,?_⟩
   have e2:getSlot (Φ.put j (some a) sl).G j=sl:=bP hon
   refine e2.symm▸?_
   cases sl with
   | unset=>exact absurd rfl hsl'
   | v x=>exact absurd rfl (hsl x)
   | _=>exact ⟨a,u,hk,rfl,ow⟩
  ·refine aq fun Z23 kZ23=>?_
   obtain ⟨w,r,sj⟩:=I.slot j
   refine kZ23 ?_
   have e2:getSlot (Φ.put k (some a) sl).G j=getSlot Φ.G j:=cD e
   exact e2.symm▸⟨w,plr j w r,sj.map mk fun b eb o e' _=>kp b o (fun q=>e (I.inj j k a (q▸eb) hk)) e'⟩
 ·rw [ew] at q
  obtain ⟨l,n⟩:=I.new b q
  exact ⟨live b l,n⟩
 ·refine (?_:(Φ.G.set k sl).length=_)
  rw [List.length_set]; exact I.gl
end
noncomputable abbrev Ct.wi (Φ:Ct) (oa:Nat→Option Addr) (G:Gs):Ct:=⟨Φ.fx,oa,G⟩
section
variable {Φ:Ct} {s s' s₁:Shared} {v:Value} {x:V}
theorem iO (I:Inv Φ s) (ps:hY s.heap (Φ.fx.pl k) (some v) h') (r:Φ.rp s.heap v x):Inv (Φ.put k none (.v x)) { s with heap:=h',toks:=tk }∧Tr Φ s (Φ.put k none (.v x)) { s with heap:=h',toks:=tk }:=by
 refine aq fun Z1 kZ1=>?_
 obtain ⟨a,ha,hs,_⟩:=ps.addr
 refine kZ1 ?_
 refine Inv.put (oak:=none) (sl:=.v x) I I.base (.refl _) ps ⟨rfl,v,rfl,r.map fun b o e _ n=>⟨fun q=>?_,hs.extBut b o (fun q=>n (.inr (.inl ⟨k,q▸ha⟩))) e⟩⟩ (fun a q=>nN q.symm) id
 exact n (q.imp id fun (q:(Φ.put k none (.v x)).own b)=>(put_own q).elim (fun (z:none=some b)=>nN z.symm) id)
structure TgtOk (ρ:List (Str×Nat)) (env:Env) (n:Str) (k:Nat):Prop where
 lk:ρ.lookup n=some k
 nf:env.kindOf n≠some .free
theorem xO (hT:TgtOk Φ.fx.ρ Φ.fx.env n k) (I:Inv Φ s) (r:Φ.rp s.heap v x) :
  Φ.wp (assign (.Name n py) Φ.fx.env v) (fun _ s'=>Inv (Φ.put k none (.v x)) s'∧Tr Φ s (Φ.put k none (.v x)) s'∧∀ b o,s.heap.get? b=some o→(Φ.fx.pl k).addr≠some b→s'.heap.get? b=some o) s:=fun E=>by
 rw [arm_assign_Name]
 refine zC1 (wpAny_standAt (wpAny_bindName (eF I hT.lk hT.nf (fun h' tk ps=>?_) E)))
 refine aq fun Z2 kZ2=>?_
 obtain ⟨a,ha,hs,_⟩:=ps.addr
 refine kZ2 ?_
 have q:=iO (tk:=tk) I ps r
 exact ⟨q.1,q.2,fun b o e n=>hs.extBut b o (fun q=>n (q▸ha)) e⟩
noncomputable def vh (ks:List Nat) (xs:List V) (G:Gs):Gs:=(ks.zip xs).foldl (fun G p=>G.set p.1 (.v p.2)) G
inductive TgtsOk (ρ:List (Str×Nat)) (env:Env):List Expr→List Nat→Prop
 | nil:TgtsOk ρ env [] []
 | cons {n:Str} {p:Pos} {k:Nat} {es:List Expr} {ks:List Nat}:TgtOk ρ env n k→TgtsOk ρ env es ks→TgtsOk ρ env (.Name n p :: es) (k :: ks)
noncomputable def offs (ks:List Nat) (oa:Nat→Option Addr):Nat→Option Addr:=ks.foldl (fun oa k j=>if j=k then none else oa j) oa
def l9 (fx:Fx) (oa:Nat→Option Addr) (G:Gs) (s:Shared) (ks:List Nat) (G':Gs) (s':Shared):Prop:=
 Inv ⟨fx,offs ks oa,G'⟩ s'∧Tr ⟨fx,oa,G⟩ s ⟨fx,offs ks oa,G'⟩ s'∧∀ b o,s.heap.get? b=some o→(∀ k∈ks,(fx.pl k).addr≠some b)→s'.heap.get? b=some o
theorem Ca (hT:TgtsOk fx.ρ fx.env es ks):∀ {oa:Nat→Option Addr} {G:Gs} {vs:List Value} {xs:List V} {s:Shared},xs.length=ks.length→Inv ⟨fx,oa,G⟩ s→(Ct.mk fx oa G).rps s.heap vs xs →
  (Ct.mk fx oa G).wp (assignInOrder ((assignEach es fx.env).map (·.2)) vs) (fun _ s'=>l9 fx oa G s ks (vh ks xs G) s') s:=by
 induction hT with
 | nil=>
  intro oa G vs xs s hl I r E
  obtain rfl:=List.length_eq_zero_iff.mp hl
  cases r
  exact zC2 ⟨I,.refl _ _,fun _ _ e _=>e⟩
 | @cons n p k es ks h1 _ ih=>
  intro oa G vs xs s hl I r E
  cases r with
  | nil=>(injection hl; done)
  | @cons v vs x xs r rs=>
   refine (?_:wpAny _ _ (holding vs (assign (.Name n p) fx.env v) >>= fun _=>assignInOrder ((assignEach es fx.env).map (·.2)) vs) _ _ _)
   refine zC1 (wpAny_holding (wpAny_mono (xO (Φ:=⟨fx,oa,G⟩) h1 I r E) (fun _ s₁ q=>?_) fun _ _ z=>z))
   refine wpAny_mono (ih (Nat.succ.inj hl) q.1 (rs.map q.2.1.mapK) E) (fun _ s₂ z=>?_) fun _ _ z=>z
   exact ⟨z.1,q.2.1.trans z.2.1,fun b o e n=>z.2.2 b o (q.2.2 b o e (n k (.head _))) fun j m=>n j (.tail _ m)⟩
theorem o8 (hT:TgtsOk ρ e0 es ks):(assignEach es env).length=ks.length∧(assignEach es env).findIdx? (·.1)=none:=by
 induction hT with
 | nil=>exact ⟨rfl,rfl⟩
 | @cons n p k es ks h1 _ ih=>
  have e:assignEach (.Name n p :: es) env=(false,assign (.Name n p) env) :: assignEach es env:=rfl
  rw [e]
  exact ⟨congrArg (· + 1) ih.1,by rw [List.findIdx?_cons,ih.2]; rfl⟩
theorem fB (e:aW ks G x=some G') {C:V→Gs→Prop} (k:∀ xs,xs.length=ks.length→C (.tuple xs) (vh ks xs G)):C x G':=by
 cases x with
 | tuple xs=>exact if_elim e fun h=>k xs h
 | _=>(injection e; done)
theorem An [Hm Φ.fx] (hT:TgtsOk Φ.fx.ρ Φ.fx.env es ks) (I:Inv Φ s) (e:aW ks Φ.G x=some G') (r:Φ.rp s.heap v x) :
  Φ.wp (assign (.Tuple es kk p) Φ.fx.env v) (fun _ s'=>l9 Φ.fx Φ.oa Φ.G s ks G' s') s:=fun E=>
 fB (C:=fun x G'=>Φ.rp s.heap v x→wpAny _ _ (assign (.Tuple es kk p) Φ.fx.env v) (fun _ s'=>l9 Φ.fx Φ.oa Φ.G s ks G' s') E s) e (fun xs hl r=>r.tuple_elim fun a o vs n hb ha hc hd hr=>by
  obtain ⟨h1,h2⟩:=o8 (env:=Φ.fx.env) hT
  refine wpAny_assign_Tuple (I.ok.hand Hm.no) ⟨_,ha,hc,_,hd⟩ (by exact h1.symm▸hl▸(aP hr).symm) h2 fun h' he=>?_
  have gr:Grown s { s with heap:=h' }:=⟨fun b o e=>he b o (Nat.ne_of_lt (Heap.lt_size e)) e,rfl,rfl⟩
  refine wpAny_mono (Ca (oa:=Φ.oa) (G:=Φ.G) hT hl (I.keep (I.base.grown gr) gr.keeps) (hr.keep gr.keeps) E) (fun _ s₂ z=>⟨z.1,(Tr.of_keeps gr.keeps).trans z.2.1,fun b o e n=>z.2.2 b o (gr.stays b o e) n⟩) fun _ _ z=>z) r
def xG (Φ:Ct) (s:Shared) (h:Heap) (f:Flow) (fl:Option V):Prop:=match fl with
 | none=>f=.next
 | some x=>noX x=true∧∃ v,f=.ret v∧Φ.rp h v x∧(Φ.fx.nw=true→lj s.heap v)
theorem xG.lift (x:xG Φ s₁ h f fl) (k:∀ b,aS s.heap b→aS s₁.heap b):xG Φ s h f fl:=by
 cases fl with
 | none=>exact x
 | some y=>obtain ⟨nx,v,e,r,n⟩:=x; exact ⟨nx,v,e,r,fun q=>(n q).le k⟩
inductive PostS (Φ:Ct) (s:Shared) (K:Option V→Gs→Prop) (f:Flow) (s':Shared):Prop
 | mk:∀ oa' G' fl,(fl=none∨Φ.fx.hm=true→Inv (Φ.wi oa' G') s')→Base Φ.fx.g s'→Tr Φ s (Φ.wi oa' G') s'→xG (Φ.wi oa' G') s s'.heap f fl→K fl G'→PostS Φ s K f s'
inductive PostX (Φ:Ct) (s:Shared) (K:Option V→Gs→Prop) (v:Value) (s':Shared):Prop
 | mk:∀ oa' G' c e,v=.ref e→c < Φ.fx.g.nc→Inv (Φ.wi oa' G') s'→Tr Φ s (Φ.wi oa' G') s'→ExcAt s'.heap s.heap e (.ref (Φ.fx.g.cls c)) .none→K (some (gz c)) G'→PostX Φ s K v s'
def ExB (fx:Fx) (t:Sem Flow) (X:B):Prop:=∀ oa G K s,X G K→Inv ⟨fx,oa,G⟩ s→wpAny (model fx.g.prog fx.g.w) fx.A t (PostS ⟨fx,oa,G⟩ s K) (PostX ⟨fx,oa,G⟩ s K) s
theorem ExcAt.le {h lo lo':Heap} {e:Addr} {cls fl:Value} (x:ExcAt h lo e cls fl) (q:∀ b,aS lo' b→aS lo b):ExcAt h lo' e cls fl:=by
 obtain ⟨oe,vs,a,b,c,d,f,g,k⟩:=x
 refine ⟨oe,vs,a,b,c,d,aM (q _) f,g,k.imp id ?_⟩
 rintro ⟨T,oT,ts,a,b,c,d⟩
 exact ⟨T,oT,ts,a,b,aM (q _) c,d⟩
theorem PostS.lift {K:Option V→Gs→Prop} {oa₁:Nat→Option Addr} (p:PostS (Φ.wi oa₁ G₁) s₁ K f s') (t:Tr Φ s (Φ.wi oa₁ G₁) s₁):PostS Φ s K f s':=by
 obtain ⟨oa',G',fl,I,B,t',h,h'⟩:=p
 exact ⟨oa',G',fl,I,B,t.trans t',h.lift t.live,h'⟩
theorem PostX.lift {K:Option V→Gs→Prop} {oa₁:Nat→Option Addr} (p:PostX (Φ.wi oa₁ G₁) s₁ K v s') (t:Tr Φ s (Φ.wi oa₁ G₁) s₁):PostX Φ s K v s':=by
 obtain ⟨oa',G',c,e,h1,h2,I,t',x,h⟩:=p
 exact ⟨oa',G',c,e,h1,h2,I,t.trans t',x.le t.live,h⟩
theorem PostX.imp {K K':Option V→Gs→Prop} (p:PostX Φ s K v s') (q:∀ x G,K (some x) G→K' (some x) G):PostX Φ s K' v s':=by
 obtain ⟨oa',G',c,e,h1,h2,I,t',x,h⟩:=p
 exact ⟨oa',G',c,e,h1,h2,I,t',x,q _ _ h⟩
theorem PostS.next {K:Option V→Gs→Prop} {oa':Nat→Option Addr} (I:Inv (Φ.wi oa' G') s') (t:Tr Φ s (Φ.wi oa' G') s') (k:K none G'):PostS Φ s K .next s':=⟨oa',G',none,fun _=>I,I.base,t,rfl,k⟩
end
section
variable {fx:Fx} {s:Shared}
theorem zK:ExB fx (execs [] fx.env) (fun G K=>K none G):=fun oa G K s hd I=>wpAny_execs_nil (.next I (.refl _ _) hd)
theorem ex_cons {st:Stmt} {r:List Stmt} {X Y:B} (h1:ExB fx (exec st fx.env) X) (h2:ExB fx (execs r fx.env) Y):ExB fx (execs (st :: r) fx.env) (fun G K=>X G fun fl G'=>match fl with | none=>Y G' K | some x=>K (some x) G'):=fun oa G K s hd I=>by
 refine wpAny_execs_cons (wpAny_mono (h1 oa G _ s hd I) (fun f s₁ ⟨oa₁,G₁,fl,I₁,B₁,t₁,hf,hk⟩=>?_) fun _ _ z=>z.imp fun _ _ k=>k)
 cases fl with
 | none=>subst hf; exact wpAny_mono (h2 oa₁ G₁ K s₁ hk (I₁ (.inl rfl))) (fun _ _ p=>p.lift t₁) fun _ _ p=>p.lift t₁
 | some x=>obtain ⟨nx,v,rfl,r⟩:=hf; exact ⟨oa₁,G₁,some x,I₁,B₁,t₁,⟨nx,v,rfl,r⟩,hk⟩
theorem Bw {d:Gs→DV} (hc:∀ oa G,EvT ⟨fx,oa,G⟩ (isTrue c fx.env (eval c fx.env)) (tst (d G))) (ha:ExB fx (execs a fx.env) X) (hb:ExB fx (execs b fx.env) Y) :
  ExB fx (exec (.If c a b pos) fx.env) (fun G K=>d G fun x=>okK (c6 x some) fun t=>if t=true then X G K else Y G K):=fun oa G K s hd I=>by
 refine wpAny_If (wpAny_mono (hc oa G (fun t=>if t=true then X G K else Y G K) s hd I _) (fun t s₁ ⟨B,k,t',hk,e⟩=>?_) fun _ _ z=>z)
 subst e
 cases t with
 | true=>exact wpAny_mono (ha oa G K s₁ hk (I.keep B k)) (fun _ _ p=>p.lift (.of_keeps k)) fun _ _ p=>p.lift (.of_keeps k)
 | false=>exact wpAny_mono (hb oa G K s₁ hk (I.keep B k)) (fun _ _ p=>p.lift (.of_keeps k)) fun _ _ p=>p.lift (.of_keeps k)
theorem zJ {d:Gs→DV} (hnw:fx.nw=false) (h:∀ oa G,Ev ⟨fx,oa,G⟩ (eval e fx.env) (d G)):ExB fx (exec (.Return (some e) pos) fx.env) (fun G K=>d G fun x=>noX x=true∧K (some x) G):=fun oa G K s hd I=>by
 rw [exec_Return_some]
 exact zC1 (wpAny_standAt (zC1 (wpAny_mono (h oa G _ s hd I _) (fun v s₁ ⟨B,k,x,hx,r⟩=>zC2 ⟨oa,G,some x,fun _=>I.keep B k,B,.of_keeps k,⟨hx.1,v,rfl,r,fun q=>nomatch hnw.symm.trans q⟩,hx.2⟩) fun _ _ z=>z)))
theorem xl {d:Gs→DV} (h:∀ oa G,EvN ⟨fx,oa,G⟩ (eval e fx.env) (d G)):ExB fx (exec (.Return (some e) pos) fx.env) (fun G K=>d G fun x=>noX x=true∧K (some x) G):=fun oa G K s hd I=>by
 rw [exec_Return_some]
 exact zC1 (wpAny_standAt (zC1 (wpAny_mono (h oa G _ s hd I _) (fun v s₁ ⟨⟨B,k,x,hx,r⟩,n⟩=>zC2 ⟨oa,G,some x,fun _=>I.keep B k,B,.of_keeps k,⟨hx.1,v,rfl,r,fun _=>n⟩,hx.2⟩) fun _ _ z=>z)))
theorem sd {f:Nat} {qs:List (Expr×DV)} {K:V→Prop} {Q:Value→Shared→Prop} {E:Value→Shared→Prop} (hx:bz Φ.fx.env.scope.names n=true) (hf:Φ.fx.g.fns.lookup n=some f) (hfn:keepIn Φ.fx.g.K (.ref (Φ.fx.g.fn f))=true) (hsf:Φ.safe f)
  (hq:∀ q∈qs,ao q.1=true∧bi Φ q) (hd:bo (qs.map Prod.snd) fun xs=>am Φ.fx.g.P Φ.fx.d f xs K) (I:Inv Φ s)
  (hQ:∀ v s' y,Inv Φ s'→aF s.heap s'.heap→K y→noX y=true→Φ.rp s'.heap v y→(Φ.fx.g.newf f=true→lj s.heap v)→Q v s') (hE:∀ s' c e,Inv Φ s'→aF s.heap s'.heap→c < Φ.fx.g.nc→K (gz c)→ExcAt s'.heap s.heap e (.ref (Φ.fx.g.cls c)) .none→E (.ref e) s') :
  wpAny (model Φ.fx.g.prog Φ.fx.g.w) Φ.fx.A (eval (.Call (.Name n fp) (qs.map Prod.fst) [] pos) Φ.fx.env) Q E s:=by
 refine (?_:wpAny _ _ (eval (.Name n fp) Φ.fx.env >>= fun F=>callWith pos F [] (backTo pos (starEach (qs.map Prod.fst) Φ.fx.env)) []) _ _ s)
 refine zC1 (bV I hx (I.ok.gr.fns n f hf) ?_ E)
 refine callWith_of (by rw [dx (bT fun q m=>(hq q m).1)]; rfl) (keeps_K hfn) (cW hq hd I fun vs xs s₁ I₁ k₁ hx rs=>⟨I₁.frag,?_⟩)
 exact wpAny_mono (I₁.ok.call Φ.fx.hm f xs _ Φ.fx.A s₁ Φ.bad vs hx I₁.ok.hand hsf I₁.ok.room I₁.ok.units I₁.base I₁.fr (fun a b=>I₁.badLive b) (fun a b=>I₁.bad0 b) rs) (fun v s' ⟨B,k,y,hy,nx,r,nv⟩=>hQ v s' y (I₁.keep B k) (k₁.trans k) hy nx r fun q=>(nv q).le fun _=>k₁.live)
  fun v s' ⟨B,k,c,e,hv,hc,hy,x⟩=>hv▸hE s' c e (I₁.keep B k) (k₁.trans k) hc hy (x.le fun _=>k₁.live)
theorem uT [Hm fx] (hx:bz fx.env.scope.names x=true) (hc:fx.g.clss.lookup x=some c) :
  ExB fx (exec (.Raise (some (.Call (.Name x np) [.Constant (.str msg) kk mp] [] cpos)) none pos) fx.env) (fun G K=>K (some (gz c)) G):=fun oa G K s hd I=>by
 refine aq fun Z8 kZ8=>?_
 obtain ⟨hn,hm⟩:=I.ok.gr.clss x c hc
 obtain ⟨nm,q,N,bs,bm,bmB,hdct,sn,sub,ab,col,dd,k0,k1,k2,k3,k5,B,newId,initId,mN,F,hb,hni,hC,hN,hT⟩:=I.ok.gr.raises c hn
 refine kZ8 ?_
 refine wpAny_Raise_call_subT (C:=fx.g.cls c) (nm:=nm) (q:=q) (N:=N) (bs:=bs) (bm:=bm) (hdct:=hdct) (sn:=sn) (sub:=sub) (ab:=ab) (col:=col) (dd:=dd) (k0:=k0) (k1:=k1) (k2:=k2) (k3:=k3) (k5:=k5) F hb (I.ok.hand Hm.no) rfl hni (bV I hx hm ⟨rfl,?_⟩ _)
 refine Calls.evalArgs_plain (x:=eval (.Constant (.str msg) kk mp) fx.env) (rest:=[]) (Calls.spliced_cons (wpAny_Constant_str (Calls.spliced_nil ⟨rfl,by refine (?_:1≤sizeLine); decide,I.base.stays _ _ hC,hN.at' fun o e=>I.base.stays _ o e,hT.keeps fun b o e=>I.base.stays b o e,fun h' e hm=>?_⟩)))
 have gr:Grown s { s with heap:=h',toks:=s.toks+1 }:=⟨hm.keeps,rfl,rfl⟩
 obtain ⟨t,ht,_,_⟩:=hm.there
 exact ⟨oa,G,c,e,rfl,hn,I.keep (I.base.grown gr) gr.keeps,.of_keeps gr.keeps,⟨_,_,ht,rfl,rfl,rfl,hm.new,by refine (?_:1 < 6); decide,.inl rfl⟩,hd⟩
theorem b7 (h:cx value=true):swapsWith value t n env=pure false:=by
 cases value <;> first | rfl | exact nB h
theorem k8 {d:Gs→DV} (hs:swapsWith value (some (.Name n py)) spos.line fx.env=pure false) (hT:TgtOk fx.ρ fx.env n k) (h:∀ oa G,Ev ⟨fx,oa,G⟩ (eval value fx.env) (d G)) :
  ExB fx (exec (.Assign [.Name n py] value spos) fx.env) (fun G K=>d G fun x=>K none (G.set k (.v x))):=fun oa G K s hd I=>by
 refine (exec_Assign_Name _ _ _ _ _ hs).symm▸?_
 refine zC1 (wpAny_standAt (zC1 (wpAny_mono (h oa G _ s hd I _) (fun v s₁ ⟨B,k₁,x,hx,r⟩=>?_) fun _ _ z=>z)))
 have I₁:=I.keep B k₁
 refine zC1 (wpAny_standAt (zC1 (wpAny_bindName (eF I₁ hT.lk hT.nf (fun h' tk ps=>zC2 ?_) _))))
 have q:=iO (tk:=tk) I₁ ps r
 exact .next q.1 ((Tr.of_keeps k₁).trans q.2) hx
end
noncomputable abbrev Fx.mo (fx:Fx) (X:Addr→Prop):Fx:={ fx with Mo:=fun b=>fx.Mo b∨X b }
noncomputable abbrev Ct.mo (Φ:Ct) (X:Addr→Prop):Ct:=⟨Φ.fx.mo X,Φ.oa,Φ.G⟩
section
variable {Φ:Ct} {s s' s₀ s₂:Shared} {h':Heap} {X:Addr→Prop}
theorem FxOk.any (ok:FxOk fx) (h:∀ a,M a→fx.g.h0.get? a=none):FxOk { fx with Mo:=M }:=⟨ok.gr,ok.hand,ok.kind,ok.globals,ok.builtins,ok.vis,ok.inj,ok.apart,ok.offs,ok.nfs,ok.room,ok.units,ok.call,h⟩
theorem rn (hX:∀ b,X b→s₀.heap.get? b=none) (k:aF s₀.heap s₂.heap):cX Φ.bad (Φ.mo X).bad s₀.heap s₂.heap:=fun b o e f n=>
 ⟨fun q=>q.elim (fun q=>q.elim (fun q=>n (.inl q)) fun q=>au (hX b q) e) fun q=>n (.inr q),k.get e f⟩
theorem Inv.more (I:Inv Φ s₀) (B:Base Φ.fx.g s₂) (k:aF s₀.heap s₂.heap) (hX:∀ b,X b→s₀.heap.get? b=none) (hl:∀ b,X b→aS s₂.heap b):Inv (Φ.mo X) s₂ where
 ok:=I.ok.any fun a q=>q.elim (I.ok.mo0 a) fun q=>aM (fun l=>I.base.stays.live l) (hX a q)
 base:=B
 slot:=fun j=>let ⟨v,r,x⟩:=I.slot j; ⟨v,r.keep k,x.map (rn hX k) fun a _ o e f=>k.get e f⟩
 new:=fun a q=>let ⟨x,y,z⟩:=I.new a q; ⟨k.live x,y,fun w=>w.elim z fun w=>x.elim fun o e=>au (hX a w) e⟩
 inj:=I.inj
 off:=I.off
 gl:=I.gl
 mo:=fun a q=>q.elim (fun q=>k.live (I.mo a q)) (hl a)
 fr:=I.fr.keep k
theorem sQ:cX (Φ.mo X).bad Φ.bad h h:=fun b o e _ n=>⟨fun q=>n (q.imp .inl id),e⟩
def wg (A:Around) (b:Addr):Prop:=∀ l env,A.frames=some l→env∈l→env.frame≠some b
theorem fw.look (f:fw g A h) (e:A.frames=some l) (m:env∈l) (q:env.frame=some b):∃ o,h.get? b=some o∧o.cls=.type "frame":=by
 obtain ⟨l',e',f⟩:=f
 obtain rfl:=Option.some.inj (e.symm.trans e')
 refine aq fun Z2 kZ2=>?_
 obtain ⟨_,L,o,hf,_,ho,hc,_⟩:=f env m
 refine kZ2 ?_
 obtain rfl:=Option.some.inj (q.symm.trans hf)
 exact ⟨o,ho,hc⟩
theorem fw.not (f:fw g A h) (n:dL h b):wg A b:=fun l env e m q=>(f.look e m q).elim fun o z=>n.nf z.1 z.2
theorem fw.new (f:fw g A h) (n:h.get? b=none):wg A b:=fun l env e m q=>(f.look e m q).elim fun o z=>au n z.1
theorem Inv.others {wr:List Addr} {tk:Nat} {Mo₂:Addr→Prop} (I:Inv Φ s) (hnw:∀ b∈wr,wg Φ.fx.A b) (k:∀ b o,b∉wr→s.heap.get? b=some o→h'.get? b=some o) (hw:∀ b∈wr,Φ.fx.Mo b) (h0:∀ b∈wr,Φ.fx.g.h0.get? b=none) (hs:∀ a,Mo₂ a→Φ.fx.Mo a) (hl:∀ a,Mo₂ a→aS h' a):Inv ⟨{ Φ.fx with Mo:=Mo₂ },Φ.oa,Φ.G⟩ { s with heap:=h',toks:=tk }:=by
 have nown:∀ b,Φ.own b→b∉wr:=fun b q m=>(I.new b q).2.2 (hw b m)
 have mk:cX Φ.bad (Ct.mk { Φ.fx with Mo:=Mo₂ } Φ.oa Φ.G).bad s.heap h':=fun b o e _ n=>⟨fun q=>n (q.imp (hs b) id),k b o (fun m=>n (.inl (hw b m))) e⟩
 refine ⟨I.ok.any fun a q=>I.ok.mo0 a (hs a q),⟨fun b o e=>k b o (fun m=>au (h0 b m) e) (I.base.stays b o e),I.base.os,I.base.gens⟩,fun j=>?_,fun a q=>?_,I.inj,I.off,I.gl,hl,I.fr.elim fun l q=>⟨l,q.1,fun env m=>?_⟩⟩
 ·obtain ⟨u,r,so⟩:=I.slot j
  refine ⟨u,?_,so.map mk fun a ea o e _=>k a o (nown a (.inr ⟨j,ea⟩)) e⟩
  refine (?_:aZ h' (Φ.fx.pl j) u)
  have na:∀ a,(Φ.fx.pl j).addr=some a→a∉wr:=fun a e=>nown a (.inl ⟨j,e⟩)
  generalize Φ.fx.pl j=p at r na
  cases p with
  | ns a x=>obtain ⟨m,hn,hu⟩:=r; exact ⟨m,hn.at' fun o e=>k a o (na a rfl) e,hu⟩
  | cell c=>obtain ⟨o,ho,hd⟩:=r; exact ⟨o,k c o (na c rfl) ho,hd⟩
  | off=>exact r
 ·refine aq fun Z4 kZ4=>?_
  refine (I.new a q).elim fun Zq35 Zq36=>Zq35.elim fun o e=>Zq36.elim fun y z=>?_
  refine kZ4 ?_
  exact ⟨⟨o,k a o (nown a q) e⟩,y,fun w=>z (hs a w)⟩
 ·refine aq fun Z5 kZ5=>?_
  refine (q.2 env m).elim fun hk Zq37=>Zq37.elim fun L Zq38=>Zq38.elim fun o Zq39=>Zq39.elim fun hf Zq40=>Zq40.elim fun hn Zq41=>Zq41.elim fun ho Zq42=>Zq42.elim fun hc hd=>?_
  refine kZ5 ?_
  exact ⟨hk,L,o,hf,hn,k L o (fun z=>hnw L z l env q.1 m hf) ho,hc,hd⟩
theorem Tr.mo (e:Φ'.fx=Φ.fx) (t:Tr (Φ.mo X) s (Φ'.mo X) s'):Tr Φ s Φ' s':=⟨e,t.keep,t.live,t.grow,t.inst⟩
theorem Tr.others {wr:List Addr} {tk:Nat} (t:Tr Φ s₀ Φ' s) (k:∀ b o,b∉wr→s.heap.get? b=some o→h'.get? b=some o) (hw:∀ b∈wr,s₀.heap.get? b=none):Tr Φ s₀ Φ' { s with heap:=h',toks:=tk } where
 fx:=t.fx
 keep:=fun b o e n=>(t.keep b o e n).step fun o' e'=>.of (k b o' (fun m=>au (hw b m) e) e')
 live:=fun b l=>(t.live b l).elim fun o' e'=>⟨o',k b o' (fun m=>l.elim fun o e=>au (hw b m) e) e'⟩
 grow:=t.grow
 inst:=t.inst
theorem gP (h:bx e=true) (x:Value):foldedSetIterable e env x=pure x:=by
 cases e <;> first | rfl | exact nB h
def qH (fx:Fx) (T:Expr) (b:Gs→V→Option Gs):Prop:=∀ X oa G v x G' s,Inv ⟨fx.mo X,oa,G⟩ s→b G x=some G'→(Ct.mk (fx.mo X) oa G).rp s.heap v x→(Ct.mk (fx.mo X) oa G).wp (assign T fx.env v) (fun _ s'=>∃ oa',Inv ⟨fx.mo X,oa',G'⟩ s'∧Tr ⟨fx.mo X,oa,G⟩ s ⟨fx.mo X,oa',G'⟩ s') s
end
theorem Feed.turn {St:Nat→Heap→Prop} (F:Feed g A T I fp wr vals l0 l St) {bad:Addr→Prop} {N:Shared→Prop} {Q:Value→Shared→Prop} {E:Value→Shared→Prop}
  (hx:l[i]?=some x) (st:St i s.heap) (rv:RpAll g bad s.heap vals l0) (hb:∀ a,bad a→aS s.heap a) (hw:∀ b∈wr,bad b)
  (hQ:∀ v h' tk,St (i+1) h'→(∀ b o,b∉wr→s.heap.get? b=some o→h'.get? b=some o)→Rp g bad h' v x→Q v { s with heap:=h',toks:=tk }) :
  wpAny (model g.prog g.w) A (pyNext (.ref I)) (fun r s₁=>match r with | none=>N s₁ | some v=>wpAny (model g.prog g.w) A (letOwnedTupleGo T (.ref I) v) (fun _ s₂=>Q v s₂) E s₁) E s:=
 wpAny_mono (F.item i x s bad Q E hx st rv hb hw hQ) (fun r s₁ Zq1=>Zq1.elim fun v Zq2=>Zq2.elim fun e z=>by subst e; exact z) fun _ _ z=>z
theorem Feed.over {St:Nat→Heap→Prop} (F:Feed g A T I fp wr vals l0 l St) {N:Shared→Prop} {Q:Value→Shared→Prop} {E:Value→Shared→Prop}
  (st:St l.length s.heap) (hN:∀ h' tk,(∀ b o,b∉wr→s.heap.get? b=some o→h'.get? b=some o)→N { s with heap:=h',toks:=tk }) :
  wpAny (model g.prog g.w) A (pyNext (.ref I)) (fun r s₁=>match r with | none=>N s₁ | some v=>wpAny (model g.prog g.w) A (letOwnedTupleGo T (.ref I) v) (fun _ s₂=>Q v s₂) E s₁) E s:=
 wpAny_mono (F.done s N E st hN) (fun r s₁ Zq3=>Zq3.elim fun e z=>by subst e; exact z) fun _ _ z=>z
inductive FLI (fx:Fx) (X:Addr→Prop) (oa:Nat→Option Addr) (G:Gs) (s₀:Shared) (Sp:Nat→Heap→Prop) (vals:List Value) (l0 l:List V) (b:Gs→V→Option Gs) (A:B) (K:Option V→Gs→Prop) (n:Nat) (s':Shared):Prop
 | mk (i:Nat) (oa':Nat→Option Addr) (G':Gs) (en:n=l.length - i) (hi:i≤l.length) (st:Sp i s'.heap) (I':Inv ⟨fx.mo X,oa',G'⟩ s') (t':Tr ⟨fx,oa,G⟩ s₀ ⟨fx,oa',G'⟩ s') (rv:(Ct.mk (fx.mo X) oa' G').rps s'.heap vals l0) (ef:jb b A (l.drop i) G' K):FLI fx X oa G s₀ Sp vals l0 l b A K n s'
theorem vJ [Hm fx] {body:List Stmt} {d:Gs→(List V→Prop)→Prop} {b:Gs→V→Option Gs} (hset:bx iter=true) (hT:qH fx T b) (hsrc:∀ oa G,eW ⟨fx,oa,G⟩ T true iter (d G)) (hb:∀ X,ExB (fx.mo X) (execs body fx.env) A) :
  ExB fx (exec (.For T iter body [] pos) fx.env) (fun G K=>d G fun xs=>jb b A xs G K):=fun oa G K s hd I=>by
 refine wpAny_For (hsrc oa G _ s hd I _ _ fun l s₀ it s₂ kl I₀ k₀ gr fa=>?_) (gP hset)
 obtain ⟨J,fp,wr,vals,l0,Sp,rfl,F,st0,rv,hwr,hfp,hsz⟩:=fa
 have start:Tr ⟨fx,oa,G⟩ s ⟨fx,oa,G⟩ s₀:=.of_keeps k₀
 have wr0:∀ b∈wr,fx.g.h0.get? b=none:=fun b m=>aM (fun l=>I₀.base.stays.live l) (hwr b m)
 let X:Addr→Prop:=fun b=>b∈fp∧s₀.heap.get? b=none
 have wrX:∀ b∈wr,(fx.mo X).Mo b:=fun b m=>.inr ⟨F.sub b m,hwr b m⟩
 have notown:∀ {oa':Nat→Option Addr} {G':Gs} {s':Shared},Inv ⟨fx.mo X,oa',G'⟩ s'→Tr ⟨fx,oa,G⟩ s₀ ⟨fx,oa',G'⟩ s'→∀ b∈fp,¬ (Ct.mk fx oa' G').own b:=fun I' t' b hb q=>by
  cases e:s₀.heap.get? b with
  | none=>exact (I'.new b q).2.2 (.inr ⟨hb,e⟩)
  | some o=>exact ((hfp b hb).resolve_left fun z=>au z e) rfl (.inr (t'.grow b ⟨o,e⟩ q))
 refine codeAny_forLoop_any (FLI fx X oa G s₀ Sp vals l0 l b A K) (fun n s' hLI=>?_) l.length ⟨0,oa,G,rfl,Nat.zero_le _,st0,I₀.more (I₀.base.grown gr) gr.keeps (fun b q=>q.2) fun b q=>(F.live 0 _ b st0 q.1).live,.of_keeps gr.keeps,rv.map (rn (fun b q=>q.2) gr.keeps),kl⟩
 refine aq fun Z kZ=>?_
 obtain ⟨i,oa',G',rfl,hi,st,I',t',rv',ef⟩:=hLI
 cases hx:l[i]? with
 | none=>
  have hil:i=l.length:=Nat.le_antisymm hi (List.getElem?_eq_none_iff.mp hx)
  subst hil
  rw [List.drop_length] at ef
  refine kZ (F.over st fun h' tk hk=>wpAny_execs_nil ?_)
  have I3:Inv ⟨fx,oa',G'⟩ { s' with heap:=h',toks:=tk }:=Inv.others (Φ:=⟨fx.mo X,oa',G'⟩) (Mo₂:=fx.Mo) I' (fun b m=>I'.fr.not (F.live _ _ b st (F.sub b m))) hk wrX wr0 (fun a q=>.inl q) fun a q=>(I'.mo a (.inl q)).elim fun o e=>⟨o,hk a o (fun m=>(I₀.mo a q).elim fun o e=>au (hwr a m) e) e⟩
  exact .next I3 (start.trans (t'.others hk hwr)) ef
 | some x=>
  have hil:=(List.getElem?_eq_some_iff.mp hx).1
  have ed:l.drop i=x :: l.drop (i+1):=by rw [List.drop_eq_getElem_cons hil]; congr 1; exact (List.getElem?_eq_some_iff.mp hx).2
  replace ef:=ed▸ef
  refine kZ (F.turn hx st rv' (fun a q=>I'.badLive q) (fun b m=>.inl (wrX b m)) fun v h' tk st' hk rx=>?_)
  clear kZ
  refine aq fun Z kZ=>?_
  refine ag ef fun G₁ e₁ ef=>?_
  have I3:Inv ⟨fx.mo X,oa',G'⟩ { s' with heap:=h',toks:=tk }:=Inv.others (Φ:=⟨fx.mo X,oa',G'⟩) (Mo₂:=(fx.mo X).Mo) I' (fun b m=>I'.fr.not (F.live _ _ b st (F.sub b m))) hk wrX wr0 (fun a q=>q) fun a q=>by
   by_cases nw:a∈wr
   ·exact (F.live _ _ a st' (F.sub a nw)).live
   ·obtain ⟨o,e⟩:=I'.mo a q
    exact ⟨o,hk a o nw e⟩
  have t3:Tr ⟨fx,oa,G⟩ s₀ ⟨fx,oa',G'⟩ { s' with heap:=h',toks:=tk }:=t'.others hk hwr
  have rv3:(Ct.mk (fx.mo X) oa' G').rps h' vals l0:=rv'.map fun b o e _ n=>⟨n,hk b o (fun m=>n (.inl (wrX b m))) e⟩
  refine kZ (wpAny_mono (hT X oa' G' v x G₁ _ I3 e₁ rx _) (fun _ s₄ Zq4=>Zq4.elim fun oa₄ Zq5=>Zq5.elim fun I4 t4=>?_) fun _ _ z=>z)
  have t04:Tr ⟨fx,oa,G⟩ s₀ ⟨fx,oa₄,G₁⟩ s₄:=t3.trans (t4.mo (Φ:=⟨fx,oa',G'⟩) (Φ':=⟨fx,oa₄,G₁⟩) rfl)
  have st4:Sp (i+1) s₄.heap:=F.frame _ _ _ st' fun b hb o e=>(t4.keep b o e (notown I3 t3 b hb)).get ((F.live _ _ b st' hb).nf e)
  refine wpAny_mono (hb X oa₄ G₁ _ s₄ ef I4) (fun f s₅ ⟨oa₅,G₅,fl,I5,B5,t5,hf,ek⟩=>?_) fun v s₅ ⟨oa₅,G₅,c,e,hv,hc,I5,t5,xa,ek⟩=>nB ek.1
  have t05:Tr ⟨fx,oa,G⟩ s₀ ⟨fx,oa₅,G₅⟩ s₅:=t04.trans (t5.mo (Φ:=⟨fx,oa₄,G₁⟩) (Φ':=⟨fx,oa₅,G₅⟩) rfl)
  cases fl with
  | none=>
   subst hf
   exact ⟨l.length - (i+1),Nat.sub_succ_lt_self _ _ hil,i+1,oa₅,G₅,rfl,hil,F.frame _ _ _ st4 fun b hb o e=>(t5.keep b o e (notown I4 t04 b hb)).get ((F.live _ _ b st4 hb).nf e),I5 (.inl rfl),t05,(rv3.map t4.mapK).map t5.mapK,ek⟩
  | some y=>
   obtain ⟨nx,w,rfl,rw,nv⟩:=hf
   exact ⟨oa₅,G₅,some y,fun q=>q.elim nofun fun q=>(nomatch (Hm.no (fx:=fx)).symm.trans q),B5,start.trans t05,⟨nx,w,rfl,rw.map (sQ (Φ:=⟨fx,oa₅,G₅⟩)),fun q=>(nv q).le fun b l=>t04.live b (k₀.live l)⟩,ek.2⟩
section
variable {fx:Fx}
theorem uc (hT:TgtOk fx.ρ fx.env n k):qH fx (.Name n py) (jV k):=fun X oa G v x G' s I e r E=>by
 (injection e with e; subst e)
 exact wpAny_mono (xO (Φ:=⟨fx.mo X,oa,G⟩) hT I r E) (fun _ s' q=>⟨_,q.1,q.2.1⟩) fun _ _ z=>z
theorem ub [Hm fx] (hT:TgtsOk fx.ρ fx.env es ks):qH fx (.Tuple es kk p) (aW ks):=fun X oa G v x G' s I e r E=>have:Hm (fx.mo X):=⟨Hm.no (fx:=fx)⟩; wpAny_mono (An (Φ:=⟨fx.mo X,oa,G⟩) hT I e r E) (fun _ s' q=>⟨_,q.1,q.2.1⟩) fun _ _ z=>z
theorem qY (hT:TgtOk fx.ρ fx.env n k) (I:Inv ⟨fx,oa,G⟩ s₀) (B:Base fx.g s) (k₀:aF s₀.heap s.heap) (ha:s₀.heap.get? a=none) (hl:aS s.heap a) (hsl:∀ x,sl≠.v x) (hsl':sl≠.unset) (hni:¬ isI sl)
  (ow:∀ h',(∀ b o,s.heap.get? b=some o→¬ (Ct.mk fx oa G).own b→h'.get? b=some o)→gj fx.g ((Ct.mk fx oa G).put k (some a) sl).bad h' a u sl)
  (h:∀ s',Inv ((Ct.mk fx oa G).put k (some a) sl) s'→Tr ⟨fx,oa,G⟩ s₀ ((Ct.mk fx oa G).put k (some a) sl) s'→Q () s'):(Ct.mk fx oa G).wp (storeName fx.env n u) Q s:=fun E=>by
 refine eF (Φ:=⟨fx,oa,G⟩) (I.keep B k₀) hT.lk hT.nf (fun h' tk ps=>?_) E
 refine ps.addr.elim fun c Zq68=>Zq68.elim fun hc Zq69=>Zq69.elim fun hs _=>?_
 have kp:∀ b o,s.heap.get? b=some o→¬ (Ct.mk fx oa G).own b→h'.get? b=some o:=fun b o e nb=>hs.extBut b o (fun q=>nb (.inl ⟨k,q▸hc⟩)) e
 have no:¬ (Ct.mk fx oa G).own a:=fun q=>(I.new a q).1.elim fun o e=>au ha e
 have so:d5 fx.g ((Ct.mk fx oa G).put k (some a) sl).bad h' (some a) (some u) sl:=by
  cases sl with
  | unset=>exact absurd rfl hsl'
  | v x=>exact absurd rfl (hsl x)
  | _=>exact ⟨a,u,rfl,rfl,ow h' kp⟩
 have q:=Inv.put (tk:=tk) I B k₀ ps so (fun b e=>by (injection e with e; subst e); exact ⟨ha,hl.elim fun o e=>⟨o,kp a o e no⟩⟩) hni
 exact h _ q.1 q.2
theorem xo {qs:Gs→List (Expr×DV)} (hT:TgtOk fx.ρ fx.env n k) (he:∀ G,(qs G).map Prod.fst=es) (hq:∀ oa G,∀ q∈qs G,ao q.1=true∧bi ⟨fx,oa,G⟩ q) :
  ExB fx (exec (.Assign [.Name n py] (.List es pos) spos) fx.env) (fun G K=>bo ((qs G).map Prod.snd) fun xs=>xs.length≤ai∧K none (G.set k (.ownL xs))):=fun oa G K s hd I=>by
 rw [exec_Assign_Name _ _ _ _ _ (b7 rfl),arm_eval_List,← he G]
 simp only [bind_assoc]
 refine zC1 (wpAny_standAt (zC1 (wpAny_standAt (zC1 (wpAny_mono (eL (Φ:=⟨fx,oa,G⟩) (hq oa G) _ s hd I _) (fun vs s₁ ⟨B,k₁,xs,⟨hz,hx⟩,rs⟩=>?_) fun _ _ z=>z)))))
 have I₁:=I.keep B k₁
 refine zC1 (wpAny_newObj_type ?_ (by refine (?_:vs.toArray.size≤sizeLine); exact List.size_toArray.symm▸rs.length.symm▸cH hz))
 have gr:=Grown.push s₁ { cls:=.type "list",data:=.seq vs.toArray } s₁.toks
 have hD:s₁.heap.get? s₁.heap.objs.size=none:=ak _
 refine zC1 (wpAny_standAt (zC1 (wpAny_bindName (qY (a:=s₁.heap.objs.size) (sl:=.ownL xs) hT I₁ (B.grown gr) gr.keeps hD ⟨_,Heap.get?_push_size _ rfl⟩ (fun _ q=>nomatch q) (fun q=>nomatch q) id (fun h' kp=>?_) (fun s' I' t'=>zC2 (.next I' ((Tr.of_keeps k₁).trans t') hx)) _))))
 have nb:¬ (Ct.mk fx oa G).own s₁.heap.objs.size:=fun q=>I₁.fresh (.inr q)
 refine ⟨rfl,_,_,_,kp _ _ (Heap.get?_push_size _ rfl) nb,⟨rfl,rfl⟩,rfl,?_⟩
 refine rs.map fun b o e _ n=>⟨fun q=>?_,kp b o (aw _ _ b o e) fun q=>n (.inr q)⟩
 rcases q with q | q
 ·exact n (.inl q)
 ·exact (put_own q).elim (fun q=>by (injection q with q; subst q); exact au hD e) fun q=>n (.inr q)
end
section
variable {fx:Fx}
theorem iK (h:mI value=true):swappedStores [.Tuple es kk p] value env=pure none∧∀ t n,swapsWith value t n env=pure false:=by
 refine ⟨?_,fun t n=>b7 (zA2 h).1⟩
 cases value <;> first | rfl | exact nB h
theorem pZ [Hm fx] {d:Gs→DV} (hs:mI value=true) (hT:TgtsOk fx.ρ fx.env es ks) (h:∀ oa G,Ev ⟨fx,oa,G⟩ (eval value fx.env) (d G)) :
  ExB fx (exec (.Assign [.Tuple es kk p] value spos) fx.env) (fun G K=>d G fun x=>okK (aW ks G x) (K none)):=fun oa G K s hd I=>
 Assign_Tuple (wpAny_mono (h oa G _ s hd I _) (fun v s₁ ⟨B,k₁,x,hx,r⟩=>ag hx fun G' e kG=>wpAny_mono (An (Φ:=⟨fx,oa,G⟩) hT (I.keep B k₁) e r _) (fun _ s₂ q=>.next q.1 ((Tr.of_keeps k₁).trans q.2.1) kG) fun _ _ z=>z) fun _ _ z=>z) ((iK (es:=es) (kk:=kk) (p:=p) hs).2 _ _:swapsWith value (some (.Tuple es kk p)) spos.line fx.env=pure false) (iK hs).1
theorem fN (I:Inv Φ s) (e:getSlot Φ.G k=sl) (h:∀ {g bad h oak v},d5 g bad h oak v sl→∃ a u,oak=some a∧v=some u∧gj g bad h a u sl):∃ a u,Φ.oa k=some a∧aZ s.heap (Φ.fx.pl k) (some u)∧gj Φ.fx.g Φ.bad s.heap a u sl:=by
 obtain ⟨v,pr,so⟩:=I.slot k
 rw [e] at so
 obtain ⟨a,u,ha,rfl,ow⟩:=h so
 exact ⟨a,u,ha,pr,ow⟩
theorem Inv.frz (I:Inv Φ s) (ha:Φ.oa k=some a) (pr:aZ s.heap (Φ.fx.pl k) (some u)) (cv:∀ bad',¬ bad' a→cX Φ.bad bad' s.heap s.heap→Rp Φ.fx.g bad' s.heap u x):Inv (Φ.put k none (.v x)) s∧Tr Φ s (Φ.put k none (.v x)) s:=by
 have hon:k < Φ.G.length:=by
  rw [I.gl]
  refine Nat.lt_of_lt_of_le (Nat.lt_of_not_le fun q=>?_) I.ok.nfs
  rw [I.ok.offs k q] at pr; (injection pr; done)
 have sub:∀ b,(Φ.put k none (.v x)).own b→Φ.own b:=fun b q=>(put_own q).elim (fun (q:none=some b)=>nN q.symm) id
 have mk:cX Φ.bad (Φ.put k none (.v x)).bad s.heap s.heap:=fun b o e _ n=>⟨fun q=>n (q.imp id (sub b)),e⟩
 have na:¬ (Φ.put k none (.v x)).bad a:=fun q=>by
  rcases q with q | q | ⟨j,q⟩
  ·exact (I.new a (.inr ⟨k,ha⟩)).2.2 q
  ·exact q.elim fun j q=>I.off k a ha j q
  ·have q:(if j=k then none else Φ.oa j)=some a:=q
   by_cases e:j=k
   ·rw [if_pos e] at q; (injection q; done)
   ·rw [if_neg e] at q; exact e (I.inj j k a q ha)
 refine ⟨⟨I.ok,I.base,fun j=>?_,fun b q=>I.new b (sub b q),fun i j b e1 e2=>?_,fun j b e i=>?_,?_,I.mo,I.fr⟩,⟨rfl,fun b o e _=>.of e,fun _ l=>l,fun b _ q=>sub b q,jB hon fun q=>q.elim⟩⟩
 ·by_cases e:j=k
  ·subst e
   have e1:(Φ.put j none (.v x)).oa j=none:=if_pos rfl
   have e2:getSlot (Φ.put j none (.v x)).G j=.v x:=bP hon
   rw [e1,e2]
   exact ⟨_,pr,rfl,_,rfl,cv _ na mk⟩
  ·obtain ⟨v,r,so⟩:=I.slot j
   have e1:(Φ.put k none (.v x)).oa j=Φ.oa j:=if_neg e
   have e2:getSlot (Φ.put k none (.v x)).G j=getSlot Φ.G j:=cD e
   rw [e1,e2]
   exact ⟨v,r,so.map mk fun _ _ _ e _=>e⟩
 ·have c1:(if i=k then none else Φ.oa i)=some b:=e1
  have c2:(if j=k then none else Φ.oa j)=some b:=e2
  by_cases h1:i=k
  ·rw [if_pos h1] at c1; (injection c1; done)
  ·by_cases h2:j=k
   ·rw [if_pos h2] at c2; (injection c2; done)
   ·rw [if_neg h1] at c1; rw [if_neg h2] at c2; exact I.inj i j b c1 c2
 ·have c:(if j=k then none else Φ.oa j)=some b:=e
  by_cases h1:j=k
  ·rw [if_pos h1] at c; (injection c; done)
  ·rw [if_neg h1] at c; exact I.off j b c i
 ·refine (?_:(Φ.G.set k _).length=_)
  rw [List.length_set]; exact I.gl
theorem Inv.freeze (I:Inv Φ s) (e:getSlot Φ.G k=.ownL l):Inv (Φ.put k none (.v (.list l))) s∧Tr Φ s (Φ.put k none (.v (.list l))) s:=by
 obtain ⟨a,u,ha,pr,rfl,o,vs,n,ho,hc,hd,hl⟩:=fN I e id
 exact I.frz ha pr fun b na mk=>.list na ho hc hd (hl.map mk)
theorem Inv.freezeD (I:Inv Φ s) (e:getSlot Φ.G k=.ownD l):Inv (Φ.put k none (.v (.dict l))) s∧Tr Φ s (Φ.put k none (.v (.dict l))) s:=by
 obtain ⟨a,u,ha,pr,rfl,o,es,n,ho,hc,hd,hk,r1,r2⟩:=fN I e id
 exact I.frz ha pr fun b na mk=>.dict na (fun q=>I.ok.gr.sysm.elim fun o z=>au (I.new a (.inr ⟨k,ha⟩)).2.1 (q▸z)) ho hc hd hk rfl rfl (r1.map mk) (r2.map mk)
theorem kO (e:iU G k=some l):getSlot G k=.ownD l:=by
 unfold iU at e
 revert e
 cases getSlot G k with
 | ownD m=>exact fun e=>congrArg Slot.ownD (Option.some.inj e)
 | _=>exact fun e=>nN e.symm
theorem pY (h:ExB fx t Y):ExB fx t (fun G K=>okK (iU G k) fun l=>Y (G.set k (.v (.dict l))) K):=fun oa G K s hd I=>ag hd fun l e hk=>by
 have q:=Inv.freezeD (Φ:=⟨fx,oa,G⟩) I (kO e)
 exact wpAny_mono (h _ _ K s hk q.1) (fun _ _ p=>p.lift (Φ:=⟨fx,oa,G⟩) q.2) fun _ _ p=>p.lift (Φ:=⟨fx,oa,G⟩) q.2
theorem tf (h:ExB fx t Y):ExB fx t (fun G K=>okK (bE G k) fun l=>Y (G.set k (.v (.list l))) K):=fun oa G K s hd I=>ag hd fun l e hk=>by
 have q:=Inv.freeze (Φ:=⟨fx,oa,G⟩) I (cF e)
 exact wpAny_mono (h _ _ K s hk q.1) (fun _ _ p=>p.lift (Φ:=⟨fx,oa,G⟩) q.2) fun _ _ p=>p.lift (Φ:=⟨fx,oa,G⟩) q.2
theorem Inv.quiet (I:Inv Φ s):interactive Φ.fx.env=false:=by unfold interactive; rw [I.ok.kind]; rfl
theorem xq {qs:Gs→List (Expr×DV)} (hes:∀ G,(qs G).map Prod.fst=es) (hx:bz fx.env.scope.names n=true) (hf:fx.g.fns.lookup n=some f) (hfn:keepIn fx.g.K (.ref (fx.g.fn f))=true) (hsf:fx.hm=true→fx.g.safe f=true)
  (hq:∀ oa G,∀ q∈qs G,ao q.1=true∧bi ⟨fx,oa,G⟩ q):ExB fx (exec (.Expr (.Call (.Name n fp) es [] cpos) pos) fx.env) (fun G K=>bo ((qs G).map Prod.snd) fun xs=>am fx.g.P fx.d f xs fun y=>if noX y=true then isNone y=true∧K none G else K (some y) G):=fun oa G K s hd I=>by
 rw [← hes G]
 refine wpAny_Expr (sd (Φ:=⟨fx,oa,G⟩) hx hf hfn hsf (hq oa G) hd I (fun v s' y I' k hy nx r _=>?_) fun s' c e I' k hc hy x=>⟨oa,G,c,e,rfl,hc,I',.of_keeps k,x,hy⟩) I.quiet rfl
 rw [if_pos nx] at hy
 cases y with
 | none=>exact r.none_elim (.next (Φ:=⟨fx,oa,G⟩) I' (.of_keeps k) hy.2)
 | _=>(injection hy.1; done)
theorem gY (o:Obj) (f:Array Value→Array Value):(o.mapSeq f).dict=o.dict:=by
 obtain ⟨c,d,dt,sl⟩:=o; cases dt <;> rfl
theorem tu {E:Value→Shared→Prop} {Q:Value→Shared→Prop} (ho:s.heap.get? l=some o) (hc:o.cls=.type "list"∧o.dict=none) (hd:o.data=.seq items n) (hsz:items.size≤sizeLine)
  (hQ:∀ h' o' n',h'.get? l=some o'→o'.cls=.type "list"∧o'.dict=none→o'.data=.seq (items.push x) n'→Heap.SameBut l s.heap h'→Q .none { s with heap:=h' }):wpAny (model prog w) A (call (.builtin "list.append") [.ref l,x]) Q E s:=by
 obtain ⟨n',hd'⟩:=Obj.data_mapSeq hd (·.push x)
 refine wpAny_call_entry slot_list_append ⟨o,ho,hc.1⟩ entry_list_append ?_ (args_list_append _ _)
 refine (?_:wpAny _ _ (updateSeq l (·.push x) >>= fun _=>ret .none) _ _ s)
 exact zC1 (wpAny_updateSeq ho hd (zC2 ⟨.none,rfl,hQ _ _ n' (Heap.get?_update_self _ ho (Obj.isFreed_of_seq hd')) ⟨(Obj.cls_mapSeq ..).trans hc.1,(gY ..).trans hc.2⟩ hd' (Heap.SameBut.update ..)⟩))
theorem tg {d:Gs→DV} (hx:fx.ρ.lookup n=some k) (hn:aV n=true) (hp:ao e=true) (hline:(apos.endLine==pos.line)=true) (h:∀ oa G,Ev ⟨fx,oa,G⟩ (eval e fx.env) (d G)) :
  ExB fx (exec (.Expr (.Call (.Attribute (.Name n np) "append" apos) [e] [] pos) spos) fx.env) (fun G K=>okK (bE G k) fun l=>d G fun x=>l.length < ai∧K none (G.set k (.ownL (l++[x])))):=fun oa G K s hd I=>ag hd fun l el hd=>by
 refine wpAny_Expr ?_ I.quiet rfl
 obtain ⟨a,u,ha,pr,rfl,o,vs,m,ho,hc,hd',hl⟩:=fN I (cF el) id
 refine wpAny_Call_method (T:="list") (id:="list.append") (bX rfl) ?_ hline PySem.F.plainAttrs_list slot_list_append type_list_append (cu (Φ:=⟨fx,oa,G⟩) I.ok hx hn pr ⟨⟨o,ho,hc.1⟩,fun a q=>by cases q; exact ⟨o,ho,hc.2⟩,?_⟩ _)
 ·rw [aN hp]; rfl
 refine callWith_builtin (by rw [aN hp]; rfl) ?_
 refine cW (Φ:=⟨fx,oa,G⟩) (qs:=[(e,d G)]) (K:=fun xs=>okK (one xs some) fun x=>l.length < ai∧K none (G.set k (.ownL (l++[x])))) (fun q m=>by cases zA6 m; exact ⟨hp,h oa G⟩) hd I fun ws xs s₁ I₁ k₁ hx rs=>ag hx fun x e hk=>?_
 refine eH (Φ:=⟨fx,oa,G⟩) (C:=fun ws=>wpAny _ _ (call (.builtin "list.append") ([.ref a]++ws) []) _ _ s₁) e rs fun w y r e=>?_
 cases e
 refine tu (k₁.get ho (aK hc.1)) hc hd' (cH (by rw [aP (Φ:=⟨fx,oa,G⟩) hl]; exact Nat.le_of_lt hk.1)) fun h' o' n' ho' hc' hd'' hs=>?_
 have mk:cX (Ct.mk fx oa G).bad (Ct.mk fx oa G).bad s₁.heap h':=fun b o e _ nb=>⟨nb,hs.extBut b o (fun q=>nb (.inr (.inr ⟨k,q▸ha⟩))) e⟩
 have q:=Inv.mutate (Φ:=⟨fx,oa,G⟩) (sl:=.ownL (l++[x])) (tk:=s₁.toks) I₁ ha (pr.keep k₁) ⟨o,k₁.get ho (aK hc.1),aK hc.1⟩ hs ⟨_,ho'⟩ ⟨rfl,o',_,n',ho',hc',hd'',by rw [Array.toList_push]; exact ((hl.keep k₁).map mk).append (.cons (r.map mk) .nil)⟩ (fun _ q=>nomatch q) (fun q=>nomatch q) fun q=>q.elim
 exact .next (Φ:=⟨fx,oa,G⟩) q.1 ((Tr.of_keeps k₁).trans q.2) hk.2
end
section
variable {prog:Program} {w:World} {A:Around} {R:Result→Shared→Prop} {s:Shared}
theorem lC (I:Nat→Shared→Prop)
  (turn:∀ n s,I n s→wpAny (model prog w) A (pyNext it) (fun r s₁=>match r with
   | none=>R (.ok .next) s₁
   | some v=>wpAny (model prog w) A (letOwnedTupleGo target it v) (fun _ s₁'=>wpAny (model prog w) A (assign target env v) (fun _ s₂=>
     wpAny (model prog w) A (forIn ifs true fun c r=>if r=true then do let ok ← isTrue c env (eval c env); pure (ForInStep.yield ok) else pure (ForInStep.yield r)) (fun ok s₃=>
      if ok=true then wpAny (model prog w) A (eval elt env) (fun x s₄=>
       wpAny (model prog w) A (call (.builtin "list.append") [acc,x]) (fun _ s₅=>∃ m,m < n∧I m s₅) (notedBy (model prog w) A env fun e s'=>R (.error e) s') s₄) (notedBy (model prog w) A env fun e s'=>R (.error e) s') s₃
      else ∃ m,m < n∧I m s₃) (notedBy (model prog w) A env fun e s'=>R (.error e) s') s₂) (notedBy (model prog w) A env fun e s'=>R (.error e) s') s₁') (notedBy (model prog w) A env fun e s'=>R (.error e) s') s₁) (notedBy (model prog w) A env fun e s'=>R (.error e) s') s)
  (n:Nat) (h:I n s):codeAny (model prog w) A (.compLoop (.ListComp elt [⟨target,iter,ifs,0⟩] scope pos) 0 it acc env) R s:=by
 refine codeAny_loop rfl I (fun n s hI=>?_) n h
 (refine (?_:wpAny _ A ((compTurn (.ListComp elt [⟨target,iter,ifs,0⟩] scope pos) 0 it acc env).onRaise (fun x=>do noteFrame x env; theTreesLotGoes x)) _ _ s))
 refine wpAny_noted ?_
 rw [compTurn_list]
 refine zC1 (wpAny_standAt (zC1 (wpAny_mono (turn n s hI) (fun r s₁ h₁=>?_) fun _ _ h'=>h')))
 cases r with
 | none=>exact wpAny_pure h₁
 | some v=>
  refine zC1 (wpAny_mono h₁ (fun _ s₁' h₁'=>?_) fun _ _ h'=>h')
  refine zC1 (wpAny_mono h₁' (fun _ s₂ h₂=>zC1 (wpAny_mono h₂ (fun ok s₃ h₃=>?_) fun _ _ h'=>h')) fun _ _ h'=>h')
  cases ok with
  | false=>exact zC2 ⟨rfl,h₃⟩
  | true=>
   exact zC1 (zC1 (wpAny_mono h₃ (fun x s₄ h₄=>zC1 (wpAny_mono h₄ (fun _ s₅ h₅=>zC2 (zC2 ⟨rfl,h₅⟩)) fun _ _ h'=>h')) fun _ _ h'=>h'))
end
noncomputable def dT (ifs:List Expr) (env:Env):Sem Bool:=forIn ifs true fun c r=>if r=true then do let ok ← isTrue c env (eval c env); pure (ForInStep.yield ok) else pure (ForInStep.yield r)
theorem gT (env:Env):∀ ifs:List Expr,(forIn ifs false fun c r=>if r=true then do let ok ← isTrue c env (eval c env); pure (ForInStep.yield ok) else pure (ForInStep.yield r):Sem Bool)=pure false
 | []=>rfl
 | c :: r=>by
  rw [List.forIn_cons]
  simp only [Bool.false_eq_true,if_false,pure_bind]
  exact gT env r
theorem cM (hk:env.scope.kind=.function):(relabel scope env).names=g9 env.scope.names scope.names:=by
 unfold relabel g9
 simp only [hk]
 apply List.map_congr_left
 rintro ⟨n,k⟩ _
 have:(ScopeKind.function==ScopeKind.function)=true:=by decide
 simp only [this,Bool.and_true]
 rfl
theorem relab_lookup (sc:List (Str×NameKind)):∀ (names:List (Str×NameKind)) (x:Str),(g9 sc names).lookup x=(names.lookup x).map fun k=>if k==.free&&sc.lookup x==some .cell then .cell else k
 | [],x=>rfl
 | (n,k) :: r,x=>by
  have ih:=relab_lookup sc r x
  have e:g9 sc ((n,k) :: r)=(n,if k==.free&&sc.lookup n==some .cell then .cell else k) :: g9 sc r:=by
   unfold g9
   rw [List.map_cons]
   congr 1
   show (if _ then (n,NameKind.cell) else (n,k))=_
   split <;> rfl
  rw [e,List.lookup_cons,List.lookup_cons]
  cases hx:x==n with
  | true=>have:=beq_iff_eq.mp hx; subst this; rfl
  | false=>exact ih
noncomputable def clOf (cells:List (Str×Addr)):List (Str×NameKind)→List (Str×Addr)→List (Str×Addr)
 | [],acc=>acc
 | (n,k) :: r,acc=>clOf cells r (if k==.free then (n,(cells.lookup n).getD 0) :: acc else acc)
def mO (cells:List (Str×Addr)) (names:List (Str×NameKind)):Prop:=∀ n,(n,NameKind.free)∈names→∃ c,cells.lookup n=some c
theorem jk (h:mO env.cells scope.names):closureFor scope env=pure (clOf env.cells scope.names []):=by
 unfold closureFor
 suffices ∀ (names:List (Str×NameKind)) (acc:List (Str×Addr)),mO env.cells names→(do
   let r ← forIn names acc fun x r=>match x with
    | (name,kind)=>if (kind==NameKind.free)=true then do let c ← cellOf env name; pure (ForInStep.yield ((name,c) :: r)) else pure (ForInStep.yield r)
   pure r:Sem (List (Str×Addr)))=pure (clOf env.cells names acc) by
  simpa using this scope.names [] h
 intro names
 induction names with
 | nil=>intro acc _; rfl
 | cons p r ih=>
  obtain ⟨n,k⟩:=p
  intro acc hf
  rw [List.forIn_cons]
  have hr:mO env.cells r:=fun m q=>hf m (.tail _ q)
  by_cases hk:k=.free
  ·subst hk
   obtain ⟨c,hc⟩:=hf n (.head _)
   have e1:cellOf env n=pure c:=by unfold cellOf; rw [hc]
   have:=ih ((n,c) :: acc) hr
   simp only [beq_self_eq_true,if_true,e1,pure_bind,clOf,hc,Option.getD_some] at this ⊢
   exact this
  ·have hb:(k==NameKind.free)=false:=by simpa using hk
   have:=ih acc hr
   simp only [hb,Bool.false_eq_true,if_false,pure_bind,clOf] at this ⊢
   exact this
theorem gi (cells:List (Str×Addr)):∀ (names:List (Str×NameKind)) (acc:List (Str×Addr)) (x:Str) (c:Addr),cells.lookup x=some c→((x,NameKind.free)∈names∨acc.lookup x=some c)→(∀ d,acc.lookup x=some d→d=c)→(clOf cells names acc).lookup x=some c
 | [],acc,x,c,_,h,_=>by rcases h with h | h; cases h; exact h
 | (n,k) :: r,acc,x,c,hc,h,ha=>by
  unfold clOf
  by_cases hk:k=.free
  ·subst hk
   simp only [beq_self_eq_true,if_true]
   by_cases hx:x=n
   ·subst hx
    refine gi cells r _ x c hc (.inr ?_) fun d hd=>?_
    ·simp [hc]
    ·simp only [List.lookup_cons,beq_self_eq_true,hc,Option.getD_some,Option.some.injEq] at hd; exact hd.symm
   ·have hb:(x==n)=false:=by simpa using hx
    refine gi cells r _ x c hc ?_ fun d hd=>?_
    ·rcases h with h | h
     ·rcases List.mem_cons.mp h with q | q
      ·(injection q with q; subst q); exact absurd rfl hx
      ·exact .inl q
     ·exact .inr (by rw [List.lookup_cons,hb]; exact h)
    ·rw [List.lookup_cons,hb] at hd; exact ha d hd
  ·have hb:(k==NameKind.free)=false:=by simpa using hk
   simp only [hb,Bool.false_eq_true,if_false]
   refine gi cells r acc x c hc ?_ ha
   rcases h with h | h
   ·rcases List.mem_cons.mp h with q | q
    ·cases q; exact absurd rfl hk
    ·exact .inl q
   ·exact .inr h
theorem iZ:∀ {l:List (Str×α)} {n:Str} {c:α},l.lookup n=some c→(n,c)∈l
 | (k,v) :: r,n,c,h=>by
  rw [List.lookup_cons] at h
  cases hb:n==k with
  | true=>replace h:=hb▸h; (injection h with h; subst h); rw [beq_iff_eq.mp hb]; exact .head _
  | false=>rw [hb] at h; exact .tail _ (iZ h)
theorem cQ {p:Str→Bool}:∀ {l:List (Str×Nat)} {x:Str} {k:Nat},(l.filter fun q=>p q.1).lookup x=some k→p x=true∧l.lookup x=some k
 | [],_,_,h=>by simp at h
 | (n,v) :: r,x,k,h=>by
  replace h:=List.filter_cons▸h
  split at h
  ·rename_i hp
   rw [List.lookup_cons] at h ⊢
   cases hx:x==n with
   | true=>replace h:=hx▸h; (injection h with h; subst h); have:=beq_iff_eq.mp hx; subst this; exact ⟨hp,rfl⟩
   | false=>rw [hx] at h; exact cQ h
  ·rename_i hp
   obtain ⟨h1,h2⟩:=cQ h
   refine ⟨h1,?_⟩
   rw [List.lookup_cons]
   cases hx:x==n with
   | true=>have:=beq_iff_eq.mp hx; subst this; exact absurd h1 (by exact hp)
   | false=>exact h2
theorem nA:∀ {qs:List (Expr×DV)},(∀ q∈qs,EvT Φ (isTrue q.1 Φ.fx.env (eval q.1 Φ.fx.env)) (tst q.2))→EvT Φ (dT (qs.map Prod.fst) Φ.fx.env) (oS true (qs.map Prod.snd))
 | [],_=>fun K s hd I=>EvR.pure (a:=true) I hd rfl
 | q :: r,h=>fun K s hd I=>by
  have e:dT ((q :: r).map Prod.fst) Φ.fx.env=(isTrue q.1 Φ.fx.env (eval q.1 Φ.fx.env) >>= fun ok=>if ok then dT (r.map Prod.fst) Φ.fx.env else pure false):=by
   unfold dT
   rw [List.map_cons,List.forIn_cons]
   simp only [if_true,bind_assoc,pure_bind]
   congr 1
   funext ok
   cases ok
   ·exact gT _ _
   ·rfl
  rw [e]
  refine (h q (.head _)).bind (K₁:=fun c=>if c=true then oS true (r.map Prod.snd) K else K c) hd I fun t c s₁ I₁ k₁ hk e=>?_
  subst e
  cases t
  ·exact EvR.pure I₁ hk rfl
  ·exact nA (fun x m=>h x (.tail _ m)) K s₁ hk I₁
noncomputable def cpl (fx:Fx) (C:Addr) (x x':Str) (k:Nat):Pl:=if k=fx.nf then .ns C x else if k=fx.nf+1 then (if x'=x then .off else .ns C x') else fx.pl k
noncomputable def aC (fx:Fx) (scope:Scope) (C:Addr) (x x':Str) (X:Addr→Prop):Fx:=
 { fx with env:=compEnvC scope (clOf fx.env.cells scope.names []) C fx.env,ρ:=(x,fx.nf) :: (x',fx.nf+1) :: fx.ρ.filter (fun p=>scope.names.lookup p.1==some .free),nf:=fx.nf+2,Mo:=fun b=>fx.Mo b∨X b,pl:=cpl fx C x x' }
structure CompOk (fx:Fx) (scope:Scope) (x x':Str):Prop where
 kind:scope.kind=.function
 loc:scope.names.lookup x=some .local
 loc':scope.names.lookup x'=some .local
 nocell:∀ y∈scope.names,y.2≠.cell
 names:∀ y∈scope.names,y.2=.local→scope.names.lookup y.1=some .local
 free:∀ n,(n,NameKind.free)∈scope.names→fx.env.kindOf n=some .cell∨fx.env.kindOf n=some .free
 cells:mO fx.env.cells scope.names
 room:fx.nf+2≤fx.ns
section
variable {Φ:Ct} {s s₀ s₂:Shared} {X:Addr→Prop} {scope:Scope} {x x':Str} {C:Addr}
theorem cpl_c (fx:Fx) (C:Addr) (x x':Str) (k:Nat):(k=fx.nf∧cpl fx C x x' k=.ns C x)∨(k=fx.nf+1∧x'≠x∧cpl fx C x x' k=.ns C x')∨(k=fx.nf+1∧cpl fx C x x' k=.off)∨cpl fx C x x' k=fx.pl k:=by
 unfold cpl
 by_cases h:k=fx.nf
 ·exact .inl ⟨h,if_pos h⟩
 ·rw [if_neg h]
  by_cases h':k=fx.nf+1
  ·rw [if_pos h']
   by_cases e:x'=x
   ·exact .inr (.inr (.inl ⟨h',if_pos e⟩))
   ·exact .inr (.inl ⟨h',e,if_neg e⟩)
  ·exact .inr (.inr (.inr (if_neg h')))
theorem rZ (ho:∀ k,fx.nf≤k→fx.pl k=.off) (h:fx.pl k≠.off):cpl fx C x x' k=fx.pl k:=by
 have:k < fx.nf:=Nat.lt_of_not_le fun q=>h (ho k q)
 unfold cpl
 rw [if_neg (Nat.ne_of_lt this),if_neg (Nat.ne_of_lt (Nat.lt_succ_of_lt this))]
theorem compFx_addr (h:((aC fx scope C x x' X).pl k).addr=some a):a=C∨(fx.pl k).addr=some a:=by
 have h:(cpl fx C x x' k).addr=some a:=h
 rcases cpl_c fx C x x' k with ⟨_,e⟩ | ⟨_,_,e⟩ | ⟨_,e⟩ | e <;> replace h:=e▸h
 ·(injection h with h; subst h); exact .inl rfl
 ·(injection h with h; subst h); exact .inl rfl
 ·(injection h; done)
 ·exact .inr h
theorem CompOk.toFx (c:CompOk fx scope x x') (ok:FxOk fx) (hC:∀ j,(fx.pl j).addr≠some C) (hX0:∀ b,X b→fx.g.h0.get? b=none):FxOk (aC fx scope C x x' X) where
 gr:=ok.gr
 hand:=ok.hand
 kind:=c.kind
 globals:=ok.globals
 builtins:=ok.builtins
 vis:=fun y k hy=>by
  have kn:∀ y,(aC fx scope C x x' X).env.kindOf y=(g9 fx.env.scope.names scope.names).lookup y:=fun y=>by
   refine (?_:(relabel scope fx.env).names.lookup y=_)
   rw [cM ok.kind]
  have hy:((x,fx.nf) :: (x',fx.nf+1) :: fx.ρ.filter (fun p=>scope.names.lookup p.1==some .free)).lookup y=some k:=hy
  rw [List.lookup_cons] at hy
  cases hb:y==x with
  | true=>
   replace hy:=hb▸hy; (injection hy with hy; subst hy)
   cases eq_of_beq hb
   exact .inl ⟨by rw [kn,relab_lookup,c.loc]; rfl,if_pos rfl⟩
  | false=>
   rw [hb] at hy
   replace hy:((x',fx.nf+1) :: fx.ρ.filter (fun p=>scope.names.lookup p.1==some .free)).lookup y=some k:=hy
   rw [List.lookup_cons] at hy
   cases hb':y==x' with
   | true=>
    replace hy:=hb'▸hy; (injection hy with hy; subst hy)
    cases eq_of_beq hb'
    refine .inl ⟨by rw [kn,relab_lookup,c.loc']; rfl,?_⟩
    refine (?_:cpl fx C x x' (fx.nf+1)=.ns C x')
    unfold cpl
    rw [if_neg (Nat.succ_ne_self _),if_pos rfl,if_neg fun q=>by rw [q,beq_self_eq_true] at hb; (injection hb; done)]
   | false=>
    rw [hb'] at hy
    obtain ⟨hf,hk⟩:=cQ (p:=fun y=>scope.names.lookup y==some .free) hy
    have hf:=eq_of_beq hf
    have hm:=iZ hf
    right
    refine ⟨?_,?_⟩
    ·rw [kn,relab_lookup,hf]
     simp only [Option.map_some,beq_self_eq_true,Bool.true_and]
     split
     ·exact .inl rfl
     ·exact .inr rfl
    ·obtain ⟨cc,hcc⟩:=c.cells y hm
     refine ⟨cc,gi _ _ _ _ _ hcc (.inl hm) (fun d hd=>by (injection hd; done)),?_⟩
     rcases ok.vis y k hk with ⟨q,_⟩ | ⟨_,c',hc',hp⟩
     ·rcases c.free y hm with q' | q' <;> rw [q] at q' <;> cases q'
     ·replace hc':=hcc▸hc'; (injection hc' with hc'; subst hc')
      exact (rZ ok.offs (by exact hp.symm▸nofun)).trans hp
 inj:=fun k j e hne=>by
  have e:cpl fx C x x' k=cpl fx C x x' j:=e
  have hne:cpl fx C x x' k≠.off:=hne
  have no:∀ j y,Pl.ns C y≠fx.pl j:=fun j y q=>hC j (by rw [← q]; rfl)
  rcases cpl_c fx C x x' k with ⟨h1,e1⟩ | ⟨h1,n1,e1⟩ | ⟨_,e1⟩ | e1 <;> rcases cpl_c fx C x x' j with ⟨h2,e2⟩ | ⟨h2,n2,e2⟩ | ⟨_,e2⟩ | e2 <;>
   first | exact h1.trans h2.symm | exact absurd e1 hne | exact absurd (e.trans e2) hne | (replace e:=e2▸e1▸e; first | (cases e; exact absurd rfl n1) | (cases e; exact absurd rfl n2) | exact absurd e (no _ _) | exact absurd e.symm (no _ _) | exact ok.inj k j e (e1▸hne))
 apart:=fun k j a y cc e1 e2=>by
  have e1:cpl fx C x x' k=.ns a y:=e1
  have e2:cpl fx C x x' j=.cell cc:=e2
  have e2:fx.pl j=.cell cc:=by
   rcases cpl_c fx C x x' j with ⟨_,q⟩ | ⟨_,_,q⟩ | ⟨_,q⟩ | q
   ·exact nomatch q.symm.trans e2
   ·exact nomatch q.symm.trans e2
   ·exact nomatch q.symm.trans e2
   ·exact q.symm.trans e2
  have oth:a=C→a≠cc:=fun z q=>hC j (by rw [e2,← z,q]; rfl)
  rcases cpl_c fx C x x' k with ⟨_,q⟩ | ⟨_,_,q⟩ | ⟨_,q⟩ | q <;> replace e1:=q▸e1
  ·(injection e1 with e1; subst e1); exact oth rfl
  ·(injection e1 with e1; subst e1); exact oth rfl
  ·(injection e1; done)
  ·exact ok.apart k j a y cc e1 e2
 offs:=fun k hk=>by
  have hk:fx.nf+2≤k:=hk
  have a:k≠fx.nf:=Nat.ne_of_gt (Nat.lt_of_lt_of_le (Nat.lt_add_of_pos_right (by decide)) hk)
  have b:k≠fx.nf+1:=Nat.ne_of_gt hk
  exact (if_neg a).trans ((if_neg b).trans (ok.offs k (zB1 (Nat.le_add_right _ _) hk)))
 nfs:=c.room
 room:=ok.room
 units:=ok.units
 call:=ok.call
 mo0:=fun a q=>q.elim (ok.mo0 a) (hX0 a)
theorem comp_own (q:(Ct.mk (aC Φ.fx scope C x x' X) oa G).own a) (h:oa=Φ.oa):a=C∨Φ.own a:=by
 subst h
 rcases q with ⟨j,q⟩ | q
 ·exact (compFx_addr q).imp id fun q=>.inl ⟨j,q⟩
 ·exact .inr (.inr q)
theorem ut (I:Inv Φ s) (q:Φ.own a):(Ct.mk (aC Φ.fx scope C x x' X) Φ.oa Φ.G).own a:=by
 rcases q with ⟨j,q⟩ | q
 ·exact .inl ⟨j,by refine (?_:(cpl Φ.fx C x x' j).addr=some a); rw [rZ I.ok.offs fun e=>by replace q:=e▸q; (injection q; done)]; exact q⟩
 ·exact .inr q
theorem Inv.comp (c:CompOk Φ.fx scope x x') (I:Inv Φ s₀) (B:Base Φ.fx.g s) (k:aF s₀.heap s.heap) (hX:∀ b,X b→s₀.heap.get? b=none∧aS s.heap b∧b≠C) (hC0:s₀.heap.get? C=none) (hC:s.heap.Ns C fun _=>none) :
  Inv ⟨aC Φ.fx scope C x x' X,Φ.oa,Φ.G⟩ s∧cX Φ.bad (Ct.mk (aC Φ.fx scope C x x' X) Φ.oa Φ.G).bad s₀.heap s.heap:=by
 have hCl:aS s.heap C:=by obtain ⟨o,_,_,e,_⟩:=hC; exact ⟨o,e⟩
 have hCp:∀ j,(Φ.fx.pl j).addr≠some C:=fun j e=>(I.new C (.inl ⟨j,e⟩)).1.elim fun o e=>au hC0 e
 have mk:cX Φ.bad (Ct.mk (aC Φ.fx scope C x x' X) Φ.oa Φ.G).bad s₀.heap s.heap:=fun b o e f n=>by
  refine ⟨fun q=>?_,k.get e f⟩
  rcases q with (q | q) | q
  ·exact n (.inl q)
  ·exact au (hX b q).1 e
  ·exact (comp_own (Φ:=Φ) q rfl).elim (fun q=>au hC0 (q▸e)) fun q=>n (.inr q)
 refine ⟨⟨c.toFx I.ok hCp fun b q=>aM (fun l=>I.base.stays.live l) (hX b q).1,B,fun j=>?_,fun a q=>?_,I.inj,fun j a e i q=>?_,I.gl,fun a q=>q.elim (fun q=>k.live (I.mo a q)) fun q=>(hX a q).2.1,I.fr.keep k⟩,mk⟩
 ·obtain ⟨v,r,so⟩:=I.slot j
  have so':=so.map mk fun a _ o e f=>k.get e f
  refine ⟨v,?_,so'⟩
  refine (?_:aZ s.heap (cpl Φ.fx C x x' j) v)
  have vn:Φ.fx.nf≤j→v=none:=fun q=>by rw [I.ok.offs j q] at r; exact r
  rcases cpl_c Φ.fx C x x' j with ⟨h,e⟩ | ⟨h,_,e⟩ | ⟨h,e⟩ | e <;> refine e.symm▸?_
  ·rw [vn (zB2 h.symm)]; exact ⟨_,hC,rfl⟩
  ·rw [vn (h▸Nat.le_succ _)]; exact ⟨_,hC,rfl⟩
  ·exact vn (h▸Nat.le_succ _)
  ·exact r.keep k
 ·rcases comp_own (Φ:=Φ) q rfl with rfl | q
  ·exact ⟨hCl,aM (fun l=>I.base.stays.live l) hC0,fun z=>z.elim (fun z=>(I.mo a z).elim fun o e=>au hC0 e) fun z=>(hX a z).2.2 rfl⟩
  ·obtain ⟨⟨o,e⟩,n,m⟩:=I.new a q
   exact ⟨(k a o e).live,n,fun z=>z.elim m fun z=>au (hX a z).1 e⟩
 ·rcases compFx_addr q with rfl | q
  ·exact (I.new a (.inr ⟨j,e⟩)).1.elim fun o e=>au hC0 e
  ·exact I.off j a e i q
end
theorem fW {h h':Heap} {D:Addr} {vs:Array Value} (p:h.PlainList D vs) (k:∀ o,h.get? D=some o→h'.get? D=some o):h'.PlainList D vs:=p.elim fun c e=>⟨c,k _ e⟩
theorem jC {h:Heap} {D:Addr} {vs:Array Value} (p:h.PlainList D vs):dL h D:=p.elim fun c e=>⟨_,e,aK rfl⟩
theorem iP {h:Heap} {D:Addr} {vs:Array Value} (p:h.PlainList D vs):aS h D:=p.elim fun c e=>⟨_,e⟩
theorem uo {Φ:Ct} {k:Nat} {sl:Slot} (h:Φ.oa k=none):Φ.put k none sl=⟨Φ.fx,Φ.oa,Φ.G.set k sl⟩:=by
 unfold Ct.put
 congr 1
 funext j
 by_cases e:j=k
 ·rw [if_pos e,e,h]
 ·exact if_neg e
section
variable {Φ:Ct} [Hm Φ.fx] {s s₀ s₂:Shared} {scope:Scope} {x x':Str}
inductive CompEnd (Φ:Ct) (s₀:Shared) (K:List V→Prop) (D C:Addr) (s':Shared):Prop
 | mk:∀ m ys,Base Φ.fx.g s'→aF s₀.heap s'.heap→s₀.heap.get? C=none→s₀.heap.get? D=none→D≠C→s'.heap.Ns C m→K ys→∀ vs,s'.heap.PlainList D vs→RpAll Φ.fx.g (fun b=>Φ.bad b∨b=C) s'.heap vs.toList ys→CompEnd Φ s₀ K D C s'
def mY (Φ:Ct) (scope:Scope) (T:Expr) (x x':Str) (b:Gs→V→Option Gs):Prop:=(∀ G y G₁ z,b G y=some G₁→b G₁ z=b G z) ∧
 ∀ C X G G₁ v y s,Φ.fx.env.scope.kind=.function→(∀ k,Φ.fx.nf≤k→Φ.oa k=none)→Inv ⟨aC Φ.fx scope C x x' X,Φ.oa,G⟩ s→b G y=some G₁→(Ct.mk (aC Φ.fx scope C x x' X) Φ.oa G).rp s.heap v y →
  (Ct.mk (aC Φ.fx scope C x x' X) Φ.oa G).wp (assign T (aC Φ.fx scope C x x' X).env v) (fun _ s'=>Inv ⟨aC Φ.fx scope C x x' X,Φ.oa,G₁⟩ s'∧∀ b o,b≠C→s.heap.get? b=some o→s'.heap.get? b=some o) s
inductive CLC (Φ:Ct) (cfx:Fx) (s₀:Shared) (Sp:Nat→Heap→Prop) (vals:List Value) (l0 l:List V) (Da:Addr) (de:D) (ts:List D) (b:Gs→V→Option Gs) (K:List V→Prop) (n:Nat) (s':Shared):Prop
 | mk (i:Nat) (G':Gs) (zs:List V) (vs:Array Value) (en:n=l.length - i) (hi:i≤l.length) (st:Sp i s'.heap) (I':Inv ⟨cfx,Φ.oa,G'⟩ s') (hG:∀ z,b G' z=b Φ.G z) (kx:aF s₀.heap s'.heap) (rv:(Ct.mk cfx Φ.oa Φ.G).rps s'.heap vals l0)
   (hD:s'.heap.PlainList Da vs) (rz:(Ct.mk cfx Φ.oa Φ.G).rps s'.heap vs.toList zs) (hz:zs.length≤i) (ec:jh de ts b Φ.G (l.drop i) fun ys=>K (zs++ys)):CLC Φ cfx s₀ Sp vals l0 l Da de ts b K n s'
theorem k9 {elt iter T:Expr} {b:Gs→V→Option Gs} {ifs:List Expr} {pos:Pos} {l:List V} {it:Value} {de:D} {ts:List D} {K:List V→Prop} {RR:Value→Addr→Result→Shared→Prop} {E:Value→Shared→Prop}
  (c:CompOk Φ.fx scope x x') (I₀:Inv Φ s₀) (gr:Grown s₀ s₂) (fa:FeedAt Φ T false s₀ s₂ it l)
  (helt:∀ C X oa G,Ev ⟨aC Φ.fx scope C x x' X,oa,G⟩ (eval elt (aC Φ.fx scope C x x' X).env) (de G))
  (htest:∀ C X oa G,EvT ⟨aC Φ.fx scope C x x' X,oa,G⟩ (dT ifs (aC Φ.fx scope C x x' X).env) (ci true ts G))
  (hT:mY Φ scope T x x' b) (er:jh de ts b Φ.G l K)
  (hK:∀ D C s',CompEnd Φ s₀ K D C s'→RR (.ref D) C (.ok .next) s') :
  wpAny (model Φ.fx.g.prog Φ.fx.g.w) Φ.fx.A (newList []) (fun acc s₃=>wpAny (model Φ.fx.g.prog Φ.fx.g.w) Φ.fx.A (newFunctionEnv scope Φ.fx.env.globals (clOf Φ.fx.env.cells scope.names []) [] Φ.fx.env.qual none .none (some Φ.fx.env)) (fun cenv s₄=>
   codeAny (model Φ.fx.g.prog Φ.fx.g.w) Φ.fx.A (.compStart (.ListComp elt [⟨T,iter,ifs,0⟩] scope pos) 0 it acc { cenv with scope:=relabel scope Φ.fx.env }) (RR acc cenv.locals) s₄) E s₃) E s₂:=by
 refine aq fun Z kZ=>?_
 obtain ⟨J,fp,wr,vals,l0,Sp,rfl,F,st0,rv,hwr,hfp,hsz⟩:=fa
 refine kZ (wpAny_newObj_type (wpAny_newFunctionEnv c.nocell (fun y hy=>nM hy) (fun h₁ hns₁ hsb₁=>?_) c.kind))
 clear kZ
 dsimp only at hns₁ hsb₁ ⊢
 generalize hH2:s₂.heap.push { cls:=.type "list",dict:=none,data:=.seq ([]:List Value).toArray }=H2 at hns₁ hsb₁ ⊢
 have hDn:s₂.heap.get? s₂.heap.objs.size=none:=ak _
 have hD0:s₀.heap.get? s₂.heap.objs.size=none:=aM gr.keeps.live hDn
 have up1:∀ b o,s₂.heap.get? b=some o→H2.get? b=some o:=fun b o e=>hH2▸Heap.get?_push_of_some _ e
 have hD1:H2.get? s₂.heap.objs.size=some { cls:=.type "list",dict:=none,data:=.seq ([]:List Value).toArray }:=hH2▸Heap.get?_push_size _ rfl
 have hCn:H2.get? H2.objs.size=none:=ak _
 have hC2:s₂.heap.get? H2.objs.size=none:=aM (fun l=>l.elim fun o e=>⟨o,up1 _ o e⟩) hCn
 have hC0:s₀.heap.get? H2.objs.size=none:=aM gr.keeps.live hC2
 have hDC:s₂.heap.objs.size≠H2.objs.size:=fun q=>au hCn (q▸hD1)
 have up2:∀ b o,b≠H2.objs.size→H2.get? b=some o→h₁.get? b=some o:=fun b o n e=>hsb₁.extBut b o n (Heap.get?_push_of_some _ e)
 have up:aI s₂.heap h₁:=fun b o e=>up2 b o (fun q=>au hC2 (q▸e)) (up1 b o e)
 have hDh:h₁.PlainList s₂.heap.objs.size #[]:=⟨_,up2 _ _ hDC hD1⟩
 generalize hDD:s₂.heap.objs.size=D at hDn hD0 hD1 hDC hDh ⊢
 generalize hCC:H2.objs.size=C at hns₁ hsb₁ hCn hC0 hC2 hDC up2 ⊢
 have gr':Grown s₀ { s₂ with heap:=h₁,toks:=s₂.toks+([]:List (Str×Value)).length }:=gr.trans ⟨up,rfl,rfl⟩
 let X:Addr→Prop:=fun b=>(b∈fp∧s₀.heap.get? b=none)∨b=D
 have fpl:∀ b∈fp,aS s₂.heap b:=fun b hb=>(F.live 0 _ b st0 hb).live
 have fpC:∀ b∈fp,b≠C:=fun b hb q=>(fpl b hb).elim fun o e=>au hC2 (q▸e)
 have fpD:∀ b∈fp,b≠D:=fun b hb q=>(fpl b hb).elim fun o e=>au hDn (q▸e)
 have hXp:∀ b,X b→s₀.heap.get? b=none∧aS h₁ b∧b≠C:=fun b q=>by
  rcases q with ⟨q,n⟩ | rfl
  ·exact ⟨n,up.live (fpl b q),fpC b q⟩
  ·exact ⟨hD0,iP hDh,hDC⟩
 obtain ⟨I₁,mk₁⟩:=I₀.comp (X:=X) c (I₀.base.grown gr') gr'.keeps hXp hC0 hns₁
 let cfx:=aC Φ.fx scope C x x' X
 have hoa:∀ k,Φ.fx.nf≤k→Φ.oa k=none:=fun k hk=>by
  obtain ⟨v,r,so⟩:=I₀.slot k
  replace r:=(I₀.ok.offs _ hk)▸r
  cases r
  generalize getSlot Φ.G k=sl at so
  cases sl with
  | unset=>exact so.1
  | v x=>exact so.1
  | _=>obtain ⟨_,_,_,q,_⟩:=so; cases q
 have wrX:∀ b∈wr,cfx.Mo b:=fun b m=>.inr (.inl ⟨F.sub b m,hwr b m⟩)
 have wr0:∀ b∈wr,Φ.fx.g.h0.get? b=none:=fun b m=>aM (fun l=>I₀.base.stays.live l) (hwr b m)
 have D0:Φ.fx.g.h0.get? D=none:=aM (fun l=>I₀.base.stays.live l) hD0
 have wrD:D∉wr:=fun m=>fpD D (F.sub D m) rfl
 have st1:Sp 0 h₁:=F.frame _ _ _ st0 fun b _ o e=>up b o e
 have plC:(cfx.pl Φ.fx.nf).addr=some C:=by show (cpl Φ.fx C x x' Φ.fx.nf).addr=_; unfold cpl; rw [if_pos rfl]; rfl
 have loop:codeAny (model Φ.fx.g.prog Φ.fx.g.w) Φ.fx.A (.compLoop (.ListComp elt [⟨T,iter,ifs,0⟩] scope pos) 0 (.ref J) (.ref D) cfx.env) (RR (.ref D) C) { s₂ with heap:=h₁,toks:=s₂.toks+([]:List (Str×Value)).length }:=by
  refine lC (CLC Φ cfx s₀ Sp vals l0 l D de ts b K) ?_ l.length ⟨0,Φ.G,[],#[],rfl,Nat.zero_le _,st1,I₁,fun _=>rfl,gr'.keeps,rv.map mk₁,hDh,.nil,Nat.zero_le _,er⟩
  intro n s' hLC
  refine aq fun Z kZ=>?_
  obtain ⟨i,G',zs,vs,rfl,hi,st,I',hG,kx,rv',hD',rz,hz,ec⟩:=hLC
  cases hx:l[i]? with
  | none=>
   have hil:i=l.length:=Nat.le_antisymm hi (List.getElem?_eq_none_iff.mp hx)
   subst hil
   replace ec:=List.drop_length▸ec
   refine kZ (F.over st fun h' tk hk=>hK D C _ ?_)
   have kC:∀ b o,s'.heap.get? b=some o→b∉wr→h'.get? b=some o:=fun b o e n=>hk b o n e
   obtain ⟨v,⟨m,hn,hv⟩,_⟩:∃ v,(∃ m,s'.heap.Ns C m∧m x=v)∧True:=by
    obtain ⟨v,r,_⟩:=I'.slot Φ.fx.nf
    have r:aZ s'.heap (cpl Φ.fx C x x' Φ.fx.nf) v:=r
    unfold cpl at r
    rw [if_pos rfl] at r
    exact ⟨v,r,trivial⟩
   refine ⟨m,zs,⟨fun b o e=>hk b o (fun q=>au (wr0 b q) e) (I'.base.stays b o e),I'.base.os,I'.base.gens⟩,fun b o e=>(kx b o e).step fun o' e'=>.of (hk b o' (fun q=>au (hwr b q) e) e'),hC0,hD0,hDC,hn.at' fun o e=>hk C o (fun q=>fpC C (F.sub C q) rfl) e,?_,vs,fW hD' fun o e=>hk D o wrD e,rz.map fun b o e _ n=>⟨fun q=>n ?_,hk b o (fun q=>n (.inl (wrX b q))) e⟩⟩
   ·have ec:K (zs++[]):=ec
    rwa [List.append_nil] at ec
   ·rcases q with q | rfl
    ·exact q.imp .inl fun q=>ut (X:=X) I₀ q
    ·exact .inr (.inl ⟨_,plC⟩)
  | some y=>
   have hil:=(List.getElem?_eq_some_iff.mp hx).1
   have ed:l.drop i=y :: l.drop (i+1):=by rw [List.drop_eq_getElem_cons hil]; congr 1; exact (List.getElem?_eq_some_iff.mp hx).2
   rw [ed] at ec
   refine kZ (F.turn (bad:=(Ct.mk cfx Φ.oa G').bad) hx st rv' (fun a q=>I'.badLive q) (fun b m=>.inl (wrX b m)) fun v h' tk st' hk rx=>?_)
   clear kZ
   refine aq fun Z kZ=>?_
   have I3:Inv ⟨cfx,Φ.oa,G'⟩ { s' with heap:=h',toks:=tk }:=Inv.others (Φ:=⟨cfx,Φ.oa,G'⟩) (Mo₂:=cfx.Mo) I' (fun b m=>I'.fr.not (F.live _ _ b st (F.sub b m))) hk wrX wr0 (fun a q=>q) fun a q=>by
    by_cases nw:a∈wr
    ·exact (F.live _ _ a st' (F.sub a nw)).live
    ·exact (I'.mo a q).elim fun o e=>⟨o,hk a o nw e⟩
   have mk3:cX (Ct.mk cfx Φ.oa Φ.G).bad (Ct.mk cfx Φ.oa Φ.G).bad s'.heap h':=fun b o e _ n=>⟨n,hk b o (fun m=>n (.inl (wrX b m))) e⟩
   have ec:okK (b Φ.G y) fun G₁=>_:=ec
   refine ag ec fun G₁ e₁ ec=>kZ (wpAny_mono (hT.2 C X G' G₁ v y _ I₀.ok.kind hoa I3 ((hG y).trans e₁) rx _) (fun _ s₄ q=>?_) fun _ _ z=>z)
   clear kZ
   refine aq fun Z kZ=>?_
   obtain ⟨I4,kC⟩:=q
   have mk4:cX (Ct.mk cfx Φ.oa Φ.G).bad (Ct.mk cfx Φ.oa Φ.G).bad h' s₄.heap:=fun b o e _ n=>⟨n,kC b o (fun q=>n (.inr (.inl ⟨_,q▸plC⟩))) e⟩
   have kx4:aF s₀.heap s₄.heap:=fun b o e=>(kx b o e).step fun o' e'=>.of (kC b o' (fun q=>au hC0 (q▸e)) (hk b o' (fun q=>au (hwr b q) e) e'))
   have st4:Sp (i+1) s₄.heap:=F.frame _ _ _ st' fun b hb o e=>kC b o (fpC b hb) e
   have rv4:=(rv'.map mk3).map mk4
   have rz4:=(rz.map mk3).map mk4
   have hD4:s₄.heap.PlainList D vs:=fW hD' fun o e=>kC D o hDC (hk D o wrD e)
   refine kZ (wpAny_mono (htest C X Φ.oa G₁ _ s₄ ec I4 _) (fun b' s₅ ⟨B5,k5,c5,hc5,e5⟩=>?_) fun _ _ z=>z)
   clear kZ
   refine aq fun Z kZ=>?_
   subst e5
   have I5:=I4.keep B5 k5
   have st5:Sp (i+1) s₅.heap:=F.frame _ _ _ st4 fun b hb o e=>k5.get e ((F.live _ _ b st4 hb).nf e)
   have hD5:s₅.heap.PlainList D vs:=fW hD4 fun o e=>k5.get e ((jC hD4).nf e)
   have hGs:∀ z,b G₁ z=b Φ.G z:=fun z=>hT.1 _ _ _ z e₁
   cases b' with
   | false=>exact kZ ⟨l.length - (i+1),Nat.sub_succ_lt_self _ _ hil,i+1,_,zs,vs,rfl,hil,st5,I5,hGs,kx4.trans k5,rv4.keep k5,hD5,rz4.keep k5,Nat.le_succ_of_le hz,hc5⟩
   | true=>
    refine kZ (wpAny_mono (helt C X Φ.oa G₁ _ s₅ hc5 I5 _) (fun yv s₆ ⟨B6,k6,z,hz6,rz6⟩=>?_) fun _ _ z=>z)
    clear kZ
    refine aq fun Z kZ=>?_
    have I6:=I5.keep B6 k6
    have hD6:s₆.heap.PlainList D vs:=fW hD5 fun o e=>k6.get e ((jC hD5).nf e)
    have rzs:=(rz4.keep k5).keep k6
    refine kZ (wpAny_list_append_plain (hsz:=cH (by rw [aP (Φ:=⟨cfx,Φ.oa,Φ.G⟩) rzs]; exact zB1 hz (zB1 hi hsz))) hD6 fun h₇ hD7 hs7=>?_)
    have k7:∀ b o,b∉[D]→s₆.heap.get? b=some o→h₇.get? b=some o:=fun b o n e=>hs7.extBut b o (fun q=>n (by rw [q]; exact .head _)) e
    have I7:Inv ⟨cfx,Φ.oa,G₁⟩ { s₆ with heap:=h₇,toks:=s₆.toks }:=Inv.others (Φ:=⟨cfx,Φ.oa,G₁⟩) (Mo₂:=cfx.Mo) I6 (fun b m=>by cases zA6 m; exact I6.fr.not (jC hD6)) k7 (fun b m=>by cases zA6 m; exact .inr (.inr rfl)) (fun b m=>by cases zA6 m; exact D0) (fun a q=>q) fun a q=>by
     by_cases nd:a=D
     ·subst nd; exact iP hD7
     ·exact (I6.mo a q).elim fun o e=>⟨o,hs7.extBut a o nd e⟩
    have mk7:cX (Ct.mk cfx Φ.oa Φ.G).bad (Ct.mk cfx Φ.oa Φ.G).bad s₆.heap h₇:=fun b o e _ n=>⟨n,hs7.extBut b o (fun q=>n (.inl (.inr (.inr q)))) e⟩
    refine ⟨l.length - (i+1),Nat.sub_succ_lt_self _ _ hil,i+1,_,zs++[z],vs.push yv,rfl,hil,F.frame _ _ _ st5 fun b hb o e=>hs7.extBut b o (fpD b hb) (k6.get e ((F.live _ _ b st5 hb).nf e)),I7,hGs,fun b o e=>(((kx4.trans k5).trans k6) b o e).step fun o' e'=>.of (hs7.extBut b o' (fun q=>au hD0 (q▸e)) e'),((rv4.keep k5).keep k6).map mk7,hD7,?_,by rw [zB5]; exact Nat.succ_le_succ hz,?_⟩
    ·rw [Array.toList_push]
     exact (rzs.map mk7).append (.cons (rz6.map mk7) .nil)
    ·have e:(fun ys=>K (zs++[z]++ys))=fun ys=>K (zs++(z :: ys)):=funext fun ys=>by rw [List.append_assoc]; rfl
     rw [e]; exact hz6
 exact codeAny_compStart_list loop (F.self 0 _ _ _ st1 loop)
end
theorem jG (ds:List D) (G:Gs):bY ds G=bo (ds.map (· G)):=by
 induction ds with
 | nil=>rfl
 | cons d r ih=>exact funext fun f=>congrArg (d G) (funext fun x=>congrFun ih fun xs=>f (x :: xs))
theorem gR (b:Bool) (ds:List D) (G:Gs):ci b ds G=oS b (ds.map (· G)):=by
 induction ds with
 | nil=>rfl
 | cons d r ih=>exact funext fun f=>congrArg (d G) (funext fun x=>congrArg (okK (c6 x some)) (funext fun c=>congrArg (fun z=>if c=b then z else f c) (congrFun ih f)))
section
variable {Φ:Ct} {scope:Scope} {x x':Str}
theorem l4 (hk:fx.env.scope.kind=.function) (h:scope.names.lookup y=some .local):(aC fx scope C x x' X).env.kindOf y≠some .free:=by
 show (relabel scope fx.env).names.lookup y≠_
 rw [cM hk,relab_lookup,h]; exact nofun
theorem yu (h:fx.nf≤k) (ho:fx.pl k=.off) (q:(cpl fx C x x' k).addr=some b):b=C:=by
 rcases cpl_c fx C x x' k with ⟨_,e⟩ | ⟨_,_,e⟩ | ⟨_,e⟩ | e <;> rw [e] at q
 ·(injection q with q; subst q); rfl
 ·(injection q with q; subst q); rfl
 ·(injection q; done)
 ·rw [ho] at q; (injection q; done)
theorem zY (c:CompOk Φ.fx scope x x'):mY Φ scope (.Name x py) x x' (jV Φ.fx.nf):=by
 refine ⟨fun G y G₁ z e=>by (injection e with e; subst e); exact congrArg some (List.set_set ..),fun C X G G₁ v y s hk hoa I e r E=>?_⟩
 (injection e with e; subst e)
 refine wpAny_mono (xO (Φ:=⟨aC Φ.fx scope C x x' X,Φ.oa,G⟩) (k:=Φ.fx.nf) ⟨by refine (?_:((x,Φ.fx.nf) :: _).lookup x=_); rw [List.lookup_cons,beq_self_eq_true],l4 hk c.loc⟩ I r E) (fun _ s' q=>?_) fun _ _ z=>z
 obtain ⟨I',_,k'⟩:=q
 rw [uo (Φ:=⟨aC Φ.fx scope C x x' X,Φ.oa,G⟩) (hoa _ (Nat.le_refl _))] at I'
 refine ⟨I',fun b o n e=>k' b o e fun q=>n ?_⟩
 have q:(cpl Φ.fx C x x' Φ.fx.nf).addr=some b:=q
 unfold cpl at q
 rw [if_pos rfl] at q
 (injection q with q; subst q); rfl
theorem Cf {G:Gs} {k:Nat} (a b c d:Slot):(((G.set k a).set (k+1) b).set k c).set (k+1) d=(G.set k c).set (k+1) d:=by
 rw [List.set_comm _ _ (Nat.succ_ne_self k),List.set_set,List.set_set]
theorem zX [Hm Φ.fx] {kk:Nat} {p p1 p2:Pos} (c:CompOk Φ.fx scope x x') (hne:x'≠x) (ho:∀ k,Φ.fx.nf≤k→Φ.fx.pl k=.off):mY Φ scope (.Tuple [.Name x p1,.Name x' p2] kk p) x x' (aW [Φ.fx.nf,Φ.fx.nf+1]):=by
 refine ⟨fun G y G₁ z e=>?_,fun C X G G₁ v y s hk hoa I e r E=>?_⟩
 ·refine fB (C:=fun _ G₁=>aW [Φ.fx.nf,Φ.fx.nf+1] G₁ z=aW [Φ.fx.nf,Φ.fx.nf+1] G z) e fun xs hl=>?_
  obtain ⟨a,b,rfl⟩:∃ a b,xs=[a,b]:=by
   rcases xs with _ | ⟨a,_ | ⟨b,_ | _⟩⟩ <;> cases hl
   exact ⟨a,b,rfl⟩
  cases z with
  | tuple zs=>
   rcases zs with _ | ⟨c,_ | ⟨d,_ | _⟩⟩ <;> try rfl
   exact congrArg some (Cf (.v a) (.v b) (.v c) (.v d))
  | _=>rfl
 ·have hb:(x'==x)=false:=by cases q:x'==x with | false=>rfl | true=>exact absurd (eq_of_beq q) hne
  have:Hm (aC Φ.fx scope C x x' X):=⟨Hm.no (fx:=Φ.fx)⟩
  refine wpAny_mono (An (Φ:=⟨aC Φ.fx scope C x x' X,Φ.oa,G⟩) (ks:=[Φ.fx.nf,Φ.fx.nf+1]) (.cons ⟨?_,l4 hk c.loc⟩ (.cons ⟨?_,l4 hk c.loc'⟩ .nil)) I e r E) (fun _ s' q=>?_) fun _ _ z=>z
  ·show ((x,Φ.fx.nf) :: _).lookup x=_; rw [List.lookup_cons,beq_self_eq_true]
  ·show ((x,Φ.fx.nf) :: (x',Φ.fx.nf+1) :: _).lookup x'=_; rw [List.lookup_cons,hb]; show List.lookup x' ((x',Φ.fx.nf+1) :: _)=_; rw [List.lookup_cons,beq_self_eq_true]
  ·obtain ⟨I',_,k'⟩:=q
   have eo:offs [Φ.fx.nf,Φ.fx.nf+1] Φ.oa=Φ.oa:=funext fun j=>by
    show (if j=Φ.fx.nf+1 then none else if j=Φ.fx.nf then none else Φ.oa j)=_
    by_cases h:j=Φ.fx.nf+1
    ·rw [if_pos h,h,hoa _ (Nat.le_succ _)]
    ·rw [if_neg h]
     by_cases h':j=Φ.fx.nf
     ·rw [if_pos h',h',hoa _ (Nat.le_refl _)]
     ·rw [if_neg h']
   rw [eo] at I'
   refine ⟨I',fun b o n e=>k' b o e fun j m q=>n ?_⟩
   rcases List.mem_cons.mp m with rfl | m
   ·exact yu (Nat.le_refl _) (ho _ (Nat.le_refl _)) q
   ·cases zA6 m
    exact yu (Nat.le_succ _) (ho _ (Nat.le_succ _)) q
end
section
variable {Φ:Ct} [Hm Φ.fx] {s s₀:Shared} {scope:Scope} {x x':Str}
theorem CompEnd.rp {K:List V→Prop} {D C:Addr} {s':Shared} (I₀:Inv Φ s₀) (ce:CompEnd Φ s₀ K D C s'):∃ ys,K ys∧Rp Φ.fx.g (fun b=>Φ.bad b∨b=C) s'.heap (.ref D) (.list ys):=by
 obtain ⟨m,ys,B,kx,hC0,hD0,hDC,hn,ky,vs,⟨c,hP⟩,rp⟩:=ce
 exact ⟨ys,ky,.list (fun q=>q.elim (fun q=>(I₀.badLive q).elim fun o e=>au hD0 e) hDC) hP ⟨rfl,rfl⟩ rfl rp⟩
theorem rW {b:Gs→V→Option Gs} {ds:(List V→Prop)→Prop} (c:CompOk Φ.fx scope x x') (hT:mY Φ scope T x x' b) (hset:bx iter=true) (hsrc:eW Φ T false iter ds)
  (helt:∀ C X oa G,Ev ⟨aC Φ.fx scope C x x' X,oa,G⟩ (eval elt (aC Φ.fx scope C x x' X).env) (de G))
  (htest:∀ C X oa G,EvT ⟨aC Φ.fx scope C x x' X,oa,G⟩ (dT ifs (aC Φ.fx scope C x x' X).env) (ci true ts G)) :
  Ev Φ (eval (.ListComp elt [⟨T,iter,ifs,0⟩] scope pos) Φ.fx.env) (fun K=>ds fun xs=>jh de ts b Φ.G xs fun ys=>K (.list ys)):=fun K s hd I E=>by
 rw [eval_ListComp]
 refine wpAny_comprehension_free (use:=none) rfl (gP hset) (jk c.cells) c.kind c.names (hsrc _ s hd I _ _ fun l s₀ it s₂ kl I₀ k₀ gr fa=>k9 (RR:=fun acc C=>compPost _ Φ.fx.A E none (Post Φ Φ.rp s K) acc C) c I₀ gr fa helt htest hT kl fun D C s' ce=>?_)
 obtain ⟨ys,ky,rp⟩:=ce.rp I₀
 obtain ⟨m,_,B,kx,hC0,_,_,hn,_⟩:=ce
 have h0:Φ.fx.g.h0.get? C=none:=aM (fun l=>I₀.base.stays.live l) hC0
 exact ⟨m,hn,fun h' hs=>⟨⟨fun b o e=>hs.extBut b o (fun q=>au h0 (q▸e)) (B.stays b o e),B.os,B.gens⟩,fun b o e=>((k₀.trans kx) b o e).step fun o' e'=>.of (hs.extBut b o' (fun q=>(k₀ b o e).live.elim fun o e=>au hC0 (q▸e)) e'),_,ky,rp.map fun b o e _ n=>⟨fun q=>n (.inl q),hs.extBut b o (fun q=>n (.inr q)) e⟩⟩⟩
noncomputable def xQ (sc:List (Str×NameKind)) (scope:Scope) (y:Str) (py vp:Pos):Bool:=sc.lookup y==some .local&&py.line==vp.line&&!(scope.names.any fun (n,k)=>n==y&&(k==.local||k==.cell))
theorem qS {fx:Fx} {elt:Expr} {gens:List Comprehension} {pos py:Pos} {y:Str} {n:Nat} (hk:fx.env.scope.kind=.function):swapsWith (.ListComp elt gens scope pos) (some (.Name y py)) n fx.env=pure (xQ fx.env.scope.names scope y py pos):=by
 have hb:(fx.env.blockKind==ScopeKind.function)=true:=by unfold Env.blockKind; rw [hk]; rfl
 refine (?_:(pure (fx.env.blockKind==ScopeKind.function&&_&&_&&_):Sem Bool)=_)
 rw [hb]
 rfl
theorem iC {fx:Fx} [Hm fx] {elt iter T:Expr} {b:Gs→V→Option Gs} {ifs:List Expr} {pos py p' spos:Pos} {y:Str} {k:Nat} {ds:Gs→(List V→Prop)→Prop} {de:D} {ts:List D} (c:CompOk fx scope x x') (hTc:∀ oa G,mY ⟨fx,oa,G⟩ scope T x x' b) (hset:bx iter=true) (hsrc:∀ oa G,eW ⟨fx,oa,G⟩ T false iter (ds G))
  (helt:∀ C X oa G,Ev ⟨aC fx scope C x x' X,oa,G⟩ (eval elt (aC fx scope C x x' X).env) (de G))
  (htest:∀ C X oa G,EvT ⟨aC fx scope C x x' X,oa,G⟩ (dT ifs (aC fx scope C x x' X).env) (ci true ts G)) (hT:TgtOk fx.ρ fx.env y k) :
  ExB fx (exec (.Assign [.Name y p'] (.ListComp elt [⟨T,iter,ifs,0⟩] scope pos) spos) fx.env) (fun G K=>ds G fun xs=>jh de ts b G xs fun ys=>K none (G.set k (.v (.list ys)))):=fun oa G K s hd I=>by
 cases hsw:xQ fx.env.scope.names scope y p' pos with
 | false=>exact k8 (fx:=fx) (d:=fun G K=>ds G fun xs=>jh de ts b G xs fun ys=>K (.list ys)) (by rw [qS I.ok.kind,hsw]) hT (fun oa G=>rW (Φ:=⟨fx,oa,G⟩) c (hTc oa G) hset (hsrc oa G) helt htest) oa G K s hd I
 | true=>
  rw [exec_Assign_Name_used _ _ _ _ ((qS I.ok.kind).trans (by rw [hsw]))]
  refine zC1 (wpAny_standAt (zC1 ?_))
  show wpAny _ _ (do let _ ← comprehension (.ListComp elt [⟨T,iter,ifs,0⟩] scope pos) scope fx.env _ (newList []) false (eval iter fx.env) (some (assign (.Name y p') fx.env))) _ _ s
  refine zC1 (wpAny_mono (wpAny_comprehension_free (use:=some (assign (.Name y p') fx.env)) (Q:=fun _ s'=>PostS ⟨fx,oa,G⟩ s K .next s') (E:=PostX ⟨fx,oa,G⟩ s K) rfl (gP hset) (jk c.cells) c.kind c.names ?_) (fun _ s' hq=>zC2 (wpAny_pure hq)) fun _ _ z=>z)
  refine hsrc oa G _ s hd I _ _ fun l s₀ it s₂ kl I₀ k₀ gr fa=>k9 (Φ:=⟨fx,oa,G⟩) (RR:=fun acc C=>compPost _ fx.A (PostX ⟨fx,oa,G⟩ s K) (some (assign (.Name y p') fx.env)) (fun _ s'=>PostS ⟨fx,oa,G⟩ s K .next s') acc C) c I₀ gr fa helt htest (hTc oa G) kl fun D C s' ce=>?_
  obtain ⟨ys,ky,rp⟩:=ce.rp I₀
  obtain ⟨m,_,B,kx,hC0,_,_,hn,_⟩:=ce
  have h0:fx.g.h0.get? C=none:=aM (fun l=>I₀.base.stays.live l) hC0
  have hCl:aS s'.heap C:=by obtain ⟨o,_,_,e,_⟩:=hn; exact ⟨o,e⟩
  have I':Inv ((Ct.mk fx oa G).mo (·=C)) s':=I₀.more B kx (fun b q=>q▸hC0) fun b q=>q▸hCl
  show wpAny _ _ (assign (.Name y p') fx.env (.ref D)) _ _ _
  refine wpAny_mono (xO (Φ:=(Ct.mk fx oa G).mo (·=C)) hT I' (rp.map fun b o e _ n=>⟨fun q=>n (q.elim (fun q=>q.elim (fun q=>.inl (.inl q)) .inr) fun q=>.inl (.inr q)),e⟩) _) (fun _ s₅ ⟨I5,t5,k5⟩=>?_) fun _ _ z=>z
  have hpC:(fx.pl k).addr≠some C:=fun q=>(I₀.new C (.inl ⟨k,q⟩)).1.elim fun o e=>au hC0 e
  refine ⟨m,hn.at' fun o e=>k5 C o e hpC,fun h' hs=>?_⟩
  have kC:∀ b o,b∉[C]→s₅.heap.get? b=some o→h'.get? b=some o:=fun b o n e=>hs.extBut b o (fun q=>n (by rw [q]; exact .head _)) e
  have I6:=Inv.others (tk:=s₅.toks) (Φ:=((Ct.mk fx oa G).mo (·=C)).put k none (.v (.list ys))) (Mo₂:=fx.Mo) I5 (fun b m=>by cases zA6 m; exact I₀.fr.new hC0) kC (fun b m=>by cases zA6 m; exact .inr rfl) (fun b m=>by cases zA6 m; exact h0) (fun a q=>.inl q)
   fun a q=>(I5.mo a (.inl q)).elim fun o e=>⟨o,hs.extBut a o (fun z=>(I₀.mo a q).elim fun o e=>au hC0 (z▸e)) e⟩
  have t6:Tr ⟨fx,oa,G⟩ s₀ ((Ct.mk fx oa G).put k none (.v (.list ys))) s₅:=(Tr.of_keeps kx).trans (Tr.mo (Φ:=⟨fx,oa,G⟩) (Φ':=(Ct.mk fx oa G).put k none (.v (.list ys))) (X:=(·=C)) rfl t5)
  exact .next (Φ:=⟨fx,oa,G⟩) I6 ((Tr.of_keeps k₀).trans (t6.others (tk:=s₅.toks) kC fun b m=>by cases zA6 m; exact hC0)) ky
end
section
variable {Φ:Ct} {s:Shared} {v u:Value} {x y z:V} {d d1 d2 d3:DV}
theorem jl {γ δ:Type} {R:Heap→γ→δ→Prop} {K:δ→Prop} {K₁:Bool→Prop} {fin stop:Value→Sem γ} (hs:bx c=true) (h1:Ev Φ (eval a Φ.fx.env) d1) (h2:Ev Φ (eval b Φ.fx.env) d2) (h3:Ev Φ (eval c Φ.fx.env) d3)
  (hfin:∀ s b,Inv Φ s→K₁ b→Φ.wp (fin (.bool b)) (Post Φ R s K) s) (hstop:∀ s,Inv Φ s→K₁ false→Φ.wp (stop (.bool false)) (Post Φ R s K) s)
  (hd:d1 fun x=>d2 fun y=>okK (aT .LtE x y) fun t=>if t=true then d3 fun z=>okK (aT o y z) K₁ else K₁ false) (I:Inv Φ s):Φ.wp (do
  let x ← eval a Φ.fx.env
  let y ← holding [x] (eval b Φ.fx.env)
  standAt pos
  let t ← holding [x,y] (compareOp .LtE x y)
  release [x,y] [t]
  if ← holding [t,y] (truthy t) then (do
   let z ← holding [y] (markedBehindIn o c (eval c Φ.fx.env))
   standAt pos
   let u ← operate [y,z] (compareOp o y z)
   fin u) else stop t) (Post Φ R s K) s:=by
 rw [iW hs]
 refine h1.bind hd I fun v x s₁ I₁ k₁ hx r1=>h2.holding.bind hx I₁ fun u y s₂ I₂ k₂ hy r2=>a9 ?_
 refine ag hy fun t e kt E=>zC1 (wpAny_holding (wpAny_mono (qD (o:=.LtE) (c:=t) e I₂ (r1.keep k₂) r2 E) (fun w s' q=>?_) fun _ _ z=>z))
 obtain ⟨rfl,rfl⟩:=q
 refine zC1 (cK (zC1 (wpAny_holding (wpAny_truthy_bool ?_))))
 cases t with
 | false=>exact hstop _ I₂ kt E
 | true=>exact h3.holding.bind kt I₂ (fun w z s₃ I₃ k₃ hz r3=>ag hz fun c e kc=>a9 fun E=>zC1 (dA (fun E'=>wpAny_mono (qD (o:=o) e I₃ (r2.keep k₃) r3 E') (fun w s' q=>by obtain ⟨rfl,rfl⟩:=q; exact hfin _ _ I₃ kc E) fun _ _ z=>z) E)) E
theorem uZ (hs:bx c=true) (h1:Ev Φ (eval a Φ.fx.env) d1) (h2:Ev Φ (eval b Φ.fx.env) d2) (h3:Ev Φ (eval c Φ.fx.env) d3) :
  Ev Φ (eval (.Compare a [.LtE,o] [b,c] pos) Φ.fx.env) (fun K=>d1 fun x=>d2 fun y=>okK (aT .LtE x y) fun t=>if t=true then d3 fun z=>okK (aT o y z) fun u=>K (.bool u) else K (.bool false)):=fun K s hd I=>by
 have q:=jl (o:=o) (pos:=pos) (fin:=pure) (stop:=pure) (R:=Φ.rp) (K:=K) hs h1 h2 h3 (fun s b I k=>EvR.pure I k (.bool b)) (fun s I k=>EvR.pure I k (.bool _)) hd I
 simp only [bind_pure] at q
 exact q
theorem o9 (hs:bx c=true) (h1:Ev Φ (eval a Φ.fx.env) d1) (h2:Ev Φ (eval b Φ.fx.env) d2) (h3:Ev Φ (eval c Φ.fx.env) d3) :
  EvT Φ (isTrue (.Compare a [.LtE,o] [b,c] pos) Φ.fx.env w) (fun K=>d1 fun x=>d2 fun y=>okK (aT .LtE x y) fun t=>if t=true then d3 fun z=>okK (aT o y z) fun u=>K u else K false):=fun K s hd I=>
 jl (o:=o) (pos:=pos) (fin:=fun c=>holding [c] (truthy c)) (stop:=fun _=>pure false) (R:=fun _=>Eq) (K:=K) hs h1 h2 h3 (fun s b I k E=>wpAny_holding (wpAny_truthy_bool ⟨I.base,.refl _,b,k,rfl⟩)) (fun s I k=>EvR.pure I k rfl) hd I
theorem oF {dd:V→Prop} {K:V→Prop} (hx:bz Φ.fx.env.scope.names f=true) (hF:bH.lookup f=some F) (hk:(∃ id,F=.builtin id)∨∃ T,F=.type T) (hp:ao e=true) (h:Ev Φ (eval e Φ.fx.env) d)
  (st:∀ s v x E,Inv Φ s→Φ.rp s.heap v x→dd x→wpAny (model Φ.fx.g.prog Φ.fx.g.w) Φ.fx.A (call F [v]) (hW Φ s K) E s) (hd:d dd) (I:Inv Φ s):Φ.wp (eval (.Call (.Name f fp) [e] [] pos) Φ.fx.env) (hW Φ s K) s:=fun E=>by
 refine (?_:wpAny _ _ (eval (.Name f fp) Φ.fx.env >>= fun F=>callWith pos F [] (backTo pos (starEach [e] Φ.fx.env)) []) _ _ s)
 refine zC1 (bF I hx hF ?_ E)
 have hp':(backTo pos (starEach [e] Φ.fx.env)).any (·.1)=false:=by rw [aN hp]; rfl
 have main:wpAny (model Φ.fx.g.prog Φ.fx.g.w) Φ.fx.A (evalArgs F true (backTo pos (starEach [e] Φ.fx.env)) []) (fun a s₁=>wpAny (model Φ.fx.g.prog Φ.fx.g.w) Φ.fx.A (call F ([]++a.pos) a.kw) (hW Φ s K) E s₁) E s:=
  cW (qs:=[(e,d)]) (K:=fun xs=>okK (one xs some) dd) (fun q m=>by obtain rfl:=zA6 m; exact ⟨hp,h⟩) hd I fun vs xs s₁ I₁ k₁ hx rs=>ag hx fun x e hx=>eH (C:=fun vs=>wpAny _ _ (call F ([]++vs) []) _ _ s₁) e rs fun v x' r e=>by
   (injection e with e; subst e)
   exact wpAny_mono (st s₁ v _ E I₁ r hx) (fun _ _ p=>p.lift k₁) fun _ _ z=>z
 rcases hk with ⟨id,rfl⟩ | ⟨T,rfl⟩
 ·exact callWith_builtin hp' main
 ·exact PySem.callWith_type hp' main
theorem tj (hx:bz Φ.fx.env.scope.names "list"=true) (hp:ao e=true) (h:Ev Φ (eval e Φ.fx.env) d):EvN Φ (eval (.Call (.Name "list" fp) [e] [] pos) Φ.fx.env) (fun K=>d fun x=>okK (opN .listOf [x]) K):=fun K s hd I=>
 oF hx rfl (.inr ⟨_,rfl⟩) hp h (fun s v x E I r hx=>ag hx fun z e kz=>map_elim (C:=fun z=>K z→wpAny _ _ (call (.type "list") [v]) (hW Φ s K) E s) e (fun l e kz=>wpAny_mono (wT I e r E) (fun w s' q=>⟨⟨I.base.grown q.2.1,q.2.1.keeps,_,kz,q.2.2⟩,q.1▸eQ (Nat.le_refl _)⟩) fun _ _ z=>z) kz) hd I
theorem wF {vs:List Value} {ns:List Int} (z:IntsAre vs ns):Φ.rps h vs (ns.map .int):=by
 induction z with
 | nil=>exact .nil
 | cons n t hr ih=>exact .cons (.int n t) ih
theorem th (hx:bz Φ.fx.env.scope.names "sorted"=true) (hp:ao e=true) (h:Ev Φ (eval e Φ.fx.env) d) :
  EvN Φ (eval (.Call (.Name "sorted" fp) [e] [] pos) Φ.fx.env) (fun K=>d fun x=>okK (hM x gc) fun is=>is.length < 64∧∀ r:List Int,r.Perm is→r.Pairwise (·≤·)→K (.list (r.map .int))):=fun K s hd I=>
 oF hx rfl (.inl ⟨_,rfl⟩) hp h (fun s v x E I r hx=>ag hx fun is e ⟨hz,hK⟩=>by
  refine cz (C:=fun x=>Φ.rp s.heap v x→wpAny _ _ (call (.builtin "sorted") [v]) _ E s) e (fun l e r=>?_) r
  refine r.list_elim fun a o vs n _ ha hc hd hl=>?_
  have hi:=i9 e hl
  refine sorted_ints (vs:=vs.toList) ⟨o,ha,hc.1,n,by rw [hd]⟩ hi (by rw [← hi.nums,zA4] at hz; exact hz) fun out ns' h1 h2 h3=>?_
  have k:aI s.heap (sortedAll s.heap vs.toList out):=fun b o e=>sortedAll_old e
  obtain ⟨ep,ho⟩:=sortedAll_at s.heap vs.toList out
  refine ⟨⟨I.base.grown (oA (tk:=s.toks) k),k.keeps,_,hK ns' h2 h3,.list (fun q=>?_) ho ⟨rfl,rfl⟩ rfl (wF h1)⟩,eQ (Nat.le_succ _)⟩
  obtain ⟨o',e'⟩:=I.badLive q
  exact absurd (Heap.lt_size e') (Nat.not_lt.mpr (Nat.le_succ _))) hd I
end
section
variable {Φ:Ct} {s:Shared}
theorem uW:Ev Φ (eval (.Dict [] [] pos) Φ.fx.env) (fun K=>K (.dict [])):=fun K s hd I E=>
 wpAny_Dict_empty (let gr:=Grown.push s { cls:=.type "dict",data:=.dict #[] } s.toks; ⟨I.base.grown gr,gr.keeps,_,hd,.dict I.fresh (fun q=>I.ok.gr.sysm.elim fun o z=>au (ak s.heap) (q▸I.base.stays _ _ z)) (Heap.get?_push_size _ rfl) ⟨rfl,rfl,rfl⟩ rfl ⟨rfl,List.nodup_nil,rfl⟩ rfl rfl .nil .nil⟩)
theorem xv (hx:bz Φ.fx.env.scope.names "len"=true) (hn:Φ.fx.ρ.lookup n=some k) (ho:aV n=true) :
  Ev Φ (eval (.Call (.Name "len" fp) [.Name n p] [] pos) Φ.fx.env) (fun K=>okK (bE Φ.G k) fun l=>l.length≤ai∧K (.int l.length)):=fun K s hd I E=>ag hd fun l e hl=>by
 refine (?_:wpAny _ _ (eval (.Name "len" fp) Φ.fx.env >>= fun F=>callWith pos F [] (backTo pos (starEach [.Name n p] Φ.fx.env)) []) _ _ s)
 refine zC1 (bF (v:=.builtin "len") I hx rfl ?_ E)
 refine callWith_builtin rfl (Calls.evalArgs_plain ?_)
 refine (?_:wpAny _ _ (eval (.Name n p) Φ.fx.env >>= fun v=>holding [v] (pure []) >>= fun vs=>pure (v :: vs)) _ _ s)
 refine zC1 (nS (sl:=.ownL l) hn ho I (cF e) id (fun a u ha ow=>?_) E)
 obtain ⟨rfl,o,vs,n,ho,hc,hd,hv⟩:=ow
 refine zC1 (wpAny_holding (zC2 (zC2 ?_)))
 exact step I hl.2 (fun E=>aP hv▸PyProof.Rows.len_list ⟨_,ho,hc.1,_,hd⟩ (by rw [aP hv]; exact xP hl.1) ⟨.toks _ _,.int _ _⟩) E
end
section
variable {fx:Fx}
theorem xp (hT:TgtOk fx.ρ fx.env n k):ExB fx (exec (.Assign [.Name n py] (.Dict [] [] pos) spos) fx.env) (fun G K=>K none (G.set k (.ownD []))):=fun oa G K s hd I=>by
 rw [exec_Assign_Name _ _ _ _ _ (b7 rfl)]
 refine zC1 (wpAny_standAt (zC1 (wpAny_Dict_empty ?_)))
 have gr:=Grown.push s { cls:=.type "dict",data:=.dict #[] } s.toks
 have hD:s.heap.get? s.heap.objs.size=none:=ak _
 refine zC1 (wpAny_standAt (zC1 (wpAny_bindName (qY (a:=s.heap.objs.size) (sl:=.ownD []) hT I (I.base.grown gr) gr.keeps hD ⟨_,Heap.get?_push_size _ rfl⟩ (fun _ q=>nomatch q) (fun q=>nomatch q) id (fun h' kp=>?_) (fun s' I' t'=>zC2 (.next I' t' hd)) _))))
 have nb:¬ (Ct.mk fx oa G).own s.heap.objs.size:=fun q=>I.fresh (.inr q)
 exact ⟨rfl,_,#[],0,kp _ _ (Heap.get?_push_size _ rfl) nb,⟨rfl,rfl,rfl⟩,rfl,⟨rfl,List.nodup_nil,rfl⟩,.nil,.nil⟩
theorem xk {n:Str} {k:Nat} {np sp spos:Pos} {ei ev:Expr} {d1 d2:Gs→DV} (hx:fx.ρ.lookup n=some k) (hn:aV n=true) (hs:cx ev=true) (h1:∀ oa G,Ev ⟨fx,oa,G⟩ (eval ev fx.env) (d1 G)) (h2:∀ oa G,Ev ⟨fx,oa,G⟩ (eval ei fx.env) (d2 G)) :
  ExB fx (exec (.Assign [.Subscript (.Name n np) ei sp] ev spos) fx.env) (fun G K=>okK (iU G k) fun l=>d1 G fun y=>d2 G fun x=>okK (if (dp x&&decide (l.length < ai))=true then some (lM l x y) else none) fun l'=>K none (G.set k (.ownD l'))):=fun oa G K s hd I=>ag hd fun l el hd=>by
 rw [exec_Assign_Subscript _ _ _ _ _ (b7 hs)]
 refine zC1 (wpAny_standAt (zC1 (wpAny_mono (h1 oa G _ s hd I _) (fun v1 s₁ ⟨B1,k1,y,hy,r1⟩=>?_) fun _ _ z=>z)))
 have I1:=I.keep B1 k1
 rw [assign_Subscript]
 obtain ⟨a,u,ha,pr,rfl,o,es,m,ho,hc,hdd,hk,q1,q2⟩:=fN (Φ:=⟨fx,oa,G⟩) I1 (kO el) id
 refine zC1 (zC1 (wpAny_holding (cu (Φ:=⟨fx,oa,G⟩) I1.ok hx hn pr ?_ _)))
 refine zC1 (wpAny_holding (wpAny_mono (h2 oa G _ s₁ hy I1 _) (fun v2 s₂ ⟨B2,k2,x,hxx,r2⟩=>?_) fun _ _ z=>z))
 have I2:=I1.keep B2 k2
 refine ag hxx fun l2 e2 kz=>?_
 refine bG e2 fun hf e2=>?_
 obtain rfl:=Option.some.inj e2
 have hf:=zA2 hf
 obtain ⟨c,rfl⟩:=lQ r2 hf.1
 have ho2:=k2.get ho (aK hc.1)
 obtain ⟨xs,D,En⟩:=DAt.dk (bad:=(Ct.mk fx oa G).bad) ⟨rfl,o,es,m,ho2,hc,hdd,hk,q1.keep k2,q2.keep k2⟩
 refine zC1 (wpAny_standAt (zC1 (wpAny_holding (@wpAny_setItem_heap _ _ V fF (i6 fx.g.prog fx.g.w) _ _ _ _ _ _ _ _ _ (Inv.room3 (Φ:=⟨fx,oa,G⟩) I) (KIs.of hf.1 r2) D (fun h' D' sb=>cK (zC2 ?_)) (cH (by rw [En.length]; exact Nat.le_of_lt (of_decide_eq_true hf.2)))))))
 have mk:cX (Ct.mk fx oa G).bad (Ct.mk fx oa G).bad s₂.heap h':=fun b o e _ nb=>⟨nb,sb.extBut b o (fun q=>nb (.inr (.inr ⟨k,q▸ha⟩))) e⟩
 have dn:=DAt.of D' ((En.map mk).put hf.1 (r2.map mk) ((r1.keep k2).map mk))
 have q:=Inv.mutate (Φ:=⟨fx,oa,G⟩) (sl:=.ownD (lM l x y)) (tk:=s₂.toks+Au x) I2 ha (pr.keep k2) ⟨o,ho2,aK hc.1⟩ sb (dn.casesOn fun _ o _ _ ho _ _ _ _ _=>⟨o,ho⟩) dn (fun _ q=>nomatch q) (fun q=>nomatch q) fun q=>q.elim
 exact .next (Φ:=⟨fx,oa,G⟩) q.1 ((Tr.of_keeps (k1.trans k2)).trans q.2) kz
end
section
variable {prog:Program} {w:World} {A:Around} {E:Value→Shared→Prop} {s:Shared}
theorem pv {α:Type} {l m:List α} (hl:l.length=m.length) (h:∀ (j:Nat) v,l[j]?=some v→m[j]?=some v):l=m:=by
 refine List.ext_getElem? fun j=>?_
 cases e:l[j]? with
 | some v=>exact (h j v e).symm
 | none=>exact (List.getElem?_eq_none (hl▸List.getElem?_eq_none_iff.mp e)).symm
theorem pW {R:Result→Shared→Prop} {D X:Addr} {T:String} {c:Nat} {res:Value} (C:List Value→Prop) (hh:A.handled=none) (hD:s.heap.get? D=some { cls:=.type "list",dict:=none,data:=.seq #[] c,slots:=#[] }) (hne:D≠X) (hT:T="set"∨T="dict_values") (hty:s.TypeIs (.ref X) T)
  (hhint:∀ (s':Shared) (Q:Bool→Shared→Prop) (E:Value→Shared→Prop),aI s.heap s'.heap→Q false s'→wpAny (model prog w) A.in1 (Builtin.List.listLengthHint (.ref X)) Q E s')
  (hit:∀ (Q:Value→Shared→Prop) (E:Value→Shared→Prop),(∀ (ord:List Value) I fp wr St h' d,C ord→ord.length≤sizeLine→aI s.heap h'→(∀ b∈wr,s.heap.get? b=none)→D∉fp→Walks prog w A.in1 I fp wr ord.length (fun i v=>ord[i]?=some v) St→St 0 h'→Q (.ref I) { s with heap:=h',drawn:=d })→wpAny (model prog w) A.in1 (pyIter (.ref X)) Q E s)
  (hR:∀ (out:List Value) h' d tk c',C out→(∀ b o,b≠D→s.heap.get? b=some o→h'.get? b=some o)→h'.get? D=some { cls:=.type "list",dict:=none,data:=.seq out.toArray c',slots:=#[] }→R (.ok (.ret res)) { s with heap:=h',drawn:=d,toks:=tk }) :
  wpAny (model prog w) A.in1 (Builtin.List.listExtendWith (.ref D) (.ref X) res) (fun fin s'=>match fin with | .done f=>R (.ok f) s' | .again c'=>c'.quiet=true∧codeAny (model prog w) A c' R s') (fun e s'=>R (.error e) s') s:=by
 unfold Builtin.List.listExtendWith
 refine zC1 (wpAny_typeOf hty ?_)
 have h1:Builtin.List.listSameRef (.ref D) (.ref X)=false:=by simp [Builtin.List.listSameRef,hne]
 have h2:(Value.type T==Value.type "list")=false:=by rcases hT with rfl | rfl <;> decide
 have h3:(Value.type T==Value.type "tuple")=false:=by rcases hT with rfl | rfl <;> decide
 simp only [h1,h2,h3,Bool.or_false,Bool.false_eq_true,if_false]
 refine zC1 (hit _ _ fun ord I fp wr St h' d hC hz k hw hf W hst=>?_)
 refine zC1 (wpAny_holding (hhint _ _ _ k ?_))
 rw [if_pos (by rcases hT with rfl | rfl <;> decide)]
 refine zC1 (wpAny_rule (zC1 ?_))
 have hS1:=k _ _ hD
 refine (?_:wpAny _ A.in1 (updateSeq D (·.push .none) >>= fun _=>updateSeq D (·.pop)) _ _ _)
 refine zC1 (wpAny_updateSeq hS1 rfl ?_)
 have hS2:=Heap.get?_update_self (Obj.mapSeq (·.push Value.none)) hS1 rfl
 refine wpAny_updateSeq hS2 rfl ?_
 have hS3:=Heap.get?_update_self (Obj.mapSeq (·.pop)) hS2 rfl
 have oth:∀ b ob,b≠D→h'.get? b=some ob→((h'.update D (Obj.mapSeq (·.push Value.none))).update D (Obj.mapSeq (·.pop))).get? b=some ob:=
  fun b ob hb e=>(Heap.get?_update_other _ _ (Ne.symm hb)).trans ((Heap.get?_update_other _ _ (Ne.symm hb)).trans e)
 refine zC2 ⟨plainId_quiet PySem.F.plain_extend_loop _,codeAny_extend_loopS W.toS hz _ hf _ ord.length 0 _ _ _ rfl (Nat.zero_le _) (W.frame 0 _ _ hst fun b hb ob e=>oth b ob (fun q=>hf (q▸hb)) e) hS3 (ItemsOf.nil _) fun s' acc' c' hm hS' hacc=>?_⟩
 have e1:acc'.toList=ord:=pv (by rw [zB3,hacc.1]) fun j v e=>hacc.2 j v (Array.getElem?_toList▸e)
 obtain ⟨hp,gs,dr,tk,os⟩:=s'
 obtain ⟨m1,m2,m3,m4,m5⟩:=hm
 subst m2; cases m3; subst m4
 refine hR ord hp d tk c' hC (fun b ob q e=>m1 b ob (fun q'=>?_) (oth b ob q (k _ _ e))) (by subst e1; exact hS')
 rcases List.mem_cons.mp q' with q' | q'
 ·exact q q'
 ·have:=hw b q'; rw [e] at this; (injection this; done)
end
theorem wW {items:Array Value} {ws:List Value} (hx:items.toList=ws++[x]):items.isEmpty=false∧((seqIndex? (-1) items.size).bind fun k=>items[k]?.map (k,·))=some (ws.length,x)∧items.eraseIdxIfInBounds ws.length=ws.toArray:=by
 obtain ⟨l⟩:=items
 obtain rfl:l=ws++[x]:=hx
 have hs:(Array.mk (ws++[x])).size=ws.length+1:=List.length_append
 refine ⟨?_,?_,?_⟩
 ·cases ws <;> rfl
 ·rw [hs,show seqIndex? (-1) (ws.length+1)=some ws.length from jH (.inr ⟨by decide,by lia,by lia⟩) (Nat.lt_succ_self _),Option.bind_some]
  refine (?_:Option.map _ ((ws++[x]).toArray[ws.length]?)=_)
  rw [List.getElem?_toArray,List.getElem?_append_right (Nat.le_refl _),Nat.sub_self]; rfl
 ·refine (?_:(ws++[x]).toArray.eraseIdxIfInBounds ws.length=_)
  rw [List.eraseIdxIfInBounds_toArray,List.eraseIdx_append_of_length_le (Nat.le_refl _),Nat.sub_self]
  exact congrArg _ (List.append_nil _)
theorem y6 {E:Value→Shared→Prop} {items:Array Value} {ws:List Value} {n:Nat} {Q:Value→Shared→Prop} (ho:s.heap.get? l=some o) (hc:o.cls=.type "list"∧o.dict=none) (hd:o.data=.seq items n) (hx:items.toList=ws++[x]) (hsz:items.size≤sizeLine)
  (hQ:∀ h' o' n',h'.get? l=some o'→o'.cls=.type "list"∧o'.dict=none→o'.data=.seq ws.toArray n'→Heap.SameBut l s.heap h'→Q x { s with heap:=h' }):wpAny (model prog w) A (call (.builtin "list.pop") [.ref l]) Q E s:=by
 refine (wW hx).elim fun h1 Zq5=>Zq5.elim fun h2 h3=>?_
 refine wpAny_call_entry F.slot_list_pop ⟨o,ho,hc.1⟩ F.entry_list_pop ?_ (F.args_list_pop_1 _)
 refine (?_:wpAny _ _ (Builtin.List.listItems (.ref l) >>= _) _ _ s)
 refine zC1 (listItems_at ho hd ?_)
 refine bv (by exact h1.symm▸Bool.false_ne_true) ?_
 refine h2.symm▸?_
 refine (Obj.data_mapSeq hd (·.eraseIdxIfInBounds ws.length)).elim fun n' hd'=>?_
 rw [h3] at hd'
 exact zC1 (listUpdate_at ho hd (zC2 ⟨x,rfl,hQ _ _ n' (Heap.get?_update_self _ ho (Obj.isFreed_of_seq hd')) ⟨(Obj.cls_mapSeq ..).trans hc.1,(gY ..).trans hc.2⟩ hd' (Heap.SameBut.update ..)⟩) hsz (h3.symm▸by rw [List.size_toArray]; rw [← zB3,hx,zB5] at hsz; exact zB1 (Nat.le_add_right _ _) (Nat.le_succ_of_le hsz)))
section
variable {M:Model} {A:Around} {E:Value→Shared→Prop} {s:Shared} {env:Env} {pos:Pos} {Q:List Value→Shared→Prop}
theorem nG (hp:ao e=true) (h:wpAny M A (eval e env) (fun v s₁=>wpAny M A (spliced (backTo pos (starEach r env))) (fun vs s₂=>Q (v :: vs) s₂) E s₁) E s):wpAny M A (spliced (backTo pos (starEach (e :: r) env))) Q E s:=by
 refine (aN hp).symm▸?_
 have q:spliced (backTo pos ((false,eval e env) :: starEach r env))=(eval e env >>= fun v=>holding [v] (spliced (backTo pos (starEach r env))) >>= fun vs=>pure (v :: vs)):=rfl
 exact q.symm▸zC1 (wpAny_mono h (fun v s₁ p=>zC1 (wpAny_holding (wpAny_mono p (fun vs s₂ p=>wpAny_pure p) fun _ _ z=>z))) fun _ _ z=>z)
end
section
variable {Φ:Ct} {pos:Pos} {E:Value→Shared→Prop}
theorem lK:∀ {qs:List (Expr×DV)} {K:List V→Prop} {s:Shared} {Q:List Value→Shared→Prop},(∀ q∈qs,ao q.1=true∧bi Φ q)→bo (qs.map Prod.snd) K→Inv Φ s →
  (∀ vs xs s₁,Inv Φ s₁→aF s.heap s₁.heap→K xs→Φ.rps s₁.heap vs xs→wpAny (model Φ.fx.g.prog Φ.fx.g.w) Φ.fx.A (spliced (backTo pos (starEach r Φ.fx.env))) (fun ws s₂=>Q (vs++ws) s₂) E s₁) →
  wpAny (model Φ.fx.g.prog Φ.fx.g.w) Φ.fx.A (spliced (backTo pos (starEach (qs.map Prod.fst++r) Φ.fx.env))) Q E s
 | [],K,s,Q,_,hd,I,h=>h [] [] s I (.refl _) hd .nil
 | q :: qs,K,s,Q,hq,hd,I,h=>nG (hq q (.head _)).1 (wpAny_mono ((hq q (.head _)).2 _ s hd I E) (fun v s₁ ⟨B,k₁,x,hx,rx⟩=>lK (fun q m=>hq q (.tail _ m)) hx (I.keep B k₁) fun vs xs s₂ I₂ k₂ hk rs=>h (v :: vs) (x :: xs) s₂ I₂ (k₁.trans k₂) hk (.cons (rx.keep k₂) rs)) fun _ _ z=>z)
theorem RpAll.snoc:∀ {m:List V} {vs:List Value},RpAll g bad h vs (m++[y])→∃ ws v,vs=ws++[v]∧RpAll g bad h ws m∧Rp g bad h v y:=by
 intro m
 induction m with
 | nil=>
  intro vs r
  cases r with
  | cons r rs=>cases rs with
   | nil=>exact ⟨[],_,rfl,.nil,r⟩
 | cons x m ih=>
  intro vs r
  cases r with
  | cons r rs=>
   refine (ih rs).elim fun ws Zq6=>Zq6.elim fun v Zq7=>Zq7.elim fun e Zq8=>Zq8.elim fun r1 r2=>?_
   exact ⟨_ :: ws,v,congrArg (_ :: ·) e,.cons r r1,r2⟩
theorem wH (hk:Φ.oa k=some a):(Φ.put k (some a) sl).bad=Φ.bad:=by
 have eo:(Φ.put k (some a) sl).oa=Φ.oa:=funext fun j=>(Classical.em (j=k)).elim (fun e=>(if_pos e).trans (e▸hk.symm)) fun e=>if_neg e
 unfold Ct.bad Ct.own; rw [eo]; rfl
theorem y5 (hx:Φ.fx.ρ.lookup n=some k) (hn:aV n=true) (hline:(apos.endLine==ppos.line)=true) (I:Inv Φ s) (el:bE Φ.G k=some l) (hz:l.length≤ai) (ey:l.getLast?=some y)
  (h:∀ a v s',Φ.oa k=some a→Inv (Φ.put k (some a) (.ownL l.dropLast)) s'→Tr Φ s (Φ.put k (some a) (.ownL l.dropLast)) s'→Φ.rp s'.heap v y→Q v s'):wpAny (model Φ.fx.g.prog Φ.fx.g.w) Φ.fx.A (eval (.Call (.Attribute (.Name n np) "pop" apos) [] [] ppos) Φ.fx.env) Q E s:=by
 obtain ⟨a,u,ha,pr,rfl,o,vs,m,ho,hc,hd',hl⟩:=fN I (cF el) id
 refine wpAny_Call_method (T:="list") (id:="list.pop") (bX rfl) rfl hline PySem.F.plainAttrs_list F.slot_list_pop F.type_list_pop (cu I.ok hx hn pr ⟨⟨o,ho,hc.1⟩,fun a q=>by (injection q with q; subst q); exact ⟨o,ho,hc.2⟩,?_⟩ _)
 refine callWith_builtin rfl (PySem.evalArgs_none ?_)
 have hsz:=aP hl
 obtain ⟨m',rfl⟩:=List.getLast?_eq_some_iff.mp ey
 obtain ⟨ws,v,ev,r1,r2⟩:=hl.snoc
 replace h:=List.dropLast_concat▸h
 refine y6 ho hc hd' ev (hsz▸cH hz) fun h' o' n' ho' hc' hd'' hs=>?_
 have mk:cX Φ.bad Φ.bad s.heap h':=fun b o e _ nb=>⟨nb,hs.extBut b o (fun q=>nb (.inr (.inr ⟨k,q▸ha⟩))) e⟩
 have q:=Inv.mutate (sl:=.ownL m') (tk:=s.toks) I ha pr ⟨o,ho,aK hc.1⟩ hs ⟨_,ho'⟩ ⟨rfl,o',_,n',ho',hc',hd'',by rw [List.toList_toArray]; exact r1.map mk⟩ (fun _ q=>nomatch q) (fun q=>nomatch q) fun q=>q.elim
 exact h a v _ ha q.1 q.2 (r2.map mk)
end
section
variable {fx:Fx}
theorem qZ {oa:Nat→Option Addr} {k:Nat} {q1:List (Expr×DV)} {q2:Gs→List (Expr×DV)} {es:List Expr} {K:Gs→List V→Prop} {Q:List Value→Shared→Prop} {E:Value→Shared→Prop} (hx:fx.ρ.lookup n=some k) (hn:aV n=true) (hline:(apos.endLine==ppos.line)=true)
  (hq1:∀ q∈q1,ao q.1=true∧bi ⟨fx,oa,G⟩ q) (he:∀ G,(q2 G).map Prod.fst=es) (hq2:∀ oa G,∀ q∈q2 G,ao q.1=true∧bi ⟨fx,oa,G⟩ q)
  (hd:bo (q1.map Prod.snd) fun xs=>okK (bE G k) fun l=>l.length≤ai∧okK l.getLast? fun y=>bo ((q2 (G.set k (.ownL l.dropLast))).map Prod.snd) fun zs=>K (G.set k (.ownL l.dropLast)) (xs++y :: zs)) (I:Inv ⟨fx,oa,G⟩ s)
  (h:∀ oa' G' vs xs s',Inv ⟨fx,oa',G'⟩ s'→Tr ⟨fx,oa,G⟩ s ⟨fx,oa',G'⟩ s'→K G' xs→(Ct.mk fx oa' G').rps s'.heap vs xs→Q vs s') :
  wpAny (model fx.g.prog fx.g.w) fx.A (spliced (backTo pos (starEach (q1.map Prod.fst++.Call (.Attribute (.Name n np) "pop" apos) [] [] ppos :: es) fx.env))) Q E s:=by
 refine lK (Φ:=⟨fx,oa,G⟩) hq1 hd I fun vs xs s₁ I₁ k₁ hk rs=>ag hk fun l el hl=>ag hl.2 fun y ey hy=>?_
 refine nG rfl (y5 (Φ:=⟨fx,oa,G⟩) hx hn hline I₁ el hl.1 ey fun a v s₂ ha I₂ t₂ r=>?_)
 refine (he (G.set k (.ownL l.dropLast)))▸(List.append_nil ((q2 _).map Prod.fst))▸?_
 refine lK (Φ:=(Ct.mk fx oa G).put k (some a) (.ownL l.dropLast)) (hq2 _ _) hy I₂ fun ws zs s₃ I₃ k₃ hz rz=>zC2 ?_
 rw [List.append_nil]
 refine h _ _ (vs++v :: ws) (xs++y :: zs) s₃ I₃ (((Tr.of_keeps k₁).trans t₂).trans (Tr.of_keeps k₃)) hz (((rs.map t₂.mapK).keep k₃).append (.cons ?_ rz))
 have r:=r.keep k₃
 unfold Ct.rp at r
 rw [← wH (sl:=.ownL l.dropLast) ha] at r
 exact r
theorem u5 {E:Value→Shared→Prop} {Q:Args→Shared→Prop} (hp:ao e=true) (it:wpAny M A (spliced (backTo pos (starEach (e :: r) env))) (fun vs s₁=>Q ⟨vs,[]⟩ s₁) E s):wpAny M A (evalArgs F true (backTo pos (starEach (e :: r) env)) []) Q E s:=by
 rw [aN hp] at it ⊢
 obtain ⟨l,hl⟩:∃ l,backTo pos ((false,eval e env) :: starEach r env)=(false,eval e env) :: l:=by
  cases starEach r env <;> exact ⟨_,rfl⟩
 rw [hl] at it ⊢
 exact Calls.evalArgs_plain it
theorem sh {oa:Nat→Option Addr} {oa₀:Nat→Option Addr} {K:Option V→Gs→Prop} {E:Value→Shared→Prop} (hT:TgtOk fx.ρ fx.env x j) (I:Inv ⟨fx,oa,G⟩ s) (t:Tr ⟨fx,oa₀,G₀⟩ s₀ ⟨fx,oa,G⟩ s) (r:(Ct.mk fx oa G).rp s.heap v z) (hk:K none (G.set j (.v z))) :
  wpAny (model fx.g.prog fx.g.w) fx.A (do standAt p; bindName fx.env x v; pure Flow.next) (PostS ⟨fx,oa₀,G₀⟩ s₀ K) E s:=by
 refine zC1 (wpAny_standAt (zC1 (wpAny_bindName (eF (Φ:=⟨fx,oa,G⟩) I hT.lk hT.nf (fun h' tk ps=>zC2 ?_) _))))
 have q:=iO (Φ:=⟨fx,oa,G⟩) (tk:=tk) I ps r
 exact .next (Φ:=⟨fx,oa₀,G₀⟩) q.1 (t.trans q.2) hk
theorem xn {j k f:Nat} {d1:Gs→DV} {q2:Gs→List (Expr×DV)} {es:List Expr} (hT:TgtOk fx.ρ fx.env x j) (hg:bz fx.env.scope.names fnm=true) (hf:fx.g.fns.lookup fnm=some f) (hfn:keepIn fx.g.K (.ref (fx.g.fn f))=true) (hsf:fx.hm=true→fx.g.safe f=true)
  (hx:fx.ρ.lookup n=some k) (hn:aV n=true) (hline:(apos.endLine==ppos.line)=true) (hp:ao e1=true) (h1:∀ oa G,Ev ⟨fx,oa,G⟩ (eval e1 fx.env) (d1 G)) (he:∀ G,(q2 G).map Prod.fst=es) (hq2:∀ oa G,∀ q∈q2 G,ao q.1=true∧bi ⟨fx,oa,G⟩ q) :
  ExB fx (exec (.Assign [.Name x py] (.Call (.Name fnm fp) (e1 :: .Call (.Attribute (.Name n np) "pop" apos) [] [] ppos :: es) [] cpos) spos) fx.env) (fun G K=>d1 G fun x=>okK (bE G k) fun l=>l.length≤ai∧okK l.getLast? fun y=>bo ((q2 (G.set k (.ownL l.dropLast))).map Prod.snd) fun zs=>am fx.g.P fx.d f (x :: y :: zs) fun z=>noX z=true∧K none ((G.set k (.ownL l.dropLast)).set j (.v z))):=fun oa G K s hd I=>by
 rw [exec_Assign_Name _ _ _ _ _ (b7 rfl)]
 refine zC1 (wpAny_standAt (zC1 ?_))
 refine (?_:wpAny _ _ (eval (.Name fnm fp) fx.env >>= fun F=>callWith cpos F [] (backTo cpos (starEach (e1 :: .Call (.Attribute (.Name n np) "pop" apos) [] [] ppos :: es) fx.env)) []) _ _ s)
 refine zC1 (bV (Φ:=⟨fx,oa,G⟩) I hg (I.ok.gr.fns fnm f hf) ?_ _)
 have hpl:(backTo cpos (starEach (e1 :: .Call (.Attribute (.Name n np) "pop" apos) [] [] ppos :: es) fx.env)).any (·.1)=false:=by
  exact (he G)▸dx (bT (qs:=(e1,d1 G) :: (.Call (.Attribute (.Name n np) "pop" apos) [] [] ppos,d1 G) :: q2 G) (zA1 ⟨hp,zA1 ⟨rfl,fun q m=>(hq2 oa G q m).1⟩⟩))
 refine callWith_of (by rw [hpl]; rfl) (keeps_K hfn) (u5 hp ?_)
 refine qZ (q1:=[(e1,d1 G)]) (K:=fun G' xs=>am fx.g.P fx.d f xs fun z=>noX z=true∧K none (G'.set j (.v z))) hx hn hline (fun q m=>by obtain rfl:=zA6 m; exact ⟨hp,h1 oa G⟩) he hq2 hd I fun oa' G' vs xs s' I' t' hk rs=>⟨I'.frag,?_⟩
 exact wpAny_mono (dz (Φ:=⟨fx,oa',G'⟩) hsf I' hk rs) (fun v s₂ p=>by
  obtain ⟨⟨B,k₂,z,hz,r⟩,_⟩:=p
  exact sh hT (I'.keep B k₂) (t'.trans (Tr.of_keeps k₂)) r hz) fun _ _ z=>z
end
section
variable {fx:Fx}
theorem xm {d0:Gs→DV} {q1 q2:Gs→List (Expr×DV)} (hT:TgtOk fx.ρ fx.env x j)
  (hx:fx.ρ.lookup n=some k) (hn:aV n=true) (hline:(apos.endLine==ppos.line)=true) (h0:∀ oa G,Ev ⟨fx,oa,G⟩ (eval e0 fx.env) (d0 G)) (he1:∀ G,(q1 G).map Prod.fst=es1) (hq1:∀ oa G,∀ q∈q1 G,ao q.1=true∧bi ⟨fx,oa,G⟩ q) (he:∀ G,(q2 G).map Prod.fst=es) (hq2:∀ oa G,∀ q∈q2 G,ao q.1=true∧bi ⟨fx,oa,G⟩ q) :
  ExB fx (exec (.Assign [.Name x py] (.Subscript e0 (.Tuple (es1++.Call (.Attribute (.Name n np) "pop" apos) [] [] ppos :: es) kk tp) bp) spos) fx.env) (fun G K=>d0 G fun D=>bo ((q1 G).map Prod.snd) fun xs=>okK (bE G k) fun l=>l.length≤ai∧okK l.getLast? fun y=>bo ((q2 (G.set k (.ownL l.dropLast))).map Prod.snd) fun zs=>(xs++y :: zs).length≤ai∧okK (g8 D (.tuple (xs++y :: zs))) fun z=>K none ((G.set k (.ownL l.dropLast)).set j (.v z))):=fun oa G K s hd I=>by
 rw [exec_Assign_Name _ _ _ _ _ (b7 rfl),arm_eval_Subscript]
 refine zC1 (wpAny_standAt (zC1 (zC1 (wpAny_mono (h0 oa G _ s hd I _) (fun v s₁ ⟨B,k₁,D,hD,rD⟩=>?_) fun _ _ z=>z))))
 have I₁:=I.keep B k₁
 refine zC1 (wpAny_holding ?_)
 rw [arm_eval_Tuple,← he1 G]
 refine zC1 (wpAny_standAt (zC1 ?_))
 refine qZ (q1:=q1 G) (K:=fun G' xs=>xs.length≤ai∧okK (g8 D (.tuple xs)) fun z=>K none (G'.set j (.v z))) hx hn hline (hq1 oa G) he hq2 hD I₁ fun oa' G' vs xs s₂ I₂ t₂ hk rs=>?_
 refine ag hk.2 fun z ez kz=>?_
 refine wpAny_newObj_type ?_ (by refine (?_:vs.toArray.size≤sizeLine); rw [List.size_toArray,rs.length]; exact cH hk.1)
 have m:=dF (Φ:=⟨fx,oa',G'⟩) (n:=0) (tk:=s₂.toks) I₂ rs
 have I₃:=I₂.keep (I₂.base.grown m.1) m.1.keeps
 refine wpAny_mono (jA (Φ:=⟨fx,oa',G'⟩) (ve (Φ:=⟨fx,oa',G'⟩) I₃ ez ((rD.map t₂.mapK).keep m.1.keeps) m.2) _) (fun w s₄ p=>?_) fun _ _ z=>z
 exact sh hT (I₃.keep (I₃.base.grown p.1) p.1.keeps) ((Tr.of_keeps k₁).trans (t₂.trans ((Tr.of_keeps m.1.keeps).trans (Tr.of_keeps p.1.keeps)))) p.2 kz
end
section
variable {g:Gl} {bad:Addr→Prop} {h:Heap} {o:Obj} {ws:List Value} {j:Nat} {x:Str} {v:Value}
theorem uC (f:d7 g o ws) (nd:g.flds.Nodup) (hx:g.flds[j]?=some x) (hv:ws[j]?=some v):lookIn x o=some (some v):=by
 obtain ⟨_,es,n,hd,hw,hk⟩:=f
 subst hw
 replace hv:=(Array.getElem?_toList)▸(List.getElem?_map)▸hv
 obtain ⟨e,ee,rfl⟩:=Option.map_eq_some_iff.mp hv
 obtain ⟨y,t,hy,ek⟩:=hk j e ee
 replace hy:=hx▸hy; (injection hy with hy; subst hy)
 unfold lookIn
 rw [hd]
 dsimp only
 cases hf:es.toList.find? (·.key.isStr x) with
 | none=>
  have:=List.find?_eq_none.mp hf e (List.mem_of_getElem? (Array.getElem?_toList▸ee))
  rw [ek] at this
  exact absurd (by simp [Value.isStr]) this
 | some e'=>
  have hm:=List.mem_of_find?_eq_some hf
  have hs:=List.find?_some hf
  obtain ⟨i,hi⟩:=List.getElem?_of_mem hm
  replace hi:=(Array.getElem?_toList)▸hi
  obtain ⟨z,t',hz,ek'⟩:=hk i e' hi
  replace hs:=ek'▸hs
  have hzx:z=x:=by simpa [Value.isStr] using hs
  subst hzx
  have:=(List.getElem?_inj (List.getElem?_eq_some_iff.mp hx).1 nd).mp (hx.trans hz.symm)
  subst this
  replace hi:=ee▸hi; (injection hi with hi; subst hi); rfl
theorem sS (f:d7 g o ws) (hx:x∉g.flds):lookIn x o=some none:=by
 refine aq fun Z4 kZ4=>?_
 refine f.elim fun _ Zq26=>Zq26.elim fun es Zq27=>Zq27.elim fun n Zq28=>Zq28.elim fun hd Zq29=>Zq29.elim fun hw hk=>?_
 refine kZ4 ?_
 have key:∀ e∈es.toList,∃ y t,y∈g.flds∧e.key=.str y t:=fun e m=>by
  refine (List.getElem?_of_mem m).elim fun i hi=>?_
  rw [Array.getElem?_toList] at hi
  refine (hk i e hi).elim fun z Zq30=>Zq30.elim fun t' Zq31=>Zq31.elim fun hz ek'=>?_
  exact ⟨z,t',List.mem_of_getElem? hz,ek'⟩
 unfold lookIn
 rw [hd]
 dsimp only
 have hf:es.toList.find? (·.key.isStr x)=none:=List.find?_eq_none.mpr fun e m q=>by
  refine (key e m).elim fun y Zq32=>Zq32.elim fun t Zq33=>Zq33.elim fun hy ek=>?_
  rw [ek] at q
  have:y=x:=by simpa [Value.isStr] using q
  exact hx (this▸hy)
 have hr:es.toList.any (·.refKey)=false:=List.any_eq_false.mpr fun e m q=>by
  refine (key e m).elim fun y Zq34=>Zq34.elim fun t Zq35=>Zq35.elim fun hy ek=>?_
  unfold DictEntry.refKey at q
  rw [ek] at q; (injection q; done)
 rw [hf,hr]; rfl
theorem sX {y:V} (r:Rp g bad h v y):handedIn v=true:=by cases r <;> rfl
end
section
variable {Φ:Ct} {s:Shared} {v u:Value} {x y z:V} {d:DV}
theorem ur {C:Addr} {o:Obj} {nm:Str} (I:Inv Φ s):∃ cd,clsIn Φ.fx.g.K Φ.fx.g.C=some cd∧PySem.W.ownOf cd (some o) nm=lookIn nm o:=by
 refine (any_some I.ok.gr.cls.hdict).elim fun cd Zq36=>Zq36.elim fun hc hd=>?_
 exact ⟨cd,hc,by unfold PySem.W.ownOf; rw [hd]; rfl⟩
theorem uQ {o:Obj} {ws:List Value} {j:Nat} {nm:Str} (I:Inv Φ s) (f:d7 Φ.fx.g o ws) (hx:Φ.fx.g.flds[j]?=some nm) (hv:ws[j]?=some v):findObj Φ.fx.g.K Φ.fx.g.C (some o) nm=some (.value v):=by
 refine (ur (C:=0) (o:=o) (nm:=nm) I).elim fun cd Zq37=>Zq37.elim fun hc ho=>?_
 unfold findObj
 rw [hc,Option.bind_some,I.ok.gr.cls.flds nm (List.mem_of_getElem? hx),Option.bind_some,Option.bind_some,Option.bind_some]
 refine (?_:(PySem.W.ownOf cd (some o) nm).bind _=_)
 rw [ho,uC f I.ok.gr.cls.nodup hx hv]; rfl
theorem xz {e:Expr} {nm:Str} {j:Nat} {pos:Pos} (he:b8 e=true) (hx:Φ.fx.g.flds[j]?=some nm) (h:Ev Φ (eval e Φ.fx.env) d) :
  Ev Φ (eval (.Attribute e nm pos) Φ.fx.env) (fun K=>d fun x=>okK (opN (.attr j) [x]) K):=fun K s hd I=>by
 rw [arm_eval_Attribute,bX he]
 refine h.bind hd I fun v x s₁ I₁ k₁ hx' r=>a9 ?_
 refine ag hx' fun z ez kz E=>?_
 cases x with
 | dict kvs=>
  refine bG (ez:(if pH kvs=true then (kvs[j]?).map (·.2) else none)=some z) fun hik ez=>?_
  obtain ⟨p,hp,rfl⟩:=Option.map_eq_some_iff.mp ez
  refine r.inst_elim (C:=fun v=>wpAny _ _ (holding [v] (getAttr v nm true) >>= _) _ E s₁) hik fun a dd o ws nb nb' ha hdd hf _ hl=>?_
  have hz:(kvs.map (·.2))[j]?=some p.2:=by rw [List.getElem?_map,hp]; rfl
  obtain ⟨w,hw,rw'⟩:=hl.get hz
  exact zC1 (wpAny_holding (get_value I₁.frag ⟨ha,rfl,rfl,hdd⟩ I₁.ok.gr.cls.hga (uQ I₁ hf hx hw) (sX rw') (zC1 (wpAny_letTemporaryGo (zC2 ⟨I₁.base.grown (.toks _ _),.refl _,_,kz,rw'⟩)))))
 | _=>(injection ez; done)
theorem xt {e:Expr} {nm:Str} {f:Nat} {apos pos:Pos} (he:b8 e=true) (hline:(apos.endLine==pos.line)=true) (hnf:nm∉Φ.fx.g.flds) (hf:findIn Φ.fx.g.K (.ref Φ.fx.g.C) nm=some (some (.ref (Φ.fx.g.fn f)))) (ht:typeIn Φ.fx.g.K (.ref (Φ.fx.g.fn f))=some (.type "function")) (hk:keepIn Φ.fx.g.K (.ref (Φ.fx.g.fn f))=true) (hsf:Φ.safe f) (h:Ev Φ (eval e Φ.fx.env) d) :
  EvC Φ (Φ.fx.g.newf f) (eval (.Call (.Attribute e nm apos) [] [] pos) Φ.fx.env) (fun K=>d fun x=>qv x=true∧am Φ.fx.g.P Φ.fx.d f [x] fun y=>noX y=true∧K y):=fun K s hd I=>by
 rw [arm_eval_Call,bX he]
 refine h.bindC hd I fun v x s₁ I₁ k₁ hx r=>a9 fun E=>?_
 cases x with
 | dict kvs=>
  unfold methodCall
  have r':=r
  refine Rp.inst_elim (C:=fun v=>Φ.rp s₁.heap v (.dict kvs)→wpAny _ _ (holding [v] (calleeOf _ e Φ.fx.env v nm) >>= _) _ E s₁) r hx.1 (fun a dd o ws nb nb' ha hdd hfl _ hl r'=>?_) r'
  refine zC1 (wpAny_holding (method_fn (od:=some o) I₁.frag ⟨ha,rfl,rfl,hdd⟩ I₁.ok.gr.cls.hga I₁.ok.gr.cls.hgk hf ht (by refine (?_:(lookIn nm o).map _=_); rw [sS hfl hnf]; rfl) ?_))
  have hp:methodCallPos (methodCallForm ([]:List Expr).length (backTo pos (starEach [] Φ.fx.env)) (backToKw pos (keywordEach [] Φ.fx.env))) e Φ.fx.env apos pos=pure pos:=by unfold methodCallPos; rw [hline,Bool.or_true]; rfl
  refine zC1 ?_
  refine (?_:wpAny _ _ (methodCallPos (methodCallForm ([]:List Expr).length (backTo pos (starEach [] Φ.fx.env)) (backToKw pos (keywordEach [] Φ.fx.env))) e Φ.fx.env apos pos) _ _ _)
  refine hp.symm▸?_
  refine zC2 (callWith_of rfl (keeps_K hk) (PySem.evalArgs_none ⟨I₁.frag,?_⟩))
  exact dz hsf I₁ hx.2 (.cons r' .nil)
 | _=>(injection hx.1; done)
end
section
variable {fx:Fx}
theorem gF {G:Gs} {k:Nat} {l:List V} (e:dU G k=some l):getSlot G k=.ownI l:=by
 unfold dU at e
 revert e
 cases getSlot G k with
 | ownI m=>exact fun e=>congrArg Slot.ownI (Option.some.inj e)
 | _=>exact fun e=>nN e.symm
theorem pf {Φ:Ct} {s:Shared} {E:Value→Shared→Prop} {b a:Addr} {o:Obj} {ws:List Value} {nm:Str} {v:Value} {Q:Unit→Shared→Prop} (I:Inv Φ s) (hb:s.heap.get? b=some (instObj Φ.fx.g.C a)) (ha:s.heap.get? a=some o) (hf:d7 Φ.fx.g o ws) (hx:Φ.fx.g.flds[ws.length]?=some nm)
  (h:∀ h' tk o',Heap.SameBut a s.heap h'→h'.get? a=some o'→d7 Φ.fx.g o' (ws++[v])→Q () { s with heap:=h',toks:=tk }):wpAny (model Φ.fx.g.prog Φ.fx.g.w) Φ.fx.A (setAttr (.ref b) nm v) Q E s:=by
 have ht:takerIn Φ.fx.g.K Φ.fx.g.C nm=some none:=by unfold takerIn; rw [I.ok.gr.cls.flds nm (List.mem_of_getElem? hx)]; rfl
 have IA:InstAt s.heap b (instObj Φ.fx.g.C a) Φ.fx.g.C (some o):=⟨hb,rfl,rfl,ha⟩
 refine set_plain I.frag IA I.ok.gr.cls.hsa ?_
 refine osa_open (s:={ s with toks:=s.toks+1 }) (od:=some o) I.frag ⟨hb,rfl,rfl,ha⟩ I.ok.gr.cls.over ht fun bb=>?_
 obtain ⟨cd,hc,hd'⟩:=any_some I.ok.gr.cls.hdict
 refine zC1 (zC2 (zC1 (zC1 (wpAny_loadPart hb (zC1 (Looks.here (s:={ s with toks:=s.toks+1 }) (looks_clsIn I.frag hc) ?_))))))
 refine hd'.symm▸?_
 refine wpAny_pure (a:=some a) (zC1 (zC2 (zC1 ?_)))
 skip
 refine zC1 (zC1 (wpAny_askSetting (zC2 (zC1 (wpAny_mkText (zC1 (wpAny_loadPart ha ?_)))))))
 obtain ⟨hex,es,n,hd,hw,hk⟩:=hf
 have hlen:es.size=ws.length:=by rw [← hw,zA4,zB3]
 have key:∀ e∈es.toList,∃ y t,e.key=.str y t∧y≠nm:=fun e m=>by
  refine (List.getElem?_of_mem m).elim fun i hi=>?_
  replace hi:=(Array.getElem?_toList)▸hi
  refine (hk i e hi).elim fun z Zq46=>Zq46.elim fun t' Zq47=>Zq47.elim fun hz ek'=>?_
  refine ⟨z,t',ek',fun q=>?_⟩
  subst q
  have:=(List.getElem?_inj (List.getElem?_eq_some_iff.mp hz).1 I.ok.gr.cls.nodup).mp (hz.trans hx.symm)
  have:=(Array.getElem?_eq_some_iff.mp hi).1
  lia
 have na:es.toList.any (·.key.isStr nm)=false:=List.any_eq_false.mpr fun e m q=>by
  obtain ⟨y,t,ek,hy⟩:=key e m
  rw [ek] at q
  exact hy (by simpa [Value.isStr] using q)
 have nr:es.toList.any (·.refKey)=false:=List.any_eq_false.mpr fun e m q=>by
  obtain ⟨y,t,ek,hy⟩:=key e m
  unfold DictEntry.refKey at q
  rw [ek] at q; (injection q; done)
 rw [hd]
 dsimp only
 rw [aRefKeyMayBeTheName_at,← Array.any_toList,← Array.any_toList,nr,Bool.and_false]
 refine wpAny_updatePart ha ?_
 refine aq fun Z19 kZ19=>?_
 obtain ⟨l⟩:=es
 obtain ⟨oc,od,dat,sl⟩:=o
 refine kZ19 ?_
 subst hd
 have pe:=putName_eq nm (PyData.keyHash Φ.fx.g.w.params nm) (.str nm (s.toks+1)) v oc od l n sl
 rw [na,if_neg Bool.false_ne_true,show PySem.putIn (·.key.isStr nm) (fun e=>{ e with val:=v }) ⟨PyData.keyHash Φ.fx.g.w.params nm,.str nm (s.toks+1),v⟩ l=l++[⟨PyData.keyHash Φ.fx.g.w.params nm,.str nm (s.toks+1),v⟩] by unfold PySem.putIn; rw [List.findIdx?_eq_none_iff.mpr fun e m=>by simpa using List.any_eq_false.mp na e m]] at pe
 have D':=Heap.get?_update_self (Obj.putName nm (PyData.keyHash Φ.fx.g.w.params nm) (.str nm (s.toks+1)) v) ha (by rw [pe]; rfl)
 rw [pe] at D'
 have hlt:=(List.getElem?_eq_some_iff.mp hx).1
 have hfew:=I.ok.gr.cls.few
 refine zC1 (wpAny_lookBehind D' (pastItsLine_dict (by rw [List.size_toArray,zB5,sizeLine_eq]; refine (?_:l.length+1≤_); have:l.length=ws.length:=hlen; exact zB1 (Nat.add_le_add (zB1 (zB2 this) (zB1 (Nat.le_of_lt hlt) hfew)) (Nat.le_refl _)) (by decide))) ?_)
 refine zC2 (h _ _ _ (.update ..) D' ⟨⟨hex.1,hex.2.1,hex.2.2⟩,_,_,rfl,?_,fun j e ee=>?_⟩)
 ·rw [List.map_append,hw]; rfl
 ·have ee:(l++[(⟨PyData.keyHash Φ.fx.g.w.params nm,.str nm (s.toks+1),v⟩:DictEntry)])[j]?=some e:=by simpa using ee
  rcases Nat.lt_or_ge j l.length with q | q
  ·rw [List.getElem?_append_left q] at ee; exact hk j e (by simpa using ee)
  ·replace ee:=(List.getElem?_append_right q)▸ee
   have:j - l.length=0:=by have:=(List.getElem?_eq_some_iff.mp ee).1; rw [List.length_singleton] at this; exact Nat.le_antisymm (Nat.le_of_lt_succ this) (Nat.zero_le _)
   replace ee:=this▸ee
   (injection ee with ee; subst ee)
   have hl2:l.length=ws.length:=hlen
   exact ⟨nm,_,by rw [show j=ws.length by grind]; exact hx,rfl⟩
theorem tO.snoc {a:Addr} {ws:List Value} {l:List V} {v:Value} {x:V} (n:tO a ws l) (hlen:ws.length=l.length) (h:∀ c m,v=.ref c→x=.list m→a < c):tO a (ws++[v]) (l++[x]):=fun j b m e1 e2=>by
 rcases Nat.lt_or_ge j ws.length with q | q
 ·replace e1:=(List.getElem?_append_left q)▸e1; replace e2:=(List.getElem?_append_left (hlen▸q))▸e2; exact n j b m e1 e2
 ·replace e1:=(List.getElem?_singleton)▸(List.getElem?_append_right q)▸e1; rw [List.getElem?_append_right (hlen▸q),List.getElem?_singleton] at e2
  split at e1
  ·rename_i z; rw [if_pos (hlen▸z)] at e2; exact h b m (Option.some.inj e1) (Option.some.inj e2)
  ·(injection e1; done)
theorem fC {n:Str} {k j:Nat} {np ap spos:Pos} {nm:Str} {e:Expr} {d:Gs→DV} {K:Option V→Gs→Prop} {oa:Nat→Option Addr} {G:Gs} {s:Shared} (hx:fx.ρ.lookup n=some k) (hn:aV n=true) (hnm:fx.g.flds[j]?=some nm) (hs:cx e=true) (I:Inv ⟨fx,oa,G⟩ s)
  (h:(Ct.mk fx oa G).wp (eval e fx.env) (fun v s₁=>∃ x,Base fx.g s₁∧aF s.heap s₁.heap∧(Ct.mk fx oa G).rp s₁.heap v x∧(∀ m,x=.list m→lj s.heap v)∧okK (dU G k) fun l=>l.length=j∧K none (G.set k (.ownI (l++[x])))) s) :
  wpAny (model fx.g.prog fx.g.w) fx.A (exec (.Assign [.Attribute (.Name n np) nm ap] e spos) fx.env) (PostS ⟨fx,oa,G⟩ s K) (PostX ⟨fx,oa,G⟩ s K) s:=by
 refine plainObj_wpAny_Assign_Attribute (wpAny_mono (h _) (fun v s₁ Zq1=>Zq1.elim fun x Zq2=>Zq2.elim fun B1 Zq3=>Zq3.elim fun k1 Zq4=>Zq4.elim fun r Zq5=>Zq5.elim fun nv hx'=>ag hx' fun l el Zq6=>Zq6.elim fun hj hk=>?_) fun _ _ z=>z) (b7 hs)
 have I1:=I.keep B1 k1
 obtain ⟨a,u,ha,pr,b,o,ws,rfl,eb,nb,hb,ho,hf,hnl,hl⟩:=fN (Φ:=⟨fx,oa,G⟩) I (gF el) id
 have hb1:=k1.get hb fc
 have ho1:=k1.get ho (aK hf.1.1)
 refine cu (Φ:=⟨fx,oa,G⟩) I1.ok hx hn (pr.keep k1) ?_ _
 refine pf (Φ:=⟨fx,oa,G⟩) I1 hb1 ho1 hf (hl.length.symm▸hj.symm▸hnm) fun h' tk o' sb ho' hf'=>?_
 have mk:cX (Ct.mk fx oa G).bad (Ct.mk fx oa G).bad s₁.heap h':=fun c o e _ nc=>⟨nc,sb.extBut c o (fun q=>nc (.inr (.inr ⟨k,q▸ha⟩))) e⟩
 have q:=Inv.mutate (Φ:=⟨fx,oa,G⟩) (sl:=.ownI (l++[x])) (tk:=tk) I1 ha (pr.keep k1) ⟨o,ho1,aK hf.1.1⟩ sb ⟨_,ho'⟩ ⟨b,o',ws++[v],rfl,eb,nb,(mk _ _ hb1 fc nb).2,ho',hf',hnl.snoc hl.length fun c m e q=>nv m q c b e ⟨_,hb⟩,((hl.keep k1).map mk).append (.cons (r.map mk) .nil)⟩ (fun _ q=>nomatch q) (fun q=>nomatch q) fun _=>by refine (?_:isI (getSlot G k)); rw [gF el]; trivial
 exact .next (Φ:=⟨fx,oa,G⟩) q.1 ((Tr.of_keeps k1).trans q.2) hk
theorem pX {n:Str} {k j:Nat} {np ap spos:Pos} {nm:Str} {e:Expr} {d:Gs→DV} (hx:fx.ρ.lookup n=some k) (hn:aV n=true) (hnm:fx.g.flds[j]?=some nm) (hs:cx e=true) (h:∀ oa G,Ev ⟨fx,oa,G⟩ (eval e fx.env) (d G)) :
  ExB fx (exec (.Assign [.Attribute (.Name n np) nm ap] e spos) fx.env) (fun G K=>d G fun x=>j5 x=false∧okK (dU G k) fun l=>l.length=j∧K none (G.set k (.ownI (l++[x])))):=fun oa G K s hd I=>
 fC (d:=d) hx hn hnm hs I fun E=>wpAny_mono (h oa G _ s hd I E) (fun v s₁ ⟨B,k,x,hx,r⟩=>⟨x,B,k,r,(fun m e=>by subst e; (injection hx.1; done)),hx.2⟩) fun _ _ z=>z
theorem nk {n:Str} {k j:Nat} {np ap spos:Pos} {nm:Str} {e:Expr} {d:Gs→DV} (hx:fx.ρ.lookup n=some k) (hn:aV n=true) (hnm:fx.g.flds[j]?=some nm) (hs:cx e=true) (h:∀ oa G,EvN ⟨fx,oa,G⟩ (eval e fx.env) (d G)) :
  ExB fx (exec (.Assign [.Attribute (.Name n np) nm ap] e spos) fx.env) (fun G K=>d G fun x=>okK (dU G k) fun l=>l.length=j∧K none (G.set k (.ownI (l++[x])))):=fun oa G K s hd I=>
 fC (d:=d) hx hn hnm hs I fun E=>wpAny_mono (h oa G _ s hd I E) (fun v s₁ ⟨⟨B,k,x,hx,r⟩,n⟩=>⟨x,B,k,r,fun _ _=>n,hx⟩) fun _ _ z=>z
end
structure Noted (F:List Addr) (lo:Heap) (h h':Heap):Prop where
 low:∀ b o,h.get? b=some o→aS lo b→(∃ sl,h'.get? b=some { o with slots:=sl })∧(b∉F→h'.get? b=some o)
 data:∀ b o,h.get? b=some o→(∀ vs,o.data≠.fields vs)→(∃ sl,h'.get? b=some { o with slots:=sl })∧(b∉F→h'.get? b=some o)
 live:∀ b,aS h b→aS h' b
theorem Noted.refl (F:List Addr) (lo:Heap) (h:Heap):Noted F lo h h:=⟨fun _ o e _=>⟨⟨o.slots,e⟩,fun _=>e⟩,fun _ o e _=>⟨⟨o.slots,e⟩,fun _=>e⟩,fun _ l=>l⟩
theorem Noted.trans {F:List Addr} {lo:Heap} {h₁ h₂ h₃:Heap} (x:Noted F lo h₁ h₂) (y:Noted F lo h₂ h₃):Noted F lo h₁ h₃ where
 low:=fun b o e hb=>by
  obtain ⟨⟨sl,e₁⟩,f₁⟩:=x.low b o e hb
  obtain ⟨⟨sl',e₂⟩,f₂⟩:=y.low b _ e₁ hb
  exact ⟨⟨sl',e₂⟩,fun hF=>(y.low b _ (f₁ hF) hb).2 hF⟩
 data:=fun b o e hd=>by
  obtain ⟨⟨sl,e₁⟩,f₁⟩:=x.data b o e hd
  obtain ⟨⟨sl',e₂⟩,f₂⟩:=y.data b _ e₁ hd
  exact ⟨⟨sl',e₂⟩,fun hF=>(y.data b _ (f₁ hF) hd).2 hF⟩
 live:=fun b l=>y.live b (x.live b l)
theorem Noted.frames {F:List Addr} {lo h h' base:Heap} {l:List Env} (x:Noted F lo h h') (f:h.FunFrames base l):h'.FunFrames base l:=
 f.of_keeps fun b o ho hd=>by obtain ⟨⟨sl,e⟩,_⟩:=x.data b o ho hd; exact ⟨_,e,rfl⟩
theorem Noted.le {F:List Addr} {lo lo':Heap} {h h':Heap} (x:Noted F lo h h') (q:∀ b,aS lo' b→aS lo b):Noted F lo' h h':=⟨fun b o e hb=>x.low b o e (q b hb),x.data,x.live⟩
noncomputable def aX (l:List Env):List Addr:=l.filterMap (·.frame)
section
variable {M:Model} {A:Around} {E:Value→Shared→Prop} {s:Shared} {base:Heap} {env:Env} {outer:List Env} {L e:Addr} {lo:Heap} {cls:Value}
theorem d9 (ho:h.get? a=some o) (hd:o.data=.fields vs) (hlo:lo.get? a=none) (f:Array Value→Array Value):Noted F lo h (h.update a (Obj.mapFields f)) where
 low:=fun b ob eb hb=>by
  have:(h.update a (Obj.mapFields f)).get? b=some ob:=(Heap.get?_update_ne _ _ _ _ (by intro q; subst q; obtain ⟨_,hb⟩:=hb; replace hb:=hlo▸hb; (injection hb; done))).trans eb
  exact ⟨⟨ob.slots,this⟩,fun _=>this⟩
 data:=fun b ob eb hn=>by
  have:(h.update a (Obj.mapFields f)).get? b=some ob:=(Heap.get?_update_ne _ _ _ _ (by intro q; subst q; replace eb:=ho▸eb; (injection eb with eb; subst eb); exact hn vs hd)).trans eb
  exact ⟨⟨ob.slots,this⟩,fun _=>this⟩
 live:=fun b ⟨ob,eb⟩=>by
  by_cases q:b=a
  ·subst q
   exact ⟨_,Heap.get?_update_self _ ho (Obj.isFreed_of_fields (Obj.data_mapFields hd f))⟩
  ·exact ⟨ob,(Heap.get?_update_ne _ _ _ _ q).trans eb⟩
theorem pj (o:Obj):Noted F lo h (h.push o) where
 low:=fun b ob eb _=>⟨⟨ob.slots,Heap.get?_push_of_some _ eb⟩,fun _=>Heap.get?_push_of_some _ eb⟩
 data:=fun b ob eb _=>⟨⟨ob.slots,Heap.get?_push_of_some _ eb⟩,fun _=>Heap.get?_push_of_some _ eb⟩
 live:=fun b ⟨ob,eb⟩=>⟨ob,Heap.get?_push_of_some _ eb⟩
theorem nh (x:Heap.SlotsOnly F h h'):Noted F lo h h' where
 low:=fun b ob eb _=>⟨x.2.2 b ob eb,fun hF=>(x.2.1 b hF).trans eb⟩
 data:=fun b ob eb _=>⟨x.2.2 b ob eb,fun hF=>(x.2.1 b hF).trans eb⟩
 live:=fun b ⟨ob,eb⟩=>let ⟨_,e⟩:=x.2.2 b ob eb; ⟨_,e⟩
theorem oH
  (hfr:A.frames=some (env :: outer)) (hl:s.heap.FunFrames base (env :: outer)) (hf:env.frame=some L) (hlo:∀ b,aS lo b→aS s.heap b)
  (he:s.heap.get? e=some oe) (hc:oe.cls=cls) (hdi:oe.dict=none) (hd:oe.data=.fields vs) (hle:lo.get? e=none) (hsz:1 < vs.size)
  (h:∀ h',Noted (aX (env :: outer)) lo s.heap h'→ExcAt h' lo e cls (rawInt L)→Q () { s with heap:=h' }) :
  wpAny M A (do let a ← frameOf env; let pl ← entryPlaceOf L hadNext; let b ← EntryCells.newEntry head a .none (rawInt L) .none pl; setField (.ref e) 1 b) Q E s:=by
 have hene:e∉(env :: outer).filterMap (·.frame):=fun hm=>by
  obtain ⟨_,o,ho,hnf⟩:=hl.mem hm
  rw [he] at ho; injection ho with ho; subst ho; exact hnf vs hd
 refine zC1 (wpAny_frameOf_fun hfr hl hf fun h₁ hs₁=>?_)
 refine zC1 (wpAny_entryPlaceOf fun pl hpl=>?_)
 skip
 refine zC1 (wpAny_newObj_type ?_ (hpl.sizeOk5 _ _ _ _ _))
 have he₁:h₁.get? e=some oe:=(hs₁.2.1 e hene).trans he
 have he₂:=Heap.get?_push_of_some (h:=h₁) { cls:=.type "traceback",dict:=none,data:=.fields ([head,.ref L,.none,rawInt L,.none]++(if pl.isEmpty then List.replicate 6 Value.none else pl)).toArray } he₁
 refine wpAny_setField he₂ hd hsz (h _ ?_ ?_)
 ·exact ((nh hs₁).trans (pj _)).trans (d9 he₂ hd hle _)
 ·have hTe:h₁.objs.size≠e:=Nat.ne_of_gt (Heap.lt_size he₁)
  have hd₃:=Obj.data_mapFields hd (·.setIfInBounds 1 (Value.ref h₁.objs.size))
  have he₃:=Heap.get?_update_self (Obj.mapFields (·.setIfInBounds 1 (Value.ref h₁.objs.size))) he₂ (Obj.isFreed_of_fields hd₃)
  have hT₃:=(Heap.get?_update_other (h₁.push { cls:=.type "traceback",dict:=none,data:=.fields ([head,.ref L,.none,rawInt L,.none]++(if pl.isEmpty then List.replicate 6 Value.none else pl)).toArray })
   (Obj.mapFields (·.setIfInBounds 1 (Value.ref h₁.objs.size))) (Ne.symm hTe)).trans (Heap.get?_push_size h₁ rfl)
  refine ⟨_,_,he₃,(Obj.cls_mapFields _ _).trans hc,?_,hd₃,hle,by simpa using hsz,.inr ⟨h₁.objs.size,_,_,by simp [hsz],hTe,by rw [hs₁.1]; exact aM (hlo _) (ak _),hT₃,rfl,?_⟩⟩
  ·obtain ⟨c,d,dt,sl⟩:=oe; simp only at hd hdi; subst hd; exact hdi
  ·first | (simp; done) | (rcases hpl with rfl | ⟨_,_,_,_,_,_,_,rfl⟩ <;> simp)
theorem rf (hfr:A.frames=some (env :: outer)) (hl:s.heap.FunFrames base (env :: outer)) (hf:env.frame=some L) (hlo:∀ b,aS lo b→aS s.heap b) (x:ExcAt s.heap lo e cls .none)
  (h:∀ h',Noted (aX (env :: outer)) lo s.heap h'→ExcAt h' lo e cls (rawInt L)→Q () { s with heap:=h' }):wpAny M A (noteFrame (.ref e) env) Q E s:=by
 obtain ⟨oe,vs,he,hc,hdi,hd,hle,hsz,hh⟩:=x
 unfold noteFrame
 simp only [hf]
 rcases hh with h1 | ⟨T,oT,ts,h1,hTe,hlT,hT,hdT,h3⟩
 ·refine zC1 (wpAny_field he hd h1 ?_)
  refine bv (by decide) ?_
  exact oH hfr hl hf hlo he hc hdi hd hle hsz h
 ·refine zC1 (wpAny_field he hd h1 ?_)
  refine eY (show (Value.ref T != Value.none)=true from by simp) ?_
  refine zC1 (wpAny_field hT hdT h3 ?_)
  refine bv ((by simp [rawInt]):¬ ((Value.none==rawInt L)=true)) ?_
  refine zC1 (wpAny_setField hT hdT (Array.getElem?_eq_some_iff.mp h3).1 ?_)
  have w:=d9 (F:=aX (env :: outer)) (lo:=lo) hT hdT hlT (·.setIfInBounds 3 Value.none)
  exact oH (s:={ s with heap:=_ }) hfr (w.frames hl) hf (fun b l=>w.live b (hlo b l)) ((Heap.get?_update_ne _ _ _ _ (Ne.symm hTe)).trans he) hc hdi hd hle hsz
   fun h' n x=>h h' (w.trans n) x
theorem gQ (x:ExcAt s.heap lo e cls fl)
  (h:∀ h',Noted F lo s.heap h'→ExcAt h' lo e cls .none→Q () { s with heap:=h' }):wpAny M A (setFlight (.ref e) none) Q E s:=by
 refine aq fun Z8 kZ8=>?_
 obtain ⟨oe,vs,he,hc,hdi,hd,hle,hsz,hh⟩:=x
 refine kZ8 ?_
 unfold setFlight
 rcases hh with h1 | ⟨T,oT,ts,h1,hTe,hlT,hT,hdT,h3⟩
 ·refine zC1 (wpAny_field he hd h1 ?_)
  refine bv (by decide) ?_
  exact zC2 (h s.heap (.refl _ _ _) ⟨oe,vs,he,hc,hdi,hd,hle,hsz,.inl h1⟩)
 ·refine zC1 (wpAny_field he hd h1 ?_)
  refine eY (show (Value.ref T != Value.none)=true from by simp) ?_
  have hsz3:3 < ts.size:=(Array.getElem?_eq_some_iff.mp h3).1
  refine wpAny_setField hT hdT hsz3 (h _ (d9 hT hdT hlT _) ?_)
  exact ⟨oe,vs,(Heap.get?_update_ne _ _ _ _ (Ne.symm hTe)).trans he,hc,hdi,hd,hle,hsz,.inr ⟨T,_,_,h1,hTe,hlT,Heap.get?_update_self _ hT (Obj.isFreed_of_fields (Obj.data_mapFields hdT _)),Obj.data_mapFields hdT _,by simp [hsz3]⟩⟩
theorem px (hfr:A.frames=some (env :: outer)) (hl:s.heap.FunFrames base (env :: outer)) (hf:env.frame=some L) (hlo:∀ b,aS lo b→aS s.heap b) (x:ExcAt s.heap lo e cls .none)
  (h:∀ h',Noted (aX (env :: outer)) lo s.heap h'→ExcAt h' lo e cls .none→Q () { s with heap:=h' }):wpAny M A (leaving env (.ref e)) Q E s:=by
 unfold leaving
 exact zC1 (rf hfr hl hf hlo x fun h₁ n₁ x₁=>gQ (s:={ s with heap:=h₁ }) x₁ fun h₂ n₂ x₂=>h h₂ (n₁.trans n₂) x₂)
end
section
variable {g:Gl} {A:Around} {s s₁:Shared} {h':Heap} {F:List Addr}
theorem gD.funs:∀ {l:List Env},gD h0 h l→h.FunFrames h0 l
 | [],_=>trivial
 | env :: l,f=>by
  obtain ⟨hk,L,o,hf,hn,ho,hc,hd⟩:=f env (.head _)
  exact ⟨hk,⟨L,o,hf,hn,ho,hd⟩,gD.funs fun e m=>f e (.tail _ m)⟩
theorem gD.frame (f:gD h0 h l) (m:b∈aX l):h0.get? b=none∧∃ o,h.get? b=some o∧o.cls=.type "frame":=by
 refine aq fun Z11 kZ11=>?_
 obtain ⟨env,me,e⟩:=List.mem_filterMap.mp m
 obtain ⟨_,L,o,hf,hn,ho,hc,_⟩:=f env me
 refine kZ11 ?_
 obtain rfl:=Option.some.inj (hf.symm.trans e)
 exact ⟨hn,o,ho,hc⟩
theorem nV (k:bB s₁.heap b o) (lo:aS s.heap b) (f:gD g.h0 s₁.heap l) (n:Noted (aX l) s.heap s₁.heap h'):bB h' b o:=k.step fun o₁ e₁=>by
 obtain ⟨⟨sl,e₂⟩,q⟩:=n.low b o₁ e₁ lo
 refine ⟨sl,e₂,fun nf=>?_⟩
 have:=q fun m=>by obtain ⟨_,o',e',c'⟩:=f.frame m; replace e':=e₁▸e'; (injection e' with e'; subst e'); exact nf c'
 rw [e₂] at this
 exact congrArg Obj.slots (Option.some.inj this)
theorem eg (k:aF s.heap s₁.heap) (f:gD g.h0 s₁.heap l) (n:Noted (aX l) s.heap s₁.heap h'):aF s.heap h':=fun b o e=>nV (k b o e) ⟨o,e⟩ f n
theorem dE (B₀:Base g s) (B:Base g s₁) (f:gD g.h0 s₁.heap l) (n:Noted (aX l) s.heap s₁.heap h'):Base g { s₁ with heap:=h' }:=
 ⟨fun b o e=>(n.low b o (B.stays b o e) ⟨o,B₀.stays b o e⟩).2 (fun m=>by have:=(f.frame m).1; replace this:=e▸this; (injection this; done)),B.os,B.gens⟩
end
section
variable {fx:Fx} {Φ:Ct} {s s₁:Shared}
structure FxTop (fx:Fx):Prop where
 top:∃ outer L,fx.A.frames=some (fx.env :: outer)∧fx.env.frame=some L
theorem uw (h:noX y=true):lW y=none:=Option.isNone_iff_eq_none.mp h
theorem fY (ok:FxOk fx) (hn:fx.ρ.lookup n=some k) (hnl:fx.env.kindOf n=some .local):fx.pl k=.ns fx.env.locals n:=by
 rcases ok.vis n k hn with ⟨_,hp⟩ | ⟨q,_⟩
 ·exact hp
 ·rcases q with q | q <;> rw [hnl] at q <;> cases q
theorem tX [Hm Φ.fx] {oa':Nat→Option Addr} {Q:Unit→Shared→Prop} {E:Value→Shared→Prop} {K:Option V→Gs→Prop} (ok:FxOk Φ.fx) (hn:Φ.fx.ρ.lookup n=some k) (hnl:Φ.fx.env.kindOf n=some .local)
  (hns:∃ m,s₁.heap.Ns Φ.fx.env.locals m) (h0:Φ.fx.g.h0.get? Φ.fx.env.locals=none) (B:Base Φ.fx.g s₁) (t:Tr Φ s (Φ.wi oa' G') s₁) (nx:noX x=true) (rp:(Φ.wi oa' G').rp s₁.heap v x) (nv:Φ.fx.nw=true→lj s.heap v) (hk:K (some x) (G'.set k .unset)) (hu:isI (getSlot (G'.set k .unset) k)→False)
  (hQ:∀ s',PostS Φ s K (.ret v) s'→Q () s'):wpAny (model Φ.fx.g.prog Φ.fx.g.w) A (do bindName Φ.fx.env n .none; unbindBehindTheSuite Φ.fx.env n hpos) Q E s₁:=by
 obtain ⟨m,hm⟩:=hns
 have hp:=fY ok hn hnl
 refine wpAny_nameGoes hnl hm (by rw [ok.kind]; rfl) fun h₇ m₇ hn₇ hs₇=>hQ _ ?_
 have hown:(Φ.wi oa' G').own Φ.fx.env.locals:=.inl ⟨k,by refine (?_:(Φ.fx.pl k).addr=_); rw [hp]; rfl⟩
 have hown':Φ.own Φ.fx.env.locals:=.inl ⟨k,by rw [hp]; rfl⟩
 have kp:∀ b o,b≠Φ.fx.env.locals→s₁.heap.get? b=some o→h₇.get? b=some o:=fun b o q e=>hs₇.extBut b o q e
 refine ⟨oa',G'.set k .unset,some x,fun q=>q.elim nofun fun q=>(nomatch (Hm.no (fx:=Φ.fx)).symm.trans q),⟨fun b o e=>kp b o (fun q=>au h0 (q▸e)) (B.stays b o e),B.os,B.gens⟩,⟨rfl,fun b o e nb=>(t.keep b o e nb).step fun o' e'=>.of (kp b o' (fun q=>nb (q▸hown')) e'),fun b l=>?_,t.grow,fun j a e q=>?_⟩,⟨nx,v,rfl,rp.map fun b o e _ nb=>⟨nb,kp b o (fun q=>nb (.inr (q▸hown))) e⟩,nv⟩,hk⟩
 ·obtain ⟨o,e⟩:=t.live b l
  by_cases q:b=Φ.fx.env.locals
  ·subst q; obtain ⟨o',_,_,e',_⟩:=hn₇; exact ⟨o',e'⟩
  ·exact ⟨o,kp b o q e⟩
 ·by_cases z:j=k
  ·subst z; exact (hu q).elim
  ·have q:isI (getSlot (G'.set k .unset) j):=q
   rw [cD z] at q
   exact t.inst j a e q
theorem Inv.mark (I:Inv ⟨fx,oa,G⟩ s) (e:Value):Inv ⟨{ fx with A:=fx.A.mark (some e),hm:=true },oa,G⟩ s:=
 ⟨⟨I.ok.gr,nofun,I.ok.kind,I.ok.globals,I.ok.builtins,I.ok.vis,I.ok.inj,I.ok.apart,I.ok.offs,I.ok.nfs,I.ok.room,I.ok.units,I.ok.call,I.ok.mo0⟩,I.base,I.slot,I.new,I.inj,I.off,I.gl,I.mo,I.fr⟩
theorem Tr.unmark (t:Tr ⟨{ fx with A:=A,hm:=true },oa,G⟩ s ⟨{ fx with A:=A,hm:=true },oa',G'⟩ s₁):Tr ⟨fx,oa,G⟩ s ⟨fx,oa',G'⟩ s₁:=⟨rfl,t.keep,t.live,t.grow,t.inst⟩
theorem raised (top:FxTop fx) (I:Inv ⟨fx,oa,G⟩ s) (I₁:Inv ⟨fx,oa,G⟩ s₁) (k₁:aF s.heap s₁.heap) (xa:ExcAt s₁.heap s.heap e (.ref (fx.g.cls d)) .none)
  (h:∀ h₃ fl,aF s.heap h₃→Base fx.g { s₁ with heap:=h₃ }→ExcAt h₃ s.heap e (.ref (fx.g.cls d)) fl→wpAny (model fx.g.prog fx.g.w) fx.A (handleBy (.ref e) fx.env hs) Q X { s₁ with heap:=h₃ }) :
  wpAny (model fx.g.prog fx.g.w) fx.A (noteFrame (.ref e) fx.env) (fun _ s₂=>wpAny (model fx.g.prog fx.g.w) fx.A (setFlight (.ref e) none) (fun _ s₃=>wpAny (model fx.g.prog fx.g.w) fx.A (handleBy (.ref e) fx.env hs) Q X s₃) X s₂) X s₁:=by
 obtain ⟨outer,L,hfr,hL⟩:=top.top
 have fr:=I₁.fr.of hfr
 refine rf (lo:=s.heap) hfr fr.funs hL (fun b l=>k₁.live l) xa fun h₂ n₂ x₂=>?_
 have k₂:=eg k₁ fr n₂
 have B₂:=dE I.base I₁.base fr n₂
 have I₂:Inv ⟨fx,oa,G⟩ { s₁ with heap:=h₂ }:=I.keep B₂ k₂
 refine gQ (s:={ s₁ with heap:=h₂ }) (F:=aX (fx.env :: outer)) x₂ fun h₃ n₃ x₃=>?_
 have fr₂:=I₂.fr.of hfr
 exact h h₃ _ (eg (s:=s) (s₁:={ s₁ with heap:=h₂ }) k₂ fr₂ n₃) (dE (s₁:={ s₁ with heap:=h₂ }) I.base B₂ fr₂ n₃) x₃
theorem xj [Hm fx] {qs:Gs→List (Expr×DV)} (top:FxTop fx) (hes:∀ G,(qs G).map Prod.fst=es) (hx:bz fx.env.scope.names fnm=true) (hf:fx.g.fns.lookup fnm=some f) (hfn:keepIn fx.g.K (.ref (fx.g.fn f))=true)
  (hC:bz fx.env.scope.names C=true) (hCl:fx.g.clss.lookup C=some c) (hn:fx.ρ.lookup n=some k) (hnl:fx.env.kindOf n=some .local) (hne:hbody≠[])
  (hq:∀ oa G,∀ q∈qs G,ao q.1=true∧bi ⟨fx,oa,G⟩ q) (hh:∀ A,A.frames=fx.A.frames→A.depth=fx.A.depth→A.units=fx.A.units→ExB { fx with A:=A,hm:=true } (execs hbody fx.env) X) :
  ExB fx (exec (.Try [.Expr (.Call (.Name fnm fp) es [] cpos) epos] [.ExceptHandler (some (.Name C np)) (some n) hbody hpos] [] [] pos) fx.env) (fun G K=>bo ((qs G).map Prod.snd) fun xs=>am fx.g.P fx.d f xs fun y=>match lW y with
   | none=>w6 y=true∧K none G
   | some d=>fx.g.P.sup d c=true∧X (G.set k (.v y)) fun fl G'=>(match fl with | some x=>noX x=true | none=>False)∧K fl (G'.set k .unset)):=fun oa G K s hd I=>by
 obtain ⟨outer,L,hfr,hL⟩:=top.top
 cases hbody with
 | nil=>exact absurd rfl hne
 | cons b₀ hbody'=>
 refine wpAny_Try_except (wpAny_execs_cons ?_)
 rw [← hes G]
 refine wpAny_Expr (sd (Φ:=⟨fx,oa,G⟩) hx hf hfn (fun q=>nomatch (Hm.no (fx:=fx)).symm.trans q) (hq oa G) hd I (fun v s' y I' k hy nx r _=>?_) fun s₁ d e I₁ k₁ hd₁ hy xa=>?_) I.quiet rfl
 ·rw [uw nx] at hy
  cases y with
  | bool b=>exact r.bool_elim (wpAny_execs_nil (wpAny_execs_nil (PostS.next (Φ:=⟨fx,oa,G⟩) (oa':=oa) (G':=G) I' (.of_keeps k) hy.2)))
  | _=>(injection hy.1; done)
 have hy:fx.g.P.sup d c=true∧X (G.set k (.v (gz d))) fun fl G'=>(match fl with | some x=>noX x=true | none=>False)∧K fl (G'.set k .unset):=hy
 refine raised top I I₁ k₁ xa fun h₃ fl k₃ B₃ x₃=>?_
 have I₃:Inv ⟨fx,oa,G⟩ { s₁ with heap:=h₃ }:=I.keep B₃ k₃
 refine wpAny_handleBy_cons (codeAny_handlers_test ?_) nofun
 have hcl':=I.ok.gr.clss C c hCl
 refine bV (Φ:=⟨{ fx with A:=fx.A.mark (some (.ref e)),hm:=true },oa,G⟩) (I₃.mark _) hC hcl'.2 ?_ _
 refine x₃.el fun oe vs he hcl _ _ _=>(hy.1▸I.ok.gr.catches d c hd₁ hcl'.1:mh fx.g d c true) _ _ _ _ e oe B₃.stays he hcl ?_
 clear he hcl
 refine (?_:codeAny _ _ _ _ _)
 refine codeAny_handlers_suite_as (gQ (s:={ s₁ with heap:=h₃ }) (F:=aX (fx.env :: outer)) x₃ fun h₄ n₄ x₄=>?_)
 have fr₃:=I₃.fr.of hfr
 have k₄:=eg (s:=s) (s₁:={ s₁ with heap:=h₃ }) k₃ fr₃ n₄
 have B₄:=dE (s₁:={ s₁ with heap:=h₃ }) I.base B₃ fr₃ n₄
 have I₄:Inv ⟨fx,oa,G⟩ { s₁ with heap:=h₄ }:=I.keep B₄ k₄
 have Ih:=I₄.mark (.ref e)
 clear n₄ x₃ k₃ B₃ I₃ fr₃
 refine eF (Φ:=⟨{ fx with A:=fx.A.mark (some (.ref e)),hm:=true },oa,G⟩) Ih hn (fun q=>nomatch (show fx.env.kindOf n=some .free from q).symm.trans hnl) (fun h₅ tk ps=>?_) _
 obtain ⟨I₅,t₅⟩:=x₄.el fun oe vs he hcl hdi hdat hnew=>iO (tk:=tk) Ih ps (.exc hd₁ (fun q=>(I.badLive (Φ:=⟨fx,oa,G⟩) q).elim fun o e=>au hnew e) he ⟨hcl,hdi⟩ hdat)
 refine wpAny_mono (hh (fx.A.mark (some (.ref e))) rfl rfl rfl _ _ _ _ hy.2 I₅) (fun fl s₆ p=>?_) fun v s₆ p=>?_
 ·refine aq fun Z kZ=>?_
  obtain ⟨oa₆,G₆,fl,I₆,B₆,t₆,hf₆,hk⟩:=p
  cases fl with
  | none=>exact hk.1.elim
  | some x=>
   obtain ⟨nx,v,ef,rv,nv⟩:=hf₆
   refine kZ ?_
   subst ef
   have I₆:=I₆ (.inr rfl)
   have tt:Tr ⟨fx,oa,G⟩ s ⟨fx,oa₆,G₆⟩ s₆:=(Tr.of_keeps k₄).trans ((Tr.unmark (oa':=fun j=>if j=k then none else oa j) (G':=G.set k (.v (gz d))) t₅).trans (Tr.unmark t₆))
   have hns:∃ m,s₆.heap.Ns fx.env.locals m:=by
    obtain ⟨u,pr,_⟩:=I₆.slot k
    exact ((fY I.ok hn hnl▸pr:aZ s₆.heap (.ns fx.env.locals n) u)).imp fun _ z=>z.1
   have hloc:(Ct.mk fx oa G).own fx.env.locals:=.inl ⟨k,by refine (?_:(fx.pl k).addr=_); rw [fY I.ok hn hnl]; rfl⟩
   refine tX (Φ:=⟨fx,oa,G⟩) (K:=K) (oa':=oa₆) (G':=G₆) I.ok hn hnl hns (I.new _ hloc).2.1 B₆ tt nx rv (fun q=>(nv q).le fun b l=>t₅.live b (k₄.live l)) hk.2 (fun q=>?_) fun s' p=>p
   rw [bP (show k < G₆.length by rw [I₆.gl]; exact Nat.lt_of_lt_of_le (Nat.lt_of_not_le fun z=>by have:=fY I.ok hn hnl; rw [I.ok.offs k z] at this; (injection this; done)) I.ok.nfs)] at q
   exact q
 ·obtain ⟨_,_,_,_,_,_,_,_,_,hk⟩:=p
  exact nB hk.1
end
theorem te (e:lW x=some c):∃ i:Int,x=.dict [(.int i,.none)]∧i.toNat=c:=by
 revert e
 cases x with
 | dict kvs=>cases kvs with
  | nil=>exact fun e=>nN e.symm
  | cons p r=>
   obtain ⟨a,b⟩:=p
   cases a with
   | int i=>cases b with
    | none=>cases r with
     | nil=>exact fun e=>⟨i,rfl,Option.some.inj e⟩
     | cons=>exact fun e=>nN e.symm
    | _=>exact fun e=>nN e.symm
   | _=>exact fun e=>nN e.symm
 | _=>exact fun e=>nN e.symm
section
variable {Φ:Ct} {s:Shared} {v u:Value} {x y z:V} {d:DV}
theorem uV {c:Nat} {tb:List Bool} (hx:bz Φ.fx.env.scope.names "isinstance"=true) (hy:bz Φ.fx.env.scope.names C=true) (hp:ao q.1=true) (hC:Φ.fx.g.clss.lookup C=some c∨(C="ValueError"∧c=Φ.fx.g.nc)) (ht:∀ e,e < Φ.fx.g.nc→tb[e]?=some (Φ.fx.g.P.sup e c)) (h:bi Φ q) :
  Ev Φ (eval (.Call (.Name "isinstance" fp) [q.1,.Name C pT] [] pos) Φ.fx.env) (fun K=>q.2 fun x=>okK ((lW x).bind fun e=>tb[e]?) fun b=>K (.bool b)):=fun K s hd I E=>by
 refine (?_:wpAny _ _ (eval (.Name "isinstance" fp) Φ.fx.env >>= fun F=>callWith pos F [] (backTo pos (starEach [q.1,.Name C pT] Φ.fx.env)) []) _ _ s)
 refine zC1 (bF (v:=.builtin "isinstance") I hx rfl ?_ E)
 refine (aN hp).symm▸?_
 refine callWith_builtin rfl (Calls.evalArgs_plain ?_)
 have q':spliced (backTo pos ((false,eval q.1 Φ.fx.env) :: starEach [.Name C pT] Φ.fx.env))=(eval q.1 Φ.fx.env >>= fun v=>holding [v] (eval (.Name C pT) Φ.fx.env >>= fun u=>holding [u] (pure []) >>= fun vs=>pure (u :: vs)) >>= fun vs=>pure (v :: vs)):=rfl
 refine (?_:wpAny _ _ (spliced (backTo pos ((false,eval q.1 Φ.fx.env) :: starEach [.Name C pT] Φ.fx.env))) _ _ _)
 refine q'.symm▸?_
 refine zC1 (wpAny_mono (h _ s hd I E) (fun v s₁ ⟨B,k,x,hx,r⟩=>?_) fun _ _ z=>z)
 have I₁:=I.keep B k
 have hcn:c≤Φ.fx.g.nc:=hC.elim (fun e=>Nat.le_of_lt (I.ok.gr.clss C c e).1) fun e=>zB2 e.2
 have nameC:∀ Q:Value→Shared→Prop,Q (iv Φ.fx.g c) s₁→wpAny (model Φ.fx.g.prog Φ.fx.g.w) Φ.fx.A (eval (.Name C pT) Φ.fx.env) Q E s₁:=fun Q hQ=>by
  rcases hC with e | ⟨rfl,e⟩
  ·obtain ⟨hlt,hm⟩:=I.ok.gr.clss C c e
   unfold iv at hQ
   rw [if_neg (Nat.ne_of_lt hlt)] at hQ
   exact bV I₁ hy hm hQ E
  ·unfold iv at hQ
   rw [if_pos e] at hQ
   exact bF I₁ hy rfl hQ E
 refine zC1 (wpAny_holding (zC1 (nameC _ ?_)))
 refine zC1 (wpAny_holding (zC2 (zC2 (zC2 ?_))))
 refine ag hx fun b e kb=>?_
 obtain ⟨c',e',eb⟩:=Option.bind_eq_some_iff.mp e
 obtain ⟨i,rfl,rfl⟩:=te e'
 cases r with
 | inst _ _ _ _ _ _ q=>(injection q; done)
 | dict _ _ _ _ _ he=>exact absurd he.1 nofun
 | exc hn nb ha hc hd=>
  have eb:=(ht _ hn).symm.trans eb
  (injection eb with eb; subst eb)
  exact I.ok.gr.isi _ c hn hcn _ _ _ s₁ _ _ I₁.base.stays ha hc.1 hc.2 ⟨_,hd⟩ fun n=>⟨I₁.base.grown (.toks _ _),k,_,kb,.bool _⟩
end
end Mine
end
noncomputable section
namespace Mine
open PySem PySem.SetTable
theorem ym {G:Prop} (h:∀ P:Prop,(G→P)→P):G:=h G id
def ma (xs:Array Nat):Prop:=∀ i j a b:Nat,i < j→xs[i]?=some a→xs[j]?=some b→a < b
theorem Ap (h:lo < hi):(lo+hi) / 2 < hi:=Nat.div_lt_of_lt_mul (by rw [Nat.two_mul]; exact Nat.add_lt_add_right h hi)
theorem BO (h:lo≤hi):lo≤(lo+hi) / 2:=(Nat.le_div_iff_mul_le (by decide)).mpr (by rw [Nat.mul_two]; exact Nat.add_le_add_left h lo)
theorem jM (r:ma xs):∀ fuel lo hi,lo≤hi→hi≤xs.size→hi≤lo+fuel→(∀ i a:Nat,i < lo→xs[i]?=some a→a < j)→(∀ i a:Nat,hi≤i→xs[i]?=some a→j≤a) →
  below.go xs j fuel lo hi≤xs.size∧(∀ i a:Nat,i < below.go xs j fuel lo hi→xs[i]?=some a→a < j)∧∀ i a:Nat,below.go xs j fuel lo hi≤i→xs[i]?=some a→j≤a
 | 0,lo,hi,h1,h2,h3,h4,h5=>⟨zB1 h1 h2,h4,fun i a q=>h5 i a (zB1 h3 q)⟩
 | fuel+1,lo,hi,h1,h2,h3,h4,h5=>by
  rw [show below.go xs j (fuel+1) lo hi=if lo < hi then (if xs.getD ((lo+hi) / 2) j < j then below.go xs j fuel ((lo+hi) / 2+1) hi else below.go xs j fuel lo ((lo+hi) / 2)) else lo from rfl]
  by_cases h:lo < hi
  ·rw [if_pos h]
   have hm:(lo+hi) / 2 < xs.size:=Nat.lt_of_lt_of_le (Ap h) h2
   have e:xs[(lo+hi) / 2]?=some (xs.getD ((lo+hi) / 2) j):=by simp [hm]
   by_cases c:xs.getD ((lo+hi) / 2) j < j
   ·rw [if_pos c]
    refine jM r fuel _ hi (Ap h) h2 (zB1 h3 (zB1 (Nat.add_le_add_right (BO h1) (fuel+1)) (zB2 (Nat.add_right_comm _ 1 fuel).symm))) (fun i a q ea=>?_) h5
    by_cases q':i=(lo+hi) / 2
    ·subst q'; rw [e] at ea; (injection ea with ea; subst ea); exact c
    ·exact Nat.lt_trans (r _ _ _ _ (Nat.lt_of_le_of_ne (Nat.le_of_lt_succ q) q') ea e) c
   ·rw [if_neg c]
    refine jM r fuel lo _ (BO h1) (Nat.le_of_lt hm) (Nat.le_of_lt_succ (Nat.lt_of_lt_of_le (Ap h) h3)) h4 fun i a q ea=>?_
    by_cases q':i=(lo+hi) / 2
    ·subst q'; rw [e] at ea; (injection ea with ea; subst ea); exact Nat.le_of_not_lt c
    ·exact Nat.le_of_lt (Nat.lt_of_le_of_lt (Nat.le_of_not_lt c) (r _ _ _ _ (Nat.lt_of_le_of_ne q (Ne.symm q')) e ea))
  ·rw [if_neg h]
   exact ⟨zB1 h1 h2,h4,fun i a q=>h5 i a (by exact zB1 (Nat.not_lt.mp h) q)⟩
theorem eM (r:ma xs) (j:Nat):below xs j≤xs.size∧(∀ i a:Nat,i < below xs j→xs[i]?=some a→a < j)∧∀ i a:Nat,below xs j≤i→xs[i]?=some a→j≤a:=
 jM r _ _ _ (Nat.zero_le _) (Nat.le_refl _) (Nat.le_add_left _ _) (fun _ _ q=>absurd q (Nat.not_lt_zero _)) fun i a q e=>by rw [Array.getElem?_eq_none q] at e; (injection e; done)
theorem jN (r:ma xs) (e:xs[i]?=some j):below xs j=i:=by
 obtain ⟨_,h1,h2⟩:=eM r j
 rcases Nat.lt_trichotomy i (below xs j) with q | q | q
 ·exact absurd (h1 _ _ q e) (Nat.lt_irrefl _)
 ·exact q.symm
 ·have hb:below xs j < xs.size:=by
   have:i < xs.size:=by rcases Nat.lt_or_ge i xs.size with q | q; exact q; rw [Array.getElem?_eq_none q] at e; (injection e; done)
   exact Nat.lt_trans q this
  have e':xs[below xs j]?=some xs[below xs j]:=by simp
  have a1:=h2 _ _ (Nat.le_refl _) e'
  have a2:=r _ _ _ _ q e' e
  exact absurd a1 (Nat.not_le.mpr a2)
theorem nO {xs:Array Nat} (r:ma xs) {i k j:Nat} (e:xs[i]?=some j) (e':xs[k]?=some j):i=k:=(jN r e).symm.trans (jN r e')
theorem rM (r:ma xs):∃ e,e≤xs.size∧∀ i:Nat,xs[i]?≠some e:=by
 refine Classical.byContradiction fun c=>?_
 have all:∀ e,e≤xs.size→∃ i:Nat,xs[i]?=some e:=fun e h=>Classical.byContradiction fun q=>c ⟨e,h,fun i z=>q ⟨i,z⟩⟩
 have up:∀ e,e≤xs.size→∀ i:Nat,xs[i]?=some e→e≤i:=fun e=>by
  induction e with
  | zero=>exact fun _ _ _=>Nat.zero_le _
  | succ e ih=>
   intro h i z
   obtain ⟨k,hk⟩:=all e (Nat.le_of_succ_le h)
   have:=ih (Nat.le_of_succ_le h) k hk
   rcases Nat.lt_trichotomy i k with q | q | q
   ·exact absurd (r _ _ _ _ q z hk) (Nat.not_lt.mpr (Nat.le_succ e))
   ·subst q; rw [z] at hk; cases hk
   ·exact Nat.lt_of_le_of_lt this q
 obtain ⟨i,hi⟩:=all _ (Nat.le_refl _)
 have:=up _ (Nat.le_refl _) i hi
 rw [Array.getElem?_eq_none this] at hi; (injection hi; done)
theorem insertAt_list:(insertAt xs p x).toList=xs.toList.take p++x :: xs.toList.drop p:=by
 unfold insertAt
 rw [Array.toList_append,Array.toList_push,Array.toList_extract,Array.toList_extract,List.append_assoc,List.extract_eq_take_drop,List.extract_eq_take_drop,List.drop_zero,Nat.sub_zero,List.take_of_length_le (i:=xs.size - p) (by rw [List.length_drop,zB3]; exact Nat.le_refl _)]; rfl
theorem fD (h:p≤xs.size) (i:Nat):(insertAt xs p x)[i]?=if i < p then xs[i]? else if i=p then some x else xs[i - 1]?:=by
 have lp:(xs.toList.take p).length=p:=by rw [List.length_take,zB3]; exact Nat.min_eq_left h
 rw [← Array.getElem?_toList,insertAt_list]
 rcases Nat.lt_trichotomy i p with hi | rfl | hi
 ·rw [if_pos hi,List.getElem?_append_left (Nat.lt_of_lt_of_eq hi lp.symm),List.getElem?_take_of_lt hi,Array.getElem?_toList]
 ·rw [if_neg (Nat.lt_irrefl _),if_pos rfl,List.getElem?_append_right (zB2 lp),lp,Nat.sub_self]; rfl
 ·rw [if_neg (Nat.lt_asymm hi),if_neg (Nat.ne_of_gt hi),List.getElem?_append_right (zB1 (zB2 lp) (Nat.le_of_lt hi)),lp]
  obtain ⟨k,rfl⟩:=Nat.exists_eq_add_of_lt hi
  rw [Nat.add_assoc,Nat.add_sub_cancel_left,List.getElem?_cons_succ,List.getElem?_drop,Array.getElem?_toList]; rfl
theorem cO (h:p≤xs.size):(insertAt xs p x).size=xs.size+1:=by
 rw [← zB3,insertAt_list,zB5,List.length_take,zB3,Nat.min_eq_left h,zB4,List.length_drop,zB3,← Nat.add_assoc,Nat.add_sub_cancel' h]
theorem insertAt_cases (h:p≤xs.size) (e:(insertAt xs p x)[i]?=some y):(i=p∧x=y)∨(i≠p∧xs[if i < p then i else i - 1]?=some y):=by
 rw [fD h] at e
 by_cases h1:i < p
 ·rw [if_pos h1] at e; exact .inr ⟨by exact Nat.ne_of_lt h1,by rw [if_pos h1]; exact e⟩
 ·rw [if_neg h1] at e
  by_cases h2:i=p
  ·rw [if_pos h2] at e; (injection e with e; subst e); exact .inl ⟨h2,rfl⟩
  ·rw [if_neg h2] at e; exact .inr ⟨h2,by rw [if_neg h1]; exact e⟩
theorem ly (h:p≤xs.size) (e:xs[i]?=some y):(insertAt xs p x)[if i < p then i else i+1]?=some y:=by
 rw [fD h]
 by_cases h1:i < p
 ·rw [if_pos h1,if_pos h1]; exact e
 ·rw [if_neg h1,if_neg (by exact Nat.not_lt.mpr (Nat.le_add_right_of_le (Nat.not_lt.mp h1))),if_neg (by exact Nat.ne_of_gt (Nat.lt_succ_of_le (Nat.not_lt.mp h1)))]; exact e
theorem m8 (r:ma xs) (h:∀ i:Nat,xs[i]?≠some j):ma (insertAt xs (below xs j) j):=fun i k a b hik ea eb=>by
 obtain ⟨hp,h1,h2⟩:=eM r j
 have le:∀ i a:Nat,below xs j≤i→xs[i]?=some a→j < a:=fun i a q e=>Nat.lt_of_le_of_ne (h2 i a q e) fun z=>h i (z▸e)
 rcases insertAt_cases hp ea with ⟨rfl,rfl⟩ | ⟨q1,z1⟩ <;> rcases insertAt_cases hp eb with ⟨rfl,rfl⟩ | ⟨q2,z2⟩
 ·exact absurd hik (Nat.lt_irrefl _)
 ·rw [if_neg (by exact Nat.not_lt.mpr (Nat.le_of_lt hik))] at z2; exact le _ _ (Nat.le_sub_one_of_lt hik) z2
 ·rw [if_pos hik] at z1; exact h1 _ _ hik z1
 ·refine r _ _ _ _ ?_ z1 z2
  by_cases c1:i < below xs j
  ·rw [if_pos c1]
   by_cases c2:k < below xs j
   ·rw [if_pos c2]; exact hik
   ·rw [if_neg c2]; exact Nat.lt_of_lt_of_le c1 (Nat.le_sub_one_of_lt (Nat.lt_of_le_of_ne (Nat.le_of_not_lt c2) (Ne.symm q2)))
  ·have c2:¬ k < below xs j:=fun q=>c1 (Nat.lt_trans hik q)
   rw [if_neg c1,if_neg c2]
   exact Nat.sub_lt_sub_right (Nat.succ_le_of_lt (Nat.lt_of_le_of_lt (Nat.zero_le _) (Nat.lt_of_le_of_ne (Nat.le_of_not_lt c1) (Ne.symm q1)))) hik
theorem slot_is {t:SetTable} (hd:t.dummies=#[]) (r:ma t.place) (j:Nat):(∃ i:Nat,t.place[i]?=some j∧t.slot j=.live i)∨(∀ i:Nat,t.place[i]?≠some j)∧t.slot j=.empty:=by
 unfold slot
 by_cases h:∃ i:Nat,t.place[i]?=some j
 ·obtain ⟨i,e⟩:=h
  refine .inl ⟨i,e,?_⟩
  simp only [jN r e,e,beq_self_eq_true,if_true]
 ·have h:∀ i:Nat,t.place[i]?≠some j:=fun i e=>h ⟨i,e⟩
  refine .inr ⟨h,?_⟩
  have:(t.place[below t.place j]?==some j)=false:=by simpa using h _
  simp only [this,hd,has,Bool.false_eq_true,if_false]
  simp
noncomputable def adv (m:Nat) (p:Probe):Probe:=
 if p.more > 0 then { p with j:=p.j+1,more:=p.more - 1 } else
 { p with j:=(leap m p.i p.perturb).1,more:=runEnd m (leap m p.i p.perturb).1 - (leap m p.i p.perturb).1,i:=(leap m p.i p.perturb).1,perturb:=(leap m p.i p.perturb).2 }
noncomputable def it (m:Nat):Nat→Probe→Probe
 | 0,p=>p
 | n+1,p=>it m n (adv m p)
theorem it_add (m:Nat):∀ a b p,it m (a+b) p=it m b (it m a p)
 | 0,b,p=>by rw [Nat.zero_add]; rfl
 | a+1,b,p=>by rw [Nat.succ_add]; exact it_add m a b (adv m p)
noncomputable def beg (m i pt:Nat):Probe:={ j:=i,more:=runEnd m i - i,i:=i,perturb:=pt,dummy:=none }
noncomputable def lp (m:Nat) (q:Nat×Nat):Nat×Nat:=leap m q.1 q.2
theorem mM (m:Nat):∀ k p,p.more=k→p.dummy=none→it m (k+1) p=beg m (lp m (p.i,p.perturb)).1 (lp m (p.i,p.perturb)).2
 | 0,p,h,hd=>by
  refine (?_:adv m p=_)
  unfold adv; rw [if_neg (by rw [h]; exact Nat.lt_irrefl _),hd]; rfl
 | k+1,p,h,hd=>by
  have e:adv m p={ p with j:=p.j+1,more:=p.more - 1 }:=if_pos (by rw [h]; exact Nat.succ_pos _)
  refine (?_:it m (k+1) (adv m p)=_)
  rw [mM m k (adv m p) (by rw [e]; refine (?_:p.more - 1=k); rw [h]; rfl) (by rw [e]; exact hd),e]
theorem lP (m i:Nat):runEnd m i - i≤9:=by
 unfold runEnd
 split
 ·exact zB2 (Nat.add_sub_cancel_left _ _)
 ·rw [Nat.sub_self]; exact Nat.zero_le _
noncomputable def lps (m:Nat):Nat→Nat×Nat→Nat×Nat
 | 0,q=>q
 | r+1,q=>lps m r (lp m q)
theorem rJ (m:Nat):∀ r p,p.more≤9→p.dummy=none→∃ N,N≤10 * (r+1)∧it m N p=beg m (lps m (r+1) (p.i,p.perturb)).1 (lps m (r+1) (p.i,p.perturb)).2
 | 0,p,h,hd=>⟨p.more+1,Nat.succ_le_succ h,mM m _ p rfl hd⟩
 | r+1,p,h,hd=>by
  obtain ⟨N,h1,h2⟩:=rJ m r (beg m (lp m (p.i,p.perturb)).1 (lp m (p.i,p.perturb)).2) (lP _ _) rfl
  refine ⟨p.more+1+N,zB1 (Nat.add_le_add (Nat.succ_le_succ h) h1) (zB2 (Nat.add_comm 10 _)),?_⟩
  rw [it_add,mM m _ p rfl hd]; exact h2
theorem lps_add (m:Nat):∀ a b q,lps m (a+b) q=lps m b (lps m a q)
 | 0,b,q=>by rw [Nat.zero_add]; rfl
 | a+1,b,q=>by rw [Nat.succ_add]; exact lps_add m a b (lp m q)
theorem rC (m:Nat):∀ r q,(lps m r q).2=q.2 / 32 ^ r
 | 0,q=>(Nat.div_one _).symm
 | r+1,q=>(rC m r (lp m q)).trans (by refine (?_:q.2 / 32 / 32 ^ r=_); rw [Nat.div_div_eq_div_mul,Nat.pow_succ,Nat.mul_comm])
theorem rF (m:Nat):∀ r q,q.1≤m→(lps m r q).1≤m
 | 0,q,h=>h
 | r+1,q,_=>rF m r (lp m q) (Nat.le_of_lt_succ (Nat.mod_lt _ (Nat.succ_pos _)))
noncomputable def orb (m:Nat):Nat→Nat
 | 0=>0
 | n+1=>(orb m n * 5+1) % (m+1)
def Msk (m:Nat):Prop:=m=7∨m=31∨m=127∨m=511
noncomputable def Ao (m:Nat):Nat→Nat→List Nat
 | 0,_=>[]
 | n+1,i=>(i * 5+1) % (m+1) :: Ao m n ((i * 5+1) % (m+1))
noncomputable def y8 (m:Nat):Bool:=(List.range (m+1)).all fun e=>(Ao m (m+1) 0).contains e
theorem q9 (h:Msk m):y8 m=true∧orb m (m+1)=0:=by
 rcases h with rfl | rfl | rfl | rfl
 ·decide +kernel
 ·decide +kernel
 ·decide +kernel
 ·decide +kernel
theorem nT:∀ {n a e:Nat},e∈Ao m n (orb m a)→∃ b,b < n∧e=orb m (a+b+1)
 | 0,_,_,h=>nomatch h
 | n+1,a,e,h=>by
  rcases List.mem_cons.mp h with h | h
  ·exact ⟨0,Nat.succ_pos _,h⟩
  ·obtain ⟨b,hb,q⟩:=nT (n:=n) (a:=a+1) h
   exact ⟨b+1,Nat.succ_lt_succ hb,by rw [q,Nat.add_right_comm a 1 b]; rfl⟩
theorem rc (h:Msk m) (he:e≤m):∃ b,b≤m∧e=orb m (b+1):=by
 obtain ⟨b,hb,q⟩:=nT (a:=0) (List.contains_iff_mem.mp (List.all_eq_true.mp (q9 h).1 e (List.mem_range.mpr (Nat.lt_succ_of_le he))))
 exact ⟨b,Nat.le_of_lt_succ hb,by rw [q,Nat.zero_add]⟩
theorem rE (m:Nat):∀ r a,lps m r (orb m a,0)=(orb m (a+r),0)
 | 0,_=>rfl
 | r+1,a=>by
  have e:lp m (orb m a,0)=(orb m (a+1),0):=by unfold lp leap; rw [Nat.zero_div]; rfl
  refine (?_:lps m r (lp m (orb m a,0))=_)
  rw [e,rE m r (a+1),Nat.add_right_comm a 1 r]; rfl
theorem iV (h:Msk m):∀ b,orb m (b+(m+1))=orb m b
 | 0=>by rw [Nat.zero_add]; exact (q9 h).2
 | b+1=>by rw [Nat.add_right_comm b 1 (m+1)]; refine (?_:(_ * 5+1) % (m+1)=_); rw [iV h b]; rfl
theorem x1 (h:Msk m) (hi:i≤m) (hp:pt < 2 ^ 64) (he:e≤m):∃ r,r≤m+13∧(lps m (r+1) (i,pt)).1=e:=by
 have z:lps m 13 (i,pt)=((lps m 13 (i,pt)).1,0):=Prod.ext rfl ((rC m 13 (i,pt)).trans (Nat.div_eq_of_lt (Nat.lt_of_lt_of_le hp (by decide))))
 obtain ⟨a,ha,ea⟩:=rc h (rF m 13 (i,pt) hi)
 obtain ⟨b,hb,eb⟩:=rc h he
 rw [ea] at z
 have go:∀ r,(lps m (13+r) (i,pt)).1=orb m (a+1+r):=fun r=>by rw [lps_add,z,rE]
 by_cases c:a < b
 ·exact ⟨12+(b - a),Nat.add_comm 13 m▸Nat.add_le_add (by decide:12≤13) (zB1 (Nat.sub_le b a) hb),by rw [show 12+(b - a)+1=13+(b - a) by exact Nat.add_right_comm _ _ _,go,eb,Nat.add_right_comm a,Nat.add_sub_cancel' (Nat.le_of_lt c)]⟩
 ·refine ⟨12+(m+1+b - a),zB1 (Nat.add_le_add_left (Nat.sub_le_of_le_add (Nat.add_le_add_left (Nat.le_of_not_lt c) (m+1))) 12) (zB2 (Nat.add_comm 12 (m+1))),?_⟩
  rw [show 12+(m+1+b - a)+1=13+(m+1+b - a) by exact Nat.add_right_comm _ _ _,go,eb,← iV h (b+1),Nat.add_right_comm a,Nat.add_sub_cancel' (zB1 ha (zB1 (Nat.le_succ m) (Nat.le_add_right _ _))),Nat.add_assoc,Nat.add_comm]
theorem zB (h:Msk m) (hi:p.i≤m) (hp:p.perturb < 2 ^ 64) (hm:p.more≤9) (hd:p.dummy=none) (he:e≤m):∃ N,N < 10 * turns m∧(it m N p).j=e:=by
 obtain ⟨r,hr,q⟩:=x1 h hi hp he
 obtain ⟨N,h1,h2⟩:=rJ m r p hm hd
 exact ⟨N,by unfold turns; exact Nat.lt_of_le_of_lt h1 (Nat.mul_lt_mul_of_pos_left (Nat.succ_lt_succ (Nat.lt_succ_of_le hr)) (by decide)),by rw [h2]; exact q⟩
theorem se (h:Int):bits h < 2 ^ 64:=by unfold bits; exact (Int.toNat_lt (Int.emod_nonneg _ (by decide))).mpr (Int.emod_lt_of_pos _ (by decide))
noncomputable def pos (m:Nat) (h:Int) (n:Nat):Probe:=it m n (beg m (bits h % (m+1)) (bits h))
def In (t:SetTable) (j:Nat):Prop:=∃ i:Nat,t.place[i]?=some j
def Way (t:SetTable) (h:Int) (j:Nat):Prop:=∃ n,(pos t.mask h n).j=j∧∀ n',n' < n→In t (pos t.mask h n').j
structure Tab {β:Type} (t:SetTable) (es:Array (Int×β)):Prop where
 msk:Msk t.mask
 dm:t.dummies=#[]
 sz:t.place.size=es.size
 rise:ma t.place
 le:∀ i j:Nat,t.place[i]?=some j→j≤t.mask
 way:∀ (i j:Nat) e,t.place[i]?=some j→es[i]?=some e→Way t e.1 j
theorem yh:∀ {n:Nat} {p:Probe},p.dummy=none→(it m n p).dummy=none
 | 0,_,h=>h
 | n+1,p,h=>yh (n:=n) (p:=adv m p) (by unfold adv; split <;> exact h)
theorem xe (hd:t.dummies=#[]) (r:ma t.place):∀ N fuel p,N < fuel→p.dummy=none→¬ In t (it t.mask N p).j →
  ∃ n,n≤N∧(∀ n',n' < n→∃ i:Nat,t.place[i]?=some (it t.mask n' p).j∧hashAt i≠h) ∧
   (¬ In t (it t.mask n p).j∧probe.go t hashAt h fuel p=some (.empty (it t.mask n p).j none) ∨
    ∃ i:Nat,t.place[i]?=some (it t.mask n p).j∧hashAt i=h∧probe.go t hashAt h fuel p=some (.candidate (it t.mask n p).j i (it t.mask (n+1) p))):=by
 intro N
 induction N with
 | zero=>
  intro fuel p hf hp he
  obtain ⟨fuel,rfl⟩:=Nat.exists_eq_succ_of_ne_zero (Nat.ne_of_gt hf)
  refine ⟨0,Nat.le_refl _,fun _ q=>absurd q (Nat.not_lt_zero _),.inl ⟨he,?_⟩⟩
  rcases slot_is hd r p.j with ⟨i,e,_⟩ | ⟨_,e⟩
  ·exact absurd ⟨i,e⟩ he
  ·unfold probe.go; rw [e]; refine (?_:some (Met.empty p.j p.dummy)=_); rw [hp]; rfl
 | succ N ih=>
  intro fuel p hf hp he
  obtain ⟨fuel,rfl⟩:=Nat.exists_eq_succ_of_ne_zero (Nat.ne_of_gt (Nat.lt_of_le_of_lt (Nat.zero_le _) hf))
  rcases slot_is hd r p.j with ⟨i,e,es⟩ | ⟨e,es⟩
  ·by_cases c:hashAt i=h
   ·refine ⟨0,Nat.zero_le _,fun _ q=>absurd q (Nat.not_lt_zero _),.inr ⟨i,e,c,?_⟩⟩
    unfold probe.go; rw [es]; exact if_pos (beq_iff_eq.mpr c)
   ·obtain ⟨n,h1,h2,h3⟩:=ih fuel (adv t.mask p) (Nat.lt_of_succ_lt_succ hf) (yh (n:=1) hp) he
    have hg:probe.go t hashAt h (fuel+1) p=probe.go t hashAt h fuel (adv t.mask p):=by
     rw [probe.go]; rw [es]; exact if_neg fun q=>c (beq_iff_eq.mp q)
    refine ⟨n+1,Nat.succ_le_succ h1,fun n' q=>?_,?_⟩
    ·cases n' with
     | zero=>exact ⟨i,e,c⟩
     | succ n'=>exact h2 n' (Nat.lt_of_succ_lt_succ q)
    ·rw [hg]; exact h3
  ·refine ⟨0,Nat.zero_le _,fun _ q=>absurd q (Nat.not_lt_zero _),.inl ⟨fun ⟨i,q⟩=>e i q,?_⟩⟩
   unfold probe.go; rw [es]; refine (?_:some (Met.empty p.j p.dummy)=_); rw [hp]; rfl
theorem yf:∀ n p,p.i≤m→p.perturb < 2 ^ 64→p.more≤9→(it m n p).i≤m∧(it m n p).perturb < 2 ^ 64∧(it m n p).more≤9
 | 0,p,h1,h2,h3=>⟨h1,h2,h3⟩
 | n+1,p,h1,h2,h3=>by
  refine yf n (adv m p) ?_ ?_ ?_ <;> unfold adv <;> split
  ·exact h1
  ·exact Nat.le_of_lt_succ (Nat.mod_lt _ (Nat.succ_pos _))
  ·exact h2
  ·exact Nat.lt_of_le_of_lt (Nat.div_le_self _ _) h2
  ·exact zB1 (Nat.sub_le _ _) h3
  ·exact lP _ _
section
variable {β:Type} {t:SetTable} {es:Array (Int×β)}
theorem Tab.gap (T:Tab t es) (hf:t.place.size≤t.mask) (h:Int) (k:Nat):∃ N,N < 10 * turns t.mask∧¬ In t (it t.mask N (pos t.mask h k)).j:=by
 obtain ⟨e,he,q⟩:=rM T.rise
 have o:=yf (m:=t.mask) k (beg t.mask (bits h % (t.mask+1)) (bits h)) (Nat.le_of_lt_succ (Nat.mod_lt _ (Nat.succ_pos _))) (se h) (lP _ _)
 obtain ⟨N,h1,h2⟩:=zB (p:=pos t.mask h k) T.msk o.1 o.2.1 o.2.2 (yh rfl) (zB1 he hf)
 exact ⟨N,h1,fun ⟨i,z⟩=>q i (by rw [z,h2])⟩
theorem Tab.put (T:Tab t es) (hw:Way t h j) (hj:¬ In t j) (hl:j≤t.mask):(t.put j).1.mask=t.mask∧(t.put j).1.place.size=es.size+1∧Tab (t.put j).1 (insertAt es (t.put j).2 (h,x)):=by
 have hp:=(eM T.rise j).1
 have ep:(t.put j).1.place=insertAt t.place (below t.place j) j:=rfl
 have ed:(t.put j).1.dummies=#[]:=by refine (?_:(if has t.dummies j then _ else t.dummies)=_); rw [T.dm]; rfl
 have hp':below t.place j≤es.size:=T.sz▸hp
 have up:∀ {k},In t k→In (t.put j).1 k:=fun ⟨i,e⟩=>⟨_,ly hp e⟩
 have upw:∀ {k h},Way t h k→Way (t.put j).1 h k:=fun ⟨n,a,b⟩=>⟨n,a,fun n' q=>up (b n' q)⟩
 refine ⟨rfl,by rw [ep,cO hp,T.sz],T.msk,ed,by rw [ep,cO hp]; exact T.sz▸(cO hp').symm,m8 T.rise fun i e=>hj ⟨i,e⟩,fun i k e=>?_,fun i k e ek ee=>?_⟩
 ·rcases insertAt_cases hp e with ⟨_,rfl⟩ | ⟨_,e⟩
  ·exact hl
  ·exact T.le _ _ e
 ·rcases insertAt_cases hp ek with ⟨rfl,rfl⟩ | ⟨q,ek⟩
  ·rcases insertAt_cases hp' ee with ⟨_,rfl⟩ | ⟨q,_⟩
   ·exact upw hw
   ·exact absurd rfl q
  ·rcases insertAt_cases hp' ee with ⟨q',_⟩ | ⟨_,ee⟩
   ·exact absurd q' q
   ·exact upw (T.way _ _ _ ek ee)
end
def Occ (O:Array (Option Nat)) (j:Nat):Prop:=∃ c,O[j]?=some (some c)
theorem yi:∀ {k:Nat} {p:Probe},k≤p.more→(it m k p).j=p.j+k
 | 0,_,_=>rfl
 | k+1,p,h=>by
  have e:adv m p={ p with j:=p.j+1,more:=p.more - 1 }:=if_pos (Nat.lt_of_lt_of_le (Nat.succ_pos _) h)
  refine (?_:(it m k (adv m p)).j=_)
  rw [yi (p:=adv m p) (by rw [e]; exact Nat.le_sub_of_add_le h),e]
  refine (?_:p.j+1+k=_); lia
theorem vj (h:i≤m):i≤runEnd m i∧runEnd m i≤m:=by unfold runEnd; split <;> lia
theorem occ_or (hs:O.size=m+1) (hj:j≤m):(Occ O j∧(O.getD j (some 0)).isNone=false)∨¬ Occ O j∧(O.getD j (some 0)).isNone=true:=by
 have e:O[j]?=some (O.getD j (some 0)):=by rw [Array.getD_eq_getD_getElem?,Array.getElem?_eq_getElem (by lia)]; rfl
 unfold Occ
 refine e.symm▸?_
 cases O.getD j (some 0) with
 | none=>exact .inr ⟨(fun ⟨c,q⟩=>nomatch q),rfl⟩
 | some c=>exact .inl ⟨⟨c,rfl⟩,rfl⟩
theorem sZ (hs:O.size=m+1):∀ r fuel i pt,r < fuel→i≤m→¬ Occ O (lps m r (i,pt)).1 →
  ∃ n j,layClean.free m O fuel i pt=some j∧(it m n (beg m i pt)).j=j∧j≤m∧¬ Occ O j∧∀ n',n' < n→Occ O (it m n' (beg m i pt)).j:=by
 intro r fuel
 induction fuel generalizing r with
 | zero=>exact fun _ _ h=>absurd h (Nat.not_lt_zero _)
 | succ fuel ih=>
  intro i pt hr hi he
  have hre:=vj hi
  have er:runEnd m i+1 - i=runEnd m i - i+1:=Nat.succ_sub hre.1
  have inr:∀ k,k < runEnd m i+1 - i→(it m k (beg m i pt)).j=i+k∧i+k≤m:=fun k hk=>have hk:k≤runEnd m i - i:=Nat.le_of_lt_succ (Nat.lt_of_lt_of_eq hk er); ⟨yi (p:=beg m i pt) hk,zB1 (Nat.add_le_of_le_sub' hre.1 hk) hre.2⟩
  unfold layClean.free
  cases hf:(List.range (runEnd m i+1 - i)).find? fun k=>(O.getD (i+k) (some 0)).isNone with
  | some k=>
   obtain ⟨h1,h2,h3⟩:=List.find?_range_eq_some.mp hf
   have hk:=inr k (List.mem_range.mp h2)
   refine ⟨k,i+k,rfl,hk.1,hk.2,?_,fun n' q=>?_⟩
   ·rcases occ_or hs hk.2 with ⟨_,z⟩ | ⟨z,_⟩
    ·replace h1:=z▸h1; (injection h1; done)
    ·exact z
   ·have hn:=inr n' (Nat.lt_trans q (List.mem_range.mp h2))
    rcases occ_or hs hn.2 with ⟨z,_⟩ | ⟨_,z⟩
    ·rw [hn.1]; exact z
    ·have:=h3 n' q; replace this:=z▸this; (injection this; done)
  | none=>
   have hn:=List.find?_range_eq_none.mp hf
   have occ:∀ n',n' < runEnd m i+1 - i→Occ O (it m n' (beg m i pt)).j:=fun n' q=>by
    rcases occ_or hs (inr n' q).2 with ⟨z,_⟩ | ⟨_,z⟩
    ·rw [(inr n' q).1]; exact z
    ·have:=hn n' q; replace this:=z▸this; (injection this; done)
   cases r with
   | zero=>exact absurd (occ 0 (er▸Nat.succ_pos _)) he
   | succ r=>
    obtain ⟨n,j,e1,e2,e3,e4,e5⟩:=ih r (lp m (i,pt)).1 (lp m (i,pt)).2 (Nat.lt_of_succ_lt_succ hr) (Nat.le_of_lt_succ (Nat.mod_lt _ (Nat.succ_pos _))) he
    have hrun:=mM m (runEnd m i - i) (beg m i pt) rfl rfl
    refine ⟨runEnd m i - i+1+n,j,e1,?_,e3,e4,fun n' q=>?_⟩
    ·rw [it_add,hrun]; exact e2
    ·by_cases c:n' < runEnd m i+1 - i
     ·exact occ n' c
     ·have c:=er▸Nat.le_of_not_lt c
      have:=e5 (n' - (runEnd m i - i+1)) (Nat.sub_lt_left_of_lt_add c q)
      rw [← Nat.add_sub_cancel' c,it_add,hrun]; exact this
structure LInv (m:Nat) (H:Nat→Int) (O:Array (Option Nat)) (k:Nat):Prop where
 sz:O.size=m+1
 way:∀ j c:Nat,O[j]?=some (some c)→c < k∧∃ n,(pos m (H c) n).j=j∧∀ n',n' < n→Occ O (pos m (H c) n').j
 all:∀ c,c < k→Exists fun j:Nat=>O[j]?=some (some c)
 inj:∀ j j' c:Nat,O[j]?=some (some c)→O[j']?=some (some c)→j=j'
noncomputable def live (m:Nat) (O:Array (Option Nat)):List (Nat×Nat):=(List.range (m+1)).filterMap fun j=>(O.getD j none).map (j,·)
section
variable {m:Nat} {H:Nat→Int} {O:Array (Option Nat)} {k:Nat}
theorem b9 (hs:O.size=m+1):(j,c)∈live m O ↔ O[j]?=some (some c):=by
 unfold live
 rw [List.mem_filterMap]
 constructor
 ·rintro ⟨j',_,e⟩
  obtain ⟨c',ec,q⟩:=Option.map_eq_some_iff.mp e
  cases q
  replace ec:=(Array.getD_eq_getD_getElem?)▸ec
  cases h:O[j]? with
  | none=>replace ec:=h▸ec; cases ec
  | some v=>rw [h] at ec; exact congrArg some ec
 ·intro e
  have hj:j < O.size:=by rcases Nat.lt_or_ge j O.size with q | q; exact q; replace e:=(Array.getElem?_eq_none q)▸e; cases e
  exact ⟨j,List.mem_range.mpr (hs▸hj),by rw [Array.getD_eq_getD_getElem?,e]; rfl⟩
theorem kQ:(live m O).Pairwise fun a b=>a.1 < b.1:=by
 refine List.Pairwise.filterMap _ (fun a a' h b hb b' hb'=>?_) List.pairwise_lt_range
 obtain ⟨c,_,rfl⟩:=Option.map_eq_some_iff.mp hb
 obtain ⟨c',_,rfl⟩:=Option.map_eq_some_iff.mp hb'
 exact h
theorem eS (L:LInv m H O k):((live m O).map (·.2)).Perm (List.range k):=by
 refine (List.perm_ext_iff_of_nodup ?_ List.nodup_range).mpr fun c=>?_
 ·refine List.Pairwise.map _ (fun a b h=>h) ((kQ (m:=m) (O:=O)).imp_of_mem fun {a b} ha hb h e=>?_)
  have e1:=(b9 L.sz).mp (ha:(a.1,a.2)∈live m O)
  have e2:=(b9 L.sz).mp (hb:(b.1,b.2)∈live m O)
  rw [← e] at e2
  exact absurd (L.inj _ _ _ e1 e2) (Nat.ne_of_lt h)
 ·rw [List.mem_map,List.mem_range]
  constructor
  ·rintro ⟨⟨j,c⟩,hm,rfl⟩; exact (L.way _ _ ((b9 L.sz).mp hm)).1
  ·intro hc
   obtain ⟨j,e⟩:=L.all c hc
   exact ⟨(j,c),(b9 L.sz).mpr e,rfl⟩
noncomputable def cU (m:Nat) (O:Array (Option Nat)):Array Nat:=((live m O).map (·.1)).toArray
theorem dj {i j:Nat} (e:(cU m O)[i]?=some j):∃ c,(live m O)[i]?=some (j,c):=by
 unfold cU at e
 replace e:=(List.getElem?_map)▸(List.getElem?_toArray)▸e
 obtain ⟨q,h,rfl⟩:=Option.map_eq_some_iff.mp e
 exact ⟨_,h⟩
theorem place_rise:ma (cU m O):=fun i j a b h ea eb=>by
 obtain ⟨c,ec⟩:=dj ea
 obtain ⟨d,ed⟩:=dj eb
 obtain ⟨hi,qi⟩:=List.getElem?_eq_some_iff.mp ec
 obtain ⟨hj,qj⟩:=List.getElem?_eq_some_iff.mp ed
 have:=List.pairwise_iff_getElem.mp (kQ (m:=m) (O:=O)) i j hi hj h
 rw [qi,qj] at this; exact this
theorem iQ (L:LInv m H O k):(cU m O).size=k:=by
 have:=(eS L).length_eq
 rw [zA4,List.length_range] at this
 unfold cU; rw [List.size_toArray,zA4,this]
theorem nQ (L:LInv m H O k) {j:Nat}:(∃ i:Nat,(cU m O)[i]?=some j) ↔ Occ O j:=by
 constructor
 ·rintro ⟨i,e⟩
  obtain ⟨c,ec⟩:=dj e
  exact ⟨c,(b9 L.sz).mp (List.mem_of_getElem? ec)⟩
 ·rintro ⟨c,e⟩
  obtain ⟨i,hi⟩:=List.getElem?_of_mem ((b9 L.sz).mpr e)
  exact ⟨i,by unfold cU; rw [List.getElem?_toArray,List.getElem?_map,hi]; rfl⟩
theorem LInv.step (hm:Msk m) (L:LInv m H O k) (hk:k≤m):∃ j,layClean.free m O (turns m) (bits (H k) % (m+1)) (bits (H k))=some j∧LInv m H (O.setIfInBounds j (some k)) (k+1):=by
 obtain ⟨e,he,q⟩:=rM (place_rise (m:=m) (O:=O))
 replace he:=(iQ L)▸he
 have hb:bits (H k) % (m+1)≤m:=Nat.le_of_lt_succ (Nat.mod_lt _ (Nat.succ_pos _))
 obtain ⟨r,hr,hl⟩:=x1 hm hb (se (H k)) (zB1 he hk)
 have hq:¬ Occ O e:=fun z=>by obtain ⟨i,z⟩:=(nQ L).mpr z; exact q i z
 obtain ⟨n,j,e1,e2,e3,e4,e5⟩:=sZ L.sz (r+1) (turns m) _ _ (by unfold turns; lia) hb (by rw [hl]; exact hq)
 have hj:j < O.size:=by rw [L.sz]; exact Nat.lt_succ_of_le e3
 have gs:(O.setIfInBounds j (some k))[j]?=some (some k):=by rw [Array.getElem?_setIfInBounds,if_pos rfl,if_pos hj]
 have gn:∀ i,i≠j→(O.setIfInBounds j (some k))[i]?=O[i]?:=fun i h=>by rw [Array.getElem?_setIfInBounds,if_neg (Ne.symm h)]
 have up:∀ {i},Occ O i→Occ (O.setIfInBounds j (some k)) i:=fun {i} h=>by
  by_cases c:i=j
  ·subst c; exact ⟨k,gs⟩
  ·obtain ⟨c',z⟩:=h; exact ⟨c',(gn i c).trans z⟩
 refine ⟨j,e1,by rw [Array.size_setIfInBounds]; exact L.sz,fun i c z=>?_,fun c hc=>?_,fun i i' c z z'=>?_⟩
 ·by_cases h:i=j
  ·subst h; replace z:=gs▸z; cases z
   exact ⟨Nat.lt_succ_self _,n,e2,fun n' h=>up (e5 n' h)⟩
  ·rw [gn i h] at z
   obtain ⟨a,n,b,d⟩:=L.way _ _ z
   exact ⟨Nat.lt_succ_of_lt a,n,b,fun n' h=>up (d n' h)⟩
 ·rcases Nat.lt_or_eq_of_le (Nat.le_of_lt_succ hc) with h | h
  ·obtain ⟨i,z⟩:=L.all c h
   exact ⟨i,(gn i fun q=>e4 ⟨c,q▸z⟩).trans z⟩
  ·subst h; exact ⟨j,gs⟩
 ·by_cases h:i=j <;> by_cases h':i'=j
  ·exact h.trans h'.symm
  ·subst h; rw [gs] at z; cases z; rw [gn i' h'] at z'; exact absurd (L.way _ _ z').1 (Nat.lt_irrefl _)
  ·subst h'; rw [gs] at z'; cases z'; rw [gn i h] at z; exact absurd (L.way _ _ z).1 (Nat.lt_irrefl _)
  ·rw [gn i h] at z; rw [gn i' h'] at z'; exact L.inj _ _ _ z z'
end
noncomputable def wV (m:Nat) (acc:Option (Array (Option Nat)×Nat)) (h:Int):Option (Array (Option Nat)×Nat):=do
  let (owner,k) ← acc
  let j ← layClean.free m owner (turns m) (bits h % (m+1)) (bits h)
  pure (owner.setIfInBounds j (some k),k+1)
theorem nZ (hm:Msk m):∀ (l:List Int) (O:Array (Option Nat)) (k:Nat),(∀ i h,l[i]?=some h→H (k+i)=h)→k+l.length≤m+1→LInv m H O k →
  ∃ O',l.foldl (wV m) (some (O,k))=some (O',k+l.length)∧LInv m H O' (k+l.length)
 | [],O,k,_,_,L=>⟨O,rfl,L⟩
 | h :: l,O,k,hH,hk,L=>by
  have e0:H k=h:=hH 0 h rfl
  obtain ⟨j,e,L'⟩:=L.step hm (by rw [zB4] at hk; lia)
  obtain ⟨O',e',L''⟩:=nZ hm l _ (k+1) (fun i x z=>by rw [Nat.add_right_comm]; exact hH (i+1) x z) (by rw [zB4] at hk; lia) L'
  rw [Nat.add_right_comm] at e' L''
  refine ⟨O',?_,L''⟩
  rw [List.foldl_cons]
  refine Eq.trans (congrArg (List.foldl _ · l) ?_) e'
  rw [e0] at e
  refine (?_:(layClean.free m O (turns m) (bits h % (m+1)) (bits h)).bind _=_)
  rw [e]; rfl
theorem bZ:∀ l:List α,(List.range l.length).filterMap (l[·]?)=l
 | []=>rfl
 | x :: l=>by
  rw [zB4,List.range_succ_eq_map,List.filterMap_cons,List.filterMap_map]
  exact congrArg (x :: ·) (bZ l)
theorem cR {α β:Type} {f:α→Option β}:∀ {l:List α},(∀ a∈l,(f a).isSome)→∀ i:Nat,(l.filterMap f)[i]?=l[i]?.bind f
 | [],_,_=>rfl
 | a :: l,h,i=>by
  obtain ⟨b,hb⟩:=Option.isSome_iff_exists.mp (h a (.head _))
  refine List.filterMap_cons.symm▸hb.symm▸?_
  cases i with
  | zero=>exact hb.symm
  | succ i=>exact cR (fun a q=>h a (.tail _ q)) i
theorem wX {β:Type} {es:Array (Int×β)} {m:Nat} (hm:Msk m) (hk:es.size≤m) (fi mv:Nat) (led pl:Bool):∃ t order,laid m fi mv led pl (es.map (·.1))=some (t,order)∧t.mask=m ∧
  (order.filterMap (es[·]?)).toList.Perm es.toList∧Tab t (order.filterMap (es[·]?))∧order.toList.Perm (List.range es.size):=by
 have e0:LInv m (fun i=>(es[i]?.map (·.1)).getD 0) (Array.replicate (m+1) none) 0:=by
  have no:∀ j c:Nat,(Array.replicate (m+1) (none:Option Nat))[j]?≠some (some c):=fun j c z=>by
   rw [Array.getElem?_replicate] at z
   split at z <;> cases z
  exact ⟨Array.size_replicate,fun j c z=>absurd z (no j c),fun c h=>absurd h (Nat.not_lt_zero _),fun j _ c z=>absurd z (no j c)⟩
 obtain ⟨O,e1,L⟩:=nZ hm (es.toList.map (·.1)) _ 0 (fun i h z=>by rw [List.getElem?_map,Array.getElem?_toList] at z; rw [Nat.zero_add,z]; rfl) (by rw [zA4,zB3]; lia) e0
 rw [Nat.zero_add,zA4,zB3] at e1 L
 have e2:layClean m (es.map (·.1))=some O:=by
  unfold layClean
  rw [← Array.foldl_toList,Array.toList_map]
  exact (congrArg (Option.map _) e1).trans rfl
 have P:(((live m O).map (·.2)).toArray.filterMap (es[·]?)).toList.Perm es.toList:=by
  rw [Array.toList_filterMap]
  refine (List.Perm.filterMap _ (eS L)).trans (.of_eq ?_)
  have:=bZ es.toList
  simpa only [Array.getElem?_toList,zB3] using this
 refine ⟨{ mask:=m,place:=cU m O,dummies:=#[],finger:=fi,led:=led,moves:=mv,plain:=pl },((live m O).map (·.2)).toArray,?_,rfl,P,?_,eS L⟩
 ·unfold laid; rw [e2]; rfl
 ·have hs:∀ c∈(live m O).map (·.2),(es[c]?).isSome:=fun c hc=>by
   rw [Array.getElem?_eq_getElem (List.mem_range.mp ((eS L).mem_iff.mp hc))]; rfl
  have hg:∀ i:Nat,((((live m O).map (·.2)).toArray.filterMap (es[·]?)))[i]?=((live m O)[i]?.map (·.2)).bind (es[·]?):=fun i=>by
   rw [← Array.getElem?_toList,Array.toList_filterMap,cR hs,List.getElem?_map]
  refine ⟨hm,rfl,?_,place_rise,fun i j e=>?_,fun i j e ej ee=>?_⟩
  ·exact (iQ L).trans ((Array.length_toList.symm.trans P.length_eq.symm).trans zB3)
  ·obtain ⟨c,ec⟩:=dj e
   have:=Array.getElem?_eq_some_iff.mp ((b9 L.sz).mp (List.mem_of_getElem? ec))
   exact Nat.le_of_lt_succ (Nat.lt_of_lt_of_eq this.1 L.sz)
  ·obtain ⟨c,ec⟩:=dj ej
   rw [hg,ec] at ee
   have ee:es[c]?=some e:=ee
   obtain ⟨_,n,a,b⟩:=L.way _ _ ((b9 L.sz).mp (List.mem_of_getElem? ec))
   rw [ee] at a b
   exact ⟨n,a,fun n' q=>(nQ L).mpr (b n' q)⟩
theorem vO (m x pt:Nat):(beg m (x % (m+1)) pt).j+(beg m (x % (m+1)) pt).more≤m:=by
 have h:=vj (Nat.le_of_lt_succ (Nat.mod_lt x (Nat.succ_pos m)):x % (m+1)≤m)
 exact zB1 (zB2 (Nat.add_sub_cancel' h.1)) h.2
theorem yg:∀ n p,p.j+p.more≤m→(it m n p).j+(it m n p).more≤m
 | 0,_,h=>h
 | n+1,p,h=>by
  refine yg n (adv m p) ?_
  unfold adv
  split
  ·rename_i q
   refine (?_:p.j+1+(p.more - 1)≤m)
   rw [Nat.add_assoc,Nat.add_sub_cancel' q]; exact h
  ·exact vO m (p.i * 5+1+p.perturb / 32) 0
theorem y4 (m:Nat) (h:Int) (n:Nat):(pos m h n).j≤m:=
 zB1 (Nat.le_add_right _ _) (yg n (beg m (bits h % (m+1)) (bits h)) (vO m _ _))
theorem vH (m:Nat) (h:Int) (a b:Nat):it m b (pos m h a)=pos m h (a+b):=(it_add m a b _).symm
theorem uu (h:Msk m):(m % 2==0)=false:=by rcases h with rfl | rfl | rfl | rfl <;> rfl
section
variable {prog:Program} {w:World} {K:Type} [DecidableEq K] {kd:KeyKind prog w K} {A:Around} {E:Value→Shared→Prop} {s:Shared}
def yF (kd:KeyKind prog w K) (h:Heap) (es:List (Int×Value)):Prop:=∀ e∈es,∃ ks c,e=(tupleKeyHash kd ks,.ref c)∧IsTupleKey kd h ks c
def IsK (kd:KeyKind prog w K) (h:Heap) (ks:List K) (e:Int×Value):Prop:=∃ c,e=(tupleKeyHash kd ks,.ref c)∧IsTupleKey kd h ks c
theorem Tab.fits (T:Tab t es) (hf:es.size≤t.mask):t.fits es.size=true:=by
 unfold SetTable.fits SetTable.fill
 rw [T.sz,T.dm]
 simpa using hf
theorem g6 (hk:IsTupleKey kd s.heap ks b) (h:Q false s):wpAny (model prog w) A (ofAClassStatement 8 (.ref b)) Q E s:=by
 have hT:=hk.typeIs
 obtain ⟨o,items,n,ho,_,hd,hi⟩:=hk
 unfold ofAClassStatement
 refine zC1 (wpAny_typeOf hT ?_)
 refine (?_:wpAny _ _ (pure true >>= _) _ _ s)
 refine zC1 (zC2 ?_)
 refine (?_:wpAny _ _ (seqItems? (.ref b) >>= _) _ _ s)
 refine zC1 (wpAny_seqItems ho hd ?_)
 dsimp only
 refine zC1 ?_
 rw [← Array.forIn_toList]
 refine wpAny_forIn_list _ (fun rest r s'=>r.1=none∧s'=s∧∀ v∈rest,carriedByValue v=true) _ ?_ ?_ _ _ ⟨rfl,rfl,hi.byValue⟩
 ·rintro v rest r s' ⟨hr,rfl,hall⟩
  have hv:=hall v List.mem_cons_self
  have e:ofAClassStatement 7 v=pure false:=by cases v <;> first | rfl | (unfold ofAClassStatement; rfl) | (injection hv; done)
  rw [e]
  refine zC1 (zC2 ?_)
  exact zC2 ⟨rfl,rfl,fun u hu=>hall u (List.mem_cons_of_mem _ hu)⟩
 ·rintro ⟨r1,r2⟩ s' ⟨hr,rfl,_⟩
  subst hr
  exact wpAny_pure h
theorem yQ (hk:IsTupleKey kd s.heap ks b) (hl:∀ v∈l,∃ ks' c,v=.ref c∧IsTupleKey kd s.heap ks' c) (h:Q false s) :
  wpAny (model prog w) A (searchCouldBeSeen (.ref b) l) Q E s:=by
 unfold searchCouldBeSeen
 refine zC1 ?_
 refine wpAny_forIn_list _ (fun rest r s'=>r.1=none∧s'=s∧∀ v∈rest,v∈l) _ ?_ ?_ _ _ ⟨rfl,rfl,fun _ h=>h⟩
 ·rintro v rest r s' ⟨hr,rfl,hall⟩
  obtain ⟨ks',c,rfl,hc⟩:=hl v (hall v List.mem_cons_self)
  have nx:∀ u∈rest,u∈l:=fun u hu=>hall u (List.mem_cons_of_mem _ hu)
  dsimp only
  by_cases q:(b==c||(carriedByValue (.ref b)&&carriedByValue (.ref c)))=true
  ·rw [if_pos q]; exact zC2 ⟨rfl,rfl,nx⟩
  ·rw [if_neg q]
   refine zC1 (wpAny_eqIsQuiet_tuple hk ?_)
   refine zC1 (wpAny_eqIsQuiet_tuple hc ?_)
   refine zC1 (g6 hk ?_)
   refine zC1 (g6 hc ?_)
   exact zC2 ⟨rfl,rfl,nx⟩
 ·rintro ⟨r1,r2⟩ s' ⟨hr,rfl,_⟩
  subst hr
  exact wpAny_pure h
theorem wE (t:SetTable):t.sameMemory t.moves t.mask=some true:=by unfold sameMemory; rw [beq_self_eq_true]; rfl
theorem yN [Decidable c] (hm:∀ Q':Bool→Shared→Prop,Q' false s→wpAny M A m Q' E s) (h:wpAny M A y Q E s):wpAny M A (if c then m >>= fun r=>if r=true then u else y else y) Q E s:=
 wpAny_ite_split (fun _=>zC1 (hm _ (wpAny_ite_false rfl h))) fun _=>h
theorem sE {S:Addr} (hu:A.units < cLine) (ho:s.heap.get? S=some o) (hd:o.data=.set es ep t) (T:Tab t es) (hf:es.size≤t.mask)
  (he:yF kd s.heap es.toList) (hk:IsTupleKey kd s.heap ks b) (hthere:(∃ e∈es.toList,IsK kd s.heap ks e)→Q (.there none) s)
  (hfree:∀ j,Way t (tupleKeyHash kd ks) j→¬ In t j→j≤t.mask→(∀ e∈es.toList,¬ IsK kd s.heap ks e)→Q (.free j false) s) :
  ∀ d fuel n stand,d < fuel→¬ In t (pos t.mask (tupleKeyHash kd ks) (n+d)).j→stand.getD (t.probeStart (tupleKeyHash kd ks))=pos t.mask (tupleKeyHash kd ks) n →
   (∀ n',n' < n→∃ i:Nat,t.place[i]?=some (pos t.mask (tupleKeyHash kd ks) n').j∧∀ e,es[i]?=some e→¬ IsK kd s.heap ks e)→wpAny (model prog w) A (setSearchFrom S (.ref b) (tupleKeyHash kd ks) true fuel stand) Q E s:=by
 intro d
 induction d using Nat.strongRecOn with
 | _ d ih=>
 intro fuel n stand hfu hem hst hpast
 obtain ⟨fuel,rfl⟩:=Nat.exists_eq_succ_of_ne_zero (Nat.ne_of_gt (Nat.lt_of_le_of_lt (Nat.zero_le _) hfu))
 have hfit:=T.fits hf
 refine zC1 (wpAny_setState_of ho hd hfit ?_)
 refine wpAny_ite_false (c:=t.gaveWay=true) (by rw [show t.gaveWay=false from uu T.msk]; rfl) ?_
 generalize hm:t.probe _ _ _=met
 replace hm:=hm.symm.trans (congrArg (t.probe _ _) hst)
 obtain ⟨N,hN,hNe⟩:=T.gap (T.sz▸hf) (tupleKeyHash kd ks) n
 obtain ⟨n1,_,h2,h3⟩:=xe (hashAt:=fun i=>(es[i]?.map (·.1)).getD 0) (h:=tupleKeyHash kd ks) T.dm T.rise N (10 * turns t.mask) (pos t.mask (tupleKeyHash kd ks) n) hN (yh rfl) hNe
 simp only [vH] at h2 h3
 have past:∀ n',n' < n+n1→∃ i:Nat,t.place[i]?=some (pos t.mask (tupleKeyHash kd ks) n').j∧∀ e,es[i]?=some e→¬ IsK kd s.heap ks e:=fun n' q=>by
  by_cases c:n' < n
  ·exact hpast n' c
  ·obtain ⟨i,e1,e2⟩:=h2 (n' - n) (Nat.sub_lt_left_of_lt_add (Nat.le_of_not_lt c) q)
   rw [Nat.add_sub_cancel' (Nat.le_of_not_lt c)] at e1
   refine ⟨i,e1,fun e ee=>?_⟩
   rintro ⟨c,rfl,_⟩
   exact e2 (by rw [ee]; rfl)
 rcases h3 with ⟨h3,h4⟩ | ⟨i,h3,h5,h4⟩
 ·have hm:=hm.trans h4
  subst hm
  refine zC2 (hfree _ ⟨_,rfl,fun n' q=>(past n' q).imp fun _ z=>z.1⟩ h3 (y4 _ _ _) fun e hme ⟨c,hec,hc⟩=>?_)
  obtain ⟨i,hi⟩:=List.getElem?_of_mem hme
  rw [Array.getElem?_toList] at hi
  have hp:t.place[i]?=some (t.place.getD i 0):=by
   have:i < t.place.size:=by rw [T.sz]; exact (Array.getElem?_eq_some_iff.mp hi).1
   simp [this]
  obtain ⟨n0,e0,a0⟩:=T.way _ _ _ hp hi
  subst hec
  by_cases q:n0 < n+n1
  ·obtain ⟨i',e1,e2⟩:=past n0 q
   rw [e0] at e1
   obtain rfl:=nO T.rise e1 hp
   exact e2 _ hi ⟨c,rfl,hc⟩
  ·by_cases q':n0=n+n1
   ·exact h3 ⟨i,by rw [← q',e0]; exact hp⟩
   ·exact h3 (a0 _ (Nat.lt_of_le_of_ne (Nat.le_of_not_lt q) (Ne.symm q')))
 ·have hm:=hm.trans h4
  subst hm
  have hlt:n1 < d:=by
   rcases Nat.lt_or_ge n1 d with q | q
   ·exact q
   ·refine absurd ?_ hem
    by_cases q':d=n1
    ·rw [q']; exact ⟨i,h3⟩
    ·exact (past (n+d) (Nat.add_lt_add_left (Nat.lt_of_le_of_ne q q') n)).imp fun _ z=>z.1
  have hie:∃ e,es[i]?=some e:=⟨_,Array.getElem?_eq_getElem (by rw [← T.sz]; exact (Array.getElem?_eq_some_iff.mp h3).1)⟩
  obtain ⟨e,hi⟩:=hie
  have hme:e∈es.toList:=List.mem_of_getElem? (Array.getElem?_toList▸hi)
  obtain ⟨ks',c,rfl,hc⟩:=he e hme
  refine yN (fun Q' h=>yQ hk (fun v hv=>?_) h) ?_
  ·obtain ⟨e,he',rfl⟩:=zA7 hv
   rw [Array.toList_filter] at he'
   obtain ⟨ks2,c2,rfl,hc2⟩:=he e (List.mem_filter.mp he').1
   exact ⟨ks2,c2,rfl,hc2⟩
  refine hi.symm▸zC1 (wpAny_holding (wpAny_eqBool_tuple hu hc hk ?_))
  refine zC1 (wpAny_setState_of ho hd hfit ?_)
  by_cases q:ks'=ks
  ·subst q
   exact wpAny_ite_true (decide_eq_true (decide_eq_true rfl)) (zC2 (hthere ⟨_,hme,c,rfl,hc⟩))
  ·refine wpAny_ite_false (decide_eq_false (Bool.eq_false_iff.mp (decide_eq_false q))) ?_
   have hs:t.slot (pos t.mask (tupleKeyHash kd ks) (n+n1)).j=.live i:=by
    rcases slot_is T.dm T.rise (pos t.mask (tupleKeyHash kd ks) (n+n1)).j with ⟨i',e1,e2⟩ | ⟨e1,_⟩
    ·rw [e2,nO T.rise e1 h3]
    ·exact absurd h3 (e1 i)
   refine (wE t).symm▸?_
   dsimp only
   refine ((if_pos rfl).trans hs).symm▸?_
   dsimp only
   refine hi.symm▸?_
   refine zC1 (wpAny_isSame_ref_self (zC1 (zC2 ?_)))
   refine wpAny_ite_false (decide_eq_false (Bool.eq_false_iff.mp (decide_eq_false q))) ?_
   have hdd:d - (n1+1) < d:=Nat.sub_lt (Nat.lt_of_le_of_lt (Nat.zero_le _) hlt) (Nat.succ_pos _)
   refine ih (d - (n1+1)) hdd fuel (n+n1+1) _ (Nat.lt_of_lt_of_le hdd (Nat.le_of_lt_succ hfu)) (by rw [show n+n1+1+(d - (n1+1))=n+d from (Nat.add_assoc n (n1+1) _).trans (congrArg (n + ·) (Nat.add_sub_cancel' hlt))]; exact hem) rfl fun n' z=>?_
   by_cases c':n' < n+n1
   ·exact past n' c'
   ·rw [Nat.le_antisymm (Nat.le_of_lt_succ z) (Nat.le_of_not_lt c')]
    refine ⟨i,h3,fun e ee=>?_⟩
    rw [hi] at ee; (injection ee with ee; subst ee)
    rintro ⟨c2,hc2,hk2⟩
    exact q (hc.inj (Value.ref.inj (congrArg Prod.snd hc2)▸hk2))
end
section
variable {prog:Program} {w:World} {A:Around} {E:Value→Shared→Prop} {s:Shared}
theorem pM (hk:IsTupleKey (aA prog w) s.heap (.inr x :: ks) b) (h:Q false s):wpAny (model prog w) A (hashByValue 8 (.ref b)) Q E s:=by
 have hT:=hk.typeIs
 obtain ⟨o,items,n,ho,_,hd,hi⟩:=hk
 unfold hashByValue
 refine zC1 (wpAny_specialOf hT F.slot_tuple_hash.lookup ?_)
 dsimp only
 refine zC1 (wpAny_seqItems ho hd ?_)
 obtain ⟨l⟩:=items
 cases hi with
 | cons hv _=>
  obtain ⟨t,rfl⟩:=Value.isStrOf_shape hv
  rw [← Array.forIn_toList]
  refine zC1 ?_
  refine (?_:wpAny _ _ (forIn (_ :: _) _ _) _ _ _)
  rw [List.forIn_cons]
  exact zC1 (zC2 (zC2 (wpAny_pure h)))
inductive TS (h:Heap) (S:Addr) (es:Array (Int×Value)) (L:Bool):Prop
 | mk (o:Obj) (ep:Nat) (t:SetTable) (ho:h.get? S=some o) (hex:o.ExactSet) (hd:o.data=.set es ep t) (T:Tab t es) (hr:es.size * 5 < t.mask * 3) (hl:t.led=L):TS h S es L
theorem TS.to {h h':Heap} {S:Addr} {es:Array (Int×Value)} {L:Bool} (x:TS h S es L) (e:h'.get? S=h.get? S):TS h' S es L:=x.casesOn fun o ep t ho hex hd T hr hl=>⟨o,ep,t,e.trans ho,hex,hd,T,hr,hl⟩
theorem nj:(insertAt es p x).toList.Perm (x :: es.toList):=by
 unfold insertAt
 rw [Array.toList_append,Array.toList_push,Array.toList_extract,Array.toList_extract,List.append_assoc,List.extract_eq_take_drop,List.extract_eq_take_drop,List.drop_zero,Nat.sub_zero,← zB3,← List.length_drop,List.take_length]
 exact List.perm_middle.trans (.cons _ (.of_eq (List.take_append_drop p es.toList)))
theorem Tab.off (T:Tab t es):Tab { t with plain:=false } es:=⟨T.msk,T.dm,T.sz,T.rise,T.le,T.way⟩
theorem zb {t:SetTable} (h:t.plain=false):{ t with plain:=false }=t:=by cases t; subst h; rfl
theorem xg (T:Tab t es):t.tooFull=decide (t.mask * 3≤es.size * 5):=by
 unfold SetTable.tooFull SetTable.fill
 rw [T.sz,T.dm]; rfl
theorem bI [Decidable c] (h:¬ c) (x:wpAny M A e Q E s):wpAny M A (if c then t else e) Q E s:=by rw [if_neg h]; exact x
theorem xd (hm:Msk m) (h:n * 5 < m * 3) (q:m * 3≤(n+1) * 5) (hn:n < 200):∃ m',sizeAbove (grown (n+1))=m' + 1∧Msk m'∧(n+1) * 5 < m' * 3∧m' + 1≤sizeLine:=by
 rcases hm with rfl | rfl | rfl | rfl
 ·cases (by decide +kernel:∀ n < 200,n * 5 < 7 * 3→7 * 3≤(n+1) * 5→n=4) n hn h q; exact ⟨31,by decide,.inr (.inl rfl),by decide,by decide⟩
 ·cases (by decide +kernel:∀ n < 200,n * 5 < 31 * 3→31 * 3≤(n+1) * 5→n=18) n hn h q; exact ⟨127,by decide,.inr (.inr (.inl rfl)),by decide,by decide⟩
 ·cases (by decide +kernel:∀ n < 200,n * 5 < 127 * 3→127 * 3≤(n+1) * 5→n=76) n hn h q; exact ⟨511,by decide,.inr (.inr (.inr rfl)),by decide,by decide⟩
 ·exact absurd (zB1 q (Nat.mul_le_mul_right 5 hn)) (by decide)
theorem BS (h:a * 5 < b * 3):a≤b:=Nat.le_of_lt (Nat.lt_of_mul_lt_mul_right (Nat.lt_of_lt_of_le h (Nat.mul_le_mul_left b (by decide:3≤5))))
theorem tc (hm:Msk m) (h:N < 10 * turns m):N < 100000:=by rcases hm with rfl | rfl | rfl | rfl <;> exact Nat.lt_of_lt_of_le h (by decide)
noncomputable def qU (S:Addr) (is:Array (Int×Value)) (t:SetTable) (n:Nat):Sem Bool:=do
 storeSet S is t
 if !false&&t.tooFull then setRelay S (SetTable.grown n)
 return true
theorem rN {h:Heap} {S:Addr} {o:Obj} {es is:Array (Int×Value)} {ep:Nat} {t t1:SetTable} (ho:h.get? S=some o) (hd:o.data=.set es ep t):(h.update S (Obj.putSet is t1)).get? S=some { o with data:=.set is (ep+1) t1 }:=
 putSet_of _ _ hd▸Heap.get?_update_self (Obj.putSet is t1) ho (by rw [putSet_of _ _ hd]; rfl)
theorem sB {S:Addr} {o:Obj} {es is:Array (Int×Value)} {ep:Nat} {t t1:SetTable} {L:Bool} {Q:Bool→Shared→Prop} (ho:s.heap.get? S=some o) (hex:o.ExactSet) (hd:o.data=.set es ep t) (T:Tab t1 is) (hle:t1.led=L)
  (hs:is.size=es.size+1) (hr:es.size * 5 < t1.mask * 3) (hn:es.size < 200) (hnew:∀ h' es',Heap.SameBut S s.heap h'→TS h' S es' L→es'.toList.Perm is.toList→Q true { s with heap:=h' }) :
  wpAny (model prog w) A (qU S is t1 (es.size+1)) Q E s:=by
 have hz:is.size≤200:=hs▸hn
 refine zC1 (wpAny_storeSet_of ho hd ?_ (zB1 hz (by decide)))
 have hg1:(s.heap.update S (Obj.putSet is t1)).get? S=some { o with data:=.set is (ep+1) t1 }:=rN ho hd
 have sb1:Heap.SameBut S s.heap (s.heap.update S (Obj.putSet is t1)):=.update ..
 have hfu:=xg T
 by_cases q:t1.mask * 3≤is.size * 5
 ·refine wpAny_ite_true (c:=(!false&&t1.tooFull)=true) (by rw [hfu,decide_eq_true q]; rfl) ?_
  obtain ⟨m',e1,e2,e3,e4⟩:=xd T.msk hr (hs▸q) hn
  refine zC1 (zC1 (wpAny_setState_of hg1 rfl (T.fits (hs▸Nat.lt_of_mul_lt_mul_right (Nat.lt_of_lt_of_le hr (Nat.mul_le_mul_left _ (by decide:3≤5))))) ?_))
  refine bI (c:=sizeAbove (grown (es.size+1)) > sizeLine) (e1▸Nat.not_lt.mpr e4) ?_
  obtain ⟨t3,order,e5,e6,e7,T3,_⟩:=wX (es:=is) e2 (hs▸BS e3) t1.finger (movedTo t1 m') t1.led t1.plain
  have e9:t3.led=t1.led:=by
   obtain ⟨a,_,e5⟩:=Option.bind_eq_some_iff.mp e5
   cases e5; rfl
  refine zC1 ?_
  rw [show t1.relaid (is.map (·.1)) (grown (es.size+1))=_ from (congrArg (fun z=>laid (z - 1) t1.finger (movedTo t1 (z - 1)) t1.led t1.plain _) e1).trans e5]
  have e8:(order.filterMap (is[·]?)).size=is.size:=by rw [← zB3,e7.length_eq,zB3]
  refine bI (by rw [e8,bne_self_eq_false]; exact Bool.false_ne_true) (zC2 ?_)
  refine wpAny_storeSet_of hg1 rfl (zC2 ?_) (zB1 (e8▸hz) (by decide))
  exact hnew _ _ (sb1.trans (.update _ S (Obj.putSet (order.filterMap (is[·]?)) t3))) ⟨_,_,_,rN hg1 rfl,hex,rfl,T3,by rw [e8,hs,e6]; exact e3,e9.trans hle⟩ e7
 ·exact wpAny_ite_false (c:=(!false&&t1.tooFull)=true) (by rw [hfu,decide_eq_false q]; rfl) (zC1 (zC2 (zC2 (hnew _ is sb1 ⟨_,_,_,hg1,hex,rfl,T,Nat.not_le.mp q,hle⟩ (.refl _)))))
theorem ph {S b:Addr} {es:Array (Int×Value)} {L:Bool} {ks:List Sc} {x:Str} {Q:Bool→Shared→Prop} (hu:A.units < cLine) (T:TS s.heap S es L) (he:yF (aA prog w) s.heap es.toList) (hk:IsTupleKey (aA prog w) s.heap (.inr x :: ks) b) (hn:es.size < 200)
  (hold:(∃ e∈es.toList,IsK (aA prog w) s.heap (.inr x :: ks) e)→∀ tk,Q false { s with toks:=tk })
  (hnew:∀ h' es' tk,Heap.SameBut S s.heap h'→TS h' S es' L→es'.toList.Perm ((tupleKeyHash (aA prog w) (.inr x :: ks),.ref b) :: es.toList)→(∀ e∈es.toList,¬ IsK (aA prog w) s.heap (.inr x :: ks) e)→Q true { s with heap:=h',toks:=tk }) :
  wpAny (model prog w) A (setAdd S (.ref b)) Q E s:=by
 obtain ⟨o,ep,t,ho,hex,hd,T,hr,hL⟩:=T
 have hf:=BS hr
 have hfit:=T.fits hf
 refine wpAny_holding (zC1 (wpAny_pyHash_tuple hu hk ?_))
 generalize s.toks+_=tk0
 refine wpAny_holding (zC1 (wpAny_setState_of ho hd hfit ?_))
 refine bI (c:=byScan (.ref b) es=true) Bool.false_ne_true ?_
 obtain ⟨N,hN,hg⟩:=T.gap (T.sz▸hf) (tupleKeyHash (aA prog w) (.inr x :: ks)) 0
 rw [vH] at hg
 refine zC1 (sE (kd:=aA prog w) (s:={ s with toks:=tk0 }) (n:=0) (stand:=none) hu ho hd T hf he hk (fun q=>zC2 (hold q _)) (fun j hw hj hl hnot=>?_) N 100000 (tc T.msk hN) hg rfl fun _ q=>absurd q (Nat.not_lt_zero _))
 refine zC1 (wpAny_setState_of ho hd hfit ?_)
 obtain ⟨em,es1,T1⟩:=T.put (x:=Value.ref b) hw hj hl
 have key:∀ tk,wpAny (model prog w) A (qU S (insertAt es (t.put j).2 (tupleKeyHash (aA prog w) (.inr x :: ks),.ref b)) { (t.put j).1 with plain:=false } (es.size+1)) Q E { s with toks:=tk }:=fun tk=>
  sB (s:={ s with toks:=tk }) ho hex hd T1.off hL (T1.sz.symm.trans es1) (em.symm▸hr) hn fun h' es' sb ts pe=>hnew h' es' tk sb ts (pe.trans nj) hnot
 cases hpt:t.plain with
 | false=>exact wpAny_ite_false (c:=(t.put j).1.plain=true) (decide_eq_false (by refine (?_:¬ t.plain=true); rw [hpt]; exact Bool.false_ne_true)) (zC1 (zC2 (zb (t:=(t.put j).1) hpt▸key tk0)))
 | true=>exact wpAny_ite_true (c:=(t.put j).1.plain=true) (decide_eq_true hpt) (zC1 (pM (s:={ s with toks:=tk0 }) hk (key _)))
end
end Mine
end
noncomputable section
namespace Mine
open PySem PySem.Calls PyProof.Rows
section
variable {prog:Program} {w:World} {A:Around} {E:Value→Shared→Prop} {s:Shared}
noncomputable abbrev fO (w:World):Obj:={ cls:=.type "set",dict:=none,data:=.set #[] 0 (.fresh 0 0 (!w.params.followText "set-order")) }
theorem j8 (a:Value) (h:Q₁ (.ref s.heap.objs.size) { s with heap:=s.heap.push (fO w) }) :
  codeAny (model prog w) A (.call (.builtin "set.__new__") ⟨[.type "set",a],[]⟩) (wants Q₁ E) s:=by
 refine codeAny_of_tree ?_
 (refine (?_:wpAny _ A.in1 (do checkBuiltinCall "set.__new__" ⟨[.type "set",a],[]⟩; again (.builtin "set.__new__" ⟨[.type "set",a],[]⟩)) _ _ s))
 refine zC1 (wpAny_of_eq (PySem.F.newCall_set_1 a) (zC2 ⟨plainId_quiet PySem.F.plain_set_new _,codeAny_builtin PySem.F.entry_set_new ?_⟩))
 rw [Around.under_plainId PySem.F.plain_set_new _]
 unfold Builtin.«set.__new__» Builtin.Frozenset.newClass
 have hsub:=sub_set_self
 obtain ⟨hp,g,d,tk,os⟩:=s
 dsimp only
 wp_walk
 refine wpAny_askSetting (zC2 ?_)
 dsimp only
 simp only [newObj]
 refine zC1 (wpAny_alloc (zC2 ?_))
 exact wpAny_pure h
structure Fills (prog:Program) (w:World) (h₀:Heap) (S:Addr) (P:Nat→Value→Prop) (n:Nat) (Z:Nat→Heap→Prop):Prop where
 frame:∀ i h h',Z i h→h'.get? S=h.get? S→Z i h'
 live:∀ i h,Z i h→aS h S
 start:∀ h:Heap,h.get? S=some (fO w)→Z 0 h
 add:∀ i v (s:Shared) (A:Around),A.units < cLine→i < n→P i v→aI h₀ s.heap→Z i s.heap→∀ (Q:Bool→Shared→Prop) (E:Value→Shared→Prop),
  (∀ b h' tk,Heap.SameBut S s.heap h'→Z (i+1) h'→Q b { s with heap:=h',toks:=tk })→wpAny (model prog w) A (setAdd S v) Q E s
theorem og {l:List Addr} (k:aI h₀ h) (hl:∀ b∈l,h₀.get? b=none) (m:∀ b o,b∉l→h.get? b=some o→h'.get? b=some o):aI h₀ h':=fun b o e=>m b o (fun q=>by rw [hl b q] at e; (injection e; done)) (k b o e)
theorem ud {R:Result→Shared→Prop} {I S:Addr} {fp wr:List Addr} {P:Nat→Value→Prop} {St Z:Nat→Heap→Prop} {n:Nat} {h₀:Heap} (W:Walks prog w A.in1 I fp wr n P St) (hu:A.in1.units < cLine) (hSf:S∉fp) (hS0:h₀.get? S=none) (hw:∀ b∈wr,h₀.get? b=none)
  (Fl:Fills prog w h₀ S P n Z):∀ (k i:Nat) (s:Shared),n - i=k→i≤n→St i s.heap→Z i s.heap→aI h₀ s.heap →
   (∀ h' tk,aI h₀ h'→Z n h'→R (.ok (.ret .none)) { s with heap:=h',toks:=tk }) →
   codeAny (model prog w) A (.builtin "set.update.loop" ⟨[.ref S,.ref I],[]⟩) R s:=by
 have hSw:S∉wr:=fun h=>hSf (W.sub _ h)
 intro k
 induction k with
 | zero=>
  intro i s hk hi hst hZ hK hR
  obtain rfl:=show i=n from Nat.le_antisymm hi (Nat.sub_eq_zero_iff_le.mp hk)
  refine codeAny_builtin PyProof.Rows.F.entry_set_update_loop ?_
  rw [Around.under_plainId PyProof.Rows.F.plain_set_update_loop _]
  refine (?_:wpAny _ A.in1 (pyNext (.ref I) >>= _) _ _ s)
  refine zC1 (W.done s _ _ hst fun h' tk hm=>?_)
  refine (?_:wpAny _ A.in1 (ret Value.none) _ _ _)
  obtain ⟨o,ho⟩:=Fl.live _ _ hZ
  exact zC2 (hR h' tk (og hK hw hm) (Fl.frame _ _ _ hZ ((hm S o hSw ho).trans ho.symm)))
 | succ k ih=>
  intro i s hk hi hst hZ hK hR
  have hlt:i < n:=Nat.lt_of_sub_eq_succ hk
  refine codeAny_builtin PyProof.Rows.F.entry_set_update_loop ?_
  rw [Around.under_plainId PyProof.Rows.F.plain_set_update_loop _]
  refine (?_:wpAny _ A.in1 (pyNext (.ref I) >>= _) _ _ s)
  refine zC1 (W.item i s _ _ hlt hst fun v h₁ tk₁ hP hst' hm=>?_)
  obtain ⟨o,ho⟩:=Fl.live _ _ hZ
  have hl1:=hm S o hSw ho
  have hK1:=og hK hw hm
  refine (?_:wpAny _ A.in1 (holding [v] (setAdd S v) >>= _) _ _ _)
  refine zC1 (wpAny_holding (Fl.add i v _ _ hu hlt hP hK1 (Fl.frame _ _ _ hZ (hl1.trans ho.symm)) _ _ fun b h' tk hsb hZ'=>?_))
  have hK2:aI h₀ h':=fun b o e=>by
   by_cases q:b=S
   ·subst q; rw [hS0] at e; (injection e; done)
   ·exact (hsb.2 b q).trans (hK1 b o e)
  refine zC2 ⟨plainId_quiet PyProof.Rows.F.plain_set_update_loop _,ih (i+1) { s with heap:=h',toks:=tk } (by grind) hlt (W.frame _ _ _ hst' fun b hb o e=>(hsb.2 b fun q=>hSf (q▸hb)).trans e) hZ' hK2 hR⟩
def Az (prog:Program) (w:World) (h₀:Heap) (x:Value) (n:Nat) (P:Nat→Value→Prop):Prop:=∀ (s:Shared) (A:Around) (Q:Value→Shared→Prop) (E:Value→Shared→Prop),aI h₀ s.heap →
 (∀ I fp wr St h',aI s.heap h'→(∀ b∈wr,s.heap.get? b=none)→(∀ b∈fp,s.heap.get? b=none∨aS h₀ b)→(∀ A:Around,A.handled=none→Walks prog w A I fp wr n P St)→St 0 h'→Q (.ref I) { s with heap:=h' })→wpAny (model prog w) A (pyIter x) Q E s
set_option maxHeartbeats 3200000 in
theorem jL {x:Value} {T:String} {n:Nat} {P:Nat→Value→Prop} {Z:Nat→Heap→Prop} {Q:Value→Shared→Prop} (hh:A.handled=none) (hu:A.units+100 < cLine) (hT:∀ s':Shared,aI s.heap s'.heap→s'.TypeIs x T) (hs1:isSubtype (.type T) (.type "set")=pure false) (hs2:isSubtype (.type T) (.type "frozenset")=pure false)
  (hne:(Value.type T==Value.type "dict")=false) (go:Az prog w s.heap x n P) (Fl:Fills prog w s.heap s.heap.objs.size P n Z)
  (h:∀ (h':Heap) (tk:Nat),Z n h'→aI s.heap h'→Q (.ref s.heap.objs.size) { s with heap:=h',toks:=tk }):wpAny (model prog w) A (call (.type "set") [x]) Q E s:=by
 obtain ⟨c,tl,hmro⟩:=PySem.F.called_set.mro
 have hmade:=PySem.F.called_set.made
 have hsub:=PySem.F.called_set.sub
 refine wpAny_call (codeAny_of_tree ?_)
 refine (?_:wpAny _ _ (callAny (.type "set") _) _ _ _)
 refine zC2 ⟨Code.quiet_builtin _ (by decide +kernel),codeAny_builtin PySem.F.entry_type_call ?_⟩
 rw [Around.under_plain (weight_type_call_type "set" [x] []) rfl]
 have h1:=PySem.F.called_set.notType
 have h2:=PySem.F.called_set.canCreate
 have hct:=PySem.F.typeCall_set_1 x
 repeat (any_goals (first | assumption | wp_step))
 refine codeAny_mono (j8 x (E:=E) (Q₁:=fun obj s₁=>obj=.ref s.heap.objs.size∧s₁={ s with heap:=s.heap.push (fO w) }) ⟨rfl,rfl⟩) fun r s₁ hr=>?_
 cases r with
 | error e=>exact hr
 | ok fl=>
  cases fl with
  | ret obj=>
   obtain ⟨rfl,rfl⟩:=hr
   have hS:(s.heap.push (fO w)).get? s.heap.objs.size=some (fO w):=Heap.get?_push_size _ rfl
   have hT1:Shared.TypeIs { s with heap:=s.heap.push (fO w) } (.ref s.heap.objs.size) "set":=⟨_,hS,rfl⟩
   have hli:=PySem.F.called_set.init.lookup
   have hbi:=PySem.F.called_set.init.bind (.ref s.heap.objs.size)
   have hTx:=hT { s with heap:=s.heap.push (fO w) } (aw _ _)
   repeat (any_goals (first | assumption | wp_step))
   refine codeAny_mono (codeAny_call_builtin (R:=wants (fun r s₂=>r=.none∧∃ h' tk,s₂={ s with heap:=h',toks:=tk }∧Z n h'∧aI s.heap h') E) PySem.F.called_set.init.plain PySem.F.entry_set_init (check_set_init_1 hT1 ?_)) fun r₂ s₂ hr₂=>?_
   ·unfold Builtin.«set.__init__» noKeywords Builtin.Frozenset.updateFrom
    generalize hPI:pyIter=PI
    wp_walk
    subst hPI
    refine go _ _ _ _ (aw _ _) fun I fp wr St h' hk hw hf W hst=>?_
    refine zC1 (wpAny_runValue ?_)
    have hh3:A.in1.in1.in1.handled=none:=by simp [hh]
    have n0:s.heap.get? s.heap.objs.size=none:=ak _
    refine ud (W _ hh3) (show A.units+3 < cLine from Nat.lt_of_le_of_lt (Nat.add_le_add_left (by decide) _) hu) (fun q=>?_) n0 (fun b q=>aM (aw _ _).live (hw b q)) Fl (n - 0) 0 _ rfl (Nat.zero_le _) hst (Fl.start _ (hk _ _ hS)) ((aw _ _).trans hk) ?_
    ·rcases hf _ q with q | ⟨o,q⟩
     ·rw [hS] at q; (injection q; done)
     ·rw [n0] at q; (injection q; done)
    ·intro h'' tk hk' hz
     refine (?_:wpAny _ _ _ _ _ _)
     refine zC2 ?_
     refine (?_:wpAny _ _ (ret Value.none) _ _ _)
     exact zC2 ⟨rfl,h'',tk,rfl,hz,hk'⟩
   ·cases r₂ with
    | error e=>exact hr₂
    | ok fl₂=>
     cases fl₂ with
     | ret r=>
      obtain ⟨rfl,h',tk,rfl,hz,hk'⟩:=hr₂
      repeat (any_goals (first | assumption | wp_step))
      exact h _ _ hz hk'
     | _=>exact hr₂.elim
  | _=>exact hr.elim
end
end Mine
end
noncomputable section
namespace Mine
open PySem PySem.Calls PyProof.Rows PySem.W
section
variable {prog:Program} {w:World} {A:Around} {E:Value→Shared→Prop} {s:Shared} {h₀:Heap}
theorem kX (hl:h₀.IsList l items):Az prog w h₀ (.ref l) items.size (fun i v=>items[i]?=some v):=fun s A Q E hk hQ=>by
 have hl1:s.heap.IsList l items:=hl.at (hk l)
 have hlt:l≠s.heap.objs.size:=by obtain ⟨o,ho,_⟩:=hl1; exact cy ho
 refine wpAny_pyIter_list hl1 (hQ _ _ _ _ _ (aw _ _) (fun b q=>?_) (fun b q=>?_) (fun A' hh=>Walks.list hh _ l hlt items) ⟨⟨_,Heap.get?_push_size _ rfl,rfl,rfl⟩,hl1.push _⟩)
 ·obtain rfl:=zA6 q; exact ak _
 ·rcases List.mem_cons.mp q with rfl | q
  ·exact .inl (ak _)
  ·obtain rfl:=zA6 q; obtain ⟨o,ho,_⟩:=hl; exact .inr ⟨o,ho⟩
theorem uM:Az prog w h₀ (.str x t) x.cps.size (SignAt x):=fun s A Q E hk hQ=>by
 cases ha:x.cps.all (· < 128)
 ·exact wpAny_pyIter_wide ha (hQ _ _ _ _ _ (aw _ _) (fun b q=>by obtain rfl:=zA6 q; exact ak _) (fun b q=>by obtain rfl:=zA6 q; exact .inl (ak _)) (fun A' hh=>Walks.strWide hh _ x t) ⟨_,Heap.get?_push_size _ rfl,rfl,rfl⟩)
 ·exact wpAny_pyIter_ascii ha (hQ _ _ _ _ _ (aw _ _) (fun b q=>by obtain rfl:=zA6 q; exact ak _) (fun b q=>by obtain rfl:=zA6 q; exact .inl (ak _)) (fun A' hh=>Walks.strAscii hh _ x t) ⟨_,Heap.get?_push_size _ rfl,rfl,rfl⟩)
theorem gZ {K:Type} [DecidableEq K] {knd:KeyKind prog w K} {S:Addr} {P:Nat→Value→Prop} {ks:List K} (hP:∀ i v,P i v→∃ k,ks[i]?=some k∧knd.is k v=true∧v.scannable=true) (nd:ks.Nodup) (hn:ks.length+1 < scanBound) :
  Fills prog w h₀ S P ks.length (fun i h=>h.SetOf knd S (fun k=>decide (k∈ks.take i)) i) where
 frame:=fun i h h' q e=>q.elim fun o q=>q.elim fun es q=>q.elim fun ep q=>q.elim fun t q=>⟨o,es,ep,t,e.trans q.1,q.2⟩
 live:=fun i h q=>q.elim fun o q=>q.elim fun _ q=>q.elim fun _ q=>q.elim fun _ q=>⟨o,q.1⟩
 start:=fun h ho=>SetOf_congr ((setObjOf_fresh (knd:=knd) _).setOf ho (by unfold scanBound; exact Nat.succ_pos _)) (fun _=>(decide_eq_false List.not_mem_nil).symm) rfl
 add:=fun i v s A hu hi hp hk hZ Q E hQ=>by
  obtain ⟨k,ek,hkey,hsc⟩:=hP i v hp
  have hnew:k∉ks.take i:=fun q=>by
   obtain ⟨j,hj⟩:=List.getElem?_of_mem q
   have hji:j < i:=Nat.lt_of_lt_of_le (List.getElem?_eq_some_iff.mp hj).1 (List.length_take_le _ _)
   rw [List.getElem?_take_of_lt hji] at hj
   exact absurd ((List.getElem?_inj (Nat.lt_trans hji hi) nd).mp (hj.trans ek.symm)) (Nat.ne_of_lt hji)
  unfold setAdd
  refine wpAny_holding (zC1 (knd.pyHash hkey (wpAny_setAddHashed_of (s:={ s with toks:=s.toks+1 }) hkey hsc hZ (Nat.lt_of_le_of_lt (Nat.add_le_add_right (Nat.le_of_lt hi) 1) hn) fun h' hsb hS=>hQ _ h' _ hsb (SetOf_congr hS (fun k'=>?_) ?_))))
  ·rw [List.take_add_one,ek]
   by_cases q:k'=k <;> simp [q]
  ·rw [if_neg (by rw [decide_eq_false hnew]; exact Bool.false_ne_true)]
theorem wU {K:Type} [DecidableEq K] {knd:KeyKind prog w K} {a:Addr} {S:K→Bool} {n:Nat} {Q:Value→Shared→Prop} (hS:s.heap.SetOf knd a S n) (h:∀ t tk,Q (.int n t) { s with toks:=tk }):wpAny (model prog w) A (call (.builtin "len") [.ref a]) Q E s:=by
 obtain ⟨o,es,ep,t,ho,hex,hd,hel,hmem,hb,hf,hn⟩:=hS
 subst hn
 refine Calls.call_function_entry kind_len plain_len entry_len (args_len1 _) ?_
 exact wpAny_len_body_set ho hex hd hf (Int.lt_trans (Int.ofNat_lt.mpr hb) (by decide)) (h _ _)
end
theorem kOf_inj (hx:aL x=true) (hy:aL y=true) (e:kOf x=kOf y):x=y:=by
 cases x <;> first | ((injection hx; done); done) | (cases y <;> first | ((injection hy; done); done) | ((first | (injection e; done) | (injection e with e; subst e)); done) | ((injection e with e; subst e); rfl))
theorem oh:∀ {l m:List V},l.all aL=true→m.all aL=true→l.map kOf=m.map kOf→l=m
 | [],[],_,_,_=>rfl
 | [],_ :: _,_,_,e=>nomatch e
 | _ :: _,[],_,_,e=>nomatch e
 | x :: l,y :: m,hl,hm,e=>by
  have hl:=zA2 hl
  have hm:=zA2 hm
  have e:=zA5 e
  rw [kOf_inj hl.1 hm.1 e.1,oh hl.2 hm.2 e.2]
section
variable {g:Gl} {bad:Addr→Prop} {h h':Heap} {v:Value} {x:V} {vs ws:List Value} {l m:List V}
theorem uI (r:RpAll g bad h vs l):l.all aL=true→ItemsAre (aA g.prog g.w) (l.map kOf) vs:=
 r.ind (D:=fun vs l=>l.all aL=true→ItemsAre (aA g.prog g.w) (l.map kOf) vs) (fun _=>.nil) fun v vs x l r _ ih q=>by
  have q:=zA2 q
  refine .cons ?_ (ih q.2)
  cases r with
  | int i t=>exact (by simp [Value.isInt]:Value.isInt i (.int i t)=true)
  | str y t=>exact (by simp [Value.isStrOf]:Value.isStrOf y (.str y t)=true)
  | _=>(injection q.1; done)
theorem zu (r:Rp g bad h v (.tuple l)) (q:l.all aL=true):∃ c,v=.ref c∧IsTupleKey (aA g.prog g.w) h (l.map kOf) c:=
 r.tuple_elim fun a o vs n _ ha hc hd hl=>⟨a,rfl,o,vs,n,ha,hc,hd,uI hl q⟩
theorem eI (k:aI h h') (x:IsTupleKey (aA g.prog g.w) h ks c):IsTupleKey (aA g.prog g.w) h' ks c:=let ⟨o,vs,n,ho,r⟩:=x; ⟨o,vs,n,k _ _ ho,r⟩
theorem RpAll.of_mem (r:RpAll g bad h vs l):v∈vs→∃ y∈l,Rp g bad h v y:=r.ind (D:=fun vs l=>v∈vs→∃ y∈l,Rp g bad h v y) (fun q=>nM q) fun u vs y l r _ ih q=>by
 rcases List.mem_cons.mp q with rfl | q
 ·exact ⟨y,.head _,r⟩
 ·obtain ⟨z,m,p⟩:=ih q; exact ⟨z,.tail _ m,p⟩
theorem RpAll.mem (r:RpAll g bad h vs l):x∈l→∃ u∈vs,Rp g bad h u x:=r.ind (D:=fun vs l=>x∈l→∃ u∈vs,Rp g bad h u x) (fun q=>nM q) fun u vs y l r _ ih q=>by
 rcases List.mem_cons.mp q with rfl | q
 ·exact ⟨u,.head _,r⟩
 ·obtain ⟨z,m,p⟩:=ih q; exact ⟨z,.tail _ m,p⟩
theorem RpAll.perm (p:ws.Perm vs):∀ {l},RpAll g bad h vs l→∃ m,m.Perm l∧RpAll g bad h ws m:=by
 induction p with
 | nil=>exact fun r=>⟨_,.refl _,r⟩
 | cons v _ ih=>
  intro l r
  cases r with
  | cons a r=>obtain ⟨m,p,q⟩:=ih r; exact ⟨_,.cons _ p,.cons a q⟩
 | swap v u _=>
  intro l r
  cases r with
  | cons a r=>cases r with
   | cons b r=>exact ⟨_,.swap _ _ _,.cons b (.cons a r)⟩
 | trans _ _ ih1 ih2=>
  intro l r
  refine ym fun Z4 kZ4=>?_
  obtain ⟨m,p,r⟩:=ih2 r
  obtain ⟨n,p',r⟩:=ih1 r
  refine kZ4 ?_
  exact ⟨n,p'.trans p,r⟩
theorem fS {C:V→Prop} (e:jR x=true) (k:∀ t l,(PyData.str t :: l).all aL=true→C (.tuple (.str t :: l))):C x:=by
 revert e
 cases x with
 | tuple l=>cases l with
  | nil=>exact fun e=>nB e
  | cons y l=>cases y with
   | str t=>exact fun e=>k _ _ e
   | _=>exact fun e=>nB e
 | _=>exact fun e=>nB e
theorem gm (e:jR x=true) (r:Rp g bad h v x):∃ c,v=.ref c∧IsTupleKey (aA g.prog g.w) h (aO x) c:=fS (C:=fun x=>Rp g bad h v x→∃ c,v=.ref c∧IsTupleKey (aA g.prog g.w) h (aO x) c) e (fun t l q r=>zu r q) r
theorem keys_inj (e:jR x=true) (e':jR y=true) (q:aO y=aO x):y=x:=
 fS (C:=fun x=>aO y=aO x→y=x) e (fun t l hl q=>fS (C:=fun y=>aO y=aO (.tuple (.str t :: l))→y=.tuple (.str t :: l)) e' (fun t' l' hl' q=>congrArg _ (oh hl' hl q)) q) q
theorem kS (e:jR x=true):∃ t ks,aO x=.inr t :: ks:=fS (C:=fun x=>∃ t ks,aO x=.inr t :: ks) e fun t l _=>⟨t,l.map kOf,rfl⟩
theorem qp {α:Type} {i:Nat} {a:α} {C:Prop} (e:(#[]:Array α)[i]?=some a):C:=by simp at e
theorem tab0 {L:Bool}:Tab (SetTable.fresh 0 0 L) (#[]:Array (Int×Value)):=⟨.inl rfl,rfl,rfl,fun _ _ _ _ _ e=>qp e,fun _ _ e=>qp e,fun _ _ _ e=>qp e⟩
def Aj (g:Gl) (bad:Addr→Prop) (h₀:Heap) (S:Addr) (l:List V) (i:Nat) (h:Heap):Prop:=
 ∃ es r,TS h S es (!g.w.params.followText "set-order")∧yF (aA g.prog g.w) h₀ es.toList∧RpAll g bad h₀ (es.toList.map (·.2)) r∧r.Nodup∧∀ y,y∈r ↔ y∈l.take i
theorem nJ {es:Array (Int×Value)} {r:List V} (q:RpAll g bad h (es.toList.map (·.2)) r):es.size=r.length:=by
 have:=q.length
 rwa [zA4,zB3] at this
theorem pQ {S:Addr} {vs:Array Value} (r:RpAll g bad h vs.toList l) (hw:∀ x∈l,jR x=true) {few:List V} (hfw:∀ x∈l,x∈few) (hn:few.length < 200):Fills g.prog g.w h S (fun i v=>vs[i]?=some v) vs.size (Aj g bad h S l) where
 frame:=fun i h h' q e=>q.elim fun es q=>q.elim fun r q=>⟨es,r,q.1.to e,q.2⟩
 live:=fun i h q=>q.elim fun es q=>q.elim fun r q=>q.1.casesOn fun o _ _ ho _ _ _ _ _=>⟨o,ho⟩
 start:=fun h ho=>⟨#[],[],⟨_,_,_,ho,⟨rfl,rfl,rfl⟩,rfl,tab0,Nat.zero_lt_succ 20,rfl⟩,fun e m=>(nM m),.nil,.nil,fun y=>⟨fun q=>(nM q),fun q=>(nM q)⟩⟩
 add:=fun i v s A hu hi hp hk hZ Q E hQ=>by
  refine hZ.elim fun es Zq5=>Zq5.elim fun R Zq6=>Zq6.elim fun T Zq7=>Zq7.elim fun he Zq8=>Zq8.elim fun hr Zq9=>Zq9.elim fun hd hm=>?_
  have hsz:=r.length
  rw [zB3] at hsz
  obtain ⟨x,hx⟩:∃ x,l[i]?=some x:=⟨_,List.getElem?_eq_getElem (hsz▸hi)⟩
  obtain ⟨v',ev,rv⟩:=r.get hx
  replace ev:=hp▸(Array.getElem?_toList)▸ev
  (injection ev with ev; subst ev)
  have hxw:=hw x (List.mem_of_getElem? hx)
  obtain ⟨c,rfl,k⟩:=gm hxw rv
  obtain ⟨t,ks,eh⟩:=kS hxw
  have mem1:∀ y,y∈l.take (i+1) ↔ y∈R∨y=x:=fun y=>by rw [List.take_add_one,hx,List.mem_append,hm]; simp
  have he':yF (aA g.prog g.w) s.heap es.toList:=fun e me=>let ⟨ks,c,q,z⟩:=he e me; ⟨ks,c,q,eI hk z⟩
  have inR:x∈R ↔ ∃ e∈es.toList,IsK (aA g.prog g.w) s.heap (.inr t :: ks) e:=by
   refine eh▸?_
   constructor
   ·intro q
    obtain ⟨u,mu,ru⟩:=hr.mem q
    obtain ⟨e,me,rfl⟩:=zA7 mu
    obtain ⟨ks',c',rfl,z⟩:=he e me
    obtain ⟨c2,e2,k2⟩:=gm hxw ru
    (injection e2 with e2; subst e2)
    obtain rfl:=z.inj k2
    exact ⟨_,me,c',rfl,eI hk z⟩
   ·rintro ⟨e,me,c',rfl,z⟩
    obtain ⟨y,my,ry⟩:=hr.of_mem (List.mem_map.mpr ⟨_,me,rfl⟩)
    have hy:=hw y (List.mem_of_mem_take ((hm y).mp my))
    obtain ⟨c2,e2,k2⟩:=gm hy ry
    (injection e2 with e2; subst e2)
    exact keys_inj hxw hy ((eI hk k2).inj z)▸my
  replace k:=eh▸k
  refine ph hu T he' (eI hk k) (by have:=hd.length_le_of_subset (l₂:=few) fun y q=>hfw y (List.mem_of_mem_take ((hm y).mp q)); rw [nJ hr]; exact Nat.lt_of_le_of_lt this hn) (fun q tk=>?_) fun h' es' tk sb T' p q=>?_
  ·have q:=inR.mpr q
   exact hQ _ s.heap tk (.refl _ _) ⟨es,R,T,he,hr,hd,fun y=>by rw [mem1]; exact ⟨.inl,fun z=>z.elim id fun z=>z▸q⟩⟩
  ·refine (RpAll.perm (p.map Prod.snd) (RpAll.cons rv hr)).elim fun R' Zq23=>Zq23.elim fun pR rR=>?_
   refine hQ _ h' tk sb ⟨es',R',T',fun e me=>?_,rR,pR.nodup_iff.mpr (List.nodup_cons.mpr ⟨fun z=>?_,hd⟩),fun y=>?_⟩
   ·rcases List.mem_cons.mp (p.mem_iff.mp me) with rfl | me
    ·exact ⟨_,c,rfl,k⟩
    ·exact he e me
   ·obtain ⟨e,me,ie⟩:=inR.mp z; exact q e me ie
   ·rw [pR.mem_iff,mem1,List.mem_cons]; exact or_comm
end
theorem bD:PySem.Slot "set_iterator" "__next__" "set_iterator.__next__":=
 .of (owner:="set_iterator") (n:="__next__") (by rw [typeLookup_type,builtinLookup_eq_fast]; kernel_rfl) (by decide +kernel) (by decide +kernel) (by decide +kernel)
  (by first | exact .inl (by decide +kernel) | exact .inr (by decide +kernel)) (by rw [isSubtype_type]; kernel_rfl)
theorem gA:entryFor table "set_iterator.__next__"=some Builtin.«set_iterator.__next__»:=entryFor_of_tree (by kernel_rfl)
theorem hU (a:Value):argsOk "set_iterator.__next__" ⟨[a],[]⟩:=by unfold argsOk; kernel_rfl
theorem iD:entryFor table "set.__iter__"=some Builtin.«frozenset.__iter__»:=entryFor_alias (id':="frozenset.__iter__") (by kernel_rfl) rfl (by decide +kernel) (by kernel_rfl)
section
variable {prog:Program} {w:World} {A:Around} {E:Value→Shared→Prop} {s:Shared}
noncomputable abbrev jU (ff:Value) (i:Nat) (S:Addr) (n ep:Nat):Obj:={ cls:=.type "set_iterator",data:=.fields #[ff,.int i 0,.ref S,.int n 0,.int ep 0] }
theorem qV {Q:Option Value→Shared→Prop} {P:Fin→Shared→Prop} (hh:A.handled=none) (h:∀ h',aI s.heap h'→Q none { s with heap:=h' }) :
  wpAny (model prog w) A.in1 (newExc (.type "StopIteration") [] >>= fun e=>raiseNew e) P (fun e s'=>wpAny (model prog w) A (isInstance e (.type "StopIteration") >>= fun b=>if b=true then pure none else throw e) Q E s') s:=by
 refine zC1 (zC1 (wpAny_newObj_type (zC1 (wpAny_of_eq (a:=Value.none) rfl (wpAny_newObj_type ?_ (by size_fits)))) (by size_fits)))
 refine wpAny_raiseNew_none (hh:A.in1.handled=none) ?_
 refine zC1 (wpAny_isInstance (T:="StopIteration") (b:=true) ⟨_,Heap.get?_push_size _ rfl,rfl⟩ isSubtype_stop ?_)
 exact zC2 (h _ ((aw _ _).trans (aw _ _)))
theorem fb (ho:s.heap.get? I=some { cls:=.type "set_iterator",data:=.fields vs }) (hj:j < vs.size) (h:∀ h',h'.get? I=some { cls:=.type "set_iterator",data:=.fields (vs.setIfInBounds j v) }→Heap.SameBut I s.heap h'→Q () { s with heap:=h' }) :
  wpAny (model prog w) A (setField (.ref I) j v) Q E s:=
 wpAny_setField ho rfl hj (h _ (Heap.get?_update_self _ ho rfl) (Heap.SameBut.update ..))
theorem fX {I S:Addr} {o:Obj} {es:Array (Int×Value)} {ep i:Nat} {t:SetTable} {ff f':Value} {r:Option Value} {Q:Option Value→Shared→Prop} (hh:A.handled=none)
  (hI:s.heap.get? I=some (jU ff i S es.size ep)) (ho:s.heap.get? S=some o) (hd:o.data=.set es ep t) (hf:t.fits es.size=true)
  (hn:(∃ (slot nx:Nat) (tk:Tok),ff=.int slot tk∧f'=.int nx 0∧∀ (A:Around) (Q:Option (Value×Nat)→Shared→Prop) (E:Value→Shared→Prop),Q (r.map fun x=>(x,nx)) s→wpAny (model prog w) A (setNext S slot i ep) Q E s) ∨
   ∃ F ol items n',ff=.ref F∧f'=ff∧s.heap.get? F=some ol∧ol.data=.seq items n'∧((r=none∧items[i]?=none)∨∃ (p:Nat) (tk:Tok) (x:Value) (e:Int),r=some x∧items[i]?=some (.int p tk)∧es[p]?=some (e,x)))
  (hQ:∀ x,r=some x→∀ h',h'.get? I=some (jU f' (i+1) S es.size ep)→Heap.SameBut I s.heap h'→Q (some x) { s with heap:=h' })
  (hE:r=none→∀ h',(∀ b o,b≠I→s.heap.get? b=some o→h'.get? b=some o)→Q none { s with heap:=h' }):wpAny (model prog w) A (pyNext (.ref I)) Q E s:=by
 have hT:s.TypeIs (.ref I) "set_iterator":=⟨_,hI,rfl⟩
 refine zC1 (wpAny_attempt (wpAny_callSpecial?_slot (name:=Str.ofString "__next__") hT bD (wpAny_call_entry bD hT gA ?_ (hU _))))
 refine zC1 (zC2 ?_)
 refine zC1 (wpAny_fieldsOf hI rfl ?_)
 refine zC1 (zC1 (wpAny_setState_of ho hd hf (zC2 ?_)))
 refine bI (by simp) ?_
 have ext:∀ {h1 h2:Heap},Heap.SameBut I s.heap h1→aI h1 h2→∀ b o,b≠I→s.heap.get? b=some o→h2.get? b=some o:=fun a k b o q e=>k b o ((a.2 b q).trans e)
 rcases hn with ⟨slot,nx,tk,rfl,rfl,hn⟩ | ⟨F,ol,items,n',rfl,rfl,hol,hdl,hn⟩
 ·refine zC1 (hn _ _ _ ?_)
  cases r with
  | none=>exact zC1 (fb hI (by simp) fun h1 _ sb=>qV hh fun h2 k=>hE rfl _ (ext sb k))
  | some x=>exact zC1 (fb hI (by simp) fun h1 g1 sb=>zC1 (fb g1 (by simp) fun h2 g2 sb2=>zC2 ⟨x,rfl,zC2 (hQ x rfl h2 g2 (sb.trans sb2))⟩))
 ·refine zC1 (wpAny_seqItems hol hdl ?_)
  dsimp only
  rcases hn with ⟨rfl,hi⟩ | ⟨p,tk,x,e,rfl,hi,he⟩
  ·exact (hi:items[(i:Int).toNat]?=_).symm▸zC1 (fb hI (by simp) fun h1 g1 sb=>zC1 (fb g1 (by simp) fun h2 g2 sb2=>qV hh fun h3 k=>hE rfl _ (ext (sb.trans sb2) k)))
  ·refine (hi:items[(i:Int).toNat]?=_).symm▸zC1 (zC1 (wpAny_setState_of ho hd hf (bI (by simp) ?_)))
   exact (he:es[(p:Int).toNat]?=_).symm▸zC2 (zC1 (fb hI (by simp) fun h1 g1 sb=>zC2 ⟨x,rfl,zC2 (hQ x rfl h1 g1 sb)⟩))
theorem lv (hn:n≠0) (h:∀ i d,i < n→Q i { s with drawn:=d }):wpAny M A (choose src n) Q E s:=fun Γ p hΓ=>by
 unfold choose
 rw [Sem.wp_choose]
 exact ⟨hn,h _ _ (Nat.mod_lt _ (Nat.pos_of_ne_zero hn))⟩
theorem cS:∀ {l:List α} {i:Nat},l[i]?=some x→(x :: l.eraseIdx i).Perm l
 | [],_,h=>nomatch h
 | y :: l,0,h=>by (injection h with h; subst h); exact .refl _
 | y :: l,i+1,h=>(List.Perm.swap y x _).trans (.cons y (cS (l:=l) h))
theorem rY:∀ (n:Nat) (xs:List α) (s:Shared) {Q:List α→Shared→Prop},xs.length=n→(∀ ys d,ys.Perm xs→Q ys { s with drawn:=d })→wpAny M A (drawOrder n xs) Q E s
 | 0,xs,s,Q,hl,h=>by obtain rfl:=List.length_eq_zero_iff.mp hl; exact zC2 (h [] s.drawn (.refl _))
 | n+1,[],s,Q,hl,h=>nomatch hl
 | n+1,x :: xs,s,Q,hl,h=>by
  refine zC1 (lv (by rw [hl]; exact Nat.succ_ne_zero n) fun i d hi=>?_)
  have e:(x :: xs)[i]?=some (x :: xs)[i]:=List.getElem?_eq_getElem hi
  rw [e]
  refine zC1 (rY n _ _ (by rw [List.length_eraseIdx_of_lt hi,hl]; rfl) fun ys d' p=>zC2 (h _ d' ((List.Perm.cons _ p).trans (cS e))))
theorem q6 (f:Nat→Nat):∀ (n k:Nat) (l:List α) (o:Array α),l.length=n→(pickOrder.go f n k l o).toList.Perm (o.toList++l)
 | 0,k,l,o,h=>by obtain rfl:=List.length_eq_zero_iff.mp h; refine (?_:o.toList.Perm _); rw [List.append_nil]
 | n+1,k,l,o,h=>by
  have hi:f k % l.length < l.length:=Nat.mod_lt _ (by rw [h]; exact Nat.succ_pos n)
  have e:l[f k % l.length]?=some l[f k % l.length]:=List.getElem?_eq_getElem hi
  rw [show pickOrder.go f (n+1) k l o=(match l[f k % l.length]? with | some x=>pickOrder.go f n (k+1) (l.eraseIdx (f k % l.length)) (o.push x) | none=>o) from rfl,e]
  refine (q6 f n (k+1) _ _ (by rw [List.length_eraseIdx_of_lt hi,h]; rfl)).trans ?_
  rw [Array.toList_push,List.append_assoc]
  exact .append_left _ (cS e)
theorem sM (f:Nat→Nat) (xs:Array α):(pickOrder f xs).toList.Perm xs.toList:=q6 f _ 0 _ #[] Array.length_toList
end
theorem dC:PySem.Slot "set_iterator" "__iter__" "set_iterator.__iter__":=
 .of (owner:="set_iterator") (n:="__iter__") (by rw [typeLookup_type,builtinLookup_eq_fast]; kernel_rfl) (by decide +kernel) (by decide +kernel) (by decide +kernel)
  (by first | exact .inl (by decide +kernel) | exact .inr (by decide +kernel)) (by rw [isSubtype_type]; kernel_rfl)
theorem gB:entryFor table "set_iterator.__iter__"=some Builtin.«dict_keyiterator.__iter__»:=entryFor_alias (id':="dict_keyiterator.__iter__") (by kernel_rfl) rfl (by decide +kernel) (by kernel_rfl)
theorem hV (a:Value):argsOk "set_iterator.__iter__" ⟨[a],[]⟩:=by unfold argsOk; kernel_rfl
section
variable {prog:Program} {w:World} {A:Around} {E:Value→Shared→Prop} {s:Shared} {I S:Addr} {o:Obj} {es:Array (Int×Value)} {ep:Nat} {t:SetTable} {ord:List Value}
theorem iM (hI:s.heap.get? I=some ob) (hc:ob.cls=.type "set_iterator") (h:Q (.ref I) s):wpAny (model prog w) A (pyIter (.ref I)) Q E s:=by
 have hT:s.TypeIs (.ref I) "set_iterator":=⟨_,hI,hc⟩
 refine wpAny_pyIter_slot hT dC (wpAny_call_entry dC hT gB ?_ (hV _))
 refine zC1 (zC2 ?_)
 exact zC2 ⟨_,rfl, "set_iterator",_,hT,bD.lookup,h⟩
abbrev mV (prog:Program) (w:World) (S:Addr) (o:Obj) (i ep slot:Nat) (r:Option (Value×Nat)):Prop:=∀ (s:Shared),s.heap.get? S=some o→∀ (A:Around) (Q:Option (Value×Nat)→Shared→Prop) (E:Value→Shared→Prop),Q r s→wpAny (model prog w) A (setNext S slot i ep) Q E s
theorem Ar {C:Addr→Prop} (m:c∈[a,b]) (ha:C a) (hb:C b):C c:=by
 rcases List.mem_cons.mp m with rfl | m
 ·exact ha
 ·obtain rfl:=zA6 m; exact hb
theorem kv (hh:A.handled=none) (hne:S≠I) (hd:o.data=.set es ep t) (hf:t.fits es.size=true) (Sl:Nat→Nat→Prop)
  (hs:∀ i slot,Sl slot i→i < es.size→∃ x nx,ord[i]?=some x∧Sl nx (i+1)∧mV prog w S o i ep slot (some (x,nx))) (he:∀ slot,Sl slot es.size→mV prog w S o es.size ep slot none) :
  Walks prog w A I [I,S] [I] es.size (fun i v=>ord[i]?=some v) (fun i h=>h.get? S=some o∧∃ slot tk,Sl slot i∧h.get? I=some (jU (.int slot tk) i S es.size ep)) where
 sub:=fun b m=>by obtain rfl:=zA6 m; exact .head _
 frame:=fun i h h' Zq1 k=>Zq1.elim fun a Zq2=>Zq2.elim fun slot Zq3=>Zq3.elim fun tk Zq4=>Zq4.elim fun b c=>⟨k S (.tail _ (.head _)) _ a,slot,tk,b,k I (.head _) _ c⟩
 item:=fun i s Q E hi ⟨a,slot,tk,b,c⟩ hQ=>by
  refine ym fun Z1 kZ1=>?_
  obtain ⟨x,nx,e1,e2,e3⟩:=hs i slot b hi
  refine kZ1 ?_
  refine fX (r:=some x) (f':=.int nx 0) hh c a hd hf (.inl ⟨slot,nx,tk,rfl,rfl,e3 s a⟩) (fun y ey h' hI sb=>?_) fun q=>nN q
  (injection ey with ey; subst ey)
  exact hQ x h' s.toks e1 ⟨(sb.2 S hne).trans a,nx,0,e2,hI⟩ fun b o m e=>(sb.2 b fun q=>m (q▸.head _)).trans e
 done:=fun s Q E Zq9 hQ=>Zq9.elim fun a Zq10=>Zq10.elim fun slot Zq11=>Zq11.elim fun tk Zq12=>Zq12.elim fun b c=>fX (r:=none) (f':=.int 0 0) hh c a hd hf (.inl ⟨slot,0,tk,rfl,rfl,he slot b s a⟩) (fun y ey=>nN ey.symm) fun _ h' k=>hQ h' s.toks fun b o m e=>k b o (fun q=>m (q▸.head _)) e
 self:=fun i s Q E ⟨a,slot,tk,b,c⟩ h=>iM c rfl h
theorem sx (hh:A.handled=none) (hne:S≠I) (hd:o.data=.set es ep t) (hf:t.fits es.size=true) (hF:F≠I) (hdl:ol.data=.seq items n') (hz:items.size=es.size)
  (hs:∀ i,i < es.size→∃ (p:Nat) (tk:Tok) (x:Value) (e:Int),ord[i]?=some x∧items[i]?=some (.int p tk)∧es[p]?=some (e,x)) :
  Walks prog w A I [I,S,F] [I] es.size (fun i v=>ord[i]?=some v) (fun i h=>h.get? S=some o∧h.get? F=some ol∧h.get? I=some (jU (.ref F) i S es.size ep)) where
 sub:=fun b m=>by obtain rfl:=zA6 m; exact .head _
 frame:=fun i h h' Zq17 k=>Zq17.elim fun a Zq18=>Zq18.elim fun b c=>⟨k S (.tail _ (.head _)) _ a,k F (.tail _ (.tail _ (.head _))) _ b,k I (.head _) _ c⟩
 item:=fun i s Q E hi ⟨a,b,c⟩ hQ=>by
  refine ym fun Z2 kZ2=>?_
  obtain ⟨p,tk,x,e,e1,e2,e3⟩:=hs i hi
  refine kZ2 ?_
  refine fX (r:=some x) (f':=.ref F) hh c a hd hf (.inr ⟨F,ol,items,n',rfl,rfl,b,hdl,.inr ⟨p,tk,x,e,rfl,e2,e3⟩⟩) (fun y ey h' hI sb=>?_) fun q=>nN q
  (injection ey with ey; subst ey)
  exact hQ x h' s.toks e1 ⟨(sb.2 S hne).trans a,(sb.2 F hF).trans b,hI⟩ fun b o m e=>(sb.2 b fun q=>m (q▸.head _)).trans e
 done:=fun s Q E Zq21 hQ=>Zq21.elim fun a Zq22=>Zq22.elim fun b c=>fX (r:=none) (f':=.ref F) hh c a hd hf (.inr ⟨F,ol,items,n',rfl,rfl,b,hdl,.inl ⟨rfl,Array.getElem?_eq_none (zB2 hz)⟩⟩) (fun y ey=>nN ey.symm) fun _ h' k=>hQ h' s.toks fun b o m e=>k b o (fun q=>m (q▸.head _)) e
 self:=fun i s Q E ⟨a,b,c⟩ h=>iM c rfl h
theorem kP (hB:w.params.followText "set-order"=true) (hd:o.data=.set es ep t) (hf:t.fits es.size=true) (e:((pickOrder (w.params.setOrder S ep) es)[i]?).map (fun e=>(e.2,slot))=r):mV prog w S o i ep slot r:=fun s ho A Q E h=>by
 skip
 refine zC1 (wpAny_setState_of ho hd hf ?_)
 refine zC1 (zC1 (wpAny_askSetting (zC2 ?_)))
 rw [show (Setting.mk (model prog w).prog (model prog w).w.params).params.followText "set-order"=true from hB,if_pos rfl,if_neg (by simp)]
 unfold setWalk
 refine zC1 (zC1 (wpAny_setState_of ho hd hf ?_))
 refine zC1 (zC1 (wpAny_askSetting (zC2 ?_)))
 refine (show (Setting.mk (model prog w).prog (model prog w).w.params).params.followText "set-order"=true from hB).symm▸(if_pos rfl).symm▸?_
 refine zC1 (wpAny_askSetting (zC2 (zC2 ?_)))
 exact e▸h
theorem nX (hB:w.params.followText "set-order"=false) (hd:o.data=.set es ep t) (hf:t.fits es.size=true) (hl:t.led=true) (hn:(!t.plain&&decide (es.size > 1))=false)
  (e:(match es[SetTable.below t.place slot]?,t.place[SetTable.below t.place slot]? with | some (_,x),some j=>some (x,j+1) | _,_=>none)=r):mV prog w S o i ep slot r:=fun s ho A Q E h=>by
 skip
 refine zC1 (wpAny_setState_of ho hd hf ?_)
 refine zC1 (zC1 (wpAny_askSetting (zC2 ?_)))
 refine (show (Setting.mk (model prog w).prog (model prog w).w.params).params.followText "set-order"=false from hB).symm▸(if_neg Bool.false_ne_true).symm▸?_
 refine bI (ne_true_of_eq_false hn) ?_
 refine zC1 (bI (show ¬ (!t.led&&!es.isEmpty)=true by simp [hl]) (zC2 ?_))
 refine zC2 ?_
 subst e; exact h
theorem uH (hL:L = !w.params.followText "set-order") (T:TS s.heap S es L)
  (h:∀ (ord:List Value) I fp wr St h' d,ord.Perm (es.toList.map (·.2))→aI s.heap h'→(∀ b∈wr,s.heap.get? b=none)→(∀ b∈fp,s.heap.get? b=none∨b=S)→(∀ A:Around,A.handled=none→Walks prog w A I fp wr es.size (fun i v=>ord[i]?=some v) St)→St 0 h'→Q (.ref I) { s with heap:=h',drawn:=d }) :
  wpAny (model prog w) A (pyIter (.ref S)) Q E s:=by
 refine ym fun Z3 kZ3=>?_
 obtain ⟨o,ep,t,ho,hex,hd,T,hr,hl⟩:=T
 refine kZ3 ?_
 have hm:es.size≤t.mask:=Nat.le_of_lt (Nat.lt_of_mul_lt_mul_right (Nat.lt_of_le_of_lt (Nat.mul_le_mul_left es.size (by decide:3≤5)) hr))
 have hf:t.fits es.size=true:=T.fits hm
 have hT:s.TypeIs (.ref S) "set":=⟨_,ho,hex.1⟩
 refine wpAny_pyIter_slot hT PySem.F.slot_set_iter (wpAny_call_entry PySem.F.slot_set_iter hT iD ?_ (PySem.F.args_set_iter_1 _))
 unfold Builtin.«frozenset.__iter__»
 refine zC1 (zC1 (zC2 (zC2 ?_)))
 refine zC1 (zC1 (zC1 (wpAny_setState_of ho hd hf (zC2 (zC2 ?_)))))
 skip
 refine zC1 (zC1 (wpAny_setState_of ho hd hf ?_))
 refine zC1 (zC1 (wpAny_askSetting (zC2 (zC2 ?_))))
 have hle:es.size≤511:=zB1 hm (by rcases T.msk with q | q | q | q <;> rw [q] <;> decide)
 extract_lets jp
 have hjp:∀ (s1:Shared) ff,s1.heap.get? S=some o→(∀ h',h'.get? s1.heap.objs.size=some (jU ff 0 S es.size ep)→aI s1.heap h'→Q (.ref s1.heap.objs.size) { s1 with heap:=h' }) →
   wpAny (model prog w) A.in1 (jp ff) (fun fin s'=>∃ v,fin=.done (.ret v)∧∃ T' r,s'.TypeIs v T'∧typeLookup (.type T') (Str.ofString "__next__")=pure (some r)∧Q v s') E s1:=fun s1 ff h1 hq=>by
  refine zC1 (wpAny_setEpoch_of h1 hd hf ?_)
  refine zC1 (wpAny_newObj_type ?_)
  exact zC2 ⟨_,rfl, "set_iterator",_,⟨_,Heap.get?_push_size _ rfl,rfl⟩,bD.lookup,hq _ (Heap.get?_push_size _ rfl) (aw _ _)⟩
 have nI:∀ (h1:Heap),aI s.heap h1→s.heap.get? h1.objs.size=none:=fun h1 k=>aM k.live (ak _)
 refine wpAny_ite_split (fun c=>?_) fun c=>?_
 ·refine zC1 (rY _ _ _ List.length_range fun ys d py=>?_)
  refine zC1 (wpAny_newTuple ?_ (by rw [zA4,py.length_eq,List.length_range]; exact zB1 hle (by decide)))
  have k1:aI s.heap (s.heap.push { cls:=.type "tuple",data:=.seq (ys.map fun (i:Nat)=>rawInt i).toArray 0 }):=aw _ _
  have hy:∀ a∈ys,(es.toList[a]?).isSome:=fun a m=>by
   rw [List.getElem?_eq_getElem (by rw [zB3]; exact List.mem_range.mp (py.mem_iff.mp m))]; rfl
  refine hjp _ _ (k1 _ _ ho) fun h' hI k=>h ((ys.filterMap (es.toList[·]?)).map (·.2)) _ _ _ _ h' d ?_ (k1.trans k) (fun b m=>?_) (fun b m=>?_) (fun A hh=>sx hh (cy (k1 _ _ ho)) hd hf (F:=s.heap.objs.size) (Nat.ne_of_lt (by rw [Heap.size_push]; exact Nat.lt_succ_self _)) (rfl:Obj.data { cls:=.type "tuple",data:=.seq (ys.map fun (i:Nat)=>rawInt i).toArray 0 }=_) (by simp [py.length_eq]) fun i hi=>?_) ⟨(k1.trans k) _ _ ho,k _ _ (Heap.get?_push_size _ rfl),hI⟩
  ·refine (List.Perm.map _ ((List.Perm.filterMap _ py).trans (.of_eq ?_)))
   exact Array.length_toList▸bZ _
  ·obtain rfl:=zA6 m; exact nI _ k1
  ·rcases List.mem_cons.mp m with rfl | m
   ·exact .inl (nI _ k1)
   ·exact Ar (C:=fun b=>s.heap.get? b=none∨b=S) m (.inr rfl) (.inl (ak _))
  ·have hl':i < ys.length:=by rw [py.length_eq,List.length_range]; exact hi
   have ep:ys[i] < es.size:=List.mem_range.mp (py.mem_iff.mp (List.getElem_mem hl'))
   refine ⟨ys[i],0,es[ys[i]].2,es[ys[i]].1,?_,?_,Array.getElem?_eq_getElem ep⟩
   ·rw [List.getElem?_map,cR hy,List.getElem?_eq_getElem hl']
    refine (?_:((es.toList[ys[i]]?).map _)=_)
    rw [Array.getElem?_toList,Array.getElem?_eq_getElem ep]; rfl
   ·simp [hl',rawInt]
 ·refine zC1 (zC2 ?_)
  cases hB:w.params.followText "set-order" with
  | true=>
   have pk:=sM (w.params.setOrder S ep) es
   refine hjp s _ ho fun h' hI k=>h ((pickOrder (w.params.setOrder S ep) es).toList.map (·.2)) _ _ _ _ h' s.drawn (pk.map _) k (fun b m=>by obtain rfl:=zA6 m; exact ak _) (fun b m=>Ar (C:=fun b=>s.heap.get? b=none∨b=S) m (.inl (ak _)) (.inr rfl))
    (fun A hh=>kv hh (cy ho) hd hf (fun _ _=>True) (fun i slot _ hi=>?_) fun slot _=>?_) ⟨k _ _ ho,0,0,trivial,hI⟩
   ·have hl':i < (pickOrder (w.params.setOrder S ep) es).size:=by exact Array.length_toList▸pk.length_eq.symm▸Array.length_toList.symm▸hi
    exact ⟨(pickOrder (w.params.setOrder S ep) es)[i].2,slot,by rw [List.getElem?_map,Array.getElem?_toList,Array.getElem?_eq_getElem hl']; rfl,trivial,kP hB hd hf (by rw [Array.getElem?_eq_getElem hl']; rfl)⟩
   ·exact kP hB hd hf (by rw [Array.getElem?_eq_none (by rw [← zB3,pk.length_eq,zB3]; exact Nat.le_refl _)]; rfl)
  | false=>
   have hl2:t.led=true:=by rw [hl,hL,hB]; rfl
   have hn:(!t.plain&&decide (es.size > 1))=false:=by
    have c:¬ (!w.params.followText "set-order"&&(!t.plain&&decide (es.size > 1)))=true:=c
    rw [hB] at c
    exact Bool.eq_false_iff.mpr c
   refine hjp s _ ho fun h' hI k=>h (es.toList.map (·.2)) _ _ _ _ h' s.drawn (.refl _) k (fun b m=>by obtain rfl:=zA6 m; exact ak _) (fun b m=>Ar (C:=fun b=>s.heap.get? b=none∨b=S) m (.inl (ak _)) (.inr rfl))
    (fun A hh=>kv hh (cy ho) hd hf (fun slot i=>SetTable.below t.place slot=i) (fun i slot e hi=>?_) fun slot e=>nX hB hd hf hl2 hn (by rw [e,Array.getElem?_eq_none (Nat.le_refl _)])) ⟨k _ _ ho,0,0,?_,hI⟩
   ·obtain ⟨j,ej⟩:∃ j,t.place[i]?=some j:=⟨_,Array.getElem?_eq_getElem (by rw [T.sz]; exact hi)⟩
    refine ⟨es[i].2,j+1,by rw [List.getElem?_map,Array.getElem?_toList,Array.getElem?_eq_getElem hi]; rfl,?_,nX hB hd hf hl2 hn (by rw [e,Array.getElem?_eq_getElem hi,ej])⟩
    have b:=eM T.rise (j+1)
    rcases Nat.lt_trichotomy (SetTable.below t.place (j+1)) (i+1) with q | q | q
    ·exact absurd (b.2.2 i j (Nat.le_of_lt_succ q) ej) (Nat.not_succ_le_self j)
    ·exact q
    ·obtain ⟨j',ej'⟩:∃ j,t.place[i+1]?=some j:=⟨_,Array.getElem?_eq_getElem (Nat.lt_of_lt_of_le q b.1)⟩
     exact absurd (Nat.le_of_lt_succ (b.2.1 _ _ q ej')) (Nat.not_le.mpr (T.rise _ _ _ _ (Nat.lt_succ_self i) ej ej'))
   ·have b:=eM T.rise 0
    rcases Nat.eq_zero_or_pos (SetTable.below t.place 0) with q | q
    ·exact q
    ·have b1:=b.1
     obtain ⟨j,ej⟩:∃ j,t.place[0]?=some j:=⟨_,Array.getElem?_eq_getElem (Nat.lt_of_lt_of_le q b1)⟩
     exact absurd (b.2.1 0 j q ej) (Nat.not_lt_zero _)
end
noncomputable abbrev KKd:=PyProof.Rows.KeyKind
structure SI (k₀:SortKind) (a₀:Array Keyed) (st:SortSt):Prop where
 perm:(arrOf st).Perm a₀
 kind:kindOf st=k₀
 failed:failedOf st=none
 pend:pendingOf st=#[]
section
variable {M:Model} {A:Around} {s:Shared} {k₀:SortKind} {a₀:Array Keyed} {st:SortSt} {E:Value→Shared→Prop} {κ:KKd}
noncomputable def rI (κ:KKd) (x:Keyed):κ.α:=(κ.keyOf x.1).getD κ.dflt
def vR (M:Model) (A:Around) (s:Shared) (k₀:SortKind) (κ:KKd) (a₀:Array Keyed):Prop:=∀ x y:Keyed,x∈a₀.toList→y∈a₀.toList→∀ (E:Value→Shared→Prop) (Q:Bool→Shared→Prop),Q (κ.blt (rI κ x) (rI κ y)) s→wpAny M A (keyLt' k₀ x.1 y.1) Q E s
theorem SI.size (I:SI k₀ a₀ st):(arrOf st).size=a₀.size:=I.perm.size_eq
theorem SI.setArr (I:SI k₀ a₀ st) (h:xs.Perm (arrOf st)):SI k₀ a₀ (setArr st xs):=⟨h.trans I.perm,I.kind,I.failed,I.pend⟩
theorem SI.mem (I:SI k₀ a₀ st) (h:x∈(arrOf st).toList):x∈a₀.toList:=(Array.perm_iff_toList_perm.mp I.perm).mem_iff.mp h
theorem v0 (e:xs[i]?=some x):KK κ xs i=rI κ x:=by unfold KK; rw [e]; rfl
theorem wpS_ltAt (L:vR M A s k₀ κ a₀) (I:SI k₀ a₀ st) (hi:i < a₀.size) (hj:j < a₀.size) (h:∀ b,κ.blt (KK κ (arrOf st) i) (KK κ (arrOf st) j)=b→Q (some b) st):wpS M A E s (ltAt' i j) Q st:=by
 rw [ltAt'_eq]
 refine wpS_bind (wpS_get ?_)
 have ei:=getElem?_pos (arrOf st) i (I.size▸hi)
 have ej:=getElem?_pos (arrOf st) j (I.size▸hj)
 dsimp only
 rw [elem'_eq,elem'_eq,ei,ej]
 refine wpS_bind (wpS_pure (wpS_bind (wpS_pure ?_)))
 rw [lt'_eq]
 refine wpS_bind (wpS_get ?_)
 rw [I.kind]
 exact wpS_bind (wpS_lift (wpAny_attempt (L _ _ (I.mem (by simp)) (I.mem (by simp)) _ _ ⟨rfl,wpS_pure (h _ (by rw [v0 ei,v0 ej]))⟩)))
theorem wpS_rev (I:SI k₀ a₀ st) (h:∀ st',SI k₀ a₀ st'→arrOf st'=mirror (arrOf st) i j ((j - i) / 2)→Q () st'):wpS M A E s (reverseSlice' i j) Q st:=by
 rw [reverseSlice'_eq]; exact wpS_modify (h _ (I.setArr (mirror_perm _ _ _ _)) rfl)
theorem t9 (h:SortedToK κ xs x) (q:κ.kle (KK κ xs (x - 1)) (KK κ xs x)):SortedToK κ xs (x+1):=fun i j hij hj=>by
 rcases Nat.lt_or_ge j x with z | z
 ·exact h i j hij z
 ·cases Nat.le_antisymm (Nat.le_of_lt_succ hj) z
  rcases Nat.lt_or_ge i x with z | z
  ·exact KeyOrd.kle_trans (h i (x - 1) (Nat.le_sub_one_of_lt z) (Nat.sub_one_lt (Nat.ne_of_gt (Nat.zero_lt_of_lt z)))) q
  ·cases Nat.le_antisymm hij z; exact KeyOrd.kle_refl _
theorem gG (h:NonIncK κ xs x) (q:κ.kle (KK κ xs x) (KK κ xs (x - 1))):NonIncK κ xs (x+1):=fun i j hij hj=>by
 rcases Nat.lt_or_ge j x with z | z
 ·exact h i j hij z
 ·cases Nat.le_antisymm (Nat.le_of_lt_succ hj) z
  rcases Nat.lt_or_ge i x with z | z
  ·exact KeyOrd.kle_trans q (h i (x - 1) (Nat.le_sub_one_of_lt z) (Nat.sub_one_lt (Nat.ne_of_gt (Nat.zero_lt_of_lt z))))
  ·cases Nat.le_antisymm hij z; exact KeyOrd.kle_refl _
theorem wpS_asc {f:Nat→Option (Option Nat)×Nat→StateT SortSt Sem (ForInStep (Option (Option Nat)×Nat))} {Q:Option (Option Nat)×Nat→SortSt→Prop} {g:Nat→Option Bool→StateT SortSt Sem (ForInStep (Option (Option Nat)×Nat))}
  (L:vR M A s k₀ κ a₀) (hf:∀ x,f x (none,x)=(ltAt' (0+x) (0+x - 1) >>= g x)) (g1:∀ x,g x (some true)=pure (.done (none,x))) (g0:∀ x,g x (some false)=pure (.yield (none,x+1)))
  (hn:nrem≤a₀.size) (h1:1≤a) (h2:a≤nrem) (I:SI k₀ a₀ st) (hs:SortedToK κ (arrOf st) a) (h:∀ m,1≤m→m≤nrem→SortedToK κ (arrOf st) m→(m < nrem→κ.klt (KK κ (arrOf st) m) (KK κ (arrOf st) (m - 1)))→Q (none,m) st):wpS M A E s (forIn [a:nrem] (none,a) f) Q st:=by
 refine wpS_forRange (I:=fun x c st'=>c=(none,x)∧st'=st∧SortedToK κ (arrOf st) x) ?_ ?_ ⟨rfl,rfl,hs⟩
 ·rintro x c st' q1 q2 ⟨rfl,rfl,hs⟩
  rw [hf,Nat.zero_add]
  refine wpS_bind (wpS_ltAt L I (Nat.lt_of_lt_of_le q2 hn) (Nat.lt_of_le_of_lt (Nat.sub_le _ _) (Nat.lt_of_lt_of_le q2 hn)) fun b e=>?_)
  cases b
  ·rw [g0]; exact wpS_pure ⟨rfl,rfl,t9 hs e⟩
  ·rw [g1]; exact wpS_pure (h x (zB1 h1 q1) (Nat.le_of_lt q2) hs fun _=>e)
 ·rintro c st' ⟨rfl,rfl,hs⟩
  rw [Nat.max_eq_right h2] at hs ⊢
  exact h _ (zB1 h1 h2) (Nat.le_refl _) hs fun q=>absurd q (Nat.lt_irrefl _)
def EqB (κ:KKd) (xs:Array Keyed) (i j:Nat):Prop:=∀ k,i≤k→k < j→KK κ xs k=KK κ xs (j - 1)
theorem qO (hj:j≤xs.size) (e:EqB κ xs i j):KK κ (mirror xs i j ((j - i) / 2))=KK κ xs:=funext fun k=>KK_mirror_equal hj e k
theorem mD (e:KK κ ys=KK κ xs):(SortedToK κ xs n→SortedToK κ ys n)∧(NonIncK κ xs n→NonIncK κ ys n):=⟨fun h i j a b=>by rw [e]; exact h i j a b,fun h i j a b=>by rw [e]; exact h i j a b⟩
theorem sO (hn:n≤xs.size) (h:NonIncK κ xs n):SortedToK κ (mirror xs 0 n ((n - 0) / 2)) n:=fun i j hij hj=>by
 rw [KK_mirror hn,KK_mirror hn,if_pos ⟨Nat.zero_le _,Nat.lt_of_le_of_lt hij hj⟩,if_pos ⟨Nat.zero_le _,hj⟩]
 exact h _ _ (Nat.sub_le_sub_left hij _) (by rw [Nat.zero_add]; exact Nat.lt_of_le_of_lt (Nat.sub_le _ _) (Nat.sub_lt (Nat.lt_of_le_of_lt (Nat.zero_le _) hj) (by decide)))
theorem jw [Decidable c] (I:SI k₀ a₀ st) (hj:j≤a₀.size) (e:EqB κ (arrOf st) i j) (h:∀ st',SI k₀ a₀ st'→KK κ (arrOf st')=KK κ (arrOf st)→wpS M A E s X Q st'):wpS M A E s (if c then reverseSlice' i j >>= fun _=>X else X) Q st:=by
 split
 ·exact wpS_bind (wpS_rev I fun st' I' e'=>h st' I' (by rw [e']; exact qO (I.size▸hj) e))
 ·exact h st I rfl
theorem za (a:x - (0+1)≤k) (b:k < x):k=x - 1:=Nat.le_antisymm (Nat.le_sub_one_of_lt b) a
theorem Ac (a:x+1 - (q+1+1)≤k):x - (q+1)≤k:=Nat.add_sub_add_right x 1 (q+1)▸a
theorem lq {Q:Option Nat→SortSt→Prop} (L:vR M A s k₀ κ a₀) (hn:nrem≤a₀.size) (h1:1≤nrem) (I:SI k₀ a₀ st)
  (h:∀ m st',SI k₀ a₀ st'→1≤m→m≤nrem→SortedToK κ (arrOf st') m→(EqB κ (arrOf st) 0 nrem→m=nrem∧arrOf st'=arrOf st)→Q (some m) st'):wpS M A E s (countRun' 0 nrem) Q st:=by
 rw [countRun'_eq]
 have hz:nrem≤(arrOf st).size:=I.size▸hn
 refine wpS_bind (wpS_asc L (fun _=>rfl) (fun _=>rfl) (fun _=>rfl) hn (Nat.le_refl 1) h1 I (fun i j a b=>by cases Nat.lt_one_iff.mp b; obtain rfl:=Nat.le_zero.mp a; exact KeyOrd.kle_refl _) fun n hn1 hn2 hs hlt=>?_)
 dsimp only
 by_cases e:n=nrem
 ·rw [if_pos (by simpa using e)]; exact wpS_pure (h n st I hn1 hn2 hs fun _=>⟨e,rfl⟩)
 rw [if_neg (by simpa using e)]
 have hlt:=hlt (Nat.lt_of_le_of_ne hn2 e)
 have hno:¬ EqB κ (arrOf st) 0 nrem:=fun q=>by
  rw [q n (Nat.zero_le _) (Nat.lt_of_le_of_ne hn2 e),q (n - 1) (Nat.zero_le _) (Nat.lt_of_lt_of_le (Nat.sub_lt hn1 (by decide)) hn2)] at hlt
  exact absurd hlt (by unfold KeyOrd.klt; rw [κ.irrefl]; exact Bool.false_ne_true)
 have fin:∀ m st',SI k₀ a₀ st'→1≤m→m≤nrem→SortedToK κ (arrOf st') m→Q (some m) st':=fun m st' I' a b c=>h m st' I' a b c fun q=>absurd q hno
 clear h
 -- a run that went down is turned round,and goes on
 have turn:∀ {n':Nat} {st':SortSt} {f:Nat→Option (Option Nat)×Nat→StateT SortSt Sem (ForInStep (Option (Option Nat)×Nat))} {F:Option (Option Nat)×Nat→StateT SortSt Sem (Option Nat)} {g:Nat→Option Bool→StateT SortSt Sem (ForInStep (Option (Option Nat)×Nat))},
   (∀ x,f x (none,x)=(ltAt' (0+x) (0+x - 1) >>= g x))→(∀ x,g x (some true)=pure (.done (none,x)))→(∀ x,g x (some false)=pure (.yield (none,x+1)))→(∀ m,F (none,m)=pure (some m))→SI k₀ a₀ st'→1≤n'→n'≤nrem→NonIncK κ (arrOf st') n' →
   wpS M A E s (reverseSlice' 0 (0+n') >>= fun _=>forIn [n':nrem] (none,n') f >>= F) Q st':=fun hf g1 g0 hF I' q1 q2 hd=>by
  rw [Nat.zero_add]
  refine wpS_bind (wpS_rev I' fun st4 I4 e4=>wpS_bind (wpS_asc L hf g1 g0 hn q1 q2 I4 (by rw [e4]; exact sO (zB1 q2 (I'.size▸hn)) hd) fun m a b c _=>?_))
  rw [hF]; exact wpS_pure (fin m st4 I4 a b c)
 have hlt':n < nrem:=Nat.lt_of_le_of_ne hn2 e
 have go:∀ {α:Type} {c:Prop} [Decidable c] {i j:Nat} {X:StateT SortSt Sem α} {F:Option Bool→StateT SortSt Sem α} {Q:α→SortSt→Prop},(c ↔ n > 1)→i=0→j=n - 1→wpS M A E s (F (some true)) Q st→F (some false)=(reverseSlice' 0 (0+n) >>= fun _=>X) →
   (∀ st2,SI k₀ a₀ st2→NonIncK κ (arrOf st2) (n+1)→wpS M A E s X Q st2)→wpS M A E s (if c then ltAt' i j >>= F else X) Q st:=fun hc hi hj ht hF hX=>by
  subst hi hj
  have dn:∀ {ys:Array Keyed},KK κ ys=KK κ (arrOf st)→NonIncK κ (arrOf st) n→NonIncK κ ys (n+1):=fun e h=>(mD e).2 (gG h (KeyOrd.kle_of_klt hlt))
  split
  ·refine wpS_bind (wpS_ltAt L I (Nat.lt_of_lt_of_le (Nat.zero_lt_of_lt hlt') hn) (Nat.lt_of_le_of_lt (Nat.sub_le _ _) (Nat.lt_of_lt_of_le hlt' hn)) fun b eb=>?_)
   cases b
   ·have eqs:∀ k,k < n→KK κ (arrOf st) k=KK κ (arrOf st) (n - 1):=fun k hk=>KeyOrd.kle_antisymm (hs k (n - 1) (Nat.le_sub_one_of_lt hk) (Nat.sub_one_lt_of_lt hn1)) (KeyOrd.kle_trans eb (hs 0 k (Nat.zero_le _) hk))
    rw [hF,Nat.zero_add]
    exact wpS_bind (wpS_rev I fun st' I' e'=>hX st' I' (dn (by rw [e']; exact qO (zB1 hn2 hz) fun k _ hk=>eqs k hk) fun i j hij hj=>by rw [eqs i (Nat.lt_of_le_of_lt hij hj),eqs j hj]; exact KeyOrd.kle_refl _))
   ·exact ht
  ·rename_i hc'
   have:n=1:=Nat.le_antisymm (Nat.le_of_not_lt fun q=>hc' (hc.mpr q)) hn1
   exact hX st I (dn rfl fun i j hij hj=>by rw [this] at hj; obtain rfl:=Nat.lt_one_iff.mp hj; obtain rfl:=Nat.le_zero.mp hij; exact KeyOrd.kle_refl _)
 refine go Iff.rfl rfl (by rw [Nat.zero_add]) (wpS_pure (fin n st I hn1 hn2 hs)) rfl fun st2 I2 d2=>?_
 refine wpS_bind (wpS_lift (wpAny_rule ⟨rfl,?_⟩))
 have one:∀ {xs:Array Keyed} {x:Nat},EqB κ xs (x - (0+1)) x:=fun {xs x} k a b=>congrArg (KK κ xs) (za a b)
 refine wpS_bind (wpS_forRange (I:=fun x c st'=>∃ q,c=(none,x,q)∧SI k₀ a₀ st'∧NonIncK κ (arrOf st') x∧EqB κ (arrOf st') (x - (q+1)) x) ?_ ?_ ⟨0,rfl,I2,d2,one⟩)
 ·rintro x c st' hx1 hx2 ⟨q,rfl,I',d',e'⟩
  have hxa:=Nat.lt_of_lt_of_le hx2 hn
  have hx0:x - 1 < a₀.size:=Nat.lt_of_le_of_lt (Nat.sub_le _ _) hxa
  have z0:0+x=x:=Nat.zero_add x
  refine wpS_bind (wpS_ltAt L I' (z0.symm▸hxa) (z0.symm▸hx0) fun b eb=>?_)
  dsimp only at eb
  rw [z0] at eb
  cases b
  ·refine wpS_bind (wpS_ltAt L I' (z0.symm▸hx0) (z0.symm▸hxa) fun b eb'=>?_)
   dsimp only at eb'
   rw [z0] at eb'
   cases b
   ·have ek:KK κ (arrOf st') x=KK κ (arrOf st') (x - 1):=KeyOrd.kle_antisymm eb' eb
    refine wpS_pure ⟨q+1,rfl,I',gG d' eb',fun k a b=>?_⟩
    rw [Nat.add_sub_cancel,ek]
    rcases Nat.lt_or_ge k x with z | z
    ·exact e' k (Ac a) z
    ·rw [Nat.le_antisymm (Nat.le_of_lt_succ b) z,ek]
   ·exact wpS_pure (jw I' (z0.symm▸Nat.le_of_lt hxa) (z0.symm▸e') fun st3 I3 k3=>
     turn (fun _=>rfl) (fun _=>rfl) (fun _=>rfl) (fun _=>rfl) I3 (zB1 (Nat.succ_le_succ (Nat.zero_le _)) hx1) (Nat.le_of_lt hx2) ((mD k3).2 d'))
  ·exact jw I' (z0.symm▸Nat.le_of_lt hxa) (z0.symm▸e') fun st3 I3 k3=>wpS_pure ⟨0,rfl,I3,(mD k3).2 (gG d' (KeyOrd.kle_of_klt eb)),one⟩
 ·rintro c st' ⟨q,rfl,I',d',e'⟩
  rw [Nat.max_eq_right hlt'] at d' e'
  have z0:0+max (n+1) nrem=nrem:=by rw [Nat.zero_add,Nat.max_eq_right hlt']
  have z1:max (n+1) nrem=nrem:=Nat.max_eq_right hlt'
  exact jw I' (z0.symm▸hn) (z0.symm▸e') fun st3 I3 k3=>turn (fun _=>rfl) (fun _=>rfl) (fun _=>rfl) (fun _=>rfl) I3 (z1.symm▸h1) (zB2 z1) (z1.symm▸(mD k3).2 d')
end
section
variable {M:Model} {A:Around} {s:Shared} {k₀:SortKind} {a₀:Array Keyed} {st:SortSt} {E:Value→Shared→Prop} {κ:KKd}
theorem pK (hk:k < xs.size) (hl:l≤k) (h:SortedToK κ xs k) (a:∀ i,i < l→κ.kle (KK κ xs i) (KK κ xs k)) (b:∀ i,l≤i→i < k→κ.kle (KK κ xs k) (KK κ xs i)):SortedToK κ (bubble xs k (k - l)) (k+1):=fun i j hij hj=>by
 rw [KK_bubble hk (Nat.sub_le _ _),KK_bubble hk (Nat.sub_le _ _),Nat.sub_sub_self hl]
 have hj:=Nat.le_of_lt_succ hj
 rcases Nat.lt_trichotomy i l with qi | rfl | qi
 ·rw [if_neg (Nat.ne_of_lt qi),if_neg fun z=>Nat.lt_asymm z.1 qi]
  rcases Nat.lt_trichotomy j l with qj | rfl | qj
  ·rw [if_neg (Nat.ne_of_lt qj),if_neg fun z=>Nat.lt_asymm z.1 qj]; exact h i j hij (Nat.lt_of_lt_of_le qj hl)
  ·rw [if_pos rfl]; exact a i qi
  ·rw [if_neg (Nat.ne_of_gt qj),if_pos ⟨qj,hj⟩]; exact h i (j - 1) (Nat.le_sub_one_of_lt (Nat.lt_trans qi qj)) (Nat.lt_of_lt_of_le (Nat.sub_one_lt_of_lt qj) hj)
 ·rw [if_pos rfl]
  rcases Nat.lt_or_ge i j with qj | qj
  ·rw [if_neg (Nat.ne_of_gt qj),if_pos ⟨qj,hj⟩]; exact b (j - 1) (Nat.le_sub_one_of_lt qj) (Nat.lt_of_lt_of_le (Nat.sub_one_lt_of_lt qj) hj)
  ·obtain rfl:=Nat.le_antisymm hij qj; rw [if_pos rfl]; exact KeyOrd.kle_refl _
 ·have qj:l < j:=Nat.lt_of_lt_of_le qi hij
  rw [if_neg (Nat.ne_of_gt qi),if_pos ⟨qi,zB1 hij hj⟩,if_neg (Nat.ne_of_gt qj),if_pos ⟨qj,hj⟩]
  exact h (i - 1) (j - 1) (Nat.sub_le_sub_right hij 1) (Nat.lt_of_lt_of_le (Nat.sub_one_lt_of_lt qj) hj)
theorem zn (h:¬ l ≥ r) (hr:r≤k) (hf:r - l≤k - x):(l+r) / 2 < k∧l≤(l+r) / 2∧(l+r) / 2 < r∧(l+r) / 2 - l≤k - (x+1)∧r - ((l+r) / 2+1)≤k - (x+1):=
 have h:=Nat.not_le.mp h
 have a:(l+r) / 2 < r:=Nat.div_lt_of_lt_mul (Nat.two_mul r▸Nat.add_lt_add_right h r)
 have b:l≤(l+r) / 2:=(Nat.le_div_iff_mul_le Nat.two_pos).mpr (Nat.mul_two l▸Nat.add_le_add_left (Nat.le_of_lt h) l)
 ⟨Nat.lt_of_lt_of_le a hr,b,a,Nat.le_pred_of_lt (Nat.lt_of_lt_of_le (Nat.sub_lt_sub_right b a) hf),Nat.le_pred_of_lt (Nat.lt_of_lt_of_le (Nat.sub_lt_sub_left h (Nat.lt_succ_of_le b)) hf)⟩
theorem iz (L:vR M A s k₀ κ a₀) (hn:n≤a₀.size) (h1:1≤ok) (h2:ok≤n) (I:SI k₀ a₀ st) (hs:SortedToK κ (arrOf st) ok) (h:∀ st',SI k₀ a₀ st'→SortedToK κ (arrOf st') n→Q true st'):wpS M A E s (binarySort' 0 n ok) Q st:=by
 rw [binarySort'_eq]
 have hm:max ok 1=ok:=Nat.max_eq_left h1
 refine wpS_bind (wpS_forRange (I:=fun k c st'=>c=(none,())∧SI k₀ a₀ st'∧SortedToK κ (arrOf st') k) ?_ (fun c st' ⟨e,I',hs'⟩=>by subst e; rw [hm,Nat.max_eq_right h2] at hs'; exact wpS_pure (h st' I' hs')) ⟨rfl,I,hm.symm▸hs⟩)
 rintro k c st' hk1 hk2 ⟨rfl,I',hs'⟩
 have hka:=Nat.lt_of_lt_of_le hk2 hn
 have fin:∀ l,l≤k→(∀ i,i < l→κ.kle (KK κ (arrOf st') i) (KK κ (arrOf st') k))→(∀ i,l≤i→i < k→κ.kle (KK κ (arrOf st') k) (KK κ (arrOf st') i))→SI k₀ a₀ (setArr st' (bubble (arrOf st') (0+k) (0+k - (0+l))))∧SortedToK κ (arrOf (setArr st' (bubble (arrOf st') (0+k) (0+k - (0+l))))) (k+1):=fun l hl a b=>
  ⟨I'.setArr (bubble_perm _ _ _),by show SortedToK κ (bubble (arrOf st') (0+k) (0+k - (0+l))) (k+1); rw [Nat.zero_add,Nat.zero_add]; exact pK (I'.size▸hka) hl hs' a b⟩
 refine wpS_bind (wpS_forRange (I:=fun x c st''=>st''=st'∧∃ l r,c=(none,l,r)∧l≤r∧r≤k∧r - l≤k - x∧(∀ i,i < l→κ.kle (KK κ (arrOf st') i) (KK κ (arrOf st') k))∧∀ i,r≤i→i < k→κ.kle (KK κ (arrOf st') k) (KK κ (arrOf st') i)) ?_ ?_ ⟨rfl,0,k,rfl,Nat.zero_le _,Nat.le_refl _,Nat.le_refl _,fun i q=>absurd q (Nat.not_lt_zero _),fun i q z=>absurd z (Nat.not_lt.mpr q)⟩)
 ·rintro x c st'' _ _ ⟨rfl,l,r,rfl,hlr,hr,hf,a,b⟩
  dsimp only
  split
  ·rename_i q
   cases Nat.le_antisymm hlr q
   exact wpS_pure (wpS_bind (by rw [moveDown'_eq]; exact wpS_modify (wpS_pure ⟨rfl,fin l hr a b⟩)))
  ·rename_i q
   obtain ⟨m1,m2,m3,m4,m5⟩:=zn q hr hf
   refine wpS_bind (wpS_ltAt L I' (by rw [Nat.zero_add]; exact hka) (by rw [Nat.zero_add]; exact Nat.lt_trans m1 hka) fun bb e=>?_)
   rw [Nat.zero_add,Nat.zero_add] at e
   cases bb
   ·exact wpS_pure ⟨rfl,_,r,rfl,m3,hr,m5,fun i hi=>KeyOrd.kle_trans (hs' i _ (Nat.le_of_lt_succ hi) m1) e,b⟩
   ·exact wpS_pure ⟨rfl,l,_,rfl,m2,Nat.le_of_lt m1,m4,a,fun i hi hk=>KeyOrd.kle_trans (KeyOrd.kle_of_klt e) (hs' _ i hi hk)⟩
 ·rintro c st'' ⟨rfl,l,r,rfl,hlr,hr,hf,a,b⟩
  have:l=r:=Nat.le_antisymm hlr (by have:r - l≤k - max 0 k:=hf; rw [Nat.max_eq_right (Nat.zero_le _),Nat.sub_self] at this; exact Nat.sub_eq_zero_iff_le.mp (Nat.le_zero.mp this))
  subst this
  exact wpS_bind (by rw [moveDown'_eq]; exact wpS_modify (wpS_pure ⟨rfl,fin l hr a b⟩))
theorem wpS_ite [Decidable c] (h1:c→wpS M A E s t Q st) (h2:¬ c→wpS M A E s e Q st):wpS M A E s (if c then t else e) Q st:=by
 split
 ·exact h1 ‹_›
 ·exact h2 ‹_›
theorem pu (h2:2≤n) (h:n < 64):minRun' n n 0=n:=by
 obtain ⟨f,rfl⟩:∃ f,n=f+2:=⟨n - 2,(Nat.sub_add_cancel h2).symm⟩
 rw [minRun'_succ,if_pos h]
theorem SI.out (I:SI k₀ a₀ st):∃ xs g,st=SortSt.mk' k₀ xs #[] g none∧xs.Perm a₀:=by
 obtain ⟨hp,hk,hf,hd⟩:=I
 obtain ⟨k,xs,p,g,f⟩:=st
 subst hk; subst hf; subst hd
 exact ⟨_,_,rfl,hp⟩
theorem lm (L:vR M A s k₀ κ a₀) (I:SI k₀ a₀ st) (h2:2≤a₀.size) (hq:a₀.size < 64∨EqB κ (arrOf st) 0 a₀.size) (h:∀ st',(arrOf st').Perm a₀→failedOf st'=none→SortedToK κ (arrOf st') a₀.size→Q () st'):wpS M A E s sortRuns' Q st:=by
 refine wpS_bind (wpS_get ?_)
 extract_lets size mr lo
 have hs:size=a₀.size:=I.size
 have hm:a₀.size < 64→mr=size:=fun q=>pu (hs▸h2) (hs▸q)
 clear_value mr size
 subst hs
 refine wpS_bind (wpS_mono (wpS_forRange (I:=fun x c st'=>(x=0∧c=(none,0)∧st'=st)∨(c=(none,a₀.size)∧(arrOf st').Perm a₀∧failedOf st'=none∧(pendingOf st').size≤1∧SortedToK κ (arrOf st') a₀.size)) (Q:=fun c st'=>c=(none,a₀.size)∧(arrOf st').Perm a₀∧failedOf st'=none∧(pendingOf st').size≤1∧SortedToK κ (arrOf st') a₀.size) ?_ ?_ (.inl ⟨rfl,rfl,rfl⟩)) ?_)
 ·rintro x c st' _ hx (⟨rfl,rfl,rfl⟩ | ⟨rfl,R⟩)
  ·refine wpS_ite (fun hl=>absurd (zB1 h2 (hl:a₀.size≤0)) (by decide)) fun hl=>?_
   refine wpS_bind (lq (nrem:=a₀.size) L (Nat.le_refl _) (Nat.le_of_succ_le h2) I fun m st1 I1 hm1 hm2 hs1 hall=>?_)
   dsimp (zeta:=false) only
   extract_lets n jp force n'
   let RR:ForInStep (Option Unit×Nat)→SortSt→Prop:=fun r s''=>match r with
    | .done c'=>c'=(none,a₀.size)∧(arrOf s'').Perm a₀∧failedOf s''=none∧(pendingOf s'').size≤1∧SortedToK κ (arrOf s'') a₀.size
    | .yield c'=>(0+1=0∧c'=(none,0)∧s''=st')∨(c'=(none,a₀.size)∧(arrOf s'').Perm a₀∧failedOf s''=none∧(pendingOf s'').size≤1∧SortedToK κ (arrOf s'') a₀.size)
   have hjp:∀ n st1,SI k₀ a₀ st1→n=a₀.size→SortedToK κ (arrOf st1) a₀.size→wpS M A E s (jp () n) RR st1:=by
    intro n st1 I1 e hs1
    obtain ⟨xs,g,rfl,hp⟩:=I1.out
    subst e
    refine wpS_bind (wpS_get ?_)
    exact wpS_bind (wpS_modify (wpS_pure (.inr ⟨by rw [Nat.zero_add],hp,rfl,Nat.le_refl 1,hs1⟩)))
   refine wpS_mono (?_:wpS M A E s _ RR st1) fun r _ q=>by cases r <;> exact q
   refine wpS_ite (fun q=>?_) fun q=>?_
   ·refine wpS_bind (wpS_lift (wpAny_rule ⟨rfl,?_⟩))
    have q:m < mr:=q
    have hf:min (a₀.size - 0) mr=a₀.size:=hq.elim (fun hq=>by rw [hm hq]; exact Nat.min_self _) fun hq=>Nat.min_eq_left (Nat.le_of_lt ((hall hq).1▸q:a₀.size < mr))
    show wpS M A E s (binarySort' 0 (min (a₀.size - 0) mr) m >>= _) _ _
    rw [hf]
    exact wpS_bind (iz L (Nat.le_refl _) hm1 hm2 I1 hs1 fun st2 I2 hs2=>hjp _ st2 I2 hf hs2)
   ·have q:¬ m < mr:=q
    have e:m=a₀.size:=hq.elim (fun hq=>Nat.le_antisymm hm2 (Nat.le_of_not_lt fun z=>q (hm hq▸z))) fun hq=>(hall hq).1
    exact hjp m st1 I1 e (e▸hs1)
  ·exact wpS_ite (fun hl=>wpS_pure ⟨rfl,R⟩) fun hl=>absurd (Nat.le_refl a₀.size) hl
 ·rintro c st' (⟨q,_⟩ | q)
  ·exact absurd q (by rw [Nat.zero_max]; exact Nat.ne_of_gt (Nat.lt_of_lt_of_le (by decide) h2))
  ·exact q
 ·rintro c st' ⟨rfl,hp,hf,hd,hs⟩
  refine wpS_bind (wpS_forRange (I:=fun _ c st''=>c=(none,())∧st''=st') ?_ ?_ ⟨rfl,rfl⟩)
  ·rintro y c st1 _ _ ⟨rfl,rfl⟩
   refine wpS_bind (wpS_get ?_)
   exact wpS_ite (fun _=>wpS_pure (wpS_pure (h _ hp hf hs))) fun q'=>absurd hd q'
  ·rintro c st1 ⟨rfl,rfl⟩
   exact wpS_pure (h _ hp hf hs)
end
theorem wA:typeLookup (.type "set") "__len__"=pure (some (.builtin "set.__len__")):=by rw [typeLookup_type,builtinLookup_eq_fast]; kernel_rfl
section
variable {prog:Program} {w:World} {A:Around} {E:Value→Shared→Prop} {s:Shared} {S:Addr} {es:Array (Int×Value)} {L:Bool}
theorem uK (hT:s.TypeIs (.ref S) "set") (h:Q false s):wpAny (model prog w) A (Builtin.List.listLengthHint (.ref S)) Q E s:=by
 unfold Builtin.List.listLengthHint
 refine zC1 (wpAny_specialOf hT wA ?_)
 wp_delta
 refine zC1 (wpAny_isInstance hT sub_set_self ?_)
 refine (?_:wpAny _ A (typeOf (Value.ref S) >>= _) _ _ _)
 exact zC1 (wpAny_typeOf hT (wpAny_pure h))
theorem nq (hh:A.handled=none) (hL:L = !w.params.followText "set-order") (T:TS s.heap S es L)
  (h:∀ (out:List Value) h' d tk,out.Perm (es.toList.map (·.2))→aI s.heap h'→Q out { s with heap:=h',drawn:=d,toks:=tk }):wpAny (model prog w) A (collect (.ref S)) Q E s:=by
 have hn:es.size≤sizeLine:=by
  obtain ⟨o,ep,t,ho,hex,hd,T,hr,hl⟩:=T
  refine zB1 (?_:es.size≤511) (by decide)
  exact zB1 (Nat.le_of_lt (Nat.lt_of_mul_lt_mul_right (Nat.lt_of_le_of_lt (Nat.mul_le_mul_left es.size (by decide:3≤5)) hr))) (by rcases T.msk with q | q | q | q <;> rw [q] <;> decide)
 have T0:=T
 obtain ⟨o,ep,t,ho,hex,hd,_⟩:=T
 have hT:∀ s':Shared,s'.heap.get? S=some o→s'.TypeIs (.ref S) "set":=fun s' e=>⟨o,e,hex.1⟩
 have hSI:s.heap.objs.size≠S:=(cy ho).symm
 unfold collect
 refine zC1 (wpAny_runValue (codeAny_builtin PySem.F.entry_proto_collect ?_))
 rw [Around.under_plainId PySem.F.plain_proto_collect _]
 refine (?_:wpAny _ A.in1 (newList [] >>= fun l=>again (.builtin "list.__iadd__" ⟨[l,.ref S],[]⟩)) _ _ s)
 refine zC1 (wpAny_newObj_type ?_)
 refine zC2 ⟨plainId_quiet PySem.F.plain_list_iadd _,codeAny_builtin PySem.F.entry_list_iadd ?_⟩
 rw [Around.under_plainId PySem.F.plain_list_iadd _]
 refine (?_:wpAny _ A.in1 (Builtin.List.listExtendWith (.ref s.heap.objs.size) (.ref S) (.ref s.heap.objs.size)) _ _ _)
 have k1:=aw s.heap { cls:=.type "list",data:=.seq ([]:List Value).toArray }
 refine pW (R:=wants _ E) (C:=fun out=>out.Perm (es.toList.map (·.2))) (s:={ s with heap:=s.heap.push { cls:=.type "list",data:=.seq ([]:List Value).toArray } }) hh (Heap.get?_push_size _ rfl) hSI (.inl rfl) (hT _ (k1 _ _ ho)) (fun s' Q E k hq=>uK (hT _ (k _ _ (k1 _ _ ho))) hq) (fun Q E hQ=>?_) fun out h' d tk c' hC k hD=>?_
 ·refine uH hL (s:={ s with heap:=s.heap.push { cls:=.type "list",data:=.seq ([]:List Value).toArray } }) (?_:TS _ S es L) fun ord I fp wr St h' d py k2 hw hf W hst=>?_
  ·obtain ⟨o,ep,t,ho,q1,q2,q3,q4,q5⟩:=T0; exact ⟨o,ep,t,k1 _ _ ho,q1,q2,q3,q4,q5⟩
  have hl:ord.length=es.size:=by rw [py.length_eq,zA4,zB3]
  exact hQ ord I fp wr St h' d py (hl▸hn) k2 hw (fun q=>(hf _ q).elim (fun e=>by rw [Heap.get?_push_size _ rfl] at e; (injection e; done)) hSI) (hl▸W A.in1 hh) hst
 ·refine (?_:wpAny _ A (load s.heap.objs.size >>= _) _ _ _)
  refine zC1 (wpAny_load hD ?_)
  exact zC2 (h out h' d tk hC fun b ob e=>k b ob (cy e) (k1 _ _ e))
end
noncomputable abbrev dM:Bool→SortKind:=sortPriv% PySem.Builtin.KeyKind.tuples
section
variable {prog:Program} {w:World} {A:Around} {E:Value→Shared→Prop} {s:Shared}
theorem y9 (hp:wD k p=true) (hq:wD m q=true) (hk:(k.isLeft==m.isLeft)=true) (h:Q (gU k m) s):wpAny (model prog w) A (oneLt' b p q) Q E s:=
 bt (C:=fun k p=>(k.isLeft==m.isLeft)=true→Q (gU k m) s→wpAny (model prog w) A (oneLt' b p q) Q E s) hp
  (fun i t hk h=>bt (C:=fun m q=>(true==m.isLeft)=true→Q (gU (.inl i) m) s→wpAny (model prog w) A (oneLt' b (.int i t) q) Q E s) hq (fun j u _ h=>by
    cases b
    ·rw [oneLt'_eq]; exact zC1 (P.lt_int (wpAny_truthy_bool h))
    ·exact oneLt_int h) (fun _ _ hk=>nB hk) hk h)
  (fun x t hk h=>bt (C:=fun m q=>(false==m.isLeft)=true→Q (gU (.inr x) m) s→wpAny (model prog w) A (oneLt' b (.str x t) q) Q E s) hq (fun _ _ hk=>nB hk) (fun y u _ h=>by
    cases b
    ·rw [oneLt'_eq]; exact zC1 (lt_str (wpAny_truthy_bool h))
    ·exact oneLt_str h) hk h) hk h
inductive KLt (prog:Program) (w:World) (s:Shared) (sz:Bool) (Q:Bool→Shared→Prop) (rest:List ((Value×Value)×Nat)) (o:Option Bool) (s':Shared):Prop
 | mk (hr:o=none) (es:s'=s) (ks ms:List Sc) (vs us:List Value) (j:Nat) (er:rest=(vs.zip us).zipIdx j) (hv:ItemsAre (aA prog w) ks vs) (hu:ItemsAre (aA prog w) ms us) (hk:ltK ks ms=true) (h:Q (bJ ks ms) s) (hz:sz=decide (vs.length < us.length)):KLt prog w s sz Q rest o s'
set_option tactic.hygienic true in
theorem zv (hc:IsTupleKey (aA prog w) s.heap ks c) (hc':IsTupleKey (aA prog w) s.heap ms c') (hk:ltK ks ms=true) (h:Q (bJ ks ms) s):wpAny (model prog w) A (keyLt' (dM b) (.ref c) (.ref c')) Q E s:=by
 obtain ⟨o,items,n,ho,_,hd,hi⟩:=hc
 obtain ⟨o',items',n',ho',_,hd',hi'⟩:=hc'
 refine zC1 (listItems_at ho hd ?_)
 refine zC1 (listItems_at ho' hd' ?_)
 refine zC1 (wpAny_forIn_list _ (fun rest r s'=>KLt prog w s (decide (items.size < items'.size)) Q rest r.1 s') _ ?_ ?_ _ _ ⟨rfl,rfl,ks,ms,items.toList,items'.toList,0,rfl,hi,hi',hk,h,rfl⟩)
 ·rintro v rest r s' ⟨hr,rfl,ks,ms,vs,us,j,e,hv,hu,hk,h,hsz⟩
  cases hv with
  | nil=>(injection e; done)
  | cons h1 hv=>
   cases hu with
   | nil=>(injection e; done)
   | cons h2 hu=>
    cases e
    refine zC1 ((aA prog w).eqBool h1 h2 ?_)
    rename_i k p ks vs m q ms us
    rw [zo] at hk
    rw [lex_cc] at h
    by_cases e:k=m
    ·rw [decide_eq_true e]
     rw [if_pos e] at hk h
     exact zC2 ⟨rfl,rfl,ks,ms,vs,us,j+1,rfl,hv,hu,hk,h,hsz.trans (decide_eq_decide.mpr Nat.succ_lt_succ_iff)⟩
    ·rw [decide_eq_false e]
     rw [if_neg e] at hk h
     exact zC1 (y9 h1 h2 hk (zC2 (wpAny_pure h)))
 ·rintro ⟨r1,r2⟩ s' ⟨hr,rfl,ks,ms,vs,us,j,e,hv,hu,hk,h,hsz⟩
  subst hr
  refine zC2 ?_
  show Q (decide (items.size < items'.size)) s'
  rw [hsz]
  have:bJ ks ms=decide (vs.length < us.length):=by
   cases hv with
   | nil=>cases hu <;> rfl
   | cons h1 hv=>
    cases hu with
    | nil=>rfl
    | cons h2 hu=>(injection e; done)
  rw [← this]; exact h
theorem rm {α β:Type} {f:α→Sem β} {C:β→Prop}:∀ {l:List α} {Q:List β→Shared→Prop},(∀ a∈l,∀ Q:β→Shared→Prop,(∀ b,C b→Q b s)→wpAny M A (f a) Q E s)→(∀ bs,(∀ b∈bs,C b)→Q bs s)→wpAny M A (l.mapM f) Q E s
 | [],Q,_,h=>by rw [List.mapM_nil]; exact zC2 (h [] fun _ q=>nM q)
 | a :: l,Q,hf,h=>by
  rw [List.mapM_cons]
  refine zC1 (hf a (.head _) _ fun b hb=>zC1 (rm (fun a q=>hf a (.tail _ q)) fun bs hbs=>zC2 (h _ fun b' q=>?_)))
  rcases List.mem_cons.mp q with rfl | q
  ·exact hb
  ·exact hbs _ q
theorem oR {α β:Type} {f:α→Sem β} {C:β→Prop} {xs:Array α} {Q:Array β→Shared→Prop} (hf:∀ a∈xs.toList,∀ Q:β→Shared→Prop,(∀ b,C b→Q b s)→wpAny M A (f a) Q E s) (h:∀ bs,(∀ b∈bs.toList,C b)→Q bs s):wpAny M A (xs.mapM f) Q E s:=by
 rw [Array.mapM_eq_mapM_toList]
 exact zC1 (rm hf fun bs hb=>zC2 (h _ hb))
theorem uF {vs:Array Value} {Q:SortKind→Shared→Prop} (hv:∀ v∈vs.toList,∃ c x ks,v=.ref c∧IsTupleKey (aA prog w) s.heap (.inr x :: ks) c) (h:∀ b,Q (dM b) s):wpAny (model prog w) A (keyKind' vs) Q E s:=by
 refine zC1 (oR (C:=fun r=>∃ x t,r=some (.str x t)) (fun v m Q hQ=>?_) fun fs hfs=>?_)
 ·obtain ⟨c,x,ks,rfl,k⟩:=hv v m
  have hT:=k.typeIs
  obtain ⟨o,items,n,ho,_,hd,hi⟩:=k
  refine zC1 (wpAny_typeOf hT ?_)
  refine zC1 (listItems_at ho hd (zC2 (hQ _ ?_)))
  obtain ⟨l⟩:=items
  cases hi with
  | cons hx _=>obtain ⟨t,rfl⟩:=Value.isStrOf_shape hx; exact ⟨x,t,rfl⟩
 ·have ha:fs.all (·.isSome)=true:=by
   rw [← Array.all_toList,List.all_eq_true]; intro f m; obtain ⟨x,t,rfl⟩:=hfs f m; rfl
  rw [if_pos ha]
  refine zC1 (wpAny_rule ?_)
  refine zC1 (zC1 (oR (C:=fun _=>True) (fun v m Q hQ=>?_) fun ts _=>?_))
  ·rw [Array.toList_filterMap] at m
   obtain ⟨f,mf,e⟩:=List.mem_filterMap.mp m
   obtain ⟨x,t,rfl⟩:=hfs f mf
   (injection e with e; subst e)
   exact wpAny_typeOf (typeIs_str s x t) (hQ _ trivial)
  ·split
   ·exact zC2 (zC2 (h _))
   ·exact zC2 (zC2 (h _))
end
theorem sG (a:Sc):gU a a=false:=by
 cases a with
 | inl i=>exact decide_eq_false (Int.lt_irrefl i)
 | inr x=>exact decide_eq_false (List.lt_irrefl _)
theorem ue (h1:gU a b=true) (h2:gU b c=true):gU a c=true:=by
 cases a with
 | inl i=>cases b with
  | inl j=>cases c with
   | inl k=>exact decide_eq_true (Int.lt_trans (of_decide_eq_true h1) (of_decide_eq_true h2))
   | inr z=>rfl
  | inr y=>cases c with
   | inl k=>(injection h2; done)
   | inr z=>rfl
 | inr x=>cases b with
  | inl j=>(injection h1; done)
  | inr y=>cases c with
   | inl k=>(injection h2; done)
   | inr z=>exact decide_eq_true (List.lt_trans (of_decide_eq_true h1) (of_decide_eq_true h2))
theorem uf (h:a≠b) (h1:gU a b=false):gU b a=true:=by
 cases a with
 | inl i=>cases b with
  | inl j=>exact decide_eq_true (Int.lt_iff_le_and_ne.mpr ⟨Int.not_lt.mp (of_decide_eq_false h1),fun e=>h (congrArg _ e.symm)⟩)
  | inr y=>(injection h1; done)
 | inr x=>cases b with
  | inl j=>rfl
  | inr y=>
   refine decide_eq_true (Classical.byContradiction fun q=>h (congrArg _ ?_))
   have:=List.le_antisymm (List.not_lt.mp q) (List.not_lt.mp (of_decide_eq_false h1))
   obtain ⟨⟨x⟩⟩:=x; obtain ⟨⟨y⟩⟩:=y
   exact congrArg _ (congrArg _ this)
theorem i4:∀ l:List Sc,bJ l l=false
 | []=>rfl
 | k :: ks=>by rw [lex_cc,if_pos rfl]; exact i4 ks
theorem gJ:∀ {a b c:List Sc},bJ a b=true→bJ b c=true→bJ a c=true
 | [],[],_,h,_=>nB h
 | [],_ :: _,[],_,h=>nB h
 | [],_ :: _,_ :: _,_,_=>rfl
 | _ :: _,[],_,h,_=>nB h
 | _ :: _,_ :: _,[],_,h=>nB h
 | x :: a,y :: b,z :: c,h1,h2=>by
  rw [lex_cc] at h1 h2 ⊢
  by_cases e1:x=y
  ·subst e1
   rw [if_pos rfl] at h1
   by_cases e2:x=z
   ·rw [if_pos e2] at h2 ⊢; exact gJ h1 h2
   ·rw [if_neg e2] at h2 ⊢; exact h2
  ·rw [if_neg e1] at h1
   by_cases e2:y=z
   ·subst e2; rw [if_neg e1]; exact h1
   ·rw [if_neg e2] at h2
    have:=ue h1 h2
    rw [if_neg fun e=>by rw [e,sG] at this; (injection this; done)]; exact this
theorem gK:∀ {a b:List Sc},a≠b→bJ a b=false→bJ b a=true
 | [],[],h,_=>absurd rfl h
 | [],_ :: _,_,h=>nB h.symm
 | _ :: _,[],_,_=>rfl
 | x :: a,y :: b,h,h1=>by
  rw [lex_cc] at h1 ⊢
  by_cases e:x=y
  ·subst e; rw [if_pos rfl] at h1 ⊢; exact gK (fun e=>h (by rw [e])) h1
  ·rw [if_neg e] at h1; rw [if_neg (Ne.symm e)]; exact uf e h1
open Classical in
noncomputable def fZ (prog:Program) (w:World) (h:Heap):Value→Option (List Sc)
 | .ref c=>if q:∃ ks,IsTupleKey (aA prog w) h ks c then some q.choose else none
 | _=>none
theorem eJ (k:IsTupleKey (aA prog w) h ks c):fZ prog w h (.ref c)=some ks:=by
 have q:∃ ks,IsTupleKey (aA prog w) h ks c:=⟨ks,k⟩
 exact (dif_pos q).trans (congrArg some (q.choose_spec.inj k))
noncomputable def cT (prog:Program) (w:World) (h:Heap):KKd where
 α:=List Sc
 blt:=bJ
 irrefl:=i4
 trans:=fun _ _ _=>gJ
 negTrans:=fun a b c h=>by
  by_cases e:a=b
  ·subst e; exact .inr h
  ·cases q:bJ a b with
   | true=>exact .inl rfl
   | false=>exact .inr (gJ (gK e q) h)
 total:=fun a b h1 h2=>Classical.byContradiction fun e=>by rw [gK e h1] at h2; (injection h2; done)
 keyOf:=fZ prog w h
 dflt:=[]
end Mine
end
noncomputable section
namespace Mine.Pm
open PySem PySem.Calls PyProof.Rows PySem.W
structure SI (k₀:SortKind) (a₀:Array Keyed) (p:Array (Nat×Nat×Nat)) (st:SortSt):Prop where
 perm:(arrOf st).Perm a₀
 kind:kindOf st=k₀
 failed:failedOf st=none
 pend:pendingOf st=p
section
variable {M:Model} {A:Around} {s:Shared} {k₀:SortKind} {a₀:Array Keyed} {p:Array (Nat×Nat×Nat)} {st:SortSt} {E:Value→Shared→Prop}
def ke (M:Model) (A:Around) (s:Shared) (k₀:SortKind) (a₀:Array Keyed):Prop:=∀ x y:Keyed,x∈a₀.toList→y∈a₀.toList→∀ (E:Value→Shared→Prop) (Q:Bool→Shared→Prop),(∀ b,Q b s)→wpAny M A (keyLt' k₀ x.1 y.1) Q E s
theorem SI.size (I:SI k₀ a₀ p st):(arrOf st).size=a₀.size:=I.perm.size_eq
theorem SI.setArr (I:SI k₀ a₀ p st) (h:xs.Perm (arrOf st)):SI k₀ a₀ p (setArr st xs):=⟨h.trans I.perm,I.kind,I.failed,I.pend⟩
theorem SI.mem (I:SI k₀ a₀ p st) (h:x∈(arrOf st).toList):x∈a₀.toList:=(Array.perm_iff_toList_perm.mp I.perm).mem_iff.mp h
theorem aE (hi:i < a.size) (h:∀ x,x∈a.toList→a[i]?=some x→Q x st):wpS M A E s (elem' a i) Q st:=by
 rw [elem'_eq,getElem?_pos a i hi]
 exact wpS_pure (h _ (by simp) (getElem?_pos a i hi))
theorem mz (L:ke M A s k₀ a₀) (hk:kindOf st=k₀) (hx:x∈a₀.toList) (hy:y∈a₀.toList) (h:∀ b,Q (some b) st):wpS M A E s (lt' x y) Q st:=by
 rw [lt'_eq]
 refine wpS_bind (wpS_get ?_)
 exact hk.symm▸wpS_bind (wpS_lift (wpAny_attempt (L x y hx hy _ _ fun b=>⟨rfl,wpS_pure (h b)⟩)))
theorem wpS_ltAt (L:ke M A s k₀ a₀) (I:SI k₀ a₀ p st) (hi:i < a₀.size) (hj:j < a₀.size) (h:∀ b,Q (some b) st):wpS M A E s (ltAt' i j) Q st:=by
 rw [ltAt'_eq]
 exact wpS_bind (wpS_get (wpS_bind (aE (I.size▸hi) fun x hx _=>wpS_bind (aE (I.size▸hj) fun y hy _=>mz L I.kind (I.mem hx) (I.mem hy) h))))
theorem wpS_rev (I:SI k₀ a₀ p st) (h:∀ st',SI k₀ a₀ p st'→Q () st'):wpS M A E s (reverseSlice' i j) Q st:=by
 rw [reverseSlice'_eq]; exact wpS_modify (h _ (I.setArr (mirror_perm _ _ _ _)))
theorem fz (I:SI k₀ a₀ p st) (h:∀ st',SI k₀ a₀ p st'→Q () st'):wpS M A E s (moveDown' i j) Q st:=by
 rw [moveDown'_eq]; exact wpS_modify (h _ (I.setArr (bubble_perm _ _ _)))
theorem eT {a b n z:Nat} (h:b < n) (hn:a+n≤z):a+b < z:=Nat.lt_of_lt_of_le (Nat.add_lt_add_left h a) hn
theorem wpS_asc {lo a nrem:Nat} {f:Nat→Option (Option Nat)×Nat→StateT SortSt Sem (ForInStep (Option (Option Nat)×Nat))} {Q:Option (Option Nat)×Nat→SortSt→Prop} {g:Nat→Option Bool→StateT SortSt Sem (ForInStep (Option (Option Nat)×Nat))}
  (L:ke M A s k₀ a₀) (hf:∀ x,f x (none,x)=(ltAt' (lo+x) (lo+x - 1) >>= g x)) (g1:∀ x,g x (some true)=pure (.done (none,x))) (g0:∀ x,g x (some false)=pure (.yield (none,x+1)))
  (hn:lo+nrem≤a₀.size) (h1:1≤a) (h2:a≤nrem) (I:SI k₀ a₀ p st) (h:∀ m st',SI k₀ a₀ p st'→1≤m→m≤nrem→Q (none,m) st'):wpS M A E s (forIn [a:nrem] (none,a) f) Q st:=by
 refine wpS_forRange (I:=fun x c st'=>c=(none,x)∧SI k₀ a₀ p st') ?_ ?_ ⟨rfl,I⟩
 ·rintro x c st' g1' g2 ⟨rfl,I'⟩
  rw [hf]
  refine wpS_bind (wpS_ltAt L I' (eT g2 hn) (Nat.lt_of_le_of_lt (Nat.sub_le _ _) (eT g2 hn)) fun b=>?_)
  cases b
  ·rw [g0]; exact wpS_pure ⟨rfl,I'⟩
  ·rw [g1]; exact wpS_pure (h x st' I' (zB1 h1 g1') (Nat.le_of_lt g2))
 ·rintro c st' ⟨rfl,I'⟩
  exact h _ st' I' (zB1 h1 (Nat.le_max_left _ _)) (Nat.max_le.mpr ⟨h2,Nat.le_refl _⟩)
theorem lG [Decidable c] (I:SI k₀ a₀ p st) (h:∀ st',SI k₀ a₀ p st'→wpS M A E s X Q st'):wpS M A E s (if c then reverseSlice' i j >>= fun _=>X else X) Q st:=by
 split
 ·exact wpS_bind (wpS_rev I h)
 ·exact h st I
theorem tQ [Decidable c] (L:ke M A s k₀ a₀) (I:SI k₀ a₀ p st) (hi:i < a₀.size) (hj:j < a₀.size)
  (h1:wpS M A E s (F (some true)) Q st) (h0:F (some false)=(reverseSlice' a b >>= fun _=>X)) (h:∀ st',SI k₀ a₀ p st'→wpS M A E s X Q st'):wpS M A E s (if c then ltAt' i j >>= F else X) Q st:=by
 split
 ·refine wpS_bind (wpS_ltAt L I hi hj fun b=>?_)
  cases b
  ·rw [h0]; exact wpS_bind (wpS_rev I h)
  ·exact h1
 ·exact h st I
theorem jQ {lo nrem:Nat} {Q:Option Nat→SortSt→Prop} (L:ke M A s k₀ a₀) (hn:lo+nrem≤a₀.size) (h1:1≤nrem) (I:SI k₀ a₀ p st) (h:∀ m st',SI k₀ a₀ p st'→1≤m→m≤nrem→Q (some m) st'):wpS M A E s (countRun' lo nrem) Q st:=by
 rw [countRun'_eq]
 refine wpS_bind (wpS_asc L (fun _=>rfl) (fun _=>rfl) (fun _=>rfl) hn (Nat.le_refl 1) h1 I fun n st1 I1 hn1 hn2=>?_)
 dsimp only
 by_cases e:n=nrem
 ·rw [if_pos (by simpa using e)]; exact wpS_pure (h n st1 I1 hn1 hn2)
 rw [if_neg (by simpa using e)]
 refine tQ L I1 (Nat.lt_of_lt_of_le (Nat.lt_add_of_pos_right h1) hn) (Nat.lt_of_lt_of_le (Nat.sub_lt (Nat.lt_of_lt_of_le hn1 (Nat.le_add_left _ _)) (by decide)) (zB1 (Nat.add_le_add_left hn2 lo) hn)) (wpS_pure (h n st1 I1 hn1 hn2)) rfl fun st2 I2=>?_
 refine wpS_bind (wpS_lift (wpAny_rule ⟨rfl,?_⟩))
 refine wpS_bind (wpS_forRange (I:=fun x c st'=>∃ q,c=(none,x,q)∧SI k₀ a₀ p st') ?_ ?_ ⟨0,rfl,I2⟩)
 ·rintro x c st' hx1 hx2 ⟨q,rfl,I'⟩
  refine wpS_bind (wpS_ltAt L I' (eT hx2 hn) (Nat.lt_of_le_of_lt (Nat.sub_le _ _) (eT hx2 hn)) fun b=>?_)
  cases b
  ·refine wpS_bind (wpS_ltAt L I' (Nat.lt_of_le_of_lt (Nat.sub_le _ _) (eT hx2 hn)) (eT hx2 hn) fun b=>?_)
   cases b
   ·exact wpS_pure ⟨_,rfl,I'⟩
   ·refine wpS_pure ?_
    exact lG I' fun st3 I3=>wpS_bind (wpS_rev I3 fun st4 I4=>wpS_bind (wpS_asc L (fun _=>rfl) (fun _=>rfl) (fun _=>rfl) hn (by dsimp only; exact zB1 (Nat.le_add_right_of_le hn1) hx1) (by dsimp only; exact Nat.le_of_lt hx2) I4 fun m st5 I5 hm1 hm2=>wpS_pure (h m st5 I5 hm1 hm2)))
  ·exact lG I' fun st3 I3=>wpS_pure ⟨0,rfl,I3⟩
 ·rintro c st' ⟨q,rfl,I'⟩
  exact lG I' fun st3 I3=>wpS_bind (wpS_rev I3 fun st4 I4=>wpS_bind (wpS_asc L (fun _=>rfl) (fun _=>rfl) (fun _=>rfl) hn (zB1 h1 (Nat.le_max_right _ _)) (Nat.max_le.mpr ⟨Nat.lt_of_le_of_ne hn2 e,Nat.le_refl _⟩) I4 fun m st5 I5 hm1 hm2=>wpS_pure (h m st5 I5 hm1 hm2)))
theorem g7 {lo n ok:Nat} {Q:Bool→SortSt→Prop} (L:ke M A s k₀ a₀) (hn:lo+n≤a₀.size) (I:SI k₀ a₀ p st) (h:∀ st',SI k₀ a₀ p st'→Q true st'):wpS M A E s (binarySort' lo n ok) Q st:=by
 rw [binarySort'_eq]
 refine wpS_bind (wpS_forRange (I:=fun k c st'=>c=(none,())∧SI k₀ a₀ p st') ?_ (fun c st' Zq1=>Zq1.elim fun e I'=>by subst e; exact wpS_pure (h st' I')) ⟨rfl,I⟩)
 rintro k c st' hk1 hk2 ⟨rfl,I'⟩
 refine wpS_bind (wpS_forRange (I:=fun x c st''=>st''=st'∧∃ l r,c=(none,l,r)∧r≤k) ?_ ?_ ⟨rfl,0,k,rfl,Nat.le_refl _⟩)
 ·rintro x c st'' _ _ ⟨rfl,l,r,rfl,hr⟩
  dsimp only
  split
  ·exact wpS_pure (wpS_bind (fz I' fun st3 I3=>wpS_pure ⟨rfl,I3⟩))
  ·rename_i q
   have md:(l+r) / 2 < r:=Nat.div_lt_of_lt_mul (by rw [Nat.two_mul]; exact Nat.add_lt_add_right (Nat.not_le.mp q) r)
   refine wpS_bind (wpS_ltAt L I' (eT hk2 hn) (eT (Nat.lt_of_lt_of_le md (zB1 hr (Nat.le_of_lt hk2))) hn) fun b=>?_)
   cases b
   ·exact wpS_pure ⟨rfl,_,r,rfl,hr⟩
   ·exact wpS_pure ⟨rfl,l,_,rfl,zB1 (Nat.le_of_lt md) hr⟩
 ·rintro c st'' ⟨rfl,l,r,rfl,hr⟩
  exact wpS_bind (fz I' fun st3 I3=>wpS_pure ⟨rfl,I3⟩)
end
noncomputable def xf:Bool→Keyed→Array Keyed→Nat→Nat→Nat→StateT SortSt Sem (Option Nat):=sortPriv% PySem.Builtin.gallop
section
variable {M:Model} {A:Around} {s:Shared} {k₀:SortKind} {a₀:Array Keyed} {p:Array (Nat×Nat×Nat)} {st:SortSt} {E:Value→Shared→Prop}
theorem dB (L:ke M A s k₀ a₀) (hk:kindOf st=k₀) (hx:key∈a₀.toList) (ha:∀ x∈arr.toList,x∈a₀.toList) (hi:i < arr.size) (h:∀ b,Q (some b) st) :
  wpS M A E s (elem' arr i >>= fun x=>if left=true then lt' x key else lt' key x >>= fun r=>pure (r.map (!·))) Q st:=by
 refine wpS_bind (aE hi fun x hm _=>?_)
 cases left
 ·exact wpS_bind (mz L hk hx (ha x hm) fun b=>wpS_pure (h _))
 ·exact mz L hk (ha x hm) hx h
theorem eZ {n lo hi:Nat} {f:Nat→Option (Option Nat)×Nat×Nat→StateT SortSt Sem (ForInStep (Option (Option Nat)×Nat×Nat))} {F:Option (Option Nat)×Nat×Nat→StateT SortSt Sem (Option Nat)} {Q:Option Nat→SortSt→Prop}
  (hf:∀ x l h,h≤n→wpS M A E s (f x (none,l,h)) (fun r st'=>st'=st∧∃ l' h',h'≤n∧(r=.done (none,l',h')∨r=.yield (none,l',h'))) st) (hF:∀ l h,F (none,l,h)=pure (some h)) (hh:hi≤n) (h:∀ k,k≤n→Q (some k) st):wpS M A E s (forIn [:n] (none,lo,hi) f >>= F) Q st:=by
 refine wpS_bind (wpS_forRange (I:=fun x c st'=>st'=st∧∃ l h,c=(none,l,h)∧h≤n) ?_ ?_ ⟨rfl,lo,hi,rfl,hh⟩)
 ·rintro x c st' _ _ ⟨rfl,l,h',rfl,q⟩
  refine wpS_mono (hf x l h' q) fun r st'' w=>?_
  obtain ⟨rfl,l',h',q,rfl | rfl⟩:=w
  ·show wpS _ _ _ _ (F _) _ _
   rw [hF]; exact wpS_pure (h _ q)
  ·exact ⟨rfl,l',h',rfl,q⟩
 ·rintro c st' ⟨rfl,l,h',rfl,q⟩
  rw [hF]; exact wpS_pure (h _ q)
theorem bS {left:Bool} {arr:Array Keyed} {base n hint:Nat} {Q:Option Nat→SortSt→Prop} (L:ke M A s k₀ a₀) (hk:kindOf st=k₀) (hx:key∈a₀.toList) (ha:∀ x∈arr.toList,x∈a₀.toList) (hb:base+n≤arr.size) (hh:hint < n)
  (h:∀ k,k≤n→Q (some k) st):wpS M A E s (xf left key arr base n hint) Q st:=by
 have hm:∀ o,hint+min o (n - hint)≤n:=fun o=>zB1 (Nat.add_le_add_left (Nat.min_le_right _ _) _) (zB2 (Nat.add_sub_cancel' (Nat.le_of_lt hh)))
 refine wpS_bind (dB L hk hx ha (eT hh hb) fun b=>?_)
 have two:∀ l h',h'≤n→wpS M A E s ((if l ≥ h' then pure (.done (none,l,h')) else (elem' arr (base+(l+(h' - l) / 2)) >>= fun x=>if left=true then lt' x key else lt' key x >>= fun r=>pure (r.map (!·))) >>= fun r=>match r with
   | some more=>if more=true then pure (.yield (none,l+(h' - l) / 2+1,h')) else pure (.yield (none,l,l+(h' - l) / 2))
   | _=>pure (.done (some none,l,h'))):StateT SortSt Sem (ForInStep (Option (Option Nat)×Nat×Nat))) (fun r st'=>st'=st∧∃ l' h',h'≤n∧(r=.done (none,l',h')∨r=.yield (none,l',h'))) st:=by
  intro l h' q
  split
  ·exact wpS_pure ⟨rfl,l,h',q,.inl rfl⟩
  ·rename_i z
   have md:l+(h' - l) / 2 < h':=Nat.add_lt_of_lt_sub' (Nat.div_lt_self (Nat.sub_pos_of_lt (Nat.not_le.mp z)) (by decide))
   refine wpS_bind (dB L hk hx ha (eT (Nat.lt_of_lt_of_le md q) hb) fun b=>?_)
   cases b
   ·exact wpS_pure ⟨rfl,_,_,zB1 (Nat.le_of_lt md) q,.inr rfl⟩
   ·exact wpS_pure ⟨rfl,_,_,q,.inr rfl⟩
 cases b
 ·refine wpS_bind (wpS_forRange (I:=fun x c st'=>st'=st∧∃ l o,c=(none,l,o)) ?_ ?_ ⟨rfl,0,1,rfl⟩)
  ·rintro x c st' _ _ ⟨rfl,l,o,rfl⟩
   dsimp only
   split
   ·exact wpS_pure (eZ (fun x l h' q=>two l h' q) (fun l h=>rfl) (by dsimp only; exact zB1 (Nat.sub_le _ _) (Nat.le_of_lt hh)) h)
   ·refine wpS_bind (dB L hk hx ha (eT (Nat.lt_of_le_of_lt (Nat.sub_le _ _) hh) hb) fun b=>?_)
    cases b
    ·exact wpS_pure ⟨rfl,_,_,rfl⟩
    ·exact wpS_pure (eZ (fun x l h' q=>two l h' q) (fun l h=>rfl) (by dsimp only; exact zB1 (Nat.sub_le _ _) (Nat.le_of_lt hh)) h)
  ·rintro c st' ⟨rfl,l,o,rfl⟩
   exact eZ (fun x l h' q=>two l h' q) (fun l h=>rfl) (by dsimp only; exact zB1 (Nat.sub_le _ _) (Nat.le_of_lt hh)) h
 ·refine wpS_bind (wpS_forRange (I:=fun x c st'=>st'=st∧∃ l o,c=(none,l,o)) ?_ ?_ ⟨rfl,0,1,rfl⟩)
  ·rintro x c st' _ _ ⟨rfl,l,o,rfl⟩
   dsimp only
   split
   ·exact wpS_pure (eZ (fun x l h' q=>two l h' q) (fun l h=>rfl) (hm _) h)
   ·rename_i z
    refine wpS_bind (dB L hk hx ha (eT (Nat.add_lt_of_lt_sub' (Nat.not_le.mp z)) hb) fun b=>?_)
    cases b
    ·exact wpS_pure (eZ (fun x l h' q=>two l h' q) (fun l h=>rfl) (hm _) h)
    ·exact wpS_pure ⟨rfl,_,_,rfl⟩
  ·rintro c st' ⟨rfl,l,o,rfl⟩
   exact eZ (fun x l h' q=>two l h' q) (fun l h=>rfl) (hm _) h
end
noncomputable def uy:Array Keyed→Array Keyed→StateT SortSt Sem (Array Keyed):=sortPriv% PySem.Builtin.mergeLo
noncomputable def uz:Array Keyed→Array Keyed→StateT SortSt Sem (Array Keyed):=sortPriv% PySem.Builtin.mergeHi
structure Same (st st':SortSt):Prop where
 arr:arrOf st'=arrOf st
 kind:kindOf st'=kindOf st
 failed:failedOf st'=failedOf st
 pend:pendingOf st'=pendingOf st
theorem Same.refl (st:SortSt):Same st st:=⟨rfl,rfl,rfl,rfl⟩
theorem Same.trans (x:Same a b) (y:Same b c):Same a c:=⟨y.arr.trans x.arr,y.kind.trans x.kind,y.failed.trans x.failed,y.pend.trans x.pend⟩
section
variable {α:Type} {o o' P P' R R' X:List α} {a:Array α} {x:α} {i j:Nat}
theorem mgA (h:o.Perm (P++R)) (p:P'.Perm (P++X)) (q:o'=o++X):o'.Perm (P'++R):=by
 subst q
 refine (h.append_right X).trans (.trans ?_ (p.symm.append_right R))
 rw [List.append_assoc,List.append_assoc]
 exact List.Perm.append_left P List.perm_append_comm
theorem mgB (h:o.Perm (P++R)) (p:R'.Perm (R++X)) (q:o'=o++X):o'.Perm (P++R'):=by
 subst q
 refine (h.append_right X).trans ?_
 rw [List.append_assoc]
 exact List.Perm.append_left P p.symm
end
section
variable {a b o:Array Keyed} {i j k:Nat} {x:Keyed}
structure JLo (a b o:Array Keyed) (i j:Nat):Prop where
 perm:o.toList.Perm (a.toList.take i++b.toList.take j)
 hi:i≤a.size
 hj:j≤b.size
theorem nD (l:Array Keyed) (h:i≤j):l.toList.take j=l.toList.take i++(l.extract i j).toList:=by
 rw [Array.toList_extract,← List.take_add]; congr 1; exact (Nat.add_sub_cancel' h).symm
theorem JLo.moreA (J:JLo a b o i j) (h:i≤k) (hk:k≤a.size):JLo a b (o++a.extract i k) k j:=⟨mgA J.perm (.of_eq (nD a h)) (by rw [Array.toList_append]),hk,J.hj⟩
theorem JLo.moreB (J:JLo a b o i j) (h:j≤k) (hk:k≤b.size):JLo a b (o++b.extract j k) i k:=⟨mgB J.perm (.of_eq (nD b h)) (by rw [Array.toList_append]),J.hi,hk⟩
theorem JLo.pushA (J:JLo a b o i j) (e:a[i]?=some x):JLo a b (o.push x) (i+1) j:=
 ⟨mgA J.perm (by rw [List.take_add_one,Array.getElem?_toList,e]; exact .refl _) Array.toList_push,(Array.getElem?_eq_some_iff.mp e).1,J.hj⟩
theorem JLo.pushB (J:JLo a b o i j) (e:b[j]?=some x):JLo a b (o.push x) i (j+1):=
 ⟨mgB J.perm (by rw [List.take_add_one,Array.getElem?_toList,e]; exact .refl _) Array.toList_push,J.hi,(Array.getElem?_eq_some_iff.mp e).1⟩
theorem JLo.all (J:JLo a b o a.size b.size):o.toList.Perm (a.toList++b.toList):=by
 have:=J.perm
 rwa [← zB3,List.take_length,← zB3,List.take_length] at this
theorem JLo.done (J:JLo a b o i j):(o++a.extract i++b.extract j).toList.Perm (a.toList++b.toList):=((J.moreA J.hi (Nat.le_refl _)).moreB J.hj (Nat.le_refl _)).all
theorem JLo.last (J:JLo a b o i j):(o++b.extract j++a.extract i).toList.Perm (a.toList++b.toList):=((J.moreB J.hj (Nat.le_refl _)).moreA J.hi (Nat.le_refl _)).all
end
section
variable {M:Model} {A:Around} {s:Shared} {k₀:SortKind} {a₀:Array Keyed} {p:Array (Nat×Nat×Nat)} {st st':SortSt} {E:Value→Shared→Prop}
theorem wpS_ite [Decidable c] (h1:c→wpS M A E s t Q st) (h2:¬ c→wpS M A E s e Q st):wpS M A E s (if c then t else e) Q st:=by
 split
 ·exact h1 ‹_›
 ·exact h2 ‹_›
theorem iE (S:Same st st') (h:∀ st'',Same st st''→Q () st''):wpS M A E s ((sortPriv% PySem.Builtin.setMinGallop) m) Q st':=wpS_modify (h _ (S.trans ⟨rfl,rfl,rfl,rfl⟩))
def Gd {δ:Type} (st:SortSt) (F:List Keyed) (J:Nat→δ→Prop) (n:Nat) (c:Option (Array Keyed)×δ) (st':SortSt):Prop:=Same st st'∧((∃ r,c.1=some r∧r.toList.Perm F)∨(c.1=none∧J n c.2))
def Sq {δ:Type} (st:SortSt) (F:List Keyed) (J:Nat→δ→Prop) (n n':Nat) (r:ForInStep (Option (Array Keyed)×δ)) (st':SortSt):Prop:=match r with
 | .done c'=>Gd st F J n' c' st'
 | .yield c'=>c'.1=none∧Gd st F J n c' st'
theorem gH {i j:Nat} (h:¬ (i==j)=true):i≠j:=fun e=>h (by simpa using e)
theorem Gd.elim {δ:Type} {F:List Keyed} {J:Nat→δ→Prop} {n:Nat} {c:Option (Array Keyed)×δ} {P:Option (Array Keyed)×δ→Prop} (G:Gd st F J n c st') (h1:∀ r d,r.toList.Perm F→P (some r,d)) (h0:∀ d,J n d→P (none,d)):P c:=by
 obtain ⟨r,d⟩:=c
 obtain ⟨_,⟨r',e,p⟩ | ⟨e,G⟩⟩:=G
 ·cases (show r=_ from e); exact h1 _ _ p
 ·cases (show r=_ from e); exact h0 _ G
theorem ck {δ β:Type} {t n':Nat} {f:Nat→Option (Array Keyed)×δ→StateT SortSt Sem (ForInStep (Option (Array Keyed)×δ))} {H:Option (Array Keyed)×δ→StateT SortSt Sem β} {Q:β→SortSt→Prop} {F:List Keyed} {d:δ} (J:Nat→δ→Prop)
  (N:Nat→Nat) (S:Same st st') (j0:J (N 0) d) (fin:∀ d,J (N t) d→J n' d)
  (step:∀ y d st',Same st st'→J (N y) d→wpS M A E s (f y (none,d)) (Sq st F J (N (y+1)) n') st') (ret:∀ r d st',Same st st'→r.toList.Perm F→wpS M A E s (H (some r,d)) Q st')
  (go:∀ d st',Same st st'→J n' d→wpS M A E s (H (none,d)) Q st'):wpS M A E s (forIn [:t] (none,d) f >>= H) Q st':=by
 refine wpS_bind (wpS_mono (wpS_forRange (I:=fun y c st'=>c.1=none∧Gd st F J (N y) c st') (Q:=Gd st F J n') ?_ ?_ ⟨rfl,S,.inr ⟨rfl,j0⟩⟩) ?_)
 ·rintro y c st1 _ _ ⟨e,G⟩
  refine wpS_mono (Q:=Sq st F J (N (y+1)) n') (Gd.elim (P:=fun c=>c.1=none→wpS M A E s (f y c) _ st1) G (fun _ _ _ e=>nN e) (fun d j _=>step y d st1 G.1 j) e) fun r _ q=>by cases r <;> exact q
 ·rintro c st1 ⟨e,G⟩
  rw [Nat.max_eq_right (Nat.zero_le _)] at G
  exact ⟨G.1,G.2.imp id fun ⟨a,b⟩=>⟨a,fin _ b⟩⟩
 ·intro c st1 G
  exact G.elim (P:=fun c=>wpS M A E s (H c) Q st1) (fun r d p=>ret r d st1 G.1 p) fun d j=>go d st1 G.1 j
theorem qK (L:ke M A s k₀ a₀) (hk:kindOf st=k₀) (hx:x∈a₀.toList) (hy:y∈a₀.toList) (h1:Q (some true) st) (h0:Q (some false) st):wpS M A E s (lt' x y) Q st:=mz L hk hx hy fun b=>by
 cases b
 ·exact h0
 ·exact h1
theorem cB {n:Nat} {o:Array Keyed} (h:n≤o.size):n+1≤(o.push x).size:=by rw [Array.size_push]; exact Nat.succ_le_succ h
theorem cg {n:Nat} {o:Array Keyed} (h:n≤o.size):n≤(o.push x).size:=Nat.le_of_succ_le (cB h)
theorem i5 {n:Nat} {o e:Array Keyed} (h:n≤o.size):n≤(o++e).size:=by rw [Array.size_append]; exact Nat.le_add_right_of_le h
theorem JLo.size (J:JLo a b o i j):o.size=i+j:=by
 have:=J.perm.length_eq
 rwa [zB5,List.length_take,List.length_take,zB3,zB3,zB3,Nat.min_eq_left J.hi,Nat.min_eq_left J.hj] at this
def LoJ {γ:Type} (a b:Array Keyed) (n:Nat) (d:Array Keyed×Nat×Nat×γ):Prop:=JLo a b d.1 d.2.1 d.2.2.1∧d.2.1+1 < a.size∧d.2.2.1 < b.size∧n≤d.1.size
theorem LoJ.le (h:m≤n) (J:LoJ a b n d):LoJ a b m d:=⟨J.1,J.2.1,J.2.2.1,zB1 h J.2.2.2⟩
theorem LoJ.lt (J:LoJ a b (a.size+b.size+1) d):False:=by obtain ⟨J,h1,h2,h3⟩:=J; rw [J.size] at h3; exact absurd h3 (Nat.not_le.mpr (Nat.lt_succ_of_le (Nat.add_le_add J.hi J.hj)))
theorem bR {i n:Nat} (h:i≤n) (e:¬ (i==n)=true):i < n:=Nat.lt_of_le_of_ne h (gH e)
theorem sR {i n:Nat} (h:i≤n) (e:¬ (i+1==n)=true) (e':¬ (i==n)=true):i+1 < n:=bR (bR h e') e
theorem mZ {a b:Array Keyed} {Q:Array Keyed→SortSt→Prop} (L:ke M A s k₀ a₀) (hk:kindOf st=k₀) (ha:∀ x∈a.toList,x∈a₀.toList) (hb:∀ x∈b.toList,x∈a₀.toList) (h1:1≤a.size) (h2:1≤b.size)
  (h:∀ out st',Same st st'→out.toList.Perm (a.toList++b.toList)→Q out st'):wpS M A E s (uy a b) Q st:=by
 refine wpS_bind (wpS_lift (wpAny_rule ⟨rfl,?_⟩))
 refine wpS_bind (aE (a:=b) h2 fun x hx ex=>?_)
 have J0:JLo a b #[x] 0 1:=JLo.pushB (o:=#[]) (j:=0) ⟨.refl _,Nat.zero_le _,Nat.zero_le _⟩ ex
 refine wpS_ite (fun _=>wpS_pure (h _ _ (.refl _) J0.done)) fun e1=>?_
 refine wpS_ite (fun _=>wpS_pure (h _ _ (.refl _) J0.last)) fun e2=>?_
 refine wpS_bind (wpS_get ?_)
 refine ck (LoJ a b) (F:=a.toList++b.toList) (fun x=>x+1) (.refl _) ⟨J0,bR h1 e2,bR h2 e1,Nat.le_refl _⟩ (fun _ j=>j) ?_ (fun r d st' S p=>wpS_pure (h _ _ S p)) fun d st' S J=>J.lt.elim
 intro x d st1 S1 J1
 refine ck (st:=st) (LoJ a b) (F:=a.toList++b.toList) (n':=x+1+1) (fun y=>x+1+y) S1 J1 (fun _ j=>j.le (Nat.add_le_add_left (Nat.le_add_right_of_le h1) _)) ?_ (fun r d st' S p=>wpS_pure ⟨S,.inl ⟨_,rfl,p⟩⟩) ?_
 ·intro y d st1 S1 J1
  obtain ⟨J1,hi,hj,n1⟩:=J1
  refine wpS_bind (aE (a:=b) hj fun v hv ev=>wpS_bind (aE (a:=a) (Nat.lt_of_succ_lt hi) fun u hu eu=>?_))
  refine wpS_bind (qK L (S1.kind.trans hk) (hb v hv) (ha u hu) ?_ ?_)
  ·refine wpS_bind (aE (a:=b) hj fun v hv ev=>?_)
   have J2:=J1.pushB ev
   refine wpS_ite (fun _=>wpS_pure ⟨S1,.inl ⟨_,rfl,J2.done⟩⟩) fun e3=>?_
   have hj':=bR hj e3
   exact wpS_ite (fun _=>wpS_pure ⟨S1,.inr ⟨rfl,J2,hi,hj',cB (Nat.le_of_add_right_le n1)⟩⟩) fun _=>wpS_pure ⟨rfl,S1,.inr ⟨rfl,J2,hi,hj',cB n1⟩⟩
  ·refine wpS_bind (aE (a:=a) (Nat.lt_of_succ_lt hi) fun u hu eu=>?_)
   have J2:=J1.pushA eu
   refine wpS_ite (fun _=>wpS_pure ⟨S1,.inl ⟨_,rfl,J2.last⟩⟩) fun e3=>?_
   have hi':=bR hi e3
   exact wpS_ite (fun _=>wpS_pure ⟨S1,.inr ⟨rfl,J2,hi',hj,cB (Nat.le_of_add_right_le n1)⟩⟩) fun _=>wpS_pure ⟨rfl,S1,.inr ⟨rfl,J2,hi',hj,cB n1⟩⟩
 intro d st1 S1 J1
 refine wpS_bind (wpS_lift (wpAny_rule ⟨rfl,?_⟩))
 refine ck (st:=st) (LoJ a b) (F:=a.toList++b.toList) (n':=x+1+1) (fun y=>x+1+1) S1 J1 (fun _ j=>j) ?_ (fun r d st' S p=>wpS_pure ⟨S,.inl ⟨_,rfl,p⟩⟩) fun d st' S J=>wpS_bind (iE S fun st2 S2=>wpS_pure ⟨rfl,S2,.inr ⟨rfl,J⟩⟩)
 intro y d st1 S1 J1
 extract_lets z1 o' z2 i' z3 j' z4 g' z5 c1' c2' j1 jp mg
 have hjp:∀ g,wpS M A E s (jp () g) (Sq st (a.toList++b.toList) (LoJ a b) (x+1+1) (x+1+1)) st1:=by
  intro g
  refine wpS_bind (iE S1 fun st2 S2=>wpS_bind (aE (a:=b) J1.2.2.1 fun v hv ev=>wpS_bind (bS L (S2.kind.trans hk) (hb v hv) ha (zB2 (Nat.add_sub_cancel' J1.1.hi)) (Nat.sub_pos_of_lt (Nat.lt_of_succ_lt J1.2.1)) fun k hk'=>?_)))
  dsimp (zeta:=false) only
  extract_lets ac jp2 o2 i2
  have hjp2:∀ o i,JLo a b o i d.2.2.1→i+1 < a.size→x+1+1≤o.size→wpS M A E s (jp2 () o i) (Sq st (a.toList++b.toList) (LoJ a b) (x+1+1) (x+1+1)) st2:=by
   intro o i Jx hi n2
   refine wpS_bind (aE (a:=b) J1.2.2.1 fun v hv ev=>?_)
   have J2:=Jx.pushB ev
   refine wpS_ite (fun _=>wpS_pure ⟨S2,.inl ⟨_,rfl,J2.done⟩⟩) fun e3=>?_
   have e3:d.2.2.1+1 < b.size:=bR J1.2.2.1 e3
   refine wpS_bind (aE (a:=a) (Nat.lt_of_succ_lt hi) fun u hu eu=>wpS_bind (bS L (S2.kind.trans hk) (ha u hu) hb (zB2 (Nat.add_sub_cancel' J2.hj)) (Nat.sub_pos_of_lt e3) fun k2 hk2=>?_))
   dsimp (zeta:=false) only
   extract_lets bc i3 jp3 o3 j3
   have hjp3:∀ o j,JLo a b o i j→j < b.size→x+1+1≤o.size→wpS M A E s (jp3 () o j) (Sq st (a.toList++b.toList) (LoJ a b) (x+1+1) (x+1+1)) st2:=by
    intro o j Jy hj n3
    refine wpS_bind (aE (a:=a) (Nat.lt_of_succ_lt hi) fun u hu eu=>?_)
    have J3:=Jy.pushA eu
    refine wpS_ite (fun _=>wpS_pure ⟨S2,.inl ⟨_,rfl,J3.last⟩⟩) fun e4=>?_
    have hi':=bR hi e4
    exact wpS_ite (fun _=>wpS_pure ⟨S2,.inr ⟨rfl,J3,hi',hj,cg n3⟩⟩) fun _=>wpS_pure ⟨rfl,S2,.inr ⟨rfl,J3,hi',hj,cg n3⟩⟩
   refine wpS_ite (fun _=>?_) fun _=>hjp3 _ _ J2 e3 (cg n2)
   have J4:=J2.moreB (k:=d.2.2.1+1+k2) (Nat.le_add_right _ _) (Nat.add_le_of_le_sub' J2.hj hk2)
   exact wpS_ite (fun _=>wpS_pure ⟨S2,.inl ⟨_,rfl,J4.done⟩⟩) fun e4=>hjp3 _ _ J4 (bR J4.hj e4) (i5 (cg n2))
  refine wpS_ite (fun _=>?_) fun _=>hjp2 _ _ J1.1 J1.2.1 J1.2.2.2
  have J5:=J1.1.moreA (k:=d.2.1+k) (Nat.le_add_right _ _) (Nat.add_le_of_le_sub' J1.1.hi hk')
  exact wpS_ite (fun _=>wpS_pure ⟨S2,.inl ⟨_,rfl,J5.last⟩⟩) fun e4=>wpS_ite (fun _=>wpS_pure ⟨S2,.inl ⟨_,rfl,J5.done⟩⟩) fun e5=>hjp2 _ _ J5 (sR J5.hi e4 e5) (i5 J1.2.2.2)
 exact wpS_ite (fun _=>hjp _) fun _=>hjp _
end
section
variable {a b o:Array Keyed} {i j k n m:Nat} {x:Keyed} {γ:Type}
structure JHi (a b o:Array Keyed) (i j:Nat):Prop where
 perm:o.toList.Perm (a.toList.drop i++b.toList.drop j)
 hi:i≤a.size
 hj:j≤b.size
theorem oL (l:Array Keyed) (h:k≤i):(l.toList.drop k).Perm (l.toList.drop i++((l.extract k i).reverse).toList):=by
 rw [Array.toList_reverse,Array.toList_extract]
 refine .trans (.of_eq ?_) (List.perm_append_comm.trans (.append_left _ (List.reverse_perm _).symm))
 rw [show l.toList.drop i=(l.toList.drop k).drop (i - k) by rw [List.drop_drop,Nat.add_sub_cancel' h],List.take_append_drop]
theorem oK (l:Array Keyed) (h:1≤i) (e:l[i - 1]?=some x):(l.toList.drop (i - 1)).Perm (l.toList.drop i++[x]):=by
 have q:=(Array.getElem?_eq_some_iff.mp e).1
 rw [List.drop_eq_getElem_cons (by rw [zB3]; exact q),Nat.sub_add_cancel h]
 refine .trans (.of_eq ?_) (List.perm_append_comm (l₁:=[x]))
 rw [Array.getElem_toList,(Array.getElem?_eq_some_iff.mp e).2]; rfl
theorem JHi.moreA (J:JHi a b o i j) (h:k≤i):JHi a b (o++(a.extract k i).reverse) k j:=⟨mgA J.perm (oL a h) Array.toList_append,zB1 h J.hi,J.hj⟩
theorem JHi.moreB (J:JHi a b o i j) (h:k≤j):JHi a b (o++(b.extract k j).reverse) i k:=⟨mgB J.perm (oL b h) Array.toList_append,J.hi,zB1 h J.hj⟩
theorem JHi.pushA (J:JHi a b o i j) (h:1≤i) (e:a[i - 1]?=some x):JHi a b (o.push x) (i - 1) j:=⟨mgA J.perm (oK a h e) Array.toList_push,zB1 (Nat.sub_le _ _) J.hi,J.hj⟩
theorem JHi.pushB (J:JHi a b o i j) (h:1≤j) (e:b[j - 1]?=some x):JHi a b (o.push x) i (j - 1):=⟨mgB J.perm (oK b h e) Array.toList_push,J.hi,zB1 (Nat.sub_le _ _) J.hj⟩
theorem JHi.all (J:JHi a b o 0 0):o.toList.Perm (a.toList++b.toList):=J.perm
theorem nP:(X++Y++o.reverse.toList).Perm (o.toList++X.reverse++Y.reverse):=by
 rw [Array.toList_reverse]
 refine (List.reverse_perm _).symm.trans ?_
 rw [List.reverse_append,List.reverse_append,List.reverse_reverse,← List.append_assoc,List.append_assoc,List.append_assoc]
 exact .append_left _ List.perm_append_comm
theorem JHi.done (J:JHi a b o i j):(a.extract 0 i++b.extract 0 j++o.reverse).toList.Perm (a.toList++b.toList):=by
 have q:=((J.moreA (Nat.zero_le _)).moreB (Nat.zero_le _)).all
 rw [Array.toList_append,Array.toList_append,Array.toList_reverse,Array.toList_reverse] at q
 rw [Array.toList_append,Array.toList_append]
 exact nP.trans q
theorem JHi.first (J:JHi a b o i j):(b.extract 0 j++a.extract 0 i++o.reverse).toList.Perm (a.toList++b.toList):=by
 have q:=((J.moreB (Nat.zero_le _)).moreA (Nat.zero_le _)).all
 rw [Array.toList_append,Array.toList_append,Array.toList_reverse,Array.toList_reverse] at q
 rw [Array.toList_append,Array.toList_append]
 exact nP.trans q
theorem JHi.size (J:JHi a b o i j):o.size=(a.size - i)+(b.size - j):=by
 have:=J.perm.length_eq
 rwa [zB5,List.length_drop,List.length_drop,zB3,zB3,zB3] at this
def HiJ (a b:Array Keyed) (n:Nat) (d:Nat×Nat×Array Keyed×γ):Prop:=JHi a b d.2.2.1 d.1 d.2.1∧1≤d.1∧2≤d.2.1∧n≤d.2.2.1.size
theorem HiJ.le (h:m≤n) (J:HiJ a b n d):HiJ a b m d:=⟨J.1,J.2.1,J.2.2.1,zB1 h J.2.2.2⟩
theorem HiJ.lt (J:HiJ a b (a.size+b.size+1) d):False:=by obtain ⟨J,h1,h2,h3⟩:=J; rw [J.size] at h3; have:=J.hi; exact absurd h3 (Nat.not_le.mpr (Nat.lt_succ_of_le (Nat.add_le_add (Nat.sub_le _ _) (Nat.sub_le _ _))))
theorem fM (e:¬ (i==0)=true):1≤i:=Nat.pos_of_ne_zero (gH e)
theorem mB (h:1≤i) (e:¬ (i==1)=true):2≤i:=Nat.lt_of_le_of_ne h (gH e).symm
end
section
variable {M:Model} {A:Around} {s:Shared} {k₀:SortKind} {a₀:Array Keyed} {p:Array (Nat×Nat×Nat)} {st st':SortSt} {E:Value→Shared→Prop}
theorem m6 (L:ke M A s k₀ a₀) (hk:kindOf st=k₀) (ha:∀ x∈a.toList,x∈a₀.toList) (hb:∀ x∈b.toList,x∈a₀.toList) (h1:1≤a.size) (h2:1≤b.size)
  (h:∀ out st',Same st st'→out.toList.Perm (a.toList++b.toList)→Q out st'):wpS M A E s (uz a b) Q st:=by
 refine wpS_bind (wpS_lift (wpAny_rule ⟨rfl,?_⟩))
 refine wpS_bind (aE (a:=a) (i:=a.size - 1) (Nat.sub_one_lt_of_lt h1) fun x hx ex=>?_)
 have J0:JHi a b #[x] (a.size - 1) b.size:=JHi.pushA (o:=#[]) (i:=a.size) ⟨by rw [← zB3,List.drop_length,← zB3,List.drop_length]; exact .refl _,Nat.le_refl _,Nat.le_refl _⟩ h1 ex
 refine wpS_ite (fun _=>wpS_pure (h _ _ (.refl _) J0.done)) fun e1=>?_
 refine wpS_ite (fun _=>wpS_pure (h _ _ (.refl _) J0.first)) fun e2=>?_
 refine wpS_bind (wpS_get ?_)
 refine ck (HiJ a b) (F:=a.toList++b.toList) (fun x=>x+1) (.refl _) ⟨J0,fM e1,mB h2 e2,Nat.le_refl _⟩ (fun _ j=>j) ?_ (fun r d st' S p=>wpS_pure (h _ _ S p)) fun d st' S J=>J.lt.elim
 intro x d st1 S1 J1
 refine ck (st:=st) (HiJ a b) (F:=a.toList++b.toList) (n':=x+1+1) (fun y=>x+1+y) S1 J1 (fun _ j=>j.le (Nat.add_le_add_left (Nat.le_add_right_of_le h1) _)) ?_ (fun r d st' S p=>wpS_pure ⟨S,.inl ⟨_,rfl,p⟩⟩) ?_
 ·intro y d st1 S1 J1
  obtain ⟨J1,hi,hj,n1⟩:=J1
  have hb1:d.2.1 - 1 < b.size:=Nat.lt_of_lt_of_le (Nat.sub_one_lt_of_lt hj) J1.hj
  have ha1:d.1 - 1 < a.size:=Nat.lt_of_lt_of_le (Nat.sub_one_lt_of_lt hi) J1.hi
  refine wpS_bind (aE (a:=b) hb1 fun v hv ev=>wpS_bind (aE (a:=a) ha1 fun u hu eu=>?_))
  refine wpS_bind (qK L (S1.kind.trans hk) (hb v hv) (ha u hu) ?_ ?_)
  ·refine wpS_bind (aE (a:=a) ha1 fun u hu eu=>?_)
   have J2:=J1.pushA hi eu
   refine wpS_ite (fun _=>wpS_pure ⟨S1,.inl ⟨_,rfl,J2.done⟩⟩) fun e3=>?_
   have hi':=fM e3
   exact wpS_ite (fun _=>wpS_pure ⟨S1,.inr ⟨rfl,J2,hi',hj,cB (Nat.le_of_add_right_le n1)⟩⟩) fun _=>wpS_pure ⟨rfl,S1,.inr ⟨rfl,J2,hi',hj,cB n1⟩⟩
  ·refine wpS_bind (aE (a:=b) hb1 fun v hv ev=>?_)
   have J2:=J1.pushB (Nat.le_of_succ_le hj) ev
   refine wpS_ite (fun _=>wpS_pure ⟨S1,.inl ⟨_,rfl,J2.first⟩⟩) fun e3=>?_
   have hj':=mB (Nat.le_sub_one_of_lt hj) e3
   exact wpS_ite (fun _=>wpS_pure ⟨S1,.inr ⟨rfl,J2,hi,hj',cB (Nat.le_of_add_right_le n1)⟩⟩) fun _=>wpS_pure ⟨rfl,S1,.inr ⟨rfl,J2,hi,hj',cB n1⟩⟩
 intro d st1 S1 J1
 refine wpS_bind (wpS_lift (wpAny_rule ⟨rfl,?_⟩))
 refine ck (st:=st) (HiJ a b) (F:=a.toList++b.toList) (n':=x+1+1) (fun y=>x+1+1) S1 J1 (fun _ j=>j) ?_ (fun r d st' S p=>wpS_pure ⟨S,.inl ⟨_,rfl,p⟩⟩) fun d st' S J=>wpS_bind (iE S fun st2 S2=>wpS_pure ⟨rfl,S2,.inr ⟨rfl,J⟩⟩)
 intro y d st1 S1 J1
 extract_lets z1 i' z2 j' z3 o' z4 g' z5 c1' c2' j1 jp mg
 have hjp:∀ g,wpS M A E s (jp () g) (Sq st (a.toList++b.toList) (HiJ a b) (x+1+1) (x+1+1)) st1:=by
  intro g
  have hb1:d.2.1 - 1 < b.size:=Nat.lt_of_lt_of_le (Nat.sub_one_lt_of_lt J1.2.2.1) J1.1.hj
  refine wpS_bind (iE S1 fun st2 S2=>wpS_bind (aE (a:=b) hb1 fun v hv ev=>wpS_bind (bS L (S2.kind.trans hk) (hb v hv) ha (zB1 (zB2 (Nat.zero_add _)) J1.1.hi) (Nat.sub_one_lt_of_lt J1.2.1) fun k hk'=>?_)))
  dsimp (zeta:=false) only
  extract_lets kk ac jp2 o2 i2
  have hjp2:∀ i o,JHi a b o i d.2.1→1≤i→x+1+1≤o.size→wpS M A E s (jp2 () i o) (Sq st (a.toList++b.toList) (HiJ a b) (x+1+1) (x+1+1)) st2:=by
   intro i o Jx hi n2
   have ha1:i - 1 < a.size:=Nat.lt_of_lt_of_le (Nat.sub_one_lt_of_lt hi) Jx.hi
   refine wpS_bind (aE (a:=b) hb1 fun v hv ev=>?_)
   have J2:=Jx.pushB (Nat.le_of_succ_le J1.2.2.1) ev
   refine wpS_ite (fun _=>wpS_pure ⟨S2,.inl ⟨_,rfl,J2.first⟩⟩) fun e3=>?_
   have e3:2≤d.2.1 - 1:=mB (Nat.le_sub_one_of_lt J1.2.2.1) e3
   refine wpS_bind (aE (a:=a) ha1 fun u hu eu=>wpS_bind (bS L (S2.kind.trans hk) (ha u hu) hb (zB1 (zB2 (Nat.zero_add _)) J2.hj) (Nat.sub_one_lt_of_lt e3) fun k2 hk2=>?_))
   dsimp (zeta:=false) only
   extract_lets kk2 bc i3 jp3 o3 j3
   have hjp3:∀ j o,JHi a b o i j→2≤j→x+1+1≤o.size→wpS M A E s (jp3 () j o) (Sq st (a.toList++b.toList) (HiJ a b) (x+1+1) (x+1+1)) st2:=by
    intro j o Jy hj n3
    refine wpS_bind (aE (a:=a) ha1 fun u hu eu=>?_)
    have J3:=Jy.pushA hi eu
    refine wpS_ite (fun _=>wpS_pure ⟨S2,.inl ⟨_,rfl,J3.done⟩⟩) fun e4=>?_
    have hi':=fM e4
    exact wpS_ite (fun _=>wpS_pure ⟨S2,.inr ⟨rfl,J3,hi',hj,cg n3⟩⟩) fun _=>wpS_pure ⟨rfl,S2,.inr ⟨rfl,J3,hi',hj,cg n3⟩⟩
   refine wpS_ite (fun _=>?_) fun _=>hjp3 _ _ J2 e3 (cg n2)
   have J4:=J2.moreB hk2
   exact wpS_ite (fun _=>wpS_pure ⟨S2,.inl ⟨_,rfl,J4.first⟩⟩) fun e4=>wpS_ite (fun _=>wpS_pure ⟨S2,.inl ⟨_,rfl,J4.done⟩⟩) fun e5=>hjp3 _ _ J4 (mB (fM e5) e4) (i5 (cg n2))
  refine wpS_ite (fun _=>?_) fun _=>hjp2 _ _ J1.1 J1.2.1 J1.2.2.2
  have J5:=J1.1.moreA hk'
  exact wpS_ite (fun _=>wpS_pure ⟨S2,.inl ⟨_,rfl,J5.done⟩⟩) fun e4=>hjp2 _ _ J5 (fM e4) (i5 J1.2.2.2)
 exact wpS_ite (fun _=>hjp _) fun _=>hjp _
end
section
variable {M:Model} {A:Around} {s:Shared} {k₀:SortKind} {a₀:Array Keyed} {p:Array (Nat×Nat×Nat)} {st st':SortSt} {E:Value→Shared→Prop}
theorem wk {σ:Type} {x y:σ} {Q:PUnit→σ→Prop} (h:Q ⟨⟩ x):wpS M A E s (set x:StateT σ Sem PUnit) Q y:=by
 unfold wpS; rw [StateT.run_set]; exact zC2 ⟨rfl,h⟩
theorem sf (sa:Nat):∀ (m:List Keyed) (k:Nat) (a:Array Keyed),sa+k+m.length≤a.size→((m.zipIdx k).foldl (fun a (p,j)=>a.setIfInBounds (sa+j) p) a).toList=a.toList.take (sa+k)++m++a.toList.drop (sa+k+m.length)
 | [],k,a,_=>by simp
 | x :: m,k,a,h=>by
  rw [zB4] at h
  rw [List.zipIdx_cons,List.foldl_cons]
  refine (?_:(List.foldl _ (a.setIfInBounds (sa+k) x) _).toList=_)
  rw [sf sa m (k+1) _ (by rw [Array.size_setIfInBounds]; exact zB1 (zB2 (Nat.add_right_comm (sa+k) 1 m.length)) h),Array.toList_setIfInBounds,zB4,← Nat.add_assoc,List.take_add_one,List.take_set_of_le (Nat.le_refl _),List.getElem?_set_self (by rw [zB3]; exact Nat.lt_of_lt_of_le (Nat.lt_add_of_pos_right (Nat.succ_pos _)) h),List.drop_set_of_lt (Nat.lt_of_lt_of_le (Nat.lt_succ_self (sa+k)) (Nat.le_add_right _ _)),List.append_assoc,List.append_assoc,List.append_assoc,show sa+k+1+m.length=sa+k+(m.length+1) from Nat.add_right_comm (sa+k) 1 m.length]
  rfl
theorem tr {a:Array Keyed} {i j k:Nat} {m:Array Keyed} (h1:i≤j) (h2:j≤k) (h3:k≤a.size) (h:m.toList.Perm ((a.extract i j).toList++(a.extract j k).toList)):(m.toList.zipIdx.foldl (fun a (p,j)=>a.setIfInBounds (i+j) p) a).Perm a:=by
 have e:(a.extract i j).toList++(a.extract j k).toList=(a.toList.drop i).take (k - i):=by
  rw [Array.toList_extract,Array.toList_extract,show k - i=(j - i)+(k - j) from ((Nat.add_comm _ _).trans (Nat.sub_add_sub_cancel h2 h1)).symm,List.take_add,List.drop_drop,Nat.add_sub_cancel' h1]
 rw [e] at h
 have l:=h.length_eq
 rw [List.length_take,List.length_drop,Array.length_toList (xs:=a),Nat.min_eq_left (Nat.sub_le_sub_right h3 i)] at l
 rw [Array.perm_iff_toList_perm,sf i m.toList 0 a (by rw [Nat.add_zero,l,Nat.add_sub_cancel' (zB1 h1 h2)]; exact h3),Nat.add_zero]
 refine ((h.append_left _).append_right _).trans (.of_eq ?_)
 rw [List.append_assoc,show a.toList.drop (i+m.toList.length)=(a.toList.drop i).drop (k - i) by rw [List.drop_drop,l],List.take_append_drop,List.take_append_drop]
theorem cJ {a:Array Keyed} {i j:Nat} (h:x∈(a.extract i j).toList):x∈a.toList:=by
 rw [Array.toList_extract] at h
 exact List.mem_of_mem_drop (List.mem_of_mem_take h)
theorem m7 {n0 n1 p0 p1 g:Nat} {xs:Array Keyed} {Q:Bool→SortSt→Prop} (L:ke M A s k₀ a₀) (hp:xs.Perm a₀) (h0:1≤n0) (h1:1≤n1) (hn:n0+n1=xs.size)
  (h:∀ st',SI k₀ a₀ #[(0,n0+n1,p0)] st'→Q true st'):wpS M A E s (mergeAt' 0) Q (SortSt.mk' k₀ xs #[(0,n0,p0),(n0,n1,p1)] g none):=by
 have mem:∀ x∈xs.toList,x∈a₀.toList:=fun x hx=>(Array.perm_iff_toList_perm.mp hp).mem_iff.mp hx
 have I0:SI k₀ a₀ #[(0,n0+n1,p0)] (SortSt.mk' k₀ xs #[(0,n0+n1,p0)] g none):=⟨hp,rfl,rfl,rfl⟩
 refine wpS_bind (wpS_get ?_)
 refine wpS_bind (wk ?_)
 generalize hP:Array.eraseIdxIfInBounds _ _=P
 have hP:P=#[(0,n0+n1,p0)]:=by rw [← hP]; simp
 subst hP
 refine wpS_bind (aE (a:=xs) (i:=n0) (hn▸Nat.lt_add_of_pos_right h1) fun v hv ev=>wpS_bind (bS L rfl (mem v hv) mem (show 0+n0≤xs.size by rw [Nat.zero_add,← hn]; exact Nat.le_add_right _ _) h0 fun k hk=>?_))
 refine wpS_ite (fun _=>wpS_pure (h _ I0)) fun e1=>?_
 have e1:1≤n0 - k:=fM e1
 refine wpS_bind (aE (a:=xs) (i:=0+k+(n0 - k) - 1) (by rw [Nat.zero_add,Nat.add_sub_cancel' hk]; exact Nat.lt_of_le_of_lt (Nat.sub_le _ _) (hn▸Nat.lt_add_of_pos_right h1)) fun u hu eu=>wpS_bind (bS L rfl (mem u hu) mem (show n0+n1≤xs.size by exact zB2 hn) (Nat.sub_one_lt_of_lt h1) fun m hm=>?_))
 refine wpS_ite (fun _=>wpS_pure (h _ I0)) fun e2=>?_
 have e2:1≤m:=fM e2
 have fin:∀ (out:Array Keyed) (st':SortSt),Same (SortSt.mk' k₀ xs #[(0,n0+n1,p0)] g none) st'→out.toList.Perm ((xs.extract (0+k) n0).toList++(xs.extract n0 (n0+m)).toList)→SI k₀ a₀ #[(0,n0+n1,p0)] (setArr st' (out.toList.zipIdx.foldl (fun a (p,j)=>a.setIfInBounds (0+k+j) p) (arrOf st'))):=fun out st' S P=>
  ⟨by rw [S.arr]; exact (tr (by rw [Nat.zero_add]; exact hk) (Nat.le_add_right _ _) (show n0+m≤xs.size by exact zB1 (Nat.add_le_add_left hm _) (zB2 hn)) P).trans hp,S.kind,S.failed,S.pend⟩
 have hx1:1≤(xs.extract (0+k) n0).size:=by rw [Array.size_extract,Nat.zero_add,Nat.min_eq_left (hn▸Nat.le_add_right n0 n1)]; exact e1
 have hx2:1≤(xs.extract n0 (n0+m)).size:=by rw [Array.size_extract,Nat.min_eq_left (zB1 (Nat.add_le_add_left hm _) (zB2 hn)),Nat.add_sub_cancel_left]; exact e2
 extract_lets X Y jp
 have hjp:∀ (out:Array Keyed) (st':SortSt),Same (SortSt.mk' k₀ xs #[(0,n0+n1,p0)] g none) st'→out.toList.Perm ((xs.extract (0+k) n0).toList++(xs.extract n0 (n0+m)).toList)→wpS M A E s (jp out) Q st':=fun out st' S P=>by
  have I:=fin out st' S P
  refine wpS_bind (wpS_modify (wpS_bind (wpS_get (wpS_pure ?_))))
  refine (?_:Q (failedOf (setArr st' (out.toList.zipIdx.foldl (fun a (p,j)=>a.setIfInBounds (0+k+j) p) (arrOf st')))).isNone (setArr st' (out.toList.zipIdx.foldl (fun a (p,j)=>a.setIfInBounds (0+k+j) p) (arrOf st'))))
  rw [I.failed]
  exact h _ I
 exact wpS_ite (fun _=>wpS_bind (mZ L rfl (fun x hx=>mem x (cJ hx)) (fun x hx=>mem x (cJ hx)) hx1 hx2 hjp)) fun _=>wpS_bind (m6 L rfl (fun x hx=>mem x (cJ hx)) (fun x hx=>mem x (cJ hx)) hx1 hx2 hjp)
theorem SI.out (I:SI k₀ a₀ p st):∃ xs g,st=SortSt.mk' k₀ xs p g none∧xs.Perm a₀:=by
 obtain ⟨hp,hk,hf,hd⟩:=I
 cases st
 subst hk; subst hf; subst hd
 exact ⟨_,_,rfl,hp⟩
theorem sP (h2:2≤n) (h:n < 128):minRun' n n 0≤n∧n≤2 * minRun' n n 0:=by
 obtain ⟨f,rfl⟩:∃ f,n=f+2:=⟨n - 2,(Nat.sub_add_cancel h2).symm⟩
 rw [minRun'_succ]
 by_cases q:f+2 < 64
 ·rw [if_pos q]; lia
 ·rw [if_neg q,minRun'_succ,if_pos (by lia)]; lia
def yD (a₀:Array Keyed) (mr x lo:Nat) (p:Array (Nat×Nat×Nat)):Prop:=
 (lo=0∧p=#[]∧x=0)∨(mr≤lo∧1≤lo∧lo < a₀.size∧p=#[(0,lo,0)]∧x=1)∨(lo=a₀.size∧(p.size≤1∨∃ n0 n1 pw,1≤n0∧1≤n1∧n0+n1=a₀.size∧p=#[(0,n0,pw),(n0,n1,0)]))
theorem wpS_sortRunsP (L:ke M A s k₀ a₀) (I:SI k₀ a₀ #[] st) (h2:2≤a₀.size) (h128:a₀.size < 128) (h:∀ st',(arrOf st').Perm a₀→failedOf st'=none→Q () st'):wpS M A E s sortRuns' Q st:=by
 refine wpS_bind (wpS_get ?_)
 extract_lets size mr lo
 have hs:size=a₀.size:=I.size
 have hm:mr≤size∧size≤2 * mr:=sP (hs▸h2) (hs▸h128)
 clear_value mr size
 subst hs
 refine wpS_bind (wpS_mono (wpS_forRange (I:=fun x c st'=>∃ lo p,c=(none,lo)∧SI k₀ a₀ p st'∧yD a₀ mr x lo p) (Q:=fun c st'=>∃ p,c=(none,a₀.size)∧SI k₀ a₀ p st'∧yD a₀ mr 2 a₀.size p) ?_ ?_ ⟨0,#[],rfl,I,.inl ⟨rfl,rfl,rfl⟩⟩) ?_)
 ·rintro x c st' _ hx ⟨lo,p,rfl,I',R⟩
  refine wpS_ite (fun hl=>wpS_pure ?_) fun hl=>?_
  ·have hl:lo ≥ a₀.size:=hl
   rcases R with ⟨rfl,_,_⟩ | ⟨_,_,q,_⟩ | ⟨rfl,q⟩
   ·exact absurd hx (Nat.not_lt.mpr (zB1 hl (Nat.zero_le _)))
   ·exact absurd q (Nat.not_lt.mpr hl)
   ·exact ⟨p,rfl,I',.inr (.inr ⟨rfl,q⟩)⟩
  have hl:¬ lo ≥ a₀.size:=hl
  refine wpS_bind (jQ L (zB2 (Nat.add_sub_cancel' (Nat.le_of_lt (Nat.not_le.mp hl)))) (Nat.sub_pos_of_lt (Nat.not_le.mp hl)) I' fun m st1 I1 hm1 hm2=>?_)
  dsimp (zeta:=false) only
  extract_lets n jp force n'
  have hjp:∀ n st1,SI k₀ a₀ p st1→1≤n→min (a₀.size - lo) mr≤n→n≤a₀.size - lo→wpS M A E s (jp () n) (fun r st'=>match r with | .done c'=>∃ p,c'=(none,a₀.size)∧SI k₀ a₀ p st'∧yD a₀ mr 2 a₀.size p | .yield c'=>∃ lo p,c'=(none,lo)∧SI k₀ a₀ p st'∧yD a₀ mr (x+1) lo p) st1:=by
   intro n st1 I1 hn1 hn2 hn3
   obtain ⟨xs,g,rfl,hp⟩:=I1.out
   refine wpS_bind (wpS_get ?_)
   rcases R with ⟨rfl,rfl,rfl⟩ | ⟨q1,q0,q2,rfl,rfl⟩ | ⟨rfl,q⟩
   ·refine wpS_bind (wpS_modify (wpS_pure ⟨0+n,#[(0,n,0)],rfl,⟨hp,rfl,rfl,rfl⟩,?_⟩))
    by_cases e:n=a₀.size
    ·exact .inr (.inr ⟨(Nat.zero_add n).trans e,.inl (Nat.le_refl 1)⟩)
    ·refine .inr (.inl ⟨?_,Nat.le_add_left_of_le hn1,(Nat.zero_add n).symm▸Nat.lt_of_le_of_ne hn3 e,by rw [Nat.zero_add],rfl⟩)
     rw [Nat.zero_add]
     exact (Nat.le_total mr (a₀.size - 0)).elim (fun z=>Nat.min_eq_right z▸hn2) fun z=>absurd (Nat.le_antisymm hn3 (Nat.min_eq_left z▸hn2)) e
   ·have en:lo+n=a₀.size:=by
     have z:a₀.size - lo≤mr:=Nat.sub_le_of_le_add (zB1 hm.2 (by rw [Nat.two_mul]; exact Nat.add_le_add_left q1 mr))
     rw [Nat.le_antisymm hn3 (Nat.min_eq_left z▸hn2)]
     exact Nat.add_sub_cancel' (Nat.le_of_lt q2)
    refine wpS_bind (wpS_forRange (I:=fun _ c st''=>st''=SortSt.mk' k₀ xs #[(0,lo,0)] g none∧c=(none,())) ?_ ?_ ⟨rfl,rfl⟩)
    ·rintro y c st'' _ _ ⟨rfl,rfl⟩
     refine wpS_bind (wpS_get ?_)
     refine wpS_pure ?_
     refine wpS_bind (wpS_modify (wpS_bind (wpS_modify (wpS_pure ⟨lo+n,_,rfl,⟨hp,rfl,rfl,rfl⟩,.inr (.inr ⟨en,.inr ⟨lo,n,_,q0,hn1,en,rfl⟩⟩)⟩))))
    ·rintro c st'' ⟨rfl,rfl⟩
     refine wpS_bind (wpS_modify (wpS_bind (wpS_modify (wpS_pure ⟨lo+n,_,rfl,⟨hp,rfl,rfl,rfl⟩,.inr (.inr ⟨en,.inr ⟨lo,n,_,q0,hn1,en,rfl⟩⟩)⟩))))
   ·exact absurd (Nat.not_le.mp hl) (Nat.not_lt.mpr (Nat.le_refl _))
  refine wpS_mono (wpS_ite (fun q=>?_) fun q=>hjp n st1 I1 hm1 (zB1 (Nat.min_le_right _ _) (Nat.not_lt.mp q)) hm2) fun r _ q=>by cases r <;> exact q
  refine wpS_bind (wpS_lift (wpAny_rule ⟨rfl,?_⟩))
  refine wpS_bind (g7 L (zB1 (Nat.add_le_add_left (Nat.min_le_left _ _) _) (zB2 (Nat.add_sub_cancel' (Nat.le_of_lt (Nat.not_le.mp hl))))) I1 fun st2 I2=>?_)
  exact hjp _ st2 I2 (Nat.le_min.mpr ⟨Nat.sub_pos_of_lt (Nat.not_le.mp hl),Nat.pos_of_ne_zero fun z=>absurd (zB1 h2 hm.2) (by rw [z]; decide)⟩) (Nat.le_refl _) (Nat.min_le_left _ _)
 ·rintro c st' ⟨lo,p,rfl,I',R⟩
  rcases R with ⟨_,_,q⟩ | ⟨_,_,_,_,q⟩ | ⟨rfl,q⟩
  ·lia
  ·lia
  ·exact ⟨p,rfl,I',.inr (.inr ⟨rfl,q⟩)⟩
 ·rintro c st' ⟨p,rfl,I',R⟩
  refine wpS_bind (wpS_forRange (I:=fun _ c st''=>c=(none,())∧∃ p,SI k₀ a₀ p st''∧(p.size≤1∨∃ n0 n1 pw,1≤n0∧1≤n1∧n0+n1=a₀.size∧p=#[(0,n0,pw),(n0,n1,0)])) ?_ ?_ ⟨rfl,p,I',?_⟩)
  ·rintro y c st1 _ _ ⟨rfl,p,I1,q⟩
   obtain ⟨xs,g,rfl,hp⟩:=I1.out
   refine wpS_bind (wpS_get ?_)
   refine wpS_ite (fun _=>wpS_pure (wpS_pure (h _ hp rfl))) fun q'=>?_
   rcases q with q | ⟨n0,n1,pw,q0,q1,qs,rfl⟩
   ·exact absurd q q'
   ·exact wpS_bind (m7 L hp q0 q1 (qs.trans hp.size_eq.symm) fun st2 I2=>wpS_pure ⟨rfl,_,I2,.inl (Nat.le_refl 1)⟩)
  ·rintro c st1 ⟨rfl,p,I1,q⟩
   exact wpS_pure (h _ I1.perm I1.failed)
  ·rcases R with ⟨_,_,q⟩ | ⟨_,_,_,_,q⟩ | ⟨_,q⟩
   ·(injection q; done)
   ·cases q
   ·exact q
end
end Mine.Pm
end
noncomputable section
namespace Mine
open PySem PySem.Calls PyProof.Rows PySem.W
section
variable {prog:Program} {w:World} {A:Around} {E:Value→Shared→Prop} {s:Shared}
structure Ordered (prog:Program) (w:World) (h:Heap) (vs:List Value):Prop where
 keys:∀ v∈vs,∃ c x ks,v=.ref c∧IsTupleKey (aA prog w) h (.inr x :: ks) c
 lt:∀ c c' ks ms,.ref c∈vs→.ref c'∈vs→IsTupleKey (aA prog w) h ks c→IsTupleKey (aA prog w) h ms c'→ltK ks ms=true
theorem Ordered.move (O:Ordered prog w h vs) (p:ws.Perm vs) (k:∀ ks c,IsTupleKey (aA prog w) h ks c→IsTupleKey (aA prog w) h' ks c):Ordered prog w h' ws where
 keys:=fun v m=>let ⟨c,x,ks,e,q⟩:=O.keys v (p.mem_iff.mp m); ⟨c,x,ks,e,k _ _ q⟩
 lt:=fun c c' ks ms m m' q q'=>by
  obtain ⟨_,x,ks',e,z⟩:=O.keys _ (p.mem_iff.mp m)
  obtain ⟨_,x',ks'',e',z'⟩:=O.keys _ (p.mem_iff.mp m')
  (injection e with e; subst e); (injection e' with e'; subst e')
  rw [q.inj (k _ _ z),q'.inj (k _ _ z')]
  exact O.lt c c' _ _ (p.mem_iff.mp m) (p.mem_iff.mp m') z z'
theorem kM {vs:List Value} {a:Array Keyed} (p:a.Perm (pairsOf vs)):(a.map (·.2)).toList.Perm vs:=by
 rw [Array.toList_map]
 refine ((Array.perm_iff_toList_perm.mp p).map _).trans (.of_eq ?_)
 rw [pairsOf_toList,List.map_snd_zip (Nat.le_refl _)]
theorem rB (O:Ordered prog w s.heap vs):vR (model prog w) A s (dM b) (cT prog w s.heap) (pairsOf vs):=fun x y hx hy E Q h=>by
 rw [pairsOf_toList] at hx hy
 have mx:=(mem_zip_self hx).2
 have my:=(mem_zip_self hy).2
 refine aq fun Z3 kZ3=>?_
 obtain ⟨c,t,ks,e,k⟩:=O.keys _ mx
 obtain ⟨c',t',ks',e',k'⟩:=O.keys _ my
 refine kZ3 ?_
 have ex:rI (cT prog w s.heap) x=.inr t :: ks:=by unfold rI; exact e.symm▸congrArg (Option.getD · []) (eJ k)
 have ey:rI (cT prog w s.heap) y=.inr t' :: ks':=by unfold rI; rw [e']; exact congrArg (Option.getD · []) (eJ k')
 rw [ex,ey] at h
 rw [e] at mx ⊢
 rw [e'] at my ⊢
 exact zv k k' (O.lt _ _ _ _ mx my k k') h
def fQ (prog:Program) (w:World) (h:Heap) (vs:List Value):Prop:=vs.Pairwise fun x y=>bJ ((fZ prog w h y).getD []) ((fZ prog w h x).getD [])=false
theorem ui (p:xs.Perm (pairsOf vs)) (hs:SortedToK (cT prog w h) xs (pairsOf vs).size):fQ prog w h (xs.map (·.2)).toList:=by
 have self:∀ x∈xs.toList,x.1=x.2:=fun x m=>by
  have:=(Array.perm_iff_toList_perm.mp p).mem_iff.mp m
  rw [pairsOf_toList] at this
  exact (mem_zip_self this).1
 refine List.pairwise_iff_getElem.mpr fun i j hi hj hij=>?_
 rw [Array.toList_map,zA4,zB3] at hi hj
 have q:=hs i j (Nat.le_of_lt hij) (p.size_eq▸hj)
 have key:∀ (i:Nat) (hi:i < xs.size) (hi':i < (xs.map (·.2)).toList.length),KK (cT prog w h) xs i=(fZ prog w h (xs.map (·.2)).toList[i]).getD []:=fun i hi hi'=>by
  rw [v0 (getElem?_pos xs i hi)]
  unfold rI
  rw [self _ (by simp)]
  simp only [Array.toList_map,List.getElem_map,Array.getElem_toList]
  rfl
 rw [← key i hi,← key j hj]
 exact q
theorem Ordered.same (O:Ordered prog w h vs) (k:∀ ks c,IsTupleKey (aA prog w) h ks c→IsTupleKey (aA prog w) h' ks c):∀ v∈vs,fZ prog w h' v=fZ prog w h v:=fun v m=>by
 obtain ⟨c,x,ks,rfl,q⟩:=O.keys v m
 rw [eJ q,eJ (k _ _ q)]
theorem fQ.congr (r:fQ prog w h' vs) (e:∀ v∈vs,fZ prog w h' v=fZ prog w h v):fQ prog w h vs:=List.Pairwise.imp_of_mem (fun a b z=>by exact (e _ a)▸(e _ b)▸z) r
theorem sD (ho:s.heap.get? a=some (seqObj "list" vs.toArray n)) (O:Ordered prog w s.heap vs) (zl:vs.length≤sizeLine) (hz:vs.length < 128)
  (h:∀ out:Array Value,out.toList.Perm vs→(vs.length < 64→fQ prog w s.heap out.toList)→P (.done (.ret .none)) { s with heap:=sortedHeap s.heap a vs out }):wpAny (model prog w) A (Builtin.«list.sort» ⟨[.ref a],[]⟩) P E s:=by
 rw [list_sort_plain]
 have ha:a < s.heap.objs.size:=Heap.lt_size ho
 refine zC1 (listItems_at ho rfl ?_)
 refine zC1 (listUpdate_at ho rfl ?_ (by rw [List.size_toArray]; exact zl))
 obtain ⟨e1,ho1⟩:∃ e1,(s.heap.update a (Obj.mapSeq fun _=>#[])).get? a=some (seqObj "list" #[] e1):=⟨_,get?_update_seq ho (fun _=>#[])⟩
 refine zC1 (seqEpoch_at ho1 rfl ?_)
 refine zC1 (wpAny_newTuple ?_ zl)
 refine zC1 (wpAny_newList ?_)
 refine wpAny_holding ?_
 have oth:∀ b o,b≠a→s.heap.get? b=some o→(((s.heap.update a (Obj.mapSeq fun _=>#[])).push (seqObj "tuple" vs.toArray 0)).push (seqObj "list" #[] 0)).get? b=some o:=fun b o q e=>Heap.get?_push_of_some _ (Heap.get?_push_of_some _ ((Heap.get?_update_other _ _ (Ne.symm q)).trans e))
 have ho6:(((s.heap.update a (Obj.mapSeq fun _=>#[])).push (seqObj "tuple" vs.toArray 0)).push (seqObj "list" #[] 0)).get? a=some (seqObj "list" #[] e1):=Heap.get?_push_of_some _ (Heap.get?_push_of_some _ ho1)
 have k6:∀ ks c,IsTupleKey (aA prog w) s.heap ks c→IsTupleKey (aA prog w) (((s.heap.update a (Obj.mapSeq fun _=>#[])).push (seqObj "tuple" vs.toArray 0)).push (seqObj "list" #[] 0)) ks c:=fun ks c k=>by
  obtain ⟨o,it,n',hc,hcl,r⟩:=k
  exact ⟨o,it,n',oth c o (fun q=>by subst q; replace hc:=ho▸hc; (injection hc with hc; subst hc); exact absurd (Value.type.inj hcl) (by decide)) hc,hcl,r⟩
 have O6:=O.move (.refl _) k6
 have same:=O.same k6
 refine (?_:wpAny (model prog w) A _ P E { s with heap:=((s.heap.update a (Obj.mapSeq fun _=>#[])).push (seqObj "tuple" vs.toArray 0)).push (seqObj "list" #[] 0) })
 dsimp only
 have fin:∀ st':SortSt,(arrOf st').Perm (pairsOf vs)→failedOf st'=none→(vs.length < 64→SortedToK (cT prog w (((s.heap.update a (Obj.mapSeq fun _=>#[])).push (seqObj "tuple" vs.toArray 0)).push (seqObj "list" #[] 0))) (arrOf st') (pairsOf vs).size)→wpAny (model prog w) A (do
   let touched:=(← seqEpoch a) != e1
   Builtin.List.listUpdate (.ref a) fun _=>(arrOf st').map (·.2)
   if let some e:=failedOf st' then rule "list.sort.comparison-raised"; throw e
   if touched then rule "list.sort.modified"; raiseError "ValueError" "list modified during sort"
   ret .none) P E { s with heap:=((s.heap.update a (Obj.mapSeq fun _=>#[])).push (seqObj "tuple" vs.toArray 0)).push (seqObj "list" #[] 0) }:=fun st' hp hf hs=>by
  refine zC1 (seqEpoch_at ho6 rfl ?_)
  refine zC1 (listUpdate_at ho6 rfl ?_ (hsz2:=Nat.le_succ_of_le (by refine zB1 (zB2 ?_) zl; rw [Array.size_map,hp.size_eq,pairsOf_size])))
  refine hf.symm▸?_
  simp only [bne_self_eq_false,Bool.false_eq_true,if_false]
  exact zC2 (h _ (kM hp) fun q=>(ui hp (hs q)).congr fun v m=>same v ((kM hp).mem_iff.mp m))
 by_cases h2:vs.toArray.size < 2
 ·rw [if_pos h2,if_pos h2]
  refine zC1 (zC2 ?_)
  rw [StateT.run_pure]
  refine zC1 (zC2 ?_)
  refine fin (SortSt.mk' general' (vs.toArray.zip vs.toArray) #[] 7 none) (Array.Perm.refl _) rfl fun _ i j hij hj=>?_
  rw [pairsOf_size,← List.size_toArray] at hj
  obtain rfl:=Nat.le_zero.mp (Nat.le_of_lt_succ (Nat.lt_of_lt_of_le hj (Nat.le_of_lt_succ h2)))
  obtain rfl:=Nat.le_zero.mp hij
  exact KeyOrd.kle_refl _
 ·rw [if_neg h2,if_neg h2]
  refine zC1 (uF (fun v m=>O6.keys v m) fun b=>?_)
  have h2':2≤(pairsOf vs).size:=by rw [pairsOf_size]; simpa using h2
  by_cases h64:vs.length < 64
  ·refine zC1 (wpAny_mono (lm (k₀:=dM b) (κ:=cT prog w _) (a₀:=pairsOf vs) (st:=SortSt.mk' (dM b) (vs.toArray.zip vs.toArray) #[] 7 none) (Q:=fun _ st'=>(arrOf st').Perm (pairsOf vs)∧failedOf st'=none∧SortedToK (cT prog w _) (arrOf st') (pairsOf vs).size) (rB O6) ⟨Array.Perm.refl _,rfl,rfl,rfl⟩ h2' (.inl (by rw [pairsOf_size]; exact h64)) fun st' a1 a2 a3=>⟨a1,a2,a3⟩) ?_ fun _ _ e=>e)
   rintro ⟨⟨⟩,st'⟩ s' ⟨rfl,hp,hf,hs⟩
   exact fin st' hp hf fun _=>hs
  ·refine zC1 (wpAny_mono (Pm.wpS_sortRunsP (k₀:=dM b) (a₀:=pairsOf vs) (st:=SortSt.mk' (dM b) (vs.toArray.zip vs.toArray) #[] 7 none) (Q:=fun _ st'=>(arrOf st').Perm (pairsOf vs)∧failedOf st'=none) (fun x y hx hy E Q h=>rB (b:=b) O6 x y hx hy E Q (h _)) ⟨Array.Perm.refl _,rfl,rfl,rfl⟩ h2' (by rw [pairsOf_size]; exact hz) fun st' a1 a2=>⟨a1,a2⟩) ?_ fun _ _ e=>e)
   rintro ⟨⟨⟩,st'⟩ s' ⟨rfl,hp,hf⟩
   exact fin st' hp hf fun q=>absurd q h64
end
section
variable {prog:Program} {w:World} {A:Around} {E:Value→Shared→Prop} {s:Shared} {S:Addr} {es:Array (Int×Value)} {L:Bool}
theorem pd (hh:A.handled=none) (hL:L = !w.params.followText "set-order") (T:TS s.heap S es L) (O:Ordered prog w s.heap (es.toList.map (·.2))) (hz:es.size < 128)
  (h:∀ (out:Array Value) h' d tk b e,out.toList.Perm (es.toList.map (·.2))→(es.size < 64→fQ prog w s.heap out.toList)→aI s.heap h'→s.heap.get? b=none→lj s.heap (.ref b)→h'.get? b=some (seqObj "list" out e)→Q (.ref b) { s with heap:=h',drawn:=d,toks:=tk }):wpAny (model prog w) A (call (.builtin "sorted") [.ref S]) Q E s:=by
 refine Calls.call_function_entry kind_sorted plain_sorted entry_sorted (args_sorted1 _) ?_
 unfold Builtin.«sorted»
 refine wpAny_bind (m:=checkCount "sorted" 1 1 _) (zC2 ?_)
 refine zC1 (nq hh hL T fun vs h1 d tk p k=>?_)
 have vl':vs.length=es.size:=by rw [p.length_eq,zA4,zB3]
 have vl:vs.length < 128:=vl'.symm▸hz
 refine zC1 (wpAny_newList ?_ (zB1 (Nat.le_of_lt vl) (by decide)))
 have k2:aI s.heap (h1.push (seqObj "list" vs.toArray 0)):=k.trans (aw _ _)
 have hoL:(h1.push (seqObj "list" vs.toArray 0)).get? h1.objs.size=some (seqObj "list" vs.toArray 0):=Heap.get?_push_size _ rfl
 have kk:∀ ks c,IsTupleKey (aA prog w) s.heap ks c→IsTupleKey (aA prog w) (h1.push (seqObj "list" vs.toArray 0)) ks c:=fun ks c Zq1=>Zq1.elim fun o Zq2=>Zq2.elim fun vs Zq3=>Zq3.elim fun n Zq4=>Zq4.elim fun ho r=>⟨o,vs,n,k2 _ _ ho,r⟩
 have O2:=O.move p kk
 refine zC1 (wpAny_holding (wpAny_call_entry slot_list_sort ⟨_,hoL,rfl⟩ entry_list_sort (sD hoL O2 (zB1 (Nat.le_of_lt vl) (by decide)) vl fun out po ro=>⟨_,rfl,?_⟩) (args_list_sort _)))
 have n0:s.heap.get? h1.objs.size=none:=aM k.live (ak _)
 obtain ⟨e,he⟩:=sortedHeap_at (out:=out) hoL
 refine zC2 ⟨_,rfl,h out _ d tk _ e (po.trans p) (fun q=>(ro (vl'.symm▸q)).congr fun v m=>O.same kk v ((po.trans p).mem_iff.mp m)) (fun b o q=>?_) n0 (fun a b e Zq5=>Zq5.elim fun o q=>by (injection e with e; subst e); exact Heap.lt_size (k b o q)) he⟩
 rw [sortedHeap_old (fun q'=>by subst q'; rw [n0] at q; (injection q; done)) (Heap.lt_size (k2 _ _ q))]
 exact k2 _ _ q
end
section
variable {Φ:Ct} [Hm Φ.fx] {s:Shared} {v u:Value} {x y z:V} {d:DV}
theorem uh (hr:Φ.rps h vs r) (hw:∀ x∈r,jR x=true) (R:fQ Φ.fx.g.prog Φ.fx.g.w h vs):km r:=by
 have key:∀ (i:Nat) (hi:i < r.length) (hi':i < vs.length),(fZ Φ.fx.g.prog Φ.fx.g.w h vs[i]).getD []=aO r[i]:=fun i hi hi'=>by
  obtain ⟨v,ev,rv⟩:=hr.get (List.getElem?_eq_getElem hi)
  (injection (List.getElem?_eq_getElem hi').symm.trans ev with Xq; subst Xq)
  obtain ⟨c,e,k⟩:=gm (hw _ (List.getElem_mem hi)) rv
  rw [e,eJ k]; rfl
 refine List.pairwise_iff_getElem.mpr fun i j hi hj hij=>?_
 have hl:=hr.length
 rw [← key i hi (hl▸hi),← key j hj (hl▸hj)]
 exact List.pairwise_iff_getElem.mp R i j (hl▸hi) (hl▸hj) hij
theorem rU {f:Str} {id:String} {fp pos sp spos:Pos} {e:Expr} {P:Shared→Value→Shared→Prop} {dd:V→Prop} (hx:bz Φ.fx.env.scope.names f=true) (hF:bH.lookup f=some (.builtin id)) (hs:bz Φ.fx.env.scope.names "set"=true) (hp:ao e=true) (h:Ev Φ (eval e Φ.fx.env) d)
  (st:∀ s v x E,Inv Φ s→Φ.rp s.heap v x→dd x→wpAny (model Φ.fx.g.prog Φ.fx.g.w) Φ.fx.A (call (.type "set") [v]) (fun u s₁=>wpAny (model Φ.fx.g.prog Φ.fx.g.w) Φ.fx.A (call (.builtin id) [u]) (P s) E s₁) E s) (hP:∀ s s₁ v s',aF s.heap s₁.heap→P s₁ v s'→P s v s') (hd:d dd) (I:Inv Φ s) :
  Φ.wp (eval (.Call (.Name f fp) [.Call (.Name "set" sp) [e] [] spos] [] pos) Φ.fx.env) (P s) s:=fun E=>by
 refine (?_:wpAny _ _ (eval (.Name f fp) Φ.fx.env >>= fun F=>callWith pos F [] (backTo pos (starEach [.Call (.Name "set" sp) [e] [] spos] Φ.fx.env)) []) _ _ s)
 refine zC1 (bF I hx hF ?_ E)
 refine callWith_builtin rfl (Calls.evalArgs_plain ?_)
 refine (?_:wpAny _ _ (eval (.Call (.Name "set" sp) [e] [] spos) Φ.fx.env >>= fun v=>holding [v] (pure []) >>= fun vs=>pure (v :: vs)) _ _ s)
 refine zC1 ?_
 refine (?_:wpAny _ _ (eval (.Name "set" sp) Φ.fx.env >>= fun F=>callWith spos F [] (backTo spos (starEach [e] Φ.fx.env)) []) _ _ s)
 refine zC1 (bF (v:=.type "set") I hs rfl ?_ E)
 refine PySem.callWith_type (by rw [aN hp]; rfl) ?_
 refine cW (qs:=[(e,d)]) (K:=fun xs=>okK (one xs some) dd) (fun q m=>by obtain rfl:=zA6 m; exact ⟨hp,h⟩) hd I fun vs xs s₁ I₁ k₁ hx rs=>ag hx fun x e hx=>?_
 refine eH (C:=fun vs=>wpAny _ _ (call (.type "set") ([]++vs) []) _ _ s₁) e rs fun v x' r e=>?_
 cases e
 exact wpAny_mono (st s₁ _ x E I₁ r hx) (fun u s₂ p=>zC1 (wpAny_holding (zC2 (zC2 (wpAny_mono p (fun _ _ q=>hP _ _ _ _ k₁ q) fun _ _ z=>z))))) fun _ _ z=>z
theorem lB {fp pos sp spos:Pos} {e:Expr} (hx:bz Φ.fx.env.scope.names "sorted"=true) (hs:bz Φ.fx.env.scope.names "set"=true) (hp:ao e=true) (h:Ev Φ (eval e Φ.fx.env) d) :
  EvN Φ (eval (.Call (.Name "sorted" fp) [.Call (.Name "set" sp) [e] [] spos] [] pos) Φ.fx.env) (fun K=>d fun x=>okK (hM x some) fun l=>(l.all jR&&decide (l.length≤ai))=true∧(∀ x∈l,∀ y∈l,ltK (aO x) (aO y)=true)∧(∃ m:List V,m.length < 128∧∀ x∈l,x∈m)∧∀ r:List V,r.Nodup→(∀ y,y∈r ↔ y∈l)→((∃ m:List V,m.length < 64∧∀ x∈l,x∈m)→km r)→K (.list r)):=fun K s hd I=>by
 refine rU (P:=fun s=>hW Φ s K) hx rfl hs hp h (fun s v x E I r hx=>?_) (fun _ _ _ _ k p=>p.lift k) hd I
 refine ag hx fun l e Zq6=>Zq6.elim fun q Zq7=>Zq7.elim fun hlt Zq8=>Zq8.elim fun Zq9 hK=>Zq9.elim fun few Zq10=>Zq10.elim fun hfl hfw=>?_
 refine cz (C:=fun x=>Φ.rp s.heap v x→wpAny _ _ (call (.type "set") [v]) _ E s) e (fun l' e r=>?_) r
 cases e
 have q:=zA2 q
 have hw:∀ x∈l,jR x=true:=List.all_eq_true.mp q.1
 refine r.list_elim fun a o vs n _ ha hc hd hl=>?_
 have hu:=I.room
 have hsz:=aP hl
 refine jL (T:="list") (I.ok.hand Hm.no) hu (fun s' k=>⟨o,k _ _ ha,hc.1⟩) PySem.F.sub_list_set PySem.F.sub_list_frozenset (by decide) (kX ⟨o,ha,hc.1,n,hd⟩) (pQ hl hw hfw (Nat.lt_of_lt_of_le hfl (by decide))) fun h' tk hZ k=>?_
 obtain ⟨es,r,T,he,hr,hnd,hm⟩:=hZ
 rw [hsz,List.take_length] at hm
 have O:Ordered Φ.fx.g.prog Φ.fx.g.w h' (es.toList.map (·.2)):=by
  have kk:∀ y∈r,∀ v,Φ.rp s.heap v y→∃ c x ks,v=.ref c∧aO y=.inr x :: ks∧IsTupleKey (aA Φ.fx.g.prog Φ.fx.g.w) h' (.inr x :: ks) c:=fun y my v ry=>by
   have hy:=hw y ((hm y).mp my)
   obtain ⟨c,e,z⟩:=gm hy ry
   obtain ⟨x,ks,eh⟩:=kS hy
   exact ⟨c,x,ks,e,eh,eh▸eI k z⟩
  refine ⟨fun v m=>?_,fun c c' ks ms m m' q q'=>?_⟩
  ·obtain ⟨y,my,ry⟩:=hr.of_mem m
   obtain ⟨c,x,ks,e,_,z⟩:=kk y my v ry
   exact ⟨c,x,ks,e,z⟩
  ·obtain ⟨y,my,ry⟩:=hr.of_mem m
   obtain ⟨y',my',ry'⟩:=hr.of_mem m'
   obtain ⟨_,x,ks',e,eh,z⟩:=kk y my _ ry
   obtain ⟨_,x',ms',e',eh',z'⟩:=kk y' my' _ ry'
   (injection e with e; subst e); (injection e' with e'; subst e')
   rw [q.inj z,q'.inj z',← eh,← eh']
   exact hlt y ((hm y).mp my) y' ((hm y').mp my')
 have few':∀ {few:List V} {n:Nat},few.length < n→(∀ x∈l,x∈few)→es.size < n:=fun {few} n hfl hfw=>by
  rw [nJ hr]; exact Nat.lt_of_le_of_lt (hnd.length_le_of_subset (l₂:=few) fun y q=>hfw y ((hm y).mp q)) hfl
 refine pd (s:={ s with heap:=h',toks:=tk }) (I.ok.hand Hm.no) rfl T O (few' hfl hfw) fun out h2 dr tk2 b e po ro k2 hb hnv ho=>?_
 obtain ⟨R,pR,rR⟩:=RpAll.perm po hr
 have nb:s.heap.get? b=none:=aM k.live hb
 have hRw:∀ x∈R,jR x=true:=fun y q=>hw y ((hm y).mp (pR.mem_iff.mp q))
 refine ⟨⟨⟨I.base.stays.trans (k.trans k2),I.base.os,I.base.gens⟩,(k.trans k2).keeps,.list R,hK R (pR.nodup_iff.mpr hnd) (fun y=>pR.mem_iff.trans (hm y)) (fun Zq11=>Zq11.elim fun m Zq12=>Zq12.elim fun q1 q2=>uh (rR.keep k.keeps) hRw (ro (few' q1 q2))),.list (fun q=>?_) ho ⟨rfl,rfl⟩ rfl (rR.keep (k.trans k2).keeps)⟩,hnv.le fun b l=>k.keeps.live l⟩
 obtain ⟨o',e'⟩:=I.badLive q
 rw [nb] at e'; (injection e'; done)
theorem tm {fp pos sp spos:Pos} {e:Expr} (hx:bz Φ.fx.env.scope.names "len"=true) (hs:bz Φ.fx.env.scope.names "set"=true) (hp:ao e=true) (h:Ev Φ (eval e Φ.fx.env) d) :
  Ev Φ (eval (.Call (.Name "len" fp) [.Call (.Name "set" sp) [e] [] spos] [] pos) Φ.fx.env) (fun K=>d fun x=>okK ((vg x).map fun n=>.int n) K):=fun K s hd I=>by
 refine rU (P:=fun s=>Post Φ Φ.rp s K) hx rfl hs hp h (fun s v x E I r hx=>?_) (fun _ _ _ _ k p=>p.lift k) hd I
 refine ag hx fun z e kz=>map_elim (C:=fun z=>K z→_) e (fun n e kz=>?_) kz
 have fin:∀ {Kd:Type} [DecidableEq Kd] (kd:KeyKind Φ.fx.g.prog Φ.fx.g.w Kd) (S:Kd→Bool) (h':Heap) (tk:Nat),h'.SetOf kd s.heap.objs.size S n→aI s.heap h'→wpAny (model Φ.fx.g.prog Φ.fx.g.w) Φ.fx.A (call (.builtin "len") [.ref s.heap.objs.size]) (Post Φ Φ.rp s K) E { s with heap:=h',toks:=tk }:=fun kd S h' tk hS k=>
  wU (s:={ s with heap:=h',toks:=tk }) hS fun t tk'=>⟨⟨I.base.stays.trans k,I.base.os,I.base.gens⟩,k.keeps,_,kz,.int _ _⟩
 cases x with
 | str t=>
  refine bG e fun q e=>?_
  (injection e with e; subst e)
  refine r.str_elim fun tk=>?_
  have F:=gZ (knd:=PySem.strKind Φ.fx.g.prog Φ.fx.g.w) (h₀:=s.heap) (S:=s.heap.objs.size) (P:=SignAt t) (ks:=t.cps.toList.map fun c=>(⟨#[c]⟩:Str)) (fun i v ⟨c,u,hc,e⟩=>⟨⟨#[c]⟩,by rw [List.getElem?_map,Array.getElem?_toList,hc]; rfl,by subst e; simp [PySem.strKind,Value.isStrOf],by subst e; rfl⟩) (List.Pairwise.map _ (fun a b ne e=>ne (by injection e with e; exact (zA5 (congrArg Array.toList e)).1)) q.1) (by rw [zA4,zB3]; unfold scanBound; exact Nat.lt_of_le_of_lt q.2 (by decide))
  rw [zA4,zB3] at F
  exact jL (T:="str") (I.ok.hand Hm.no) I.room (fun s' k=>typeIs_str _ _ _) (by rw [isSubtype_type]; kernel_rfl) (by rw [isSubtype_type]; kernel_rfl) (by decide) uM F fun h' tk hZ k=>fin (PySem.strKind _ _) _ h' tk hZ k
 | list l=>
  obtain ⟨is,ei,e⟩:=Option.bind_eq_some_iff.mp e
  refine bG e fun q e=>?_
  (injection e with e; subst e)
  refine r.list_elim fun a o vs n _ ha hc hd hl=>?_
  have hi:=i9 ei hl
  have hli:vs.size=is.length:=by rw [← zB3,hi.nums.symm,zA4]
  have F:=gZ (knd:=intKind Φ.fx.g.prog Φ.fx.g.w) (h₀:=s.heap) (S:=s.heap.objs.size) (P:=fun i v=>vs[i]?=some v) (ks:=is) (fun i v e=>?_) q.1 (by unfold scanBound; exact Nat.lt_of_le_of_lt q.2 (by decide))
  ·rw [← hli] at F
   exact jL (T:="list") (I.ok.hand Hm.no) I.room (fun s' k=>⟨o,k _ _ ha,hc.1⟩) PySem.F.sub_list_set PySem.F.sub_list_frozenset (by decide) (kX ⟨o,ha,hc.1,n,hd⟩) F fun h' tk hZ k=>fin (intKind _ _) _ h' tk (hli▸hZ) k
  ·obtain ⟨t,et⟩:=hi.int_at i v (Array.getElem?_toList▸e)
   have hlt:i < is.length:=hli▸(Array.getElem?_eq_some_iff.mp e).1
   refine ⟨is.getD i 0,by rw [List.getElem?_eq_getElem hlt]; simp [hlt],?_,by subst et; rfl⟩
   subst et; simp [intKind,Value.isInt]
 | _=>(injection e; done)
end
noncomputable def bL (fx:Fx):Sx:=⟨fx.env.scope.names,fx.ρ,fx.nf,fx.ns,fx.hm,fx.nw⟩
def ah (fx:Fx) (p:Pz) (x:Expr) (d:D):Prop:=match p with
 | .val=>∀ oa G,Ev ⟨fx,oa,G⟩ (eval x fx.env) (d G)
 | .test=>∀ oa G,EvT ⟨fx,oa,G⟩ (isTrue x fx.env (eval x fx.env)) (tst (d G))
 | .new=>∀ oa G,EvN ⟨fx,oa,G⟩ (eval x fx.env) (d G)
 | .src st T=>∀ oa G,eW ⟨fx,oa,G⟩ T st x (fun K=>d G fun v=>okK (bM v) K)
 | .asg y py sp=>∀ k,TgtOk fx.ρ fx.env y k→ExB fx (exec (.Assign [.Name y py] x sp) fx.env) (fun G K=>d G fun v=>K none (G.set k (.v v)))
def d6 (g:Gl) (n:Nat) (t:Kid) (d:D):Prop:=∀ fx,fx.g=g→fx.d=n→bL fx=t.1→ah fx t.2.1 t.2.2 d
inductive Kids (g:Gl) (n:Nat):List Kid→List D→Prop
 | nil:Kids g n [] []
 | cons {t:Kid} {ts:List Kid} {d:D} {ds:List D}:d6 g n t d→Kids g n ts ds→Kids g n (t :: ts) (d :: ds)
section
variable {g:Gl} {n:Nat} {ds:List D} {C:List D→Prop} {t u w:Kid}
@[elab_as_elim] theorem Kids.n0 (h:Kids g n [] ds) (k:C []):C ds:=by cases h; exact k
@[elab_as_elim] theorem Kids.nc {ts:List Kid} (h:Kids g n (t :: ts) ds) (k:∀ d ds,d6 g n t d→Kids g n ts ds→C (d :: ds)):C ds:=by cases h with | cons a b=>exact k _ _ a b
@[elab_as_elim] theorem Kids.n1 (h:Kids g n [t] ds) (k:∀ d,d6 g n t d→C [d]):C ds:=h.nc fun d ds a b=>b.n0 (k d a)
@[elab_as_elim] theorem Kids.n2 (h:Kids g n [t,u] ds) (k:∀ d e,d6 g n t d→d6 g n u e→C [d,e]):C ds:=h.nc fun d ds a b=>b.n1 fun e c=>k d e a c
@[elab_as_elim] theorem Kids.n3 (h:Kids g n [t,u,w] ds) (k:∀ d e f,d6 g n t d→d6 g n u e→d6 g n w f→C [d,e,f]):C ds:=h.nc fun d ds a b=>b.n2 fun e f c q=>k d e f a c q
theorem Kids.pairs:∀ {ds:List D},Kids g n (xs.map fun x=>(X,p,x)) ds→∃ qs:List (Expr×D),qs.map Prod.fst=xs∧qs.map Prod.snd=ds∧∀ q∈qs,d6 g n (X,p,q.1) q.2:=by
 induction xs with
 | nil=>intro ds h; exact h.n0 ⟨[],rfl,rfl,fun _ m=>nM m⟩
 | cons x xs ih=>
  intro ds h
  refine h.nc fun d ds a b=>?_
  obtain ⟨qs,e1,e2,hq⟩:=ih b
  exact ⟨(x,d) :: qs,congrArg (x :: ·) e1,congrArg (d :: ·) e2,fun q m=>by cases m with | head=>exact a | tail _ m=>exact hq q m⟩
end
section
variable {g:Gl} {n:Nat} {ds:List D} {fx:Fx} {xs:List Expr}
theorem Kids.vals (h:Kids g n (xs.map fun x=>(bL fx,.val,x)) ds) (hg:fx.g=g) (hn:fx.d=n):∃ qs:Gs→List (Expr×DV),(∀ G,(qs G).map Prod.fst=xs∧(qs G).map Prod.snd=ds.map (· G))∧∀ oa G,∀ q∈qs G,q.1∈xs∧bi ⟨fx,oa,G⟩ q:=by
 obtain ⟨qs,rfl,rfl,hq⟩:=h.pairs
 refine ⟨fun G=>qs.map fun q=>(q.1,q.2 G),fun G=>⟨by rw [List.map_map]; rfl,by rw [List.map_map,List.map_map]; rfl⟩,fun oa G q m=>?_⟩
 obtain ⟨q',m',rfl⟩:=zA7 m
 exact ⟨List.mem_map.mpr ⟨q',m',rfl⟩,hq q' m' fx hg hn rfl oa G⟩
theorem Kids.items (h:Kids g n (xs.map fun x=>(bL fx,.val,x)) ds) (hg:fx.g=g) (hn:fx.d=n) (hp:cq xs=true):∃ qs:Gs→List (Expr×DV),(∀ G,(qs G).map Prod.fst=xs∧(qs G).map Prod.snd=ds.map (· G))∧∀ oa G,∀ q∈qs G,ao q.1=true∧bi ⟨fx,oa,G⟩ q:=by
 obtain ⟨qs,h1,h2⟩:=h.vals hg hn
 exact ⟨qs,h1,fun oa G q m=>⟨List.all_eq_true.mp hp _ (h2 oa G q m).1,(h2 oa G q m).2⟩⟩
theorem Kids.tests (h:Kids g n (xs.map fun x=>(bL fx,.test,x)) ds) (hg:fx.g=g) (hn:fx.d=n):∃ qs:Gs→List (Expr×DV),(∀ G,(qs G).map Prod.fst=xs∧(qs G).map Prod.snd=ds.map (· G))∧∀ oa G,∀ q∈qs G,EvT ⟨fx,oa,G⟩ (isTrue q.1 fx.env (eval q.1 fx.env)) (tst q.2):=by
 obtain ⟨qs,rfl,rfl,hq⟩:=h.pairs
 refine ⟨fun G=>qs.map fun q=>(q.1,q.2 G),fun G=>⟨by rw [List.map_map]; rfl,by rw [List.map_map,List.map_map]; rfl⟩,fun oa G q m=>?_⟩
 obtain ⟨q',m',rfl⟩:=zA7 m
 exact hq q' m' fx hg hn rfl oa G
theorem Kids.node {f:List Expr→Expr} {op:List V→(V→Prop)→Prop} (h:Kids g n (xs.map fun x=>(bL fx,.val,x)) ds) (hg:fx.g=g) (hn:fx.d=n) (hp:cq xs=true)
  (k:∀ oa G (qs:List (Expr×DV)),(∀ q∈qs,ao q.1=true∧bi ⟨fx,oa,G⟩ q)→EvC ⟨fx,oa,G⟩ nb (eval (f (qs.map Prod.fst)) fx.env) (fun K=>bo (qs.map Prod.snd) fun xs=>op xs K)):∀ oa G,EvC ⟨fx,oa,G⟩ nb (eval (f xs) fx.env) (fun K=>bY ds G fun xs=>op xs K):=fun oa G=>by
 obtain ⟨qs,h1,h2⟩:=h.items hg hn hp
 have q:=k oa G (qs G) (h2 oa G)
 rw [(h1 G).1,(h1 G).2] at q
 rw [jG]
 exact q
end
theorem bu {f:Str×Pos→Bool} {C:Expr→Prop} (h:(bf x).any f=true) (k:∀ n p,f (n,p)=true→C (.Name n p)):C x:=
 if hi:x.ctorIdx=23 then Expr.Name.elim (motive_1:=fun x=>(bf x).any f=true→C x) x hi (fun n p h=>k n p h) h else by
  unfold bf at h; rw [dif_neg hi] at h; (injection h; done)
theorem vE {f:List Expr×Nat×Pos→Bool} {C:Expr→Prop} (h:(oY x).any f=true) (k:∀ xs k p,f (xs,k,p)=true→C (.Tuple xs k p)):C x:=
 if hi:x.ctorIdx=25 then Expr.Tuple.elim (motive_1:=fun x=>(oY x).any f=true→C x) x hi (fun xs j p h=>k xs j p h) h else by
  unfold oY at h; rw [dif_neg hi] at h; (injection h; done)
theorem BU {f:List Expr×Pos→Bool} {C:Expr→Prop} (h:(wn x).any f=true) (k:∀ xs p,f (xs,p)=true→C (.List xs p)):C x:=
 if hi:x.ctorIdx=24 then Expr.List.elim (motive_1:=fun x=>(wn x).any f=true→C x) x hi (fun xs p h=>k xs p h) h else by
  unfold wn at h; rw [dif_neg hi] at h; (injection h; done)
theorem x3 {f:Expr×Expr×Pos→Bool} {C:Expr→Prop} (h:(tM x).any f=true) (k:∀ v s p,f (v,s,p)=true→C (.Subscript v s p)):C x:=
 if hi:x.ctorIdx=21 then Expr.Subscript.elim (motive_1:=fun x=>(tM x).any f=true→C x) x hi (fun v s p h=>k v s p h) h else by
  unfold tM at h; rw [dif_neg hi] at h; (injection h; done)
theorem Cj {f:Option Expr×Option Expr×Option Expr×Pos→Bool} {C:Expr→Prop} (h:(xK x).any f=true) (k:∀ l u st p,f (l,u,st,p)=true→C (.Slice l u st p)):C x:=
 if hi:x.ctorIdx=26 then Expr.Slice.elim (motive_1:=fun x=>(xK x).any f=true→C x) x hi (fun l u st p h=>k l u st p h) h else by
  unfold xK at h; rw [dif_neg hi] at h; (injection h; done)
theorem tC {f:Expr×List Expr×List Keyword×Pos→Bool} {C:Expr→Prop} (h:(iG x).any f=true) (k:∀ u xs ks p,f (u,xs,ks,p)=true→C (.Call u xs ks p)):C x:=
 if hi:x.ctorIdx=16 then Expr.Call.elim (motive_1:=fun x=>(iG x).any f=true→C x) x hi (fun u xs ks p h=>k u xs ks p h) h else by
  unfold iG at h; rw [dif_neg hi] at h; (injection h; done)
theorem tD {f:Expr×Str×Pos→Bool} {C:Expr→Prop} (h:(kg x).any f=true) (k:∀ o n q,f (o,n,q)=true→C (.Attribute o n q)):C x:=
 if hi:x.ctorIdx=20 then Expr.Attribute.elim (motive_1:=fun x=>(kg x).any f=true→C x) x hi (fun o n q h=>k o n q h) h else by
  unfold kg at h; rw [dif_neg hi] at h; (injection h; done)
theorem ya {f:List (Option Expr)×List Expr×Pos→Bool} {C:Expr→Prop} (h:(oZ x).any f=true) (k:∀ ks vs p,f (ks,vs,p)=true→C (.Dict ks vs p)):C x:=
 if hi:x.ctorIdx=6 then Expr.Dict.elim (motive_1:=fun x=>(oZ x).any f=true→C x) x hi (fun ks vs p h=>k ks vs p h) h else by
  unfold oZ at h; rw [dif_neg hi] at h; (injection h; done)
theorem Ev.evC (h:Ev Φ t d):EvC Φ false t d:=fun K s hd I E=>wpAny_mono (h K s hd I E) (fun _ _ p=>⟨p,nofun⟩) fun _ _ z=>z
theorem EvN.evC (h:EvN Φ t d):EvC Φ b t d:=fun K s hd I E=>wpAny_mono (h K s hd I E) (fun _ _ p=>⟨p.1,fun _=>p.2⟩) fun _ _ z=>z
@[elab_as_elim] theorem l1 {α:Type} {xs:List α} {f:α→Bool} {C:List α→Prop} (h:(kD xs).any f=true) (k:∀ y,f y=true→C [y]):C xs:=by
 match xs,h with
 | [],h=>(injection h; done)
 | [y],h=>exact k y h
 | _ :: _ :: _,h=>(injection h; done)
@[elab_as_elim] theorem l2 {α:Type} {xs:List α} {f:α×α→Bool} {C:List α→Prop} (h:(two? xs).any f=true) (k:∀ y z,f (y,z)=true→C [y,z]):C xs:=by
 match xs,h with
 | [],h=>(injection h; done)
 | [y],h=>(injection h; done)
 | [y,z],h=>exact k y z h
 | _ :: _ :: _ :: _,h=>(injection h; done)
@[elab_as_elim] theorem ln {α:Type} {xs:List α} {C:List α→Prop} (h:xs.isEmpty=true) (k:C []):C xs:=by
 cases xs with
 | nil=>exact k
 | cons=>(injection h; done)
theorem a2 (h:(a&&b)=true):a=true∧b=true:=zA2 h
theorem gC (h:o.any f=true):∃ a,o=some a∧f a=true:=by
 cases o with
 | none=>(injection h; done)
 | some a=>exact ⟨a,rfl,h⟩
theorem uD (h:x0 x y=true):y=x:=by
 cases x with
 | int i=>cases y with | int j=>rw [eq_of_beq h] | _=>(injection h; done)
 | str s=>cases y with | str t=>rw [eq_of_beq h] | _=>(injection h; done)
 | _=>(injection h; done)
theorem vF {f:Const×Nat×Pos→Bool} {C:Expr→Prop} (h:(jS x).any f=true) (k:∀ c k p,f (c,k,p)=true→C (.Constant c k p)):C x:=
 if hi:x.ctorIdx=19 then Expr.Constant.elim (motive_1:=fun x=>(jS x).any f=true→C x) x hi (fun c j p h=>k c j p h) h else by
  unfold jS at h; rw [dif_neg hi] at h; (injection h; done)
theorem Cn {f:Expr×Operator×Expr×Pos→Bool} {C:Expr→Prop} (h:(xN x).any f=true) (k:∀ l o r p,f (l,o,r,p)=true→C (.BinOp l o r p)):C x:=
 if hi:x.ctorIdx=2 then Expr.BinOp.elim (motive_1:=fun x=>(xN x).any f=true→C x) x hi (fun l o r p h=>k l o r p h) h else by
  unfold xN at h; rw [dif_neg hi] at h; (injection h; done)
theorem BW {f:Expr×List CmpOp×List Expr×Pos→Bool} {C:Expr→Prop} (h:(wt x).any f=true) (k:∀ l o r p,f (l,o,r,p)=true→C (.Compare l o r p)):C x:=
 if hi:x.ctorIdx=15 then Expr.Compare.elim (motive_1:=fun x=>(wt x).any f=true→C x) x hi (fun l o r p h=>k l o r p h) h else by
  unfold wt at h; rw [dif_neg hi] at h; (injection h; done)
theorem yc {f:BoolOp×List Expr×Pos→Bool} {C:Expr→Prop} (h:(o6 x).any f=true) (k:∀ o xs p,f (o,xs,p)=true→C (.BoolOp o xs p)):C x:=
 if hi:x.ctorIdx=0 then Expr.BoolOp.elim (motive_1:=fun x=>(o6 x).any f=true→C x) x hi (fun o xs p h=>k o xs p h) h else by
  unfold o6 at h; rw [dif_neg hi] at h; (injection h; done)
theorem lUn {f:UnaryOp×Expr×Pos→Bool} {C:Expr→Prop} (h:(vUn x).any f=true) (k:∀ o y p,f (o,y,p)=true→C (.UnaryOp o y p)):C x:=
 if hi:x.ctorIdx=3 then Expr.UnaryOp.elim (motive_1:=fun x=>(vUn x).any f=true→C x) x hi (fun o y p h=>k o y p h) h else by
  unfold vUn at h; rw [dif_neg hi] at h; (injection h; done)
theorem yb {f:Expr×List Comprehension×Scope×Pos→Bool} {C:Expr→Prop} (h:(o5 x).any f=true) (k:∀ y gs sc p,f (y,gs,sc,p)=true→C (.ListComp y gs sc p)):C x:=
 if hi:x.ctorIdx=8 then Expr.ListComp.elim (motive_1:=fun x=>(o5 x).any f=true→C x) x hi (fun y gs sc p h=>k y gs sc p h) h else by
  unfold o5 at h; rw [dif_neg hi] at h; (injection h; done)
theorem mJ {f:List Expr→Bool} {C:Expr→Prop} (h:nCall X nm x f=true) (k:∀ q xs p,bz X.sc nm=true→f xs=true→C (.Call (.Name nm q) xs [] p)):C x:=
 tC (by unfold nCall at h; exact h) fun u xs ks p h=>bu (C:=fun u=>C (.Call u xs ks p)) h fun n q h=>by
  have e:n=nm:=eq_of_beq (a2 h).1
  subst e
  exact ln (C:=fun ks=>C (.Call (.Name n q) xs ks p)) (a2 (a2 (a2 h).2).2).1 (k q xs p (a2 (a2 h).2).1 (a2 (a2 (a2 h).2).2).2)
theorem cV {f:Expr→Bool} {C:Expr→Prop} (h:dZ X nm x f=true) (k:∀ q y p,bz X.sc nm=true→f y=true→C (.Call (.Name nm q) [y] [] p)):C x:=
 mJ h fun q xs p hg h=>l1 (C:=fun xs=>C (.Call (.Name nm q) xs [] p)) h fun y h=>k q y p hg h
theorem mK {f:Expr→Str→List Expr→Bool} {C:Expr→Prop} (h:mCall x f=true) (k:∀ y nm q xs p,(q.endLine==p.line)=true→f y nm xs=true→C (.Call (.Attribute y nm q) xs [] p)):C x:=
 tC (by unfold mCall at h; exact h) fun u xs ks p h=>tD (C:=fun u=>C (.Call u xs ks p)) h fun y nm q h=>ln (C:=fun ks=>C (.Call (.Attribute y nm q) xs ks p)) (a2 h).1 (k y nm q xs p (a2 (a2 h).2).1 (a2 (a2 h).2).2)
theorem rG {k:List Kid→Bool} {C:Expr→Prop} (h:qt X k nm x=true) (f:∀ y q e p,(q.endLine==p.line)=true→b8 y=true→ao e=true→k [(X,.val,y),(X,.val,e)]=true→C (.Call (.Attribute y nm q) [e] [] p)):C x:=
 mK h fun y n q xs p hl h=>by
  have e:n=nm:=eq_of_beq (a2 h).1
  subst e
  exact l1 (C:=fun xs=>C (.Call (.Attribute y n q) xs [] p)) (a2 (a2 h).2).2 fun z hz=>f y q z p hl (a2 (a2 h).2).1 (a2 hz).1 (a2 hz).2
theorem qR (hk:fx.env.scope.kind=.function):bL (aC fx scope C x x' Y)=(bL fx).comp scope x x':=by
 unfold Sx.comp bL
 have:(aC fx scope C x x' Y).env.scope.names=g9 fx.env.scope.names scope.names:=cM hk
 rw [this]
 rfl
theorem eV (ok:FxOk fx) (h:ji (bL fx) scope x x'=true):CompOk fx scope x x':=by
 obtain ⟨h1,h⟩:=a2 h
 obtain ⟨h2,h⟩:=a2 h
 obtain ⟨h3,h⟩:=a2 h
 obtain ⟨h5,h⟩:=a2 h
 obtain ⟨h6,h⟩:=a2 h
 obtain ⟨h7,h8⟩:=a2 h
 have h5:=List.all_eq_true.mp h5
 have h6:=List.all_eq_true.mp h6
 have h7:=List.all_eq_true.mp h7
 have fr:∀ n,(n,NameKind.free)∈scope.names→(fx.env.kindOf n=some .cell∨fx.env.kindOf n=some .free)∧∃ k,fx.ρ.lookup n=some k:=fun n hn=>by
  rcases (Bool.or_eq_true _ _).mp (h7 _ hn) with q | q
  ·exact absurd rfl (bne_iff_ne.mp q)
  ·obtain ⟨q1,q2⟩:=a2 q
   exact ⟨((Bool.or_eq_true _ _).mp q1).imp eq_of_beq eq_of_beq,Option.isSome_iff_exists.mp q2⟩
 refine ⟨eq_of_beq h1,eq_of_beq h2,eq_of_beq h3,fun y hy=>bne_iff_ne.mp (h5 y hy),fun y hy hl=>((Bool.or_eq_true _ _).mp (h6 y hy)).elim (fun q=>absurd hl (bne_iff_ne.mp q)) eq_of_beq,fun n hn=>(fr n hn).1,fun n hn=>?_,of_decide_eq_true h8⟩
 obtain ⟨q,k,hk⟩:=fr n hn
 rcases ok.vis n k hk with ⟨z,_⟩ | ⟨_,c,hc,_⟩
 ·rcases q with q | q <;> rw [z] at q <;> cases q
 ·exact ⟨c,hc⟩
theorem mL {k:List Expr→Bool} {C:Expr→Prop} (h:cCall Z X f x k=true) (h':∀ n q xs p,Z.fns.lookup n=some f→bz X.sc n=true→(X.hm=true→Z.safe f=true)→k xs=true→C (.Call (.Name n q) xs [] p)):C x:=
 tC (by unfold cCall at h; exact h) fun u xs ks p h=>bu (C:=fun u=>C (.Call u xs ks p)) h fun n q h=>by
  obtain ⟨h1,h⟩:=a2 h
  obtain ⟨h2,h⟩:=a2 h
  obtain ⟨h3,h⟩:=a2 h
  exact ln (C:=fun ks=>C (.Call (.Name n q) xs ks p)) (a2 h).1 (h' n q xs p (eq_of_beq h1) h2 (fun e=>by rw [e] at h3; exact h3) (a2 h).2)
section
variable (Z:Zx) (o:Op) (k:List Kid→Bool) (X:Sx)
end
structure GOk (g:Gl) (Z:Zx):Prop where
 fns:g.fns=Z.fns
 cons:g.cons=Z.cons
 flds:g.flds=Z.flds
 clss:g.clss=Z.clss
 nc:g.nc=Z.nc
 sup:g.P.sup=Z.sup
 safe:g.safe=Z.safe
 newf:g.newf=Z.newf
 cf:g.fn Z.cf=g.C
 keep:∀ x f,Z.fns.lookup x=some f→keepIn g.K (.ref (g.fn f))=true
 meths:∀ x f,Z.meths.lookup x=some f→x∉g.flds∧findIn g.K (.ref g.C) x=some (some (.ref (g.fn f)))∧typeIn g.K (.ref (g.fn f))=some (.type "function")∧keepIn g.K (.ref (g.fn f))=true
section
variable {g:Gl} {n:Nat} {Z:Zx} {o:Op} {k:List Kid→Bool} {ds:List D} {fx:Fx} {x:Expr}
theorem eU (e:fx.hm=b) (h:(!b)=true):Hm fx:=⟨by rw [e]; cases b with | false=>rfl | true=>(injection h; done)⟩
theorem a2e {a b:Bool} {C:Prop} (h:(a&&b)=true) (k:a=true→b=true→C):C:=k (a2 h).1 (a2 h).2
theorem rd {α β:Type} {o:Option α} {f:α→β} {K:β→Prop}:okK (o.map f) K=okK o fun a=>K (f a):=by cases o <;> rfl
theorem By (h:FxOk Φ.fx→Ev Φ t d):Ev Φ t d:=fun K s hd I=>h I.ok K s hd I
theorem pD (h:Kids fx.g fx.d (ifs.map fun x=>(bL fx,.test,x)) ts):∀ oa G,EvT ⟨fx,oa,G⟩ (dT ifs fx.env) (ci true ts G):=fun oa G=>by
 obtain ⟨qs,h1,h2⟩:=h.tests rfl rfl
 have q:=nA (Φ:=⟨fx,oa,G⟩) (h2 oa G)
 rw [(h1 G).1,(h1 G).2,← gR] at q
 exact q
theorem fE:∀ xs:List Expr,evalEach xs env=xs.map fun x=>eval x env
 | []=>rfl
 | x :: r=>congrArg (eval x env :: ·) (fE r)
theorem lg (hne:(!xs.isEmpty)=true) (h:Kids fx.g fx.d (xs.map fun x=>(bL fx,.val,x)) ds):∀ oa G,Ev ⟨fx,oa,G⟩ (eval (.BoolOp (bop b) xs p) fx.env) (fun K=>ci b ds G fun c=>K (.bool c)):=fun oa G=>by
 obtain ⟨qs,h1,h2⟩:=h.vals rfl rfl
 have q:=oG (Φ:=⟨fx,oa,G⟩) (b:=b) (pos:=p) (fun q m=>(h2 oa G q m).2) fun e=>by have:=(h1 G).1; rw [e] at this; rw [← this] at hne; (injection hne; done)
 rw [show (qs G).map (fun q=>eval q.1 fx.env)=xs.map fun x=>eval x fx.env by rw [← (h1 G).1,List.map_map]; rfl,(h1 G).2,← gR] at q
 have e:eval (.BoolOp (bop b) xs p) fx.env=boolOp p (bop b) (xs.map fun x=>eval x fx.env):=by
  rw [arm_eval_BoolOp,fE]
 rw [e]
 exact q
theorem zI (h:FxOk fx→ExB fx t Y):ExB fx t Y:=fun oa G K s hd I=>h I.ok oa G K s hd I
theorem jq (h:Kids fx.g fx.d (xs.map fun x=>(bL fx,.test,x)) ds):∀ oa G,EvT ⟨fx,oa,G⟩ (isTrue (.BoolOp (bop b) xs p) fx.env w) (ci b ds G):=fun oa G=>by
 obtain ⟨qs,h1,h2⟩:=h.tests rfl rfl
 have q:=nC (Φ:=⟨fx,oa,G⟩) (b:=b) (h2 oa G)
 rw [(h1 G).1,(h1 G).2,← gR] at q
 exact q
def Vt (p:Pz):Prop:=p=.val∨p=.test
theorem gp (hp:Vt p) (h:ah fx .val x d) (e:isTrue x fx.env (eval x fx.env)=(do let v ← eval x fx.env; standAt x.pos; holding [v] (truthy v))):ah fx p x d:=by
 rcases hp with rfl | rfl
 ·exact h
 ·exact fun oa G=>xr (h oa G) e
def wh (fx:Fx) (b:Gs→V→Option Gs) (e:Expr) (ds:List D):Prop:=(∀ oa G,Ev ⟨fx,oa,G⟩ (eval e fx.env) (tJ b ds G))∧∀ y py sp k,TgtOk fx.ρ fx.env y k→ExB fx (exec (.Assign [.Name y py] e sp) fx.env) (fun G K=>tJ b ds G fun v=>K none (G.set k (.v v)))
theorem r7 {b:Gs→V→Option Gs} {elt it T:Expr} {ifs:List Expr} {scope:Scope} {p:Pos} {m m':Str} [Hm fx] (hT:FxOk fx→∀ oa G,mY ⟨fx,oa,G⟩ scope T m m' b) (h1:ji (bL fx) scope m m'=true) (h3:bx it=true) (hk:Kids fx.g fx.d ((bL fx,.src false T,it) :: ((bL fx).comp scope m m',.val,elt) :: ifs.map fun x=>((bL fx).comp scope m m',.test,x)) ds) :
  wh fx b (.ListComp elt [⟨T,it,ifs,0⟩] scope p) ds:=by
 refine hk.nc (C:=fun ds=>wh fx b (.ListComp elt [⟨T,it,ifs,0⟩] scope p) ds) fun ds1 dr a b'=>b'.nc (C:=fun dr=>wh fx b (.ListComp elt [⟨T,it,ifs,0⟩] scope p) (ds1 :: dr)) fun de ts b' c=>?_
 have he:FxOk fx→∀ C Y oa G,Ev ⟨aC fx scope C m m' Y,oa,G⟩ (eval elt (aC fx scope C m m' Y).env) (de G):=fun ok C Y oa G=>b' (aC fx scope C m m' Y) rfl rfl (qR ok.kind) oa G
 have ht:FxOk fx→∀ C Y oa G,EvT ⟨aC fx scope C m m' Y,oa,G⟩ (dT ifs (aC fx scope C m m' Y).env) (ci true ts G):=fun ok C Y oa G=>pD (fx:=aC fx scope C m m' Y) (by rw [qR ok.kind]; exact c) oa G
 exact ⟨fun oa G=>By fun ok=>rW (Φ:=⟨fx,oa,G⟩) (eV ok h1) (hT ok oa G) h3 (a fx rfl rfl rfl oa G) (he ok) (ht ok),fun y py sp k hy=>zI fun ok=>iC (py:=py) (eV ok h1) (hT ok) h3 (a fx rfl rfl rfl) (he ok) (ht ok) hy⟩
theorem r6 {j:Nat} (hk:∀ ts,k ts=true→Kids fx.g fx.d ts ds) (h:j9 Z (.comp j) k (bL fx) .val x=true):(ah fx .val x (bA (am fx.g.P fx.d) (.comp j) ds)∧isTrue x fx.env (eval x fx.env)=(do let v ← eval x fx.env; standAt x.pos; holding [v] (truthy v)))∧∀ y py sp,ah fx (.asg y py sp) x (bA (am fx.g.P fx.d) (.comp j) ds):=by
 refine a2e h fun hh h=>?_
 have:Hm fx:=eU rfl hh
 refine yb (C:=fun x=>(ah fx .val x _∧isTrue x fx.env (eval x fx.env)=(do let v ← eval x fx.env; standAt x.pos; holding [v] (truthy v)))∧∀ y py sp,ah fx (.asg y py sp) x _) h fun elt gs scope p h=>l1 (C:=fun gs=>(ah fx .val (.ListComp elt gs scope p) _∧isTrue (.ListComp elt gs scope p) fx.env _=_)∧∀ y py sp,ah fx (.asg y py sp) (.ListComp elt gs scope p) _) h fun c h=>?_
 obtain ⟨T,it,ifs,asy⟩:=c
 refine a2e h fun e h=>?_
 obtain rfl:asy=0:=eq_of_beq e
 refine bu (C:=fun T=>(ah fx .val (.ListComp elt [⟨T,it,ifs,0⟩] scope p) _∧_=_)∧∀ y py sp,ah fx (.asg y py sp) (.ListComp elt [⟨T,it,ifs,0⟩] scope p) _) h fun m pm h=>a2e h fun h1 h=>a2e h fun e h=>a2e h fun h3 hh=>?_
 obtain rfl:=eq_of_beq e
 have q:=r7 (b:=jV fx.nf) (p:=p) (fun ok oa G=>zY (Φ:=⟨fx,oa,G⟩) (eV ok h1)) h1 h3 (hk _ hh)
 exact ⟨⟨q.1,rfl⟩,q.2⟩
theorem oO {js:List Nat} (hk:∀ ts,k ts=true→Kids fx.g fx.d ts ds) (h:j9 Z (.compM js) k (bL fx) .val x=true):(ah fx .val x (bA (am fx.g.P fx.d) (.compM js) ds)∧isTrue x fx.env (eval x fx.env)=(do let v ← eval x fx.env; standAt x.pos; holding [v] (truthy v)))∧∀ y py sp,ah fx (.asg y py sp) x (bA (am fx.g.P fx.d) (.compM js) ds):=by
 refine a2e h fun hh h=>?_
 have:Hm fx:=eU rfl hh
 refine yb (C:=fun x=>(ah fx .val x _∧isTrue x fx.env (eval x fx.env)=(do let v ← eval x fx.env; standAt x.pos; holding [v] (truthy v)))∧∀ y py sp,ah fx (.asg y py sp) x _) h fun elt gs scope p h=>l1 (C:=fun gs=>(ah fx .val (.ListComp elt gs scope p) _∧isTrue (.ListComp elt gs scope p) fx.env _=_)∧∀ y py sp,ah fx (.asg y py sp) (.ListComp elt gs scope p) _) h fun c h=>?_
 obtain ⟨T,it,ifs,asy⟩:=c
 refine a2e h fun e h=>?_
 obtain rfl:asy=0:=eq_of_beq e
 refine vE (C:=fun T=>(ah fx .val (.ListComp elt [⟨T,it,ifs,0⟩] scope p) _∧_=_)∧∀ y py sp,ah fx (.asg y py sp) (.ListComp elt [⟨T,it,ifs,0⟩] scope p) _) h fun es kk tp h=>l2 (C:=fun es=>(ah fx .val (.ListComp elt [⟨.Tuple es kk tp,it,ifs,0⟩] scope p) _∧_=_)∧∀ y py sp,ah fx (.asg y py sp) (.ListComp elt [⟨.Tuple es kk tp,it,ifs,0⟩] scope p) _) h fun e1 e2 h=>?_
 refine bu (C:=fun e1=>(ah fx .val (.ListComp elt [⟨.Tuple [e1,e2] kk tp,it,ifs,0⟩] scope p) _∧_=_)∧∀ y py sp,ah fx (.asg y py sp) (.ListComp elt [⟨.Tuple [e1,e2] kk tp,it,ifs,0⟩] scope p) _) h fun m pm h=>bu (C:=fun e2=>(ah fx .val (.ListComp elt [⟨.Tuple [.Name m pm,e2] kk tp,it,ifs,0⟩] scope p) _∧_=_)∧∀ y py sp,ah fx (.asg y py sp) (.ListComp elt [⟨.Tuple [.Name m pm,e2] kk tp,it,ifs,0⟩] scope p) _) h fun m' pm' h=>a2e h fun h1 h=>a2e h fun hne h=>a2e h fun e h=>a2e h fun h3 hh=>?_
 obtain rfl:=eq_of_beq e
 have hne:m'≠m:=fun q=>by subst q; rw [beq_self_eq_true] at hne; (injection hne; done)
 have q:=r7 (b:=aW [fx.nf,fx.nf+1]) (p:=p) (fun ok oa G=>zX (Φ:=⟨fx,oa,G⟩) (eV ok h1) hne ok.offs) h1 h3 (hk _ hh)
 exact ⟨⟨q.1,rfl⟩,q.2⟩
noncomputable def Co (o:Op):Bool:=match o with
 | .tuple=>true
 | .listOf=>true
 | .sorted=>true
 | .sortedSet=>true
 | .call _=>true
 | .meth _=>true
 | _=>false
def mX (fx:Fx) (b:Bool) (x:Expr) (d:D):Prop:=∀ oa G,EvC ⟨fx,oa,G⟩ b (eval x fx.env) (d G)
def Nw (fx:Fx) (b:Bool) (x:Expr) (d:D):Prop:=mX fx b x d∧isTrue x fx.env (eval x fx.env)=(do let v ← eval x fx.env; standAt x.pos; holding [v] (truthy v))
theorem kh (H:GOk fx.g Z) (hk:∀ ts,k ts=true→Kids fx.g fx.d ts ds) (hn:Co o=true) (h:j9 Z o k (bL fx) .val x=true) :
  Nw fx (BN Z o) x (bA (am fx.g.P fx.d) o ds):=by
 cases o with
 | tuple=>exact vE (C:=fun x=>Nw fx true x _) h fun xs j q h=>a2e h fun hl h=>⟨(hk _ h).node (f:=fun xs=>.Tuple xs j q) (op:=fun xs K=>okK (opN .tuple xs) K) rfl rfl hl fun oa G qs hq=>uU hq,rfl⟩
 | listOf=>exact cV (C:=fun x=>Nw fx true x _) h fun q y r hx h=>⟨(hk _ (a2 h).2).n1 (C:=fun ds=>mX fx true _ (bA _ .listOf ds)) fun d a oa G=>(tj (d:=d G) hx (a2 h).1 (a fx rfl rfl rfl oa G)).evC,rfl⟩
 | sorted=>exact cV (C:=fun x=>Nw fx true x _) h fun q y r hx h=>⟨(hk _ (a2 h).2).n1 (C:=fun ds=>mX fx true _ (bA _ .sorted ds)) fun d a oa G=>(th (d:=d G) hx (a2 h).1 (a fx rfl rfl rfl oa G)).evC,rfl⟩
 | sortedSet=>
  refine a2e h fun hh h=>?_
  have:Hm fx:=eU rfl hh
  exact cV (C:=fun x=>Nw fx true x _) h fun q y r hx h=>⟨cV (C:=fun y=>mX fx true (.Call _ [y] [] r) _) h fun p1 z p2 hs h=>(hk _ (a2 h).2).n1 (C:=fun ds=>mX fx true _ (bA _ .sortedSet ds)) fun d a oa G=>(lB (Φ:=⟨fx,oa,G⟩) (d:=d G) hx hs (a2 h).1 (a fx rfl rfl rfl oa G)).evC,rfl⟩
 | call f=>
  refine mL (C:=fun x=>Nw fx (Z.newf f) x _) h fun n q xs r hf hx hs h=>⟨?_,rfl⟩
  have q:=(hk _ (a2 h).2).node (nb:=fx.g.newf f) (f:=fun xs=>.Call (.Name n q) xs [] r) (op:=fun xs K=>am fx.g.P fx.d f xs fun y=>noX y=true∧K y) rfl rfl (a2 h).1 fun oa G qs hq=>xy (Φ:=⟨fx,oa,G⟩) hx (H.fns▸hf) (H.keep _ _ hf) (fun e=>by rw [H.safe]; exact hs e) hq
  rw [H.newf] at q
  exact q
 | meth f=>
  refine mK (C:=fun x=>Nw fx (Z.newf f) x _) h fun y nm q xs r hl h=>a2e h fun hs h=>a2e h fun e h=>a2e h fun hsf h=>a2e h fun hm h=>?_
  obtain ⟨m1,m2,m3,m4⟩:=H.meths _ _ (eq_of_beq hm)
  refine ln (C:=fun xs=>Nw fx (Z.newf f) (.Call _ xs [] r) _) e ⟨(hk _ h).n1 (C:=fun ds=>mX fx (Z.newf f) _ (bA _ (.meth f) ds)) fun d a oa G=>?_,rfl⟩
  have q:=xt (Φ:=⟨fx,oa,G⟩) (d:=d G) hs hl m1 m2 m3 m4 (fun e=>by rw [H.safe]; have e:fx.hm=true:=e; have hsf:(!fx.hm||Z.safe f)=true:=hsf; rw [e] at hsf; exact hsf) (a fx rfl rfl rfl oa G)
  rw [H.newf] at q
  exact q
 | _=>(injection hn; done)
theorem tw {p:Pz} (H:GOk fx.g Z) (hp:Vt p) (hk:∀ ts,k ts=true→Kids fx.g fx.d ts ds) (h:j9 Z o k (bL fx) p x=true):ah fx p x (bA (am fx.g.P fx.d) o ds):=by
 cases o with
 | lit v=>
  refine ((Bool.or_eq_true _ _).mp h).elim (fun h=>vF (C:=fun x=>ah fx p x _) h fun c j q h=>gp hp (fun oa G=>zP (a2 h).1) rfl) fun h=>bu (C:=fun x=>ah fx p x _) h fun m q h=>a2e h fun hx h=>a2e h fun e h=>?_
  obtain ⟨y,e1,e2⟩:=gC e
  obtain rfl:=uD e2
  exact gp hp (fun oa G=>uY hx (H.cons▸e1)) rfl
 | lend j=>
  refine (hk _ h).n1 (C:=fun ds=>ah fx p x (bA _ (.lend j) ds)) fun d a=>?_
  rcases hp with rfl | rfl
  ·exact fun oa G K s hd I E=>ag hd fun l e hk=>wpAny_mono (a fx rfl rfl rfl _ _ _ s hk (Inv.freeze (Φ:=⟨fx,oa,G⟩) I (cF e)).1 E) (fun v s' ⟨B,k,y,hy,r⟩=>by cases y with
   | bool b=>exact r.bool_elim ⟨B,k,_,hy,.bool b⟩
   | _=>exact hy.elim) fun _ _ z=>z
  ·exact fun oa G K s hd I E=>ag hd fun l e hk=>wpAny_mono (a fx rfl rfl rfl _ _ K s hk (Inv.freeze (Φ:=⟨fx,oa,G⟩) I (cF e)).1 E) (fun _ _ ⟨B,k,y,hy,r⟩=>⟨B,k,y,hy,r⟩) fun _ _ z=>z
 | lenL j=>exact cV (C:=fun x=>ah fx p x _) h fun q y r hx h=>gp hp (bu (C:=fun z=>ah fx .val (.Call _ [z] [] r) _) h fun m pm h oa G=>xv (Φ:=⟨fx,oa,G⟩) hx (eq_of_beq (a2 h).1) (a2 h).2) rfl
 | compM js=>exact (oO (Z:=Z) hk h).1.elim fun a b=>gp hp a b
 | var j=>exact bu (C:=fun x=>ah fx p x _) h fun m q h=>a2e h fun e h=>gp hp (fun oa G=>zL (eq_of_beq e) (a2 h).1) rfl
 | bin op=>
  refine Cn (C:=fun x=>ah fx p x _) h fun l op' r q h=>a2e h fun e hh=>?_
  obtain rfl:=of_decide_eq_true e
  exact gp hp ((hk _ hh).n2 (C:=fun ds=>ah fx .val _ (bA _ (.bin op) ds)) fun d e a b oa G=>zS (d1:=d G) (d2:=e G) (a fx rfl rfl rfl oa G) (b fx rfl rfl rfl oa G)) rfl
 | cmp c=>
  refine BW (C:=fun x=>ah fx p x _) h fun l ops rs q h=>l1 (C:=fun ops=>ah fx p (.Compare l ops rs q) _) h fun c' h=>a2e h fun e hh=>?_
  obtain rfl:=of_decide_eq_true e
  refine l1 (C:=fun rs=>ah fx p (.Compare l _ rs q) _) hh fun r h=>a2e h fun hs h=>(hk _ h).n2 (C:=fun ds=>ah fx p _ (bA _ (.cmp c) ds)) fun d e a b=>?_
  rcases hp with rfl | rfl
  ·exact fun oa G=>vL (d1:=d G) (d2:=e G) hs (a fx rfl rfl rfl oa G) (b fx rfl rfl rfl oa G)
  ·exact fun oa G=>t7 (d1:=d G) (d2:=e G) hs (a fx rfl rfl rfl oa G) (b fx rfl rfl rfl oa G)
 | chain lt=>
  refine BW (C:=fun x=>ah fx p x _) h fun l ops rs q h=>l2 (C:=fun ops=>ah fx p (.Compare l ops rs q) _) h fun c c' h=>a2e h fun e h=>a2e h fun e' hh=>?_
  obtain rfl:=of_decide_eq_true e
  obtain rfl:=of_decide_eq_true e'
  refine l2 (C:=fun rs=>ah fx p (.Compare l _ rs q) _) hh fun r r' h=>a2e h fun hs h=>(hk _ h).n3 (C:=fun ds=>ah fx p _ (bA _ (.chain lt) ds)) fun d e f a b c=>?_
  rcases hp with rfl | rfl
  ·exact fun oa G=>uZ (d1:=d G) (d2:=e G) (d3:=f G) hs (a fx rfl rfl rfl oa G) (b fx rfl rfl rfl oa G) (c fx rfl rfl rfl oa G)
  ·exact fun oa G=>o9 (d1:=d G) (d2:=e G) (d3:=f G) hs (a fx rfl rfl rfl oa G) (b fx rfl rfl rfl oa G) (c fx rfl rfl rfl oa G)
 | and=>
  refine yc (C:=fun x=>ah fx p x _) h fun b xs q h=>a2e h fun e h=>a2e h fun hn hh=>?_
  obtain rfl:=of_decide_eq_true e
  rcases hp with rfl | rfl
  ·exact lg (b:=true) hn (hk _ hh)
  ·exact jq (b:=true) (hk _ hh)
 | or=>
  refine yc (C:=fun x=>ah fx p x _) h fun b xs q h=>a2e h fun e h=>a2e h fun hn hh=>?_
  obtain rfl:=of_decide_eq_true e
  rcases hp with rfl | rfl
  ·exact lg (b:=false) hn (hk _ hh)
  ·exact jq (b:=false) (hk _ hh)
 | not=>
  refine lUn (C:=fun x=>ah fx p x _) h fun u y q h=>a2e h fun e hh=>?_
  obtain rfl:=of_decide_eq_true e
  refine (hk _ hh).n1 (C:=fun ds=>ah fx p _ (bA _ .not ds)) fun d a=>?_
  rcases hp with rfl | rfl
  ·exact fun oa G=>zN (d:=d G) (a fx rfl rfl rfl oa G)
  ·exact fun oa G=>tY (d:=d G) (a fx rfl rfl rfl oa G)
 | neg=>
  refine lUn (C:=fun x=>ah fx p x _) h fun u y q h=>a2e h fun e h=>a2e h fun i hh=>?_
  obtain rfl:=of_decide_eq_true e
  rcases hp with rfl | rfl
  ·exact (hk _ hh).n1 (C:=fun ds=>ah fx .val _ (bA _ .neg ds)) fun d a oa G=>zO (d:=d G) (a fx rfl rfl rfl oa G)
  ·(injection i; done)
 | tuple=>exact (kh (o:=.tuple) H hk rfl h).elim fun a b=>gp hp (fun oa G=>(a oa G).ev) b
 | list=>exact BU (C:=fun x=>ah fx p x _) h fun xs q h=>a2e h fun hl h=>gp hp (fun oa G=>((hk _ h).node (nb:=false) (f:=fun xs=>.List xs q) (op:=fun xs K=>okK (opN .list xs) K) rfl rfl hl (fun oa G qs hq=>(xu hq).evC) oa G).ev) rfl
 | sub=>exact x3 (C:=fun x=>ah fx p x _) h fun v s q h=>gp hp ((hk _ h).n2 (C:=fun ds=>ah fx .val _ (bA _ .sub ds)) fun d e a b oa G=>zM (d1:=d G) (d2:=e G) (a fx rfl rfl rfl oa G) (b fx rfl rfl rfl oa G)) rfl
 | slice bl bh=>
  refine x3 (C:=fun x=>ah fx p x _) h fun v s q h=>Cj (C:=fun s=>ah fx p (.Subscript v s q) _) h fun lo hi st q' h=>a2e h fun e0 h=>a2e h fun e1 h=>a2e h fun e2 hh=>?_
  obtain rfl:=eq_of_beq e1
  obtain rfl:=eq_of_beq e2
  obtain rfl:st=none:=Option.isNone_iff_eq_none.mp e0
  refine gp hp ?_ rfl
  cases lo with
  | none=>cases hi with
   | none=>exact (hk _ hh).n1 (C:=fun ds=>ah fx .val _ (bA _ (.slice false false) ds)) fun d a oa G=>ge (d1:=d G) (a fx rfl rfl rfl oa G) jd jd
   | some e'=>exact (hk _ hh).n2 (C:=fun ds=>ah fx .val _ (bA _ (.slice false true) ds)) fun d e a b oa G=>ge (d1:=d G) (a fx rfl rfl rfl oa G) jd (jc (d:=e G) (b fx rfl rfl rfl oa G))
  | some e'=>cases hi with
   | none=>exact (hk _ hh).n2 (C:=fun ds=>ah fx .val _ (bA _ (.slice true false) ds)) fun d e a b oa G=>ge (d1:=d G) (a fx rfl rfl rfl oa G) (jc (d:=e G) (b fx rfl rfl rfl oa G)) jd
   | some e'=>exact (hk _ hh).n3 (C:=fun ds=>ah fx .val _ (bA _ (.slice true true) ds)) fun d e f a b c oa G=>ge (d1:=d G) (a fx rfl rfl rfl oa G) (jc (d:=e G) (b fx rfl rfl rfl oa G)) (jc (d:=f G) (c fx rfl rfl rfl oa G))
 | attr j=>exact tD (C:=fun x=>ah fx p x _) h fun y nm q h=>a2e h fun hs h=>a2e h fun e h=>gp hp ((hk _ h).n1 (C:=fun ds=>ah fx .val _ (bA _ (.attr j) ds)) fun d a oa G=>xz (Φ:=⟨fx,oa,G⟩) (d:=d G) hs (by rw [H.flds]; exact eq_of_beq e) (a fx rfl rfl rfl oa G)) rfl
 | comp j=>exact (r6 (Z:=Z) hk h).1.elim fun a b=>gp hp a b
 | isinst t=>
  refine mJ (C:=fun x=>ah fx p x _) h fun q xs r hx h=>l2 (C:=fun xs=>ah fx p (.Call _ xs [] r) _) h fun y z h=>a2e h fun hl h=>bu (C:=fun z=>ah fx p (.Call _ [y,z] [] r) _) h fun T pT h=>a2e h fun hT h=>a2e h fun ht hh=>?_
  obtain ⟨T',e1,e2⟩:=gC ht
  have e2:T=Str.ofString T':=eq_of_beq e2
  subst e2
  refine gp hp ((hk _ hh).n1 (C:=fun ds=>ah fx .val _ (bA _ (.isinst t) ds)) fun d a oa G=>?_) rfl
  have z:=zR (Φ:=⟨fx,oa,G⟩) (fp:=q) (pos:=r) (pT:=pT) (q:=(y,d G)) e1 hx hT hl (a fx rfl rfl rfl oa G)
  have e:(fun K=>d G fun x=>okK (isT x t) fun b=>K (.bool b))=bA (am fx.g.P fx.d) (.isinst t) [d] G:=funext fun K=>congrArg (d G) (funext fun x=>rd.symm)
  exact e▸z
 | len=>exact cV (C:=fun x=>ah fx p x _) h fun q y r hx h=>gp hp ((hk _ (a2 h).2).n1 (C:=fun ds=>ah fx .val _ (bA _ .len ds)) fun d a oa G=>zQ (q:=(y,d G)) hx ⟨(a2 h).1,a fx rfl rfl rfl oa G⟩) rfl
 | lenSet=>
  refine a2e h fun hh h=>?_
  have:Hm fx:=eU rfl hh
  exact cV (C:=fun x=>ah fx p x _) h fun q y r hx h=>gp hp (cV (C:=fun y=>ah fx .val (.Call _ [y] [] r) _) h fun p1 z p2 hs h=>(hk _ (a2 h).2).n1 (C:=fun ds=>ah fx .val _ (bA _ .lenSet ds)) fun d a oa G=>tm (Φ:=⟨fx,oa,G⟩) (d:=d G) hx hs (a2 h).1 (a fx rfl rfl rfl oa G)) rfl
 | isExc c tb=>
  refine mJ (C:=fun x=>ah fx p x _) h fun q xs r hx h=>l2 (C:=fun xs=>ah fx p (.Call _ xs [] r) _) h fun y z h=>a2e h fun hl h=>bu (C:=fun z=>ah fx p (.Call _ [y,z] [] r) _) h fun T pT h=>a2e h fun hT h=>a2e h fun hc h=>a2e h fun ht hh=>?_
  have hc:fx.g.clss.lookup T=some c∨(T="ValueError"∧c=fx.g.nc):=by
   rw [H.clss,H.nc]
   exact ((Bool.or_eq_true _ _).mp hc).imp eq_of_beq fun q=>⟨eq_of_beq (a2 q).1,eq_of_beq (a2 q).2⟩
  have ht:∀ e,e < fx.g.nc→tb[e]?=some (fx.g.P.sup e c):=fun e q=>by
   rw [H.sup]
   exact eq_of_beq (List.all_eq_true.mp ht e (List.mem_range.mpr (H.nc▸q)))
  refine gp hp ((hk _ hh).n1 (C:=fun ds=>ah fx .val _ (bA _ (.isExc c tb) ds)) fun d a oa G=>?_) rfl
  have z:=uV (Φ:=⟨fx,oa,G⟩) (fp:=q) (pos:=r) (pT:=pT) (q:=(y,d G)) hx hT hl hc ht (a fx rfl rfl rfl oa G)
  have e:(fun K=>d G fun x=>okK ((lW x).bind fun e=>tb[e]?) fun b=>K (.bool b))=bA (am fx.g.P fx.d) (.isExc c tb) [d] G:=funext fun K=>congrArg (d G) (funext fun x=>rd.symm)
  exact e▸z
 | edict=>exact ya (C:=fun x=>ah fx p x _) h fun ks vs q h=>a2e h fun h1 h=>a2e h fun h2 h=>ln (C:=fun ks=>ah fx p (.Dict ks vs q) _) h1 (ln (C:=fun vs=>ah fx p (.Dict [] vs q) _) h2 (gp hp ((hk _ h).n0 (C:=fun ds=>ah fx .val _ (bA _ .edict ds)) fun oa G=>uW) rfl))
 | listOf=>exact (kh (o:=.listOf) H hk rfl h).elim fun a b=>gp hp (fun oa G=>(a oa G).ev) b
 | sorted=>exact (kh (o:=.sorted) H hk rfl h).elim fun a b=>gp hp (fun oa G=>(a oa G).ev) b
 | sortedSet=>exact (kh (o:=.sortedSet) H hk rfl h).elim fun a b=>gp hp (fun oa G=>(a oa G).ev) b
 | call f=>exact (kh (o:=.call f) H hk rfl h).elim fun a b=>gp hp (fun oa G=>(a oa G).ev) b
 | join=>exact rG (C:=fun x=>ah fx p x _) h fun y q e r hl hs he h=>gp hp ((hk _ h).n2 (C:=fun ds=>ah fx .val _ (bA _ .join ds)) fun d e a b oa G=>xw (d1:=d G) (d2:=e G) hs he hl (a fx rfl rfl rfl oa G) (b fx rfl rfl rfl oa G)) rfl
 | count=>exact rG (C:=fun x=>ah fx p x _) h fun y q e r hl hs he h=>gp hp ((hk _ h).n2 (C:=fun ds=>ah fx .val _ (bA _ .count ds)) fun d e a b oa G=>uX (d1:=d G) (d2:=e G) hs he hl (a fx rfl rfl rfl oa G) (b fx rfl rfl rfl oa G)) rfl
 | meth f=>exact (kh (o:=.meth f) H hk rfl h).elim fun a b=>gp hp (fun oa G=>(a oa G).ev) b
 | _=>(injection h; done)
end
section
variable {g:Gl} {n:Nat} {Z:Zx} {o:Op} {k:List Kid→Bool} {ds:List D} {fx:Fx} {x:Expr}
theorem r9 {st:Bool} {op:List V→Option V} (h:Ax k (bL fx) f x=true) [Hm fx] (hk:∀ ts,k ts=true→Kids fx.g fx.d ts ds)
  (hs:∀ oa G fp pos (qs:List (Expr×DV)),bz fx.env.scope.names f=true→(∀ q∈qs,ao q.1=true∧bi ⟨fx,oa,G⟩ q)→eW ⟨fx,oa,G⟩ T st (.Call (.Name f fp) (qs.map Prod.fst) [] pos) (fun K=>bo (qs.map Prod.snd) fun xs=>okK (op xs) fun z=>okK (bM z) K)) :
  ∀ oa G,eW ⟨fx,oa,G⟩ T st x (fun K=>bY ds G fun xs=>okK (op xs) fun z=>okK (bM z) K):=by
 refine mJ (C:=fun x=>∀ oa G,eW ⟨fx,oa,G⟩ T st x (fun K=>bY ds G fun xs=>okK (op xs) fun z=>okK (bM z) K)) h fun q xs p hg h oa G=>?_
 obtain ⟨qs,h1,h2⟩:=(hk _ (a2 h).2).items rfl rfl (a2 h).1
 have z:=hs oa G q p (qs G) hg (h2 oa G)
 rw [(h1 G).1,(h1 G).2,← jG] at z
 exact z
theorem Af (H:GOk fx.g Z) (hk:∀ ts,k ts=true→Kids fx.g fx.d ts ds) (h:yx Z o k (bL fx) x=true):ah fx (.asg y py sp) x (bA (am fx.g.P fx.d) o ds):=by
 exact ((Bool.or_eq_true _ _).mp h).elim (fun h=>a2e h fun hn h k hT=>k8 (b7 hn) hT (tw H (.inl rfl) hk h)) fun h=>a2e h fun hc h=>((Bool.or_eq_true _ _).mp hc).elim (fun hc=>Op.comp.elim (motive:=fun o=>j9 Z o k (bL fx) .val x=true→ah fx (.asg y py sp) x (bA (am fx.g.P fx.d) o ds)) o (eq_of_beq hc) (fun j h=>(r6 hk h).2 y py sp) h) fun hc=>Op.compM.elim (motive:=fun o=>j9 Z o k (bL fx) .val x=true→ah fx (.asg y py sp) x (bA (am fx.g.P fx.d) o ds)) o (eq_of_beq hc) (fun j h=>(oO hk h).2 y py sp) h
theorem yT {st:Bool} (H:GOk fx.g Z) (hk:∀ ts,k ts=true→Kids fx.g fx.d ts ds) (h:yw Z o k (bL fx) (.src st T) x=true):ah fx (.src st T) x (bA (am fx.g.P fx.d) o ds):=by
 obtain ⟨hh,h'⟩:=a2 h
 clear h
 have h:=h'
 clear h'
 have:Hm fx:=eU rfl hh
 have go:j9 Z o k (bL fx) .val x=true→ah fx (.src st T) x (bA (am fx.g.P fx.d) o ds):=fun h oa G=>AF (Φ:=⟨fx,oa,G⟩) (tw H (.inl rfl) hk h oa G)
 cases o with
 | own j=>
  replace h:=a2 h
  have hs:=h.1
  replace h:=h.2
  cases st with
  | true=>(injection hs; done)
  | false=>
   refine bu (C:=fun x=>ah fx (.src false T) x _) h fun m p h2=>?_
   clear h
   have h:=h2
   clear h2
   exact fun oa G=>wz (Φ:=⟨fx,oa,G⟩) (eq_of_beq (a2 h).1) (a2 (a2 h).2).1
 | range=>exact r9 (op:=opN .range) h hk fun oa G fp pos qs hg hq=>sC (Φ:=⟨fx,oa,G⟩) hg hq
 | zip=>
  refine vE (C:=fun T=>ah fx (.src st T) x _) h fun es j p h2=>?_
  clear h
  have h:=h2
  clear h2
  exact r9 (op:=opN .zip) h hk fun oa G fp pos qs hg hq=>wy (Φ:=⟨fx,oa,G⟩) hg hq
 | _=>exact go h
theorem wJ (H:GOk g Z) (hk:∀ ts,k ts=true→Kids g n ts ds) (h:yw Z o k t.1 t.2.1 t.2.2=true):d6 g n t (bA (am g.P n) o ds):=fun fx hg hn hX=>by
 subst hg hn
 obtain ⟨X,p,x⟩:=t
 subst hX
 cases p with
 | val=>exact tw H (.inl rfl) hk h
 | test=>exact tw H (.inr rfl) hk h
 | new=>exact a2e h fun hn h oa G=>((kh H hk (by cases o <;> first | rfl | (injection hn; done)) h).1 oa G).evN hn
 | src st T=>exact yT H hk h
 | asg y py sp=>exact Af H hk h
def AllOk (g:Gl) (n:Nat) (cs:List Ck) (ds:List D):Prop:=∀ ts,pE cs ts=true→Kids g n ts ds
theorem AllOk.nil:AllOk g n [] []:=fun ts h=>by
 cases ts with
 | nil=>exact .nil
 | cons=>(injection h; done)
theorem AllOk.cons (h1:∀ t,c t=true→d6 g n t d) (h2:AllOk g n cs ds):AllOk g n (c :: cs) (d :: ds):=fun ts h=>by
 cases ts with
 | nil=>(injection h; done)
 | cons t r=>exact .cons (h1 t (a2 h).1) (h2 r (a2 h).2)
theorem Ce (H:GOk g Z) (e:E):∀ t,xE Z e t=true→d6 g n t (ev (am g.P n) e):=
 E.rec (motive_1:=fun e=>∀ t,xE Z e t=true→d6 g n t (ev (am g.P n) e)) (motive_2:=fun es=>AllOk g n (E.rec_1 (motive_1:=fun _=>Ck) (motive_2:=fun _=>List Ck) (fun o _ ih t=>yw Z o (pE ih) t.1 t.2.1 t.2.2) [] (fun _ _ i is=>i :: is) es) (E.rec_1 (motive_1:=fun _=>D) (motive_2:=fun _=>List D) (fun o _ ih=>bA (am g.P n) o ih) [] (fun _ _ i is=>i :: is) es))
  (fun o es ih t h=>wJ H ih h) .nil (fun e es i is=>.cons i is) e
theorem xV (H:GOk g Z):∀ es:List E,AllOk g n (es.map (xE Z)) (es.map (ev (am g.P n)))
 | []=>.nil
 | e :: r=>.cons (Ce H e) (xV H r)
end
theorem fL (h:iI (bL fx) m j=true):TgtOk fx.ρ fx.env m j:=
 ⟨eq_of_beq (a2 h).1,fun e=>by
  have h:=(a2 h).2
  have e:(bL fx).sc.lookup m=some .free:=e
  replace h:=e▸h; (injection h; done)⟩
theorem lI:∀ {es:List Expr} {js:List Nat},mC (bL fx) es js=true→TgtsOk fx.ρ fx.env es js
 | [],js,h=>ln (C:=fun js=>TgtsOk fx.ρ fx.env [] js) h .nil
 | t :: r,js,h=>bu (C:=fun t=>TgtsOk fx.ρ fx.env (t :: r) js) h fun m p h=>by
  cases js with
  | nil=>(injection h; done)
  | cons j q=>exact .cons (fL (a2 h).1) (lI (a2 h).2)
theorem pz {f:Expr→Expr→Pos→Bool} {C:Stmt→Prop} (h:kB x f=true) (k:∀ t v p,f t v p=true→C (.Assign [t] v p)):C x:=
 if hi:x.ctorIdx=5 then Stmt.Assign.elim (motive_2:=fun x=>kB x f=true→C x) x hi (fun ts v p h=>l1 (C:=fun ts=>C (.Assign ts v p)) h fun t h=>k t v p h) h else by
  unfold kB at h; replace h:=(dif_neg hi)▸h; (injection h; done)
theorem At {f:Expr→Bool} {C:Stmt→Prop} (h:vd x f=true) (k:∀ e p,f e=true→C (.Expr e p)):C x:=
 if hi:x.ctorIdx=24 then Stmt.Expr.elim (motive_2:=fun x=>vd x f=true→C x) x hi (fun e p h=>k e p h) h else by
  unfold vd at h; replace h:=(dif_neg hi)▸h; (injection h; done)
theorem Cl {f:Expr→Bool} {C:Stmt→Prop} (h:xL x f=true) (k:∀ e p,f e=true→C (.Return (some e) p)):C x:=
 if hi:x.ctorIdx=3 then Stmt.Return.elim (motive_2:=fun x=>xL x f=true→C x) x hi (fun e p h=>by
  cases e with
  | none=>(injection h; done)
  | some e=>exact k e p h) h else by
  unfold xL at h; replace h:=(dif_neg hi)▸h; (injection h; done)
theorem Cm {f:Expr→List Stmt→List Stmt→Bool} {C:Stmt→Prop} (h:xM x f=true) (k:∀ c a b p,f c a b=true→C (.If c a b p)):C x:=
 if hi:x.ctorIdx=12 then Stmt.If.elim (motive_2:=fun x=>xM x f=true→C x) x hi (fun c a b p h=>k c a b p h) h else by
  unfold xM at h; replace h:=(dif_neg hi)▸h; (injection h; done)
theorem BV {f:Expr→Expr→List Stmt→Bool} {C:Stmt→Prop} (h:wq x f=true) (k:∀ T it body p,f T it body=true→C (.For T it body [] p)):C x:=
 if hi:x.ctorIdx=9 then Stmt.For.elim (motive_2:=fun x=>wq x f=true→C x) x hi (fun T it body el p h=>ln (C:=fun el=>C (.For T it body el p)) (a2 h).1 (k T it body p (a2 h).2)) h else by
  unfold wq at h; replace h:=(dif_neg hi)▸h; (injection h; done)
theorem lRs {f:Expr→Bool} {C:Stmt→Prop} (h:vRs x f=true) (k:∀ e p,f e=true→C (.Raise (some e) none p)):C x:=
 if hi:x.ctorIdx=16 then Stmt.Raise.elim (motive_2:=fun x=>vRs x f=true→C x) x hi (fun e c p h=>by
  have h:(c.isNone&&e.any f)=true:=h
  obtain ⟨h1,h2⟩:=a2 h
  obtain rfl:c=none:=Option.isNone_iff_eq_none.mp h1
  obtain ⟨e',rfl,h3⟩:=gC h2
  exact k e' p h3) h else by
  unfold vRs at h; replace h:=(dif_neg hi)▸h; (injection h; done)
theorem Ci {f:Stmt→Option Expr→Option Str→List Stmt→Bool} {C:Stmt→Prop} (h:xJ x f=true) (k:∀ b t n hb hp p,f b t n hb=true→C (.Try [b] [.ExceptHandler t n hb hp] [] [] p)):C x:=
 if hi:x.ctorIdx=17 then Stmt.Try.elim (motive_2:=fun x=>xJ x f=true→C x) x hi (fun bd hs el fi p h=>ln (C:=fun el=>C (.Try bd hs el fi p)) (a2 h).1 (ln (C:=fun fi=>C (.Try bd hs [] fi p)) (a2 (a2 h).2).1 (l1 (C:=fun bd=>C (.Try bd hs [] [] p)) (a2 (a2 h).2).2 fun b h=>l1 (C:=fun hs=>C (.Try [b] hs [] [] p)) h fun hd h=>by
  obtain ⟨t,n,hb,hp⟩:=hd
  exact k b t n hb hp p h))) h else by
  unfold xJ at h; replace h:=(dif_neg hi)▸h; (injection h; done)
theorem x4 {α:Type} {xs:List α} {f:α×α×α×α→Bool} {C:List α→Prop} (h:(vU xs).any f=true) (k:∀ a b c d,f (a,b,c,d)=true→C [a,b,c,d]):C xs:=by
 rcases xs with _ | ⟨a,_ | ⟨b,_ | ⟨c,_ | ⟨d,_ | ⟨e,xs⟩⟩⟩⟩⟩
 ·exact nB h
 ·exact nB h
 ·exact nB h
 ·exact nB h
 ·exact k a b c d h
 ·exact nB h
theorem BT {C:Expr→Prop} (h:Al (bL fx) i x=true) (k:∀ n np ap pp,(ap.endLine==pp.line)=true→fx.ρ.lookup n=some i→aV n=true→C (.Call (.Attribute (.Name n np) "pop" ap) [] [] pp)):C x:=
 mK (C:=C) h fun y nm q xs p hl h=>a2e h fun e hh=>a2e hh fun h1 h2=>by
  have e:nm="pop":=eq_of_beq e
  clear h hh
  subst e
  exact ln (C:=fun xs=>C (.Call _ xs [] p)) h1 (bu (C:=fun y=>C (.Call (.Attribute y _ q) [] [] p)) h2 fun m pm h=>k m pm q p hl (eq_of_beq (a2 h).1) (a2 h).2)
section
variable {g:Gl} {n:Nat} {Z:Zx} {o:SOp} {k:List Kid→Bool} {ds:List D} {fx:Fx} {ca cb:CkS} {YA YB:B}
def SOk (g:Gl) (n:Nat) (c:CkS) (Y:B):Prop:=∀ fx sts,fx.g=g→fx.d=n→FxTop fx→c (bL fx) sts=true→ExB fx (execs sts fx.env) Y
noncomputable abbrev vW (W Y:B):B:=fun G K=>W G fun fl G'=>match fl with | none=>Y G' K | some x=>K (some x) G'
def MOk (g:Gl) (n:Nat) (c:CkM) (W:B):Prop:=∀ fx sts rest Y,fx.g=g→fx.d=n→FxTop fx→(∀ r,rest r=true→ExB fx (execs r fx.env) Y)→c (bL fx) sts rest=true→ExB fx (execs sts fx.env) (vW W Y)
theorem l7 (h:(cq xs&&k (xs.map fun x=>(bL fx,.val,x)))=true) (hk:∀ ts,k ts=true→Kids fx.g fx.d ts ds) {C:B→Prop} {W:List V→Gs→(Option V→Gs→Prop)→Prop}
  (f:∀ qs:Gs→List (Expr×DV),(∀ G,(qs G).map Prod.fst=xs)→(∀ oa G,∀ q∈qs G,ao q.1=true∧bi ⟨fx,oa,G⟩ q)→C (fun G K=>bo ((qs G).map Prod.snd) fun ys=>W ys G K)):C (fun G K=>bY ds G fun ys=>W ys G K):=by
 obtain ⟨qs,e1,e2⟩:=(hk _ (a2 h).2).items rfl rfl (a2 h).1
 have z:=f qs (fun G=>(e1 G).1) e2
 rwa [show (fun (G:Gs) (K:Option V→Gs→Prop)=>bo ((qs G).map Prod.snd) fun ys=>W ys G K)=fun G K=>bY ds G fun ys=>W ys G K from funext fun G=>funext fun K=>by rw [(e1 G).2,jG]] at z
theorem zE (h:(!a||b)=true) (e:a=true):b=true:=by rw [e] at h; exact h
theorem wv (H:GOk fx.g Z) (top:FxTop fx) (hk:∀ ts,k ts=true→Kids fx.g fx.d ts ds) (ha:SOk fx.g fx.d ca YA) (hb:SOk fx.g fx.d cb YB) (h:v9 Z o k ca cb (bL fx) x=true):ExB fx (exec x fx.env) (d8 fx.g.P.sup (am fx.g.P fx.d) o ds YA YB):=by
 cases o with
 | assign j=>exact pz (C:=fun x=>ExB fx (exec x fx.env) _) h fun t v p h=>bu (C:=fun t=>ExB fx (exec (.Assign [t] v p) fx.env) _) h fun m q h=>(hk _ (a2 h).2).n1 (C:=fun ds=>ExB fx _ (d8 _ _ (.assign j) ds YA YB)) fun d a=>a fx rfl rfl rfl j (fL (a2 h).1)
 | assignM js=>
  refine a2e h fun hh h=>?_
  have:Hm fx:=eU rfl hh
  exact pz (C:=fun x=>ExB fx (exec x fx.env) _) h fun t v p h=>vE (C:=fun t=>ExB fx (exec (.Assign [t] v p) fx.env) _) h fun es j q h=>a2e h fun h1 h=>(hk _ (a2 h).2).n1 (C:=fun ds=>ExB fx _ (d8 _ _ (.assignM js) ds YA YB)) fun d a=>pZ (a2 h).1 (lI h1) (a fx rfl rfl rfl)
 | ownL j=>exact pz (C:=fun x=>ExB fx (exec x fx.env) _) h fun t v p h=>bu (C:=fun t=>ExB fx (exec (.Assign [t] v p) fx.env) _) h fun m q h=>a2e h fun h1 h=>BU (C:=fun v=>ExB fx (exec (.Assign [_] v p) fx.env) _) h fun xs q' h=>l7 (C:=fun Y=>ExB fx _ Y) (W:=fun xs G K=>xs.length≤ai∧K none (G.set j (.ownL xs))) h hk fun qs e1 e2=>xo (fL h1) e1 e2
 | setAttr i j=>exact pz (C:=fun x=>ExB fx (exec x fx.env) _) h fun t v p h=>tD (C:=fun t=>ExB fx (exec (.Assign [t] v p) fx.env) _) h fun u nm q h=>bu (C:=fun u=>ExB fx (exec (.Assign [.Attribute u nm q] v p) fx.env) _) h fun m q' h=>a2e h fun h1 h=>a2e h fun h2 h=>a2e h fun h3 h=>a2e h fun h4 h=>(hk _ h).n1 (C:=fun ds=>ExB fx _ (d8 _ _ (.setAttr i j) ds YA YB)) fun d a=>pX (eq_of_beq h1) h2 (by rw [H.flds]; exact eq_of_beq h3) h4 (a fx rfl rfl rfl)
 | setAttrN i j=>exact pz (C:=fun x=>ExB fx (exec x fx.env) _) h fun t v p h=>tD (C:=fun t=>ExB fx (exec (.Assign [t] v p) fx.env) _) h fun u nm q h=>bu (C:=fun u=>ExB fx (exec (.Assign [.Attribute u nm q] v p) fx.env) _) h fun m q' h=>a2e h fun h1 h=>a2e h fun h2 h=>a2e h fun h3 h=>a2e h fun h4 h=>(hk _ h).n1 (C:=fun ds=>ExB fx _ (d8 _ _ (.setAttrN i j) ds YA YB)) fun d a=>nk (eq_of_beq h1) h2 (by rw [H.flds]; exact eq_of_beq h3) h4 (a fx rfl rfl rfl)
 | call f=>exact At (C:=fun x=>ExB fx (exec x fx.env) _) h fun e p h=>mL (C:=fun e=>ExB fx (exec (.Expr e p) fx.env) _) h fun n q xs r hf hx hs h=>l7 (C:=fun Y=>ExB fx _ Y) (W:=fun xs G K=>am fx.g.P fx.d f xs fun y=>if noX y=true then isNone y=true∧K none G else K (some y) G) h hk fun qs e1 e2=>xq e1 hx (H.fns▸hf) (H.keep _ _ hf) (fun e=>by rw [H.safe]; exact hs e) e2
 | append j=>
  refine At (C:=fun x=>ExB fx (exec x fx.env) _) h fun e p h=>mK (C:=fun e=>ExB fx (exec (.Expr e p) fx.env) _) h fun y nm q xs r hl h=>a2e h fun e h=>a2e h fun h1 hh=>?_
  have e:nm="append":=eq_of_beq e
  subst e
  exact bu (C:=fun y=>ExB fx (exec (.Expr (.Call (.Attribute y _ q) xs [] r) p) fx.env) _) hh fun m pm h2=>l1 (C:=fun xs=>ExB fx (exec (.Expr (.Call _ xs [] r) p) fx.env) _) h1 fun y h=>(hk _ (a2 h).2).n1 (C:=fun ds=>ExB fx _ (d8 _ _ (.append j) ds YA YB)) fun d a=>tg (eq_of_beq (a2 h2).1) (a2 h2).2 (a2 h).1 hl (a fx rfl rfl rfl)
 | ret=>
  refine Cl (C:=fun x=>ExB fx (exec x fx.env) _) h fun e p h=>?_
  cases hnw:fx.nw with
  | true=>rw [show (bL fx).nw=true from hnw] at h; exact (hk _ h).n1 (C:=fun ds=>ExB fx _ (d8 _ _ .ret ds YA YB)) fun d a=>xl (a fx rfl rfl rfl)
  | false=>rw [show (bL fx).nw=false from hnw] at h; exact (hk _ h).n1 (C:=fun ds=>ExB fx _ (d8 _ _ .ret ds YA YB)) fun d a=>zJ hnw (a fx rfl rfl rfl)
 | tryE f c j=>
  refine Ci (C:=fun x=>ExB fx (exec x fx.env) _) h fun b t n hb' hp p h=>a2e h fun hh h=>?_
  have:Hm fx:=eU rfl hh
  obtain ⟨t,rfl,h⟩:=gC h
  refine bu (C:=fun t=>ExB fx (exec (.Try [b] [.ExceptHandler (some t) n hb' hp] [] [] p) fx.env) _) h fun C pC h=>a2e h fun h1 h=>a2e h fun h2 h=>?_
  obtain ⟨n,rfl,h⟩:=gC h
  refine a2e h fun h3 h=>a2e h fun h4 h=>a2e h fun h5 h=>a2e h fun h6 h=>?_
  refine At (C:=fun b=>ExB fx (exec (.Try [b] _ [] [] p) fx.env) _) h fun e rp h=>mL (C:=fun e=>ExB fx (exec (.Try [.Expr e rp] _ [] [] p) fx.env) _) h fun fnm q xs r hf hx hs h=>?_
  refine l7 (C:=fun Y=>ExB fx _ Y) (W:=fun xs G K=>am fx.g.P fx.d f xs fun y=>match lW y with
   | none=>w6 y=true∧K none G
   | some d=>fx.g.P.sup d c=true∧YA (G.set j (.v y)) fun fl G'=>(match fl with | some x=>noX x=true | none=>False)∧K fl (G'.set j .unset)) h hk fun qs e1 e2=>?_
  exact xj top e1 hx (H.fns▸hf) (H.keep _ _ hf) h1 (by rw [H.clss]; exact eq_of_beq h2) (eq_of_beq h3) (eq_of_beq h4) (fun e=>by replace h5:=e▸h5; (injection h5; done)) e2 fun A ef ed eu=>ha { fx with A:=A,hm:=true } _ rfl rfl (by obtain ⟨o,L,a,b⟩:=top.top; exact ⟨o,L,ef.trans a,b⟩) h6
 | ownD j=>exact pz (C:=fun x=>ExB fx (exec x fx.env) _) h fun t v p h=>bu (C:=fun t=>ExB fx (exec (.Assign [t] v p) fx.env) _) h fun m q h=>a2e h fun h1 h=>ya (C:=fun v=>ExB fx (exec (.Assign [_] v p) fx.env) _) h fun ks vs q' h=>a2e h fun e1 h=>ln (C:=fun ks=>ExB fx (exec (.Assign [_] (.Dict ks vs q') p) fx.env) _) e1 (ln (C:=fun vs=>ExB fx (exec (.Assign [_] (.Dict [] vs q') p) fx.env) _) (a2 h).1 (xp (fL h1)))
 | setD j=>exact pz (C:=fun x=>ExB fx (exec x fx.env) _) h fun t v p h=>x3 (C:=fun t=>ExB fx (exec (.Assign [t] v p) fx.env) _) h fun u i sp h=>bu (C:=fun u=>ExB fx (exec (.Assign [.Subscript u i sp] v p) fx.env) _) h fun m q h=>a2e h fun h1 h=>a2e h fun h2 h=>a2e h fun h3 h=>(hk _ h).n2 (C:=fun ds=>ExB fx _ (d8 _ _ (.setD j) ds YA YB)) fun d e a b=>xk (eq_of_beq h1) h2 (a2 h3).1 (a fx rfl rfl rfl) (b fx rfl rfl rfl)
 | popC j i f=>
  refine a2e h fun hh h=>?_
  have:Hm fx:=eU rfl hh
  exact pz (C:=fun x=>ExB fx (exec x fx.env) _) h fun t v p h=>bu (C:=fun t=>ExB fx (exec (.Assign [t] v p) fx.env) _) h fun m q h=>a2e h fun h1 h=>mL (C:=fun v=>ExB fx (exec (.Assign [_] v p) fx.env) _) h fun fnm fq xs r hf hx hs h=>x4 (C:=fun xs=>ExB fx (exec (.Assign [_] (.Call _ xs [] r) p) fx.env) _) h fun a b c d h=>a2e h fun hp h=>a2e h fun hpl hkk=>BT (C:=fun b=>ExB fx (exec (.Assign [_] (.Call _ [a,b,c,d] [] r) p) fx.env) _) hp fun n np ap pp hl hn1 hn2=>(hk _ hkk).n3 (C:=fun ds=>ExB fx _ (d8 _ _ (.popC j i f) ds YA YB)) fun da dc dd g1 g2 g3=>
   xn (d1:=da) (q2:=fun G=>[(c,dc G),(d,dd G)]) (fL h1) hx (H.fns▸hf) (H.keep _ _ hf) (fun e=>by rw [H.safe]; exact hs e) hn1 hn2 hl (List.all_eq_true.mp hpl a (.head _)) (g1 fx rfl rfl rfl) (fun _=>rfl) fun oa G=>zA1 ⟨⟨List.all_eq_true.mp hpl c (.tail _ (.head _)),g2 fx rfl rfl rfl oa G⟩,List.forall_mem_singleton.mpr ⟨List.all_eq_true.mp hpl d (.tail _ (.tail _ (.head _))),g3 fx rfl rfl rfl oa G⟩⟩
 | popS j i=>
  refine a2e h fun hh h=>?_
  have:Hm fx:=eU rfl hh
  exact pz (C:=fun x=>ExB fx (exec x fx.env) _) h fun t v p h=>bu (C:=fun t=>ExB fx (exec (.Assign [t] v p) fx.env) _) h fun m q h=>a2e h fun h1 h=>x3 (C:=fun v=>ExB fx (exec (.Assign [_] v p) fx.env) _) h fun e0 u sp h=>vE (C:=fun u=>ExB fx (exec (.Assign [_] (.Subscript e0 u sp) p) fx.env) _) h fun xs kk tp h=>x4 (C:=fun xs=>ExB fx (exec (.Assign [_] (.Subscript e0 (.Tuple xs kk tp) sp) p) fx.env) _) h fun a b c d h=>a2e h fun hp h=>a2e h fun hpl hkk=>BT (C:=fun c=>ExB fx (exec (.Assign [_] (.Subscript e0 (.Tuple [a,b,c,d] kk tp) sp) p) fx.env) _) hp fun n np ap pp hl hn1 hn2=>(hk _ hkk).nc (C:=fun ds=>ExB fx _ (d8 _ _ (.popS j i) ds YA YB)) fun d0 ds g0 gs=>gs.n3 (C:=fun ds=>ExB fx _ (d8 _ _ (.popS j i) (d0 :: ds) YA YB)) fun da db dd g1 g2 g3=>
   (xm (d0:=d0) (es1:=[a,b]) (es:=[d]) (q1:=fun G=>[(a,da G),(b,db G)]) (q2:=fun G=>[(d,dd G)]) (fL h1) hn1 hn2 hl (g0 fx rfl rfl rfl) (fun _=>rfl) (fun oa G=>zA1 ⟨⟨List.all_eq_true.mp hpl a (.head _),g1 fx rfl rfl rfl oa G⟩,List.forall_mem_singleton.mpr ⟨List.all_eq_true.mp hpl b (.tail _ (.head _)),g2 fx rfl rfl rfl oa G⟩⟩) (fun _=>rfl) fun oa G=>List.forall_mem_singleton.mpr ⟨List.all_eq_true.mp hpl d (.tail _ (.tail _ (.head _))),g3 fx rfl rfl rfl oa G⟩)
 | ite=>exact Cm (C:=fun x=>ExB fx (exec x fx.env) _) h fun c a b p h=>a2e h fun h1 h=>(hk _ h1).n1 (C:=fun ds=>ExB fx _ (d8 _ _ .ite ds YA YB)) fun d q=>Bw (q fx rfl rfl rfl) (ha fx _ rfl rfl top (a2 h).1) (hb fx _ rfl rfl top (a2 h).2)
 | forS j=>
  refine a2e h fun hh h=>?_
  have:Hm fx:=eU rfl hh
  exact BV (C:=fun x=>ExB fx (exec x fx.env) _) h fun T it body p h=>a2e h fun h2 h=>a2e h fun h3 h=>bu (C:=fun T=>ExB fx (exec (.For T it body [] p) fx.env) _) h fun m q h=>(hk _ (a2 h).2).n1 (C:=fun ds=>ExB fx _ (d8 _ _ (.forS j) ds YA YB)) fun d a=>vJ h2 (uc (fL (a2 h).1)) (a fx rfl rfl rfl) fun X=>ha (fx.mo X) _ rfl rfl ⟨top.top⟩ h3
 | forM js=>
  refine a2e h fun hh h=>?_
  have:Hm fx:=eU rfl hh
  exact BV (C:=fun x=>ExB fx (exec x fx.env) _) h fun T it body p h=>a2e h fun h2 h=>a2e h fun h3 h=>vE (C:=fun T=>ExB fx (exec (.For T it body [] p) fx.env) _) h fun es j q h=>(hk _ (a2 h).2).n1 (C:=fun ds=>ExB fx _ (d8 _ _ (.forM js) ds YA YB)) fun d a=>vJ h2 (ub (lI (a2 h).1)) (a fx rfl rfl rfl) fun X=>ha (fx.mo X) _ rfl rfl ⟨top.top⟩ h3
 | raise c=>
  refine a2e h fun hh h=>?_
  have:Hm fx:=eU rfl hh
  refine lRs (C:=fun x=>ExB fx (exec x fx.env) _) h fun e p h=>tC (C:=fun e=>ExB fx (exec (.Raise (some e) none p) fx.env) _) h fun u xs ks r h=>bu (C:=fun u=>ExB fx (exec (.Raise (some (.Call u xs ks r)) none p) fx.env) _) h fun n q h=>a2e h fun h1 h=>a2e h fun h2 h=>a2e h fun h3 h=>ln (C:=fun ks=>ExB fx (exec (.Raise (some (.Call _ xs ks r)) none p) fx.env) _) h3 (l1 (C:=fun xs=>ExB fx (exec (.Raise (some (.Call _ xs [] r)) none p) fx.env) _) h fun z h=>vF (C:=fun z=>ExB fx (exec (.Raise (some (.Call _ [z] [] r)) none p) fx.env) _) h fun c' kk cp e=>?_)
  cases c' with
  | str t=>exact uT h1 (by rw [H.clss]; exact eq_of_beq h2)
  | _=>(injection e; done)
 | _=>(injection h; done)
theorem wS (H:GOk g Z) (hk:∀ ts,k ts=true→Kids g n ts ds) (ha:SOk g n ca YA) (hb:SOk g n cb YB):MOk g n (wa Z o k ca cb) (d8 g.P.sup (am g.P n) o ds YA YB):=fun fx sts rest Y hg hn top hr h=>by
 subst hg hn
 have go:∀ {o:SOp},BM (v9 Z o k ca cb (bL fx)) rest sts=true→ExB fx (execs sts fx.env) (vW (d8 fx.g.P.sup (am fx.g.P fx.d) o ds YA YB) Y):=fun {o} h=>by
  cases sts with
  | nil=>(injection h; done)
  | cons x r=>exact ex_cons (wv H top hk ha hb (a2 h).1) (hr r (a2 h).2)
 cases o with
 | freeze j=>exact tf (hr sts h)
 | freezeD j=>exact pY (hr sts h)
 | _=>exact go h
theorem vx:SOk g n (fun _ sts=>sts.isEmpty) (fun G K=>K none G):=fun fx sts _ _ _ h=>ln (C:=fun sts=>ExB fx (execs sts fx.env) _) h zK
theorem vi (h1:MOk g n c W) (h2:SOk g n is Y):SOk g n (fun X sts=>c X sts (is X)) (vW W Y):=fun fx sts hg hn top h=>h1 fx sts (is (bL fx)) Y hg hn top (fun r q=>h2 fx r hg hn top q) h
theorem Cd (H:GOk g Z) (s:S):MOk g n (Aw Z s) (ex g.P.sup (am g.P n) s):=
 S.rec (motive_1:=fun s=>MOk g n (Aw Z s) (ex g.P.sup (am g.P n) s))
  (motive_2:=fun l=>SOk g n (S.rec_1 (motive_1:=fun _=>CkM) (motive_2:=fun _=>CkS) (fun o es _ _ a b X sts rest=>wa Z o (pE (es.map (xE Z))) a b X sts rest) (fun _ sts=>sts.isEmpty) (fun _ _ i is X sts=>i X sts (is X)) l)
   (S.rec_1 (motive_1:=fun _=>B) (motive_2:=fun _=>B) (fun o es _ _ x y=>d8 g.P.sup (am g.P n) o (es.map (ev (am g.P n))) x y) (fun G K=>K none G) (fun _ _ i is G K=>i G fun fl G'=>match fl with | none=>is G' K | some x=>K (some x) G') l))
  (fun o es a b ha hb=>wS H (xV H es) ha hb) vx (fun s l i is=>vi i is) s
theorem xU (H:GOk g Z):∀ l:List S,SOk g n (chkSs Z l) (exs g.P.sup (am g.P n) l)
 | []=>vx
 | s :: r=>vi (Cd H s) (xU H r)
end
def cY (h:Heap) (L:Addr):Prop:=∃ o,h.get? L=some o∧o.cls=.type "frame"
section
variable {M:Model} {A:Around} {E:Value→Shared→Prop} {s₀ s:Shared} {m cm:Str→Option Value} {env:Env}
theorem Cb (x:InCallC s₀ env.locals m env.cells cm s) (fr:cY s.heap env.locals) (hk:env.scope.kind=.function) (hl:env.kindOf n=some .local)
  (h:∀ s',InCallC s₀ env.locals (fun y=>if y=n then some v else m y) env.cells cm s'→cY s'.heap env.locals→Q () s'):wpAny M A (storeName env n v) Q E s:=by
 rw [storeName_local hl (by rw [hk]; rfl)]
 refine fA x.toInCall.ns fun h' hn' hs' hc'=>h _ ⟨⟨?_,hn',fun b o e=>?_,x.toInCall.fresh⟩,fun k c hc=>?_,x.apart,x.above⟩ ?_
 ·obtain ⟨h₁,tk,rfl⟩:=x.toInCall.same
  exact ⟨h',_,rfl⟩
 ·exact hs'.extBut b o (Nat.ne_of_lt (Nat.lt_of_lt_of_le (Heap.lt_size e) x.toInCall.fresh)) (x.toInCall.keep b o e)
 ·exact (x.cell k c hc).sameBut hs' (Nat.ne_of_gt (x.above k c (mem_of_lookup hc)))
 ·obtain ⟨o,e,c⟩:=fr
  obtain ⟨o',e',c'⟩:=hc' o e
  exact ⟨o',e',c'.trans c⟩
theorem Cc (x:InCallC s₀ env.locals m env.cells cm s) (fr:cY s.heap env.locals) (hk:env.scope.kind=.function) (hl:env.kindOf n=some .cell)
  (hc:env.cells.lookup n=some c)
  (h:∀ s',InCallC s₀ env.locals m env.cells (fun y=>if y=n then some v else cm y) s'→cY s'.heap env.locals→Q () s'):wpAny M A (storeName env n v) Q E s:=by
 have hLc:=x.above n c (mem_of_lookup hc)
 refine wpAny_storeName_cell hk hl hc (x.cell n c hc) fun h' hc' hs'=>h _ ⟨⟨?_,x.toInCall.ns.sameBut hs' (Nat.ne_of_lt hLc),fun b o e=>?_,x.toInCall.fresh⟩,fun k c' hk'=>?_,x.apart,x.above⟩ ?_
 ·obtain ⟨h₁,tk,rfl⟩:=x.toInCall.same
  exact ⟨h',_,rfl⟩
 ·exact hs'.extBut b o (Nat.ne_of_lt (Nat.lt_trans (Nat.lt_of_lt_of_le (Heap.lt_size e) x.toInCall.fresh) hLc)) (x.toInCall.keep b o e)
 ·by_cases hkn:k=n
  ·subst hkn
   rw [hc] at hk'; (injection hk' with hk'; subst hk')
   simpa using hc'
  ·rw [if_neg hkn]
   exact (x.cell k c' hk').sameBut hs' fun e=>hkn (name_of_addr x.apart (mem_of_lookup hk') (e▸mem_of_lookup hc))
 ·obtain ⟨o,e,hcl⟩:=fr
  exact ⟨o,hs'.extBut _ o (Nat.ne_of_lt hLc) e,hcl⟩
theorem eA (f:Str×Value→PUnit→Sem (ForInStep PUnit)) (hf:∀ n v u,f (n,v) u=(do storeName env n v; pure (.yield ⟨⟩))) (hk:env.scope.kind=.function) :
  ∀ (binds:List (Str×Value)) (m cm:Str→Option Value) (s:Shared) (Q:PUnit→Shared→Prop),InCallC s₀ env.locals m env.cells cm s→cY s.heap env.locals →
   (∀ x∈binds,env.kindOf x.1=some .local∨(env.kindOf x.1=some .cell∧(env.cells.lookup x.1).isSome=true)) →
   (∀ s',InCallC s₀ env.locals (bindL env.kindOf binds m) env.cells (bindC env.kindOf binds cm) s'→cY s'.heap env.locals→Q ⟨⟩ s')→wpAny M A (forIn binds ⟨⟩ f) Q E s
 | [],m,cm,s,Q,x,fr,_,h=>by rw [List.forIn_nil]; exact zC2 (h s x fr)
 | (n,v) :: r,m,cm,s,Q,x,fr,hkind,h=>by
  rw [List.forIn_cons,hf]
  have hr:∀ y∈r,env.kindOf y.1=some .local∨(env.kindOf y.1=some .cell∧(env.cells.lookup y.1).isSome=true):=fun y hy=>hkind y (List.mem_cons_of_mem _ hy)
  rcases hkind (n,v) List.mem_cons_self with hl | ⟨hl,hc⟩
  ·refine zC1 (zC1 (Cb x fr hk hl fun s' x' fr'=>zC2 (eA f hf hk r _ _ s' Q x' fr' hr fun s'' x''=>h s'' ?_)))
   unfold bindL bindC; rw [if_pos hl,if_pos hl]; exact x''
  ·obtain ⟨c,hc⟩:=Option.isSome_iff_exists.mp hc
   have hnl:¬ env.kindOf n=some .local:=by rw [hl]; decide
   refine zC1 (zC1 (Cc x fr hk hl hc fun s' x' fr'=>zC2 (eA f hf hk r _ _ s' Q x' fr' hr fun s'' x''=>h s'' ?_)))
   unfold bindL bindC; rw [if_neg hnl,if_neg hnl]; exact x''
theorem wO {scope:Scope} {globals:Addr} {binds:List (Str×Value)} {qual:Str} {func:Option Addr} {code:Value} {builtins:Addr} {Q:Env→Shared→Prop}
  (hk:scope.kind=.function)
  (hkind:∀ x∈binds,scope.names.lookup x.1=some .local∨(scope.names.lookup x.1=some .cell∧((cellsFrom (s.heap.objs.size+1) scope.names []).lookup x.1).isSome=true))
  (hQ:∀ env,env=newEnv scope s.heap.objs.size globals (cellsFrom (s.heap.objs.size+1) scope.names []) qual func code none builtins →
   ∀ s',InCallC s env.locals (bindL env.kindOf binds fun _=>none) env.cells (bindC env.kindOf binds fun _=>none) s'→cY s'.heap env.locals→Q env s') :
  wpAny M A (newFunctionEnv scope globals [] binds qual func code none builtins) Q E s:=by
 simp only [newFunctionEnv,Option.isSome_none,Bool.false_eq_true,if_false]
 refine zC1 (wpAny_alloc ?_)
 refine zC1 (wpAny_layCells _ (fun name kind cells=>by cases hkc:kind==NameKind.cell <;> simp [hkc]) _ _ _ _ ?_)
 have ok:=cellsFrom_ok scope.names (s.heap.push { cls:=.type "frame",data:=.dict #[] }) (s.heap.objs.size+1) [] ⟨fun _ _ hm=>(nM hm),List.Pairwise.nil⟩ (by rw [Heap.size_push]; exact Nat.le_refl _)
 rw [Heap.size_push] at ok
 rw [show ({ s with heap:=s.heap.push { cls:=.type "frame",data:=.dict #[] } }:Shared).heap.objs.size=s.heap.objs.size+1 from Heap.size_push ..]
 refine zC1 (eA (s₀:=s) (env:=newEnv scope s.heap.objs.size globals (cellsFrom (s.heap.objs.size+1) scope.names []) qual func code none builtins)
  _ (fun _ _ _=>rfl) hk binds (fun _=>none) (fun _=>none) _ _
  ⟨⟨⟨_,_,rfl⟩,(Heap.Ns.new s.heap (.type "frame")).keeps (pushCells_keeps _ _),fun b o e=>pushCells_keeps _ _ b o (Heap.get?_push_of_some _ e),Nat.le_refl _⟩,
   fun n c hc=>(ok.empty n c (mem_of_lookup hc)).1,ok.apart,fun n c hm=>(ok.empty n c hm).2⟩
  ⟨_,pushCells_keeps _ _ _ _ (Heap.get?_push_size _ rfl),rfl⟩
  hkind fun s' x fr=>zC2 (hQ _ rfl s' x fr))
end
section
variable {prog:Program} {w:World} {A:Around} {s:Shared}
theorem BF {R:Result→Shared→Prop} {body:List Stmt} {vals:List Value} {binds:List (Str×Value)}
  (hroom:A.depth < recursionLimit) (ho:s.heap.get? a=some o) (hdata:o.data=.func fd) (hlim:s.heap.NoLimit) (hcd:s.heap.CodeRec fd.code fd.qualname)
  (hbody:fd.body=.stmts body) (hbind:bindArgs fd ⟨vals,[]⟩=pure binds) (hclo:fd.closure=[])
  (hkind:∀ x∈binds,fd.scope.names.lookup x.1=some .local∨(fd.scope.names.lookup x.1=some .cell∧((cellsFrom (s.heap.objs.size+1) fd.scope.names []).lookup x.1).isSome=true))
  (hco:fd.scope.isCoroutine=false) (hgen:fd.scope.isGenerator=false) (hk:fd.scope.kind=.function)
  (h:∀ s₁,InCallC s (callEnvC fd s.heap.objs.size a).locals (bindL (callEnvC fd s.heap.objs.size a).kindOf binds fun _=>none) (callEnvC fd s.heap.objs.size a).cells
    (bindC (callEnvC fd s.heap.objs.size a).kindOf binds fun _=>none) s₁→cY s₁.heap (callEnvC fd s.heap.objs.size a).locals →
   wpAny (model prog w) (A.deeper (callEnvC fd s.heap.objs.size a)) (execs body (callEnvC fd s.heap.objs.size a)) (fun f s'=>R (.ok (.ret (match f with | .ret v=>v | _=>.none))) s')
    (fun e s'=>wpAny (model prog w) (A.deeper (callEnvC fd s.heap.objs.size a)) (leaving (callEnvC fd s.heap.objs.size a) e) (fun _ s''=>R (.error e) s'') (fun e' s''=>R (.error e') s'') s') s₁) :
  codeAny (model prog w) A (.call (.ref a) ⟨vals,[]⟩) R s:=by
 refine codeAny_call_function hroom ho hdata hco hgen hbody hcd ?_
 rw [hbind,hclo]
 refine zC2 (wO hk hkind fun env he s' x fr=>?_)
 subst he
 exact ⟨hlim.keeps x.toInCall.keep,codeAny_func (h s' x fr)⟩
end
theorem dJ:∀ (names:List (Str×NameKind)) (n:Nat) (acc:List (Str×Addr)) (x:Str),((x,NameKind.cell)∈names∨(acc.lookup x).isSome=true)→((cellsFrom n names acc).lookup x).isSome=true
 | [],_,_,_,h=>by
  rcases h with h | h
  ·cases h
  ·exact h
 | (y,k) :: r,n,acc,x,h=>by
  unfold cellsFrom
  have more:∀ q:Str×Addr,(acc.lookup x).isSome=true→((q :: acc).lookup x).isSome=true:=fun q e=>by
   rw [List.lookup_cons]; split
   ·rfl
   ·exact e
  split
  ·refine dJ r _ _ x ?_
   rcases h with h | h
   ·rcases List.mem_cons.mp h with e | e
    ·(injection e with e; subst e); right; rw [List.lookup_cons]; simp
    ·exact .inl e
   ·exact .inr (more _ h)
  ·rename_i hk
   refine dJ r _ _ x ?_
   rcases h with h | h
   ·rcases List.mem_cons.mp h with e | e
    ·cases e; exact absurd rfl hk
    ·exact .inl e
   ·exact .inr h
theorem lh {kindOf:Str→Option NameKind} (hx:kindOf x=some .local):∀ (ps:List Str) (vs:List Value) (m:Str→Option Value),ps.Nodup→ps.length=vs.length →
  (∀ i:Nat,ps[i]?=some x→bindL kindOf (ps.zip vs) m x=vs[i]?)∧(x∉ps→bindL kindOf (ps.zip vs) m x=m x)
 | [],_,m,_,_=>⟨fun i e=>by simp at e,fun _=>by simp [bindL]⟩
 | p :: ps,[],m,_,e=>by simp at e
 | p :: ps,v :: vs,m,hn,e=>by
  obtain ⟨hp,hn'⟩:=List.nodup_cons.mp hn
  have ih:=fun m=>lh hx ps vs m hn' (Nat.succ.inj e)
  refine ⟨fun i ei=>?_,fun nx=>?_⟩
  ·refine (?_:bindL kindOf (ps.zip vs) _ x=_)
   cases i with
   | zero=>
    (injection ei with ei; subst ei)
    rw [(ih _).2 hp,if_pos hx]; exact if_pos rfl
   | succ i=>exact (ih _).1 i ei
  ·refine (?_:bindL kindOf (ps.zip vs) _ x=_)
   rw [(ih _).2 fun q=>nx (.tail _ q)]
   split
   ·exact if_neg fun q:x=p=>nx (q▸.head _)
   ·rfl
theorem li {kindOf:Str→Option NameKind} (hx:kindOf x≠some .local):∀ (ps:List Str) (vs:List Value) (m:Str→Option Value),ps.Nodup→ps.length=vs.length →
  (∀ i:Nat,ps[i]?=some x→bindC kindOf (ps.zip vs) m x=vs[i]?)∧(x∉ps→bindC kindOf (ps.zip vs) m x=m x)
 | [],_,m,_,_=>⟨fun i e=>by simp at e,fun _=>by simp [bindC]⟩
 | p :: ps,[],m,_,e=>by simp at e
 | p :: ps,v :: vs,m,hn,e=>by
  obtain ⟨hp,hn'⟩:=List.nodup_cons.mp hn
  have ih:=fun m=>li hx ps vs m hn' (Nat.succ.inj e)
  refine ⟨fun i ei=>?_,fun nx=>?_⟩
  ·refine (?_:bindC kindOf (ps.zip vs) _ x=_)
   cases i with
   | zero=>
    (injection ei with ei; subst ei)
    rw [(ih _).2 hp,if_neg hx]; exact if_pos rfl
   | succ i=>exact (ih _).1 i ei
  ·refine (?_:bindC kindOf (ps.zip vs) _ x=_)
   rw [(ih _).2 fun q=>nx (.tail _ q)]
   split
   ·rfl
   ·exact if_neg fun q:x=p=>nx (q▸.head _)
theorem eX:∀ (l:List Str) (n:Nat) (x:Str) (k:Nat),(l.zipIdx n).lookup x=some k→∃ j,k=n+j∧l[j]?=some x
 | [],_,_,_,e=>nN e.symm
 | y :: r,n,x,k,e=>by
  rw [List.zipIdx_cons,List.lookup_cons] at e
  cases hb:x==y with
  | true=>replace e:=hb▸e; (injection e with e; subst e); rw [beq_iff_eq.mp hb]; exact ⟨0,rfl,rfl⟩
  | false=>
   rw [hb] at e
   obtain ⟨j,h1,h2⟩:=eX r (n+1) x k e
   exact ⟨j+1,by rw [h1,Nat.add_assoc,Nat.add_comm 1],h2⟩
structure FnAt (g:Gl) (a:Addr) (fn:Fn) (fd:FuncData) (body:List Stmt) (nms:List Str):Prop where
 at':∃ o:Obj,g.h0.get? a=some o∧o.data=.func fd
 bd:fd.body=.stmts body
 code:g.h0.CodeRec fd.code fd.qualname
 glo:fd.globals=mainGlobals
 blt:fd.builtins=builtinsNs
 clo:fd.closure=[]
 co:fd.scope.isCoroutine=false
 gen:fd.scope.isGenerator=false
 kind:fd.scope.kind=.function
 bind:∀ vals:List Value,vals.length=fn.npar→bindArgs fd ⟨vals,[]⟩=pure ((nms.take fn.npar).zip vals)
 nodup:nms.Nodup
 npar:fn.npar≤nms.length
 nslots:nms.length≤fn.nslots
 kinds:∀ x∈nms,fd.scope.names.lookup x=some .local∨fd.scope.names.lookup x=some .cell
noncomputable def jY (nms:List Str) (sc:List (Str×NameKind)) (L:Addr) (cs:List (Str×Addr)) (k:Nat):Pl:=match nms[k]? with
 | none=>.off
 | some x=>if sc.lookup x=some .local then .ns L x else match cs.lookup x with | some c=>.cell c | none=>.off
noncomputable def vI (g:Gl) (A:Around) (fd:FuncData) (nms:List Str) (ns:Nat) (a L:Addr) (bad:Addr→Prop) (d:Nat) (hm nw:Bool):Fx:=
 { g:=g,A:=A.deeper (callEnvC fd L a),env:=callEnvC fd L a,ρ:=nms.zipIdx,pl:=jY nms fd.scope.names L (cellsFrom (L+1) fd.scope.names []),Mo:=bad,nf:=nms.length,ns:=ns,d:=d,hm:=hm,nw:=nw }
section
variable {g:Gl} {a:Addr} {fn:Fn} {fd:FuncData} {body:List Stmt} {nms:List Str}
theorem pl_cases (F:FnAt g a fn fd body nms) (L n:Nat) (k:Nat):(nms[k]?=none∧jY nms fd.scope.names L (cellsFrom n fd.scope.names []) k=.off)∨∃ x,nms[k]?=some x∧((fd.scope.names.lookup x=some .local∧jY nms fd.scope.names L (cellsFrom n fd.scope.names []) k=.ns L x) ∨
  (fd.scope.names.lookup x=some .cell∧∃ c,(cellsFrom n fd.scope.names []).lookup x=some c∧jY nms fd.scope.names L (cellsFrom n fd.scope.names []) k=.cell c)):=by
 unfold jY
 cases hk:nms[k]? with
 | none=>exact .inl ⟨rfl,rfl⟩
 | some x=>
  refine .inr ⟨x,rfl,(F.kinds x (List.mem_of_getElem? hk)).imp (fun h=>⟨h,if_pos h⟩) fun h=>⟨h,?_⟩⟩
  obtain ⟨c,hc⟩:=Option.isSome_iff_exists.mp (dJ fd.scope.names n [] x (.inl (mem_of_lookup h)))
  refine ⟨c,hc,(if_neg fun q=>?_).trans ?_⟩
  ·replace q:=h▸q; cases q
  ·rw [hc]
theorem AV (F:FnAt g a fn fd body nms) (gr:Ground g) (ih:fj g (am g.P d) d) (hand:mW hm A) (hroom:A.depth+(1+2 * d) < 990) (hunits:A.units+(3+4 * d)+100 < cLine)
  (above:∀ x c,(cellsFrom (L+1) fd.scope.names []).lookup x=some c→L < c) (apart:(cellsFrom (L+1) fd.scope.names []).Pairwise fun x y=>x.2≠y.2) (hb0:∀ b,bad b→g.h0.get? b=none) :
  FxOk (vI g A fd nms fn.nslots a L bad d hm nw) where
 gr:=gr
 hand:=hand
 kind:=F.kind
 globals:=F.glo
 builtins:=F.blt
 vis:=fun x k hx=>by
  obtain ⟨j,rfl,hj⟩:=eX nms 0 x k hx
  rw [Nat.zero_add]
  rcases pl_cases F L (L+1) j with ⟨q,_⟩ | ⟨y,q,z⟩ <;> rw [hj] at q <;> cases q
  exact z.imp (fun z=>⟨z.1,z.2⟩) fun ⟨z,c,hc,zp⟩=>⟨.inl z,c,hc,zp⟩
 inj:=fun k j e hne=>by
  rcases pl_cases F L (L+1) k with ⟨_,q⟩ | ⟨x,qk,zk⟩
  ·exact absurd q hne
  rcases pl_cases F L (L+1) j with ⟨_,q⟩ | ⟨y,qj,zj⟩
  ·exact absurd (e.trans q) hne
  have e:jY nms fd.scope.names L (cellsFrom (L+1) fd.scope.names []) k=jY nms fd.scope.names L (cellsFrom (L+1) fd.scope.names []) j:=e
  have:x=y:=by
   rcases zk with ⟨_,q⟩ | ⟨_,c,q1,q⟩ <;> rcases zj with ⟨_,q'⟩ | ⟨_,c',q1',q'⟩ <;> rw [q,q'] at e <;> cases e
   ·rfl
   ·exact name_of_addr apart (mem_of_lookup q1) (mem_of_lookup q1')
  subst this
  exact (List.getElem?_inj (List.getElem?_eq_some_iff.mp qk).1 F.nodup).mp (qk.trans qj.symm)
 apart:=fun k j b x c e1 e2=>by
  have e1:jY nms fd.scope.names L (cellsFrom (L+1) fd.scope.names []) k=.ns b x:=e1
  have e2:jY nms fd.scope.names L (cellsFrom (L+1) fd.scope.names []) j=.cell c:=e2
  rcases pl_cases F L (L+1) k with ⟨_,q⟩ | ⟨y,_,⟨_,q⟩ | ⟨_,_,_,q⟩⟩ <;> rw [q] at e1 <;> cases e1
  rcases pl_cases F L (L+1) j with ⟨_,q⟩ | ⟨y,_,⟨_,q⟩ | ⟨_,c',q1,q⟩⟩ <;> rw [q] at e2 <;> cases e2
  exact Nat.ne_of_lt (above y _ q1)
 offs:=fun k hk=>by
  rcases pl_cases F L (L+1) k with ⟨_,q⟩ | ⟨y,q,_⟩
  ·exact q
  ·exact absurd (List.getElem?_eq_some_iff.mp q).1 (Nat.not_lt.mpr hk)
 nfs:=F.nslots
 room:=by refine (?_:A.depth+1+2 * d < 990); rw [Nat.add_assoc]; exact hroom
 units:=by refine (?_:A.units+3+4 * d+100 < cLine); rw [Nat.add_assoc A.units]; exact hunits
 call:=ih
 mo0:=hb0
end
section
variable {g:Gl} {a:Addr} {fn:Fn} {fd:FuncData} {body:List Stmt} {nms:List Str}
theorem vk {bad:Addr→Prop} {oa0:Nat→Option Addr} {K:Option V→Gs→Prop} {R:Result→Shared→Prop} (F:FnAt g a fn fd body nms) (gr:Ground g) (ih:fj g (am g.P d) d)
  (hand:mW hm A) (hfrs:fw g A s.heap) (hroom:A.depth+(1+2 * d) < 990) (hunits:A.units+(3+4 * d)+100 < cLine) (B:Base g s) (hbad:∀ b,bad b→aS s.heap b) (hb0:∀ b,bad b→g.h0.get? b=none) (hlen:vals.length=fn.npar) (hG:G0.length=fn.nslots)
  (hoa:∀ k b,oa0 k=some b→k=0∧aS s.heap b∧g.h0.get? b=none∧¬ bad b)
  (hsl:∀ k,k < fn.npar→d5 g (fun b=>bad b∨∃ k,oa0 k=some b) s.heap (oa0 k) vals[k]? (getSlot G0 k)) (hun:∀ k,¬ k < fn.npar→getSlot G0 k=.unset∧oa0 k=none) (sim:∀ L,ExB (vI g A fd nms fn.nslots a L bad d hm nw) (execs body (callEnvC fd L a)) (exs g.P.sup (am g.P d) fn.body)) (hb:exs g.P.sup (am g.P d) fn.body G0 K)
  (hR:∀ s' (Φ':Ct) f fl,(fl=none→Inv Φ' s')→Base g s'→Φ'.fx.g=g→Φ'.fx.Mo=bad→Φ'.fx.nw=nw→(∀ b o,s.heap.get? b=some o→(∀ k,oa0 k≠some b)→bB s'.heap b o)→(∀ k b,Φ'.oa k=some b→isI (getSlot Φ'.G k)→oa0 k=some b)→xG Φ' s s'.heap f fl→K fl Φ'.G →
   R (.ok (.ret (match f with | .ret v=>v | _=>.none))) s')
  (hX:∀ s' c e G',c < g.nc→Base g s'→(∀ b o,s.heap.get? b=some o→(∀ k,oa0 k≠some b)→bB s'.heap b o)→ExcAt s'.heap s.heap e (.ref (g.cls c)) .none→K (some (gz c)) G'→R (.error (.ref e)) s'):codeAny (model g.prog g.w) A (.call (.ref a) ⟨vals,[]⟩) R s:=by
 obtain ⟨o,ho,hd⟩:=F.at'
 have dead:∀ a,s.heap.objs.size≤a→s.heap.get? a=none:=fun a ha=>by
  cases e:s.heap.get? a with
  | none=>rfl
  | some o=>exact absurd (Heap.lt_size e) (Nat.not_lt.mpr ha)
 have cok:=cellsFrom_ok fd.scope.names (s.heap.push { cls:=.type "frame",data:=.dict #[] }) (s.heap.objs.size+1) [] ⟨fun _ _ hm=>(nM hm),List.Pairwise.nil⟩ (by rw [Heap.size_push]; exact Nat.le_refl _)
 rw [Heap.size_push] at cok
 have above:∀ x c,(cellsFrom (s.heap.objs.size+1) fd.scope.names []).lookup x=some c→s.heap.objs.size < c:=fun x c hx=>(cok.empty x c (mem_of_lookup hx)).2
 have ok:=AV (bad:=bad) (hm:=hm) (nw:=nw) F gr ih hand hroom hunits above cok.apart hb0
 have hkc:∀ x∈nms,fd.scope.names.lookup x=some .local∨(fd.scope.names.lookup x=some .cell∧((cellsFrom (s.heap.objs.size+1) fd.scope.names []).lookup x).isSome=true):=fun x hx=>(F.kinds x hx).imp id fun h=>⟨h,dJ _ _ _ _ (.inl (mem_of_lookup h))⟩
 refine BF (o:=o) (fd:=fd) (body:=body) (binds:=(nms.take fn.npar).zip vals) (show A.depth < 1000 from Nat.lt_trans (Nat.lt_of_le_of_lt (Nat.le_add_right _ _) hroom) (by decide)) (B.stays _ _ ho) hd (gr.nolim.keeps fun b o e=>B.stays b o e) (F.code.keeps fun b o e=>B.stays b o e) F.bd (F.bind vals hlen) F.clo
  (fun x hx=>hkc x.1 (List.mem_of_mem_take (List.of_mem_zip hx).1)) F.co F.gen F.kind (fun s₁ ic fcl=>?_)
 let fx:Fx:=vI g A fd nms fn.nslots a s.heap.objs.size bad d hm nw
 have sim:ExB fx (execs body fx.env) (exs g.P.sup (am g.P d) fn.body):=sim s.heap.objs.size
 have plDead:∀ k b,(fx.pl k).addr=some b→s.heap.get? b=none:=fun k b e=>by
  have e:(jY nms fd.scope.names s.heap.objs.size (cellsFrom (s.heap.objs.size+1) fd.scope.names []) k).addr=some b:=e
  rcases pl_cases F s.heap.objs.size (s.heap.objs.size+1) k with ⟨_,q⟩ | ⟨y,_,⟨_,q⟩ | ⟨_,c,q1,q⟩⟩ <;> rw [q] at e <;> (first | (injection e; done) | (injection e with e; subst e))
  ·exact dead _ (Nat.le_refl _)
  ·exact dead _ (Nat.le_of_lt (above y _ q1))
 have kp:aI s.heap s₁.heap:=ic.toInCall.keep
 obtain ⟨hs₁,tk₁,es₁⟩:=ic.toInCall.same
 have notOwn:∀ b,aS s.heap b→(∀ k,oa0 k≠some b)→¬ (Ct.mk fx oa0 G0).own b:=fun b l n q=>by
  rcases q with ⟨k,q⟩ | ⟨k,q⟩
  ·obtain ⟨o,e⟩:=l; rw [plDead k b q] at e; (injection e; done)
  ·exact n k q
 have mk:cX (fun b=>bad b∨∃ k,oa0 k=some b) (Ct.mk fx oa0 G0).bad s.heap s₁.heap:=fun b o e _ n=>⟨fun q=>q.elim (fun q=>n (.inl q)) (notOwn b ⟨o,e⟩ fun k q=>n (.inr ⟨k,q⟩)),kp b o e⟩
 have hpar:(nms.take fn.npar).length=vals.length:=by rw [List.length_take,hlen]; exact Nat.min_eq_left F.npar
 have hpnd:(nms.take fn.npar).Nodup:=F.nodup.sublist (List.take_sublist _ _)
 have inPar:∀ k x,nms[k]?=some x→k < fn.npar→(nms.take fn.npar)[k]?=some x:=fun k x hk hlt=>by rw [List.getElem?_take_of_lt hlt]; exact hk
 have notPar:∀ k x,nms[k]?=some x→¬ k < fn.npar→x∉nms.take fn.npar:=fun k x hk hge hm=>by
  obtain ⟨j,hj⟩:=List.getElem?_of_mem hm
  have hjl:j < fn.npar:=Nat.lt_of_lt_of_le (List.getElem?_eq_some_iff.mp hj).1 (List.length_take_le _ _)
  rw [List.getElem?_take_of_lt hjl] at hj
  exact hge ((List.getElem?_inj (List.getElem?_eq_some_iff.mp hj).1 F.nodup).mp (hj.trans hk.symm)▸hjl)
 have slot:∀ k,∃ v,aZ s₁.heap (fx.pl k) v∧(k < fn.npar→v=vals[k]?)∧(¬ k < fn.npar→v=none):=fun k=>by
  rcases pl_cases F s.heap.objs.size (s.heap.objs.size+1) k with ⟨e,q⟩ | ⟨x,hk,⟨h1,q⟩ | ⟨h1,c,h2,q⟩⟩
  ·exact ⟨none,by refine (?_:aZ _ (jY _ _ _ _ _) _); rw [q]; rfl,fun hlt=>absurd hlt (Nat.not_lt.mpr (zB1 F.npar (List.getElem?_eq_none_iff.mp e))),fun _=>rfl⟩
  ·have bl:=lh (kindOf:=(callEnvC fd s.heap.objs.size a).kindOf) (x:=x) h1 (nms.take fn.npar) vals (fun _=>none) hpnd hpar
   exact ⟨_,by refine (?_:aZ _ (jY _ _ _ _ _) _); rw [q]; exact ⟨_,ic.toInCall.ns,rfl⟩,fun hlt=>bl.1 k (inPar k x hk hlt),fun hge=>bl.2 (notPar k x hk hge)⟩
  ·have bc:=li (kindOf:=(callEnvC fd s.heap.objs.size a).kindOf) (x:=x) (fun z=>by have z:fd.scope.names.lookup x=some .local:=z; rw [h1] at z; cases z) (nms.take fn.npar) vals (fun _=>none) hpnd hpar
   exact ⟨_,by refine (?_:aZ _ (jY _ _ _ _ _) _); rw [q]; exact ic.cell x c h2,fun hlt=>bc.1 k (inPar k x hk hlt),fun hge=>bc.2 (notPar k x hk hge)⟩
 obtain ⟨l,hl,fl⟩:=hfrs
 have fr₁':gD g.h0 s₁.heap (callEnvC fd s.heap.objs.size a :: l):=fun env m=>by
  cases m with
  | head=>
   obtain ⟨o',e',c'⟩:=fcl
   obtain ⟨on,_,_,en,dn,_⟩:=ic.toInCall.ns
   (injection e'.symm.trans en with Xq; subst Xq)
   exact ⟨by refine (?_:fd.scope.kind≠_); rw [F.kind]; exact nofun,_,o',rfl,aM (fun l=>B.stays.live l) (ak _),e',c',fun vs q=>nomatch dn.symm.trans q⟩
  | tail _ m=>exact (fl.keep kp.keeps) env m
 have hAf:fx.A.frames=some (callEnvC fd s.heap.objs.size a :: l):=by refine (?_:(A.deeper (callEnvC fd s.heap.objs.size a)).frames=_); unfold Around.deeper; rw [hl]; rfl
 have fr₁:fw g fx.A s₁.heap:=⟨_,hAf,fr₁'⟩
 have I₁:Inv ⟨fx,oa0,G0⟩ s₁:=by
  refine ⟨ok,⟨fun b o e=>kp b o (B.stays b o e),by rw [es₁]; exact B.os,by rw [es₁]; exact B.gens⟩,fun k=>?_,fun b q=>?_,fun k j b e1 e2=>(hoa k b e1).1.trans (hoa j b e2).1.symm,fun k b e j q=>?_,hG,fun b q=>kp.live (hbad b q),fr₁⟩
  ·obtain ⟨v,r,h1,h2⟩:=slot k
   refine ⟨v,r,?_⟩
   by_cases hlt:k < fn.npar
   ·rw [h1 hlt]; exact (hsl k hlt).map mk fun b _ o e _=>kp b o e
   ·rw [h2 hlt,(hun k hlt).1]; exact ⟨(hun k hlt).2,rfl⟩
  ·rcases q with ⟨k,q⟩ | ⟨k,q⟩
   ·have hn:=plDead k b q
    refine ⟨?_,aM (fun l=>B.stays.live l) hn,fun z=>by obtain ⟨o,e⟩:=hbad b z; rw [hn] at e; (injection e; done)⟩
    obtain ⟨v,r,_⟩:=slot k
    have q:(fx.pl k).addr=some b:=q
    generalize fx.pl k=pl at r q
    cases pl with
    | ns a' x=>(injection q with q; subst q); obtain ⟨m,⟨o',_,_,ho',_⟩,_⟩:=r; exact ⟨o',ho'⟩
    | cell c=>(injection q with q; subst q); obtain ⟨o',ho',_⟩:=r; exact ⟨o',ho'⟩
    | off=>(injection q; done)
   ·obtain ⟨_,l,h0,nb⟩:=hoa k b q
    exact ⟨kp.live l,h0,nb⟩
  ·obtain ⟨o,e⟩:=(hoa k b e).2.1
   rw [plDead j b q] at e; (injection e; done)
 refine wpAny_mono (sim oa0 G0 K s₁ hb I₁) (fun f s' ⟨oa',G',fl,I',B',t,hf,hk⟩=>hR s' ⟨fx,oa',G'⟩ f fl (fun q=>I' (.inl q)) B' rfl rfl rfl (fun b o e n=>t.keep b o (kp b o e) (notOwn b ⟨o,e⟩ n)) (fun k b e q=>(t.inst k b e q).1) (hf.lift fun b l=>kp.live l) hk) fun v s' ⟨oa',G',c,e,hv,hc,I',t,xa,hk⟩=>?_
 subst hv
 have fr':=I'.fr.of hAf
 exact px (lo:=s.heap) hAf fr'.funs rfl (fun b l=>t.live b (kp.live l)) (xa.le fun b l=>kp.live l) fun h' n x=>hX { s' with heap:=h' } c e G' hc (dE (s:=s) (s₁:=s') B I'.base fr' n) (fun b o e nn=>nV (s:=s) (s₁:=s') (t.keep b o (kp b o e) (notOwn b ⟨o,e⟩ nn)) ⟨o,e⟩ fr' n) x hk
end
section
variable {g:Gl}
theorem oC {α:Type} {l r:List α} {k:Nat} {x:α} (h:l[k]?=some x) (d:α):(l++r).getD k d=x:=by
 rw [List.getD_eq_getElem?_getD,List.getElem?_append_left (List.getElem?_eq_some_iff.mp h).1,h]; rfl
theorem oB {α:Type} {l:List α} {k n:Nat} {d:α} (h:l.length≤k):(l++List.replicate n d).getD k d=d:=by
 rw [List.getD_eq_getElem?_getD,List.getElem?_append_right h,List.getElem?_replicate]; split <;> rfl
def ka (g:Gl) (d:Nat) (a:Addr) (fn:Fn) (fd:FuncData) (body:List Stmt) (nms:List Str) (safe nw:Bool):Prop:=∀ hm A L bad,(hm=true→safe=true)→ExB (vI g A fd nms fn.nslots a L bad d hm nw) (execs body (callEnvC fd L a)) (exs g.P.sup (am g.P d) fn.body)
structure InitAt (g:Gl) (d:Nat) (fn:Fn):Prop where
 it:∃ fI fd body nms,findIn g.K (.ref g.C) "__init__"=some (some (.ref fI))∧typeIn g.K (.ref fI)=some (.type "function")∧FnAt g fI fn fd body nms∧ka g d fI fn fd body nms false false
theorem y1 {a d:Nat} (h:a+2 * (d+1) < 990):a+(1+2 * d) < 990:=Nat.add_comm (2 * d) 1▸Nat.lt_of_succ_lt h
theorem y0 {a d:Nat} (h:a+2 * (d+1) < 990):a+1+(1+2 * d) < 990:=Nat.add_comm (2 * d) 1▸(Nat.add_right_comm a (2 * d) 1▸h:a+1+2 * d+1 < 990)
theorem yZ {a d c:Nat} (h:a+4 * (d+1)+100 < c):a+(3+4 * d)+100 < c:=Nat.add_comm (4 * d) 3▸Nat.lt_of_succ_lt (h:a+4 * d+103+1 < c)
theorem yY {a d c:Nat} (h:a+4 * (d+1)+100 < c):a+1+(3+4 * d)+100 < c:=Nat.add_comm (4 * d) 3▸(Nat.add_right_comm a (4 * d) 1▸h:a+1+4 * d+3+100 < c)
theorem cG {D b:Addr} {k:Nat} (e:(if k=0 then some D else none)=some b):k=0∧b=D:=by
 by_cases q:k=0
 ·exact ⟨q,(Option.some.inj ((if_pos q).symm.trans e)).symm⟩
 ·exact nomatch (if_neg q).symm.trans e
theorem wM {l:List V} (h:l.length=5):noX (pJ l)=true:=by
 cases l with
 | nil=>exact nomatch h
 | cons x l=>cases l with
  | nil=>exact nomatch h
  | cons=>rfl
theorem uJ {l:List V} (h:l.length=5):pH (l.map fun x=>(PyData.none,x))=true:=by
 cases l with
 | nil=>exact nomatch h
 | cons=>rfl
theorem zH (l:List V):(l.map fun x=>(PyData.none,x)).map (·.2)=l:=List.map_map.trans (List.map_id l)
theorem nt {d:Nat} (gr:Ground g) (hfn:∀ f fn,g.P.fns[f]?=some fn→fn.init=false→∃ fd body nms,FnAt g (g.fn f) fn fd body nms∧ka g d (g.fn f) fn fd body nms (g.safe f) (g.newf f)) (hin:∀ f fn,g.P.fns[f]?=some fn→fn.init=true→g.fn f=g.C∧g.safe f=false∧InitAt g d fn) (ih:fj g (am g.P d) d) :
  fj g (am g.P (d+1)) (d+1):=fun hm f args K A s bad vals hc hand hsafe hroom hunits B hfr hbad hb0 hvals=>by
 refine ag hc fun fn hf Zq1=>Zq1.elim fun hlen hb=>?_
 have hva:=hvals.length
 cases hi:fn.init with
 | false=>
  rw [hi,if_neg Bool.false_ne_true,Nat.add_zero] at hlen
  obtain ⟨fd,body,nms,F,sim⟩:=hfn f fn hf hi
  have e0:cP fn args=args.map .v++List.replicate (fn.nslots - fn.npar) .unset:=by unfold cP; rw [hi]; rfl
  have hml:(args.map Slot.v).length=fn.npar:=by rw [zA4,hlen]
  refine wpAny_call (vk (oa0:=fun _=>none) (nw:=g.newf f) F gr ih hand hfr (y1 hroom) (yZ hunits) B hbad hb0 (hva.trans hlen) ?_ (fun k b e=>nN e.symm) (fun k hk=>?_) (fun k hk=>⟨?_,rfl⟩) (fun L=>sim hm A L bad hsafe) hb (fun s' Φ' f' fl I' B' hg hm hnw kk ki hfl hk=>?_) fun s' c e G' hc B' kk x hk=>?_)
  ·rw [e0,zB5,hml,List.length_replicate]; exact Nat.add_sub_cancel' (zB1 F.npar F.nslots)
  ·have hka:k < args.length:=hlen▸hk
   obtain ⟨v,hv,rv⟩:=hvals.get (List.getElem?_eq_getElem hka)
   rw [show getSlot (cP fn args) k=.v args[k] by rw [e0]; exact oC (by rw [List.getElem?_map,List.getElem?_eq_getElem hka]; rfl) _,hv]
   exact ⟨rfl,v,rfl,rv.map fun b o e _ n=>⟨fun q=>q.elim n fun Zq2=>Zq2.elim fun _ q=>(nN q.symm),e⟩⟩
  ·rw [e0]; exact oB (hml▸Nat.not_lt.mp hk)
  ·rw [hi,if_neg Bool.false_ne_true] at hk
   cases fl with
   | none=>subst hfl; exact ⟨B',fun b o e=>kk b o e fun k q=>(nomatch q),_,hk,rfl,.none,fun _ a b q=>nomatch q⟩
   | some y=>obtain ⟨nx,v,rfl,r,nv⟩:=hfl; subst hg; exact ⟨B',fun b o e=>kk b o e fun k q=>(nN q.symm),_,hk,nx,r.map fun b o e _ n=>⟨fun q=>n (.inl (hm▸q)),e⟩,fun q=>nv (hnw▸q)⟩
  ·rw [hi,if_neg Bool.false_ne_true] at hk
   exact ⟨B',fun b o e=>kk b o e fun k q=>(nN q.symm),c,e,rfl,hc,hk,x⟩
 | true=>
  rw [hi,if_pos rfl] at hlen
  obtain ⟨hC,hsf,⟨fI,fd,body,nms,h1,h2,F,sim⟩⟩:=hin f fn hf hi
  have hm0:hm=false:=by cases hm with | false=>rfl | true=>exact absurd (hsafe rfl) (by rw [hsf]; exact Bool.false_ne_true)
  subst hm0
  rw [hC]
  have X:=gr.frag.keeps B.stays
  have e0:cP fn args=(.ownI [] :: args.map .v)++List.replicate (fn.nslots - fn.npar) .unset:=by unfold cP; rw [hi]; rfl
  have hml:(Slot.ownI [] :: args.map Slot.v).length=fn.npar:=by rw [zB4,zA4,hlen]
  have kp:aI s.heap ((s.heap.push emptyDict).push (instObj g.C s.heap.objs.size)):=(aw _ _).trans (aw _ _)
  have hD:((s.heap.push emptyDict).push (instObj g.C s.heap.objs.size)).get? s.heap.objs.size=some emptyDict:=Heap.get?_push_of_some _ (Heap.get?_push_size _ rfl)
  have hX:((s.heap.push emptyDict).push (instObj g.C s.heap.objs.size)).get? (s.heap.objs.size+1)=some (instObj g.C s.heap.objs.size):=by rw [← Heap.size_push s.heap emptyDict]; exact Heap.get?_push_size _ rfl
  have nb:∀ b,bad b→b < s.heap.objs.size:=fun b q=>(hbad b q).elim fun o e=>Heap.lt_size e
  have nd:¬ bad s.heap.objs.size:=fun q=>Nat.lt_irrefl _ (nb _ q)
  have nx:¬ bad (s.heap.objs.size+1):=fun q=>Nat.not_lt.mpr (Nat.le_succ _) (nb _ q)
  refine wpAny_call (make_core (makes_of X gr.cls.makes) (looks_findIn X h1) (fun self=>bind_fn X self h2) (.inl rfl) ?_)
  refine vk (oa0:=fun k=>if k=0 then some s.heap.objs.size else none) (nw:=false) F gr ih hand (hfr.keep kp.keeps) (y0 hroom) (yY hunits) ⟨B.stays.trans kp,B.os,B.gens⟩ (fun b q=>kp.live (hbad b q)) hb0 (by rw [zB4,hva]; exact hlen) ?_ (fun k b e=>?_) (fun k hk=>?_) (fun k hk=>⟨?_,?_⟩) (fun L=>sim false _ L bad nofun) hb (fun s' Φ' f' fl I' B' hg hm hnw kk ki hfl hk=>?_) fun s' c e G' hc B' kk x hk=>?_
  ·rw [e0,zB5,hml,List.length_replicate]; exact Nat.add_sub_cancel' (zB1 F.npar F.nslots)
  ·obtain rfl:=(cG e).2
   exact ⟨(cG e).1,⟨_,hD⟩,aM (fun l=>B.stays.live l) (ak s.heap),nd⟩
  ·cases k with
   | zero=>
    rw [show getSlot (cP fn args) 0=.ownI [] by rw [e0]; rfl,if_pos rfl]
    exact ⟨_,.ref (s.heap.objs.size+1),rfl,rfl,_,_,[],rfl,rfl,(fun q=>q.elim nx fun Zq3=>Zq3.elim fun k q=>Nat.succ_ne_self _ (cG q).2),hX,hD,⟨⟨rfl,rfl,rfl⟩,#[],0,rfl,rfl,fun j e h=>by simp at h⟩,(fun j b m e=>by simp at e),.nil⟩
   | succ k=>
    have hka:k < args.length:=Nat.lt_of_succ_lt_succ (show k+1 < args.length+1 by rw [hlen]; exact hk)
    obtain ⟨v,hv,rv⟩:=hvals.get (List.getElem?_eq_getElem hka)
    rw [show getSlot (cP fn args) (k+1)=.v args[k] by rw [e0]; exact oC (by refine (?_:(args.map Slot.v)[k]?=_); rw [List.getElem?_map,List.getElem?_eq_getElem hka]; rfl) _,if_neg (Nat.succ_ne_zero k)]
    exact ⟨rfl,v,hv,rv.map fun b o e _ n=>⟨fun q=>q.elim n fun Zq4=>Zq4.elim fun j q=>Nat.ne_of_lt (Heap.lt_size e) (cG q).2,kp b o e⟩⟩
  ·rw [e0]; exact oB (hml▸Nat.not_lt.mp hk)
  ·exact if_neg fun q=>hk (by rw [q,← hlen]; exact Nat.succ_pos _)
  ·rw [hi,if_pos rfl] at hk
   have no:∀ b,b≠s.heap.objs.size→∀ k,(if k=0 then some s.heap.objs.size else none)≠some b:=fun b n k q=>n (cG q).2
   cases fl with
   | some y=>exact absurd hk.1 (by rw [hfl.1]; exact fun q=>nB q.symm)
   | none=>
    subst hfl
    have I':=I' rfl
    refine ⟨rfl,ag hk fun l el Zq5=>Zq5.elim fun hl5 kl=>?_⟩
    have sl:=gF el
    obtain ⟨a',u,ha,pr,b,o,ws,hu,hba,hnb,hbo,ho,hF,hnl,hl⟩:=fN I' sl id
    obtain rfl:=(cG (ki 0 a' ha (by rw [sl]; trivial))).2
    subst hba hg
    exact ⟨B',fun b o e=>kk b o (kp b o e) (no b fun q=>Nat.lt_irrefl _ (q▸Heap.lt_size e)),_,kl,wM hl5,
     .inst (l:=l) nx nd ((kk _ _ hX (no _ (Nat.succ_ne_self _))).get fc) ho hF hnl (uJ hl5) (zH l) (hl.map fun b o e _ n=>⟨fun q=>n (.inl (hm▸q)),e⟩),fun _=>eQ (Nat.le_succ _)⟩
  ·rw [hi,if_pos rfl] at hk
   exact ⟨B',fun b o eb=>kk b o (kp b o eb) fun k q=>Nat.ne_of_lt (Heap.lt_size eb) (cG q).2,c,e,rfl,hc,hk.2,x.le fun b l=>kp.live l⟩
end
section
variable {prog:Program} {w:World} {A:Around} {E:Value→Shared→Prop} {s:Shared} {K:Frag} {x C D:Addr} {ox:Obj} {name:Str}
structure XCls (K:Frag) (D:Addr):Prop where
 ga:findIn K (.ref D) "__getattribute__"=some (some (.builtin "BaseException.__getattribute__"))
 gh:findIn K (.ref D) "__getattr__"=some none
 exc:mroIn K D (.type "BaseException")=some true
 dct:hasDictIn K D=true
 att:findIn K (.ref D) "__class__"=some (some (.builtin "object.__class__"))
 obj:mroIn K D (.type "object")=some true
set_option tactic.hygienic true in
theorem gg (X:K.In h) (hdct:hasDictIn K D=true):Looks M h (isType (.ref D)) true:=by
 obtain ⟨cdD,hcD,_⟩:=any_some hdct
 unfold clsIn at hcD
 split at hcD
 ·rename_i c' d' cd' sl' ho
  intro A' Q' E' s' k q
  skip
  exact zC1 (wpAny_loadPart (k _ _ (X _ _ ho)) (wpAny_pure q))
 ·(injection hcD; done)
theorem ux (X:K.In s.heap) (I:InstAt s.heap x ox D none) (c:XCls K D) (hn:specialIn K (.builtin "object.__class__") "__get__"=some (some (.builtin "getset_descriptor.__get__"))) (htk:takesIn K (.builtin "object.__class__")=some true)
  (h:Q (some (.ref D)) { s with toks:=s.toks+1 }):wpAny (model prog w) A (getAttr? (.ref x) "__class__") Q E s:=by
 have hf:findObj K D none "__class__"=some (.bind (.builtin "getset_descriptor.__get__") (.builtin "object.__class__")):=by
  obtain ⟨cd,hc,_⟩:=any_some c.dct
  unfold findObj
  rw [hc,Option.bind_some,c.att,Option.bind_some]
  refine (?_:(specialIn K (.builtin "object.__class__") "__get__").bind _=_)
  rw [hn,Option.bind_some]
  refine (?_:(takesIn K (.builtin "object.__class__")).bind _=_)
  rw [htk]; rfl
 have call_ga:∀ (tk:Tok) (R:Result→Shared→Prop) (A:Around) (s:Shared),K.In s.heap→InstAt s.heap x ox D none→R (.ok (.ret (.ref D))) s→codeAny (model prog w) A (.call (.builtin "BaseException.__getattribute__") ⟨[.ref x,.str "__class__" tk],[]⟩) R s:=fun tk R A s X I hR=>by
  have hk:builtinKind "BaseException.__getattribute__"=some .slot:=by decide +kernel
  have hsplit:splitId "BaseException.__getattribute__"=some ("BaseException", "__getattribute__"):=by decide +kernel
  have ha:=F.args_bexc_ga (.ref x) (.str "__class__" tk)
  obtain ⟨hh,g,dr,t,os⟩:=s
  have L0:=I.type (M:=model prog w)
  have L1:=looks_mroIn (M:=model prog w) X c.exc
  have L2:=looks_find (M:=model prog w) X I hf
  have LI:Looks (model prog w) hh (isInstance (.ref x) (.type "BaseException")) true:=L0.andThen L1
  refine codeAny_call_builtin F.attr_ValueError.ga.plain F.entry_bexc_ga ?_
  simp only [checkBuiltinCall,hk,hsplit]
  refine zC1 (LI.at ?_)
  simp only [Bool.not_true,Bool.false_eq_true,if_false]
  unfold argsOk at ha
  have rest:wpAny (model prog w) A.in1 (Builtin.«object.__getattribute__» { pos:=[Value.ref x,Value.str (Str.ofString "__class__") tk] })
    (fun fin s'=>match fin with | .done f=>R (.ok f) s' | .again c'=>c'.quiet=true∧codeAny (model prog w) A c' R s') (fun e s'=>R (.error e) s') { heap:=hh,gens:=g,drawn:=dr,toks:=t,os:=os }:=by
   unfold Builtin.«object.__getattribute__»
   refine wpAny_bind (m:=slotArgs "__getattribute__" 1 _) (zC2 ?_)
   refine wpAny_bind (m:=Builtin.ObjectAttr.attrName _) (zC2 ?_)
   refine zC1 (L0.at (zC1 (L2.at ?_)))
   refine zC1 (wpAny_holding (wpAny_call (class_get (ox:=ox) (od:=none) X I c.obj ?_)))
   exact wpAny_pure hR
  generalize Manifest.signature? "BaseException.__getattribute__"=sgn at ha ⊢
  cases sgn with
  | none=>exact wpAny_pure rest
  | some sig=>
   simp only at ha ⊢
   rw [ha]
   exact wpAny_pure rest
 obtain ⟨hh,g,dr,t,os⟩:=s
 have L0:=I.type (M:=model prog w)
 have L1:=looks_findIn (M:=model prog w) X c.ga
 have L2:=looks_findIn (M:=model prog w) X c.gh
 unfold getAttr? getAttrBy?
 refine zC1 (wpAny_mkText (zC1 (wpAny_attempt ?_)))
 skip
 refine wpAny_holding (zC1 (L0.at (zC1 (L1.at ?_))))
 have hx2:(onTheHeap (Value.ref D)&&Value.builtin "BaseException.__getattribute__"==Value.builtin "object.__getattribute__")=false:=by
  have:(Value.builtin "BaseException.__getattribute__"==Value.builtin "object.__getattribute__")=false:=by decide +kernel
  rw [this]; rfl
 simp only [hx2,Bool.false_eq_true,if_false]
 unfold getAttrByItsOwn hookBefore
 refine zC1 ?_
 refine eY (rfl:onTheHeap (Value.ref D)=true) ?_
 refine L2.at ?_
 refine zC1 (wpAny_attempt (wpAny_holding ?_))
 refine (?_:wpAny _ _ (boundAndCalled _ _ _) _ _ _)
 unfold boundAndCalled
 rw [F.attr_ValueError.ga.bind]
 simp only [pure_bind]
 refine wpAny_call (call_ga _ _ _ _ X I ?_)
 exact handed_on rfl (wpAny_pure h)
theorem vA (X:K.In s.heap) (I:InstAt s.heap x ox D none) (co:XCls K D) (hn:specialIn K (.builtin "object.__class__") "__get__"=some (some (.builtin "getset_descriptor.__get__"))) (htk:takesIn K (.builtin "object.__class__")=some true)
  (hty:∀ (M:Model) h',K.In h'→Looks M h' (typeOf c) (.type "type")) (his:∀ (M:Model) h',K.In h'→Looks M h' (isType c) true)
  (hne:(Value.ref D==c)=false) (hsub:∀ (M:Model) h',K.In h'→Looks M h' (isSubtype (.ref D) c) false) (h:Q (.bool false) { s with toks:=s.toks+1 }):wpAny (model prog w) A (call (.builtin "isinstance") [.ref x,c]) Q E s:=by
 refine call_isinstance (S:=fun _ R s=>(K.In s.heap∧InstAt s.heap x ox D none)∧R (.ok (.ret (.bool false))) { s with toks:=s.toks+1 }) (fun prog w A R s hs=>isinstance_outer ?_ (by intro q; (injection q; done))) ⟨⟨X,I⟩,h⟩
 obtain ⟨⟨X,I⟩,h⟩:=hs
 have hisD:=gg (M:=model prog w) X co.dct
 have L1:=hty (model prog w) _ X
 have L2:=his (model prog w) _ X
 have L3:=hsub (model prog w) _ X
 obtain ⟨h0,g,d,tt,os⟩:=s
 have L0:=I.type (M:=model prog w)
 have LI:Looks (model prog w) h0 (isInstance (.ref x) c) false:=L0.andThen L3
 skip
 refine zC1 (L0.at ?_)
 refine bv (fun q=>by rw [hne] at q; exact Bool.noConfusion q) ?_
 refine zC1 (L1.at ?_)
 refine eY (by decide) ?_
 k_delta "plainIsInstance"
 refine zC1 (zC1 (L2.at ?_))
 simp only [Bool.not_true,Bool.false_eq_true,if_false]
 refine zC1 (LI.at ?_)
 simp only [Bool.false_eq_true,if_false]
 refine zC1 (ux X I co hn htk ?_)
 refine zC1 (hisD.at ?_)
 simp only [Bool.not_true,Bool.false_eq_true,if_false]
 refine zC1 (wpAny_rule ?_)
 refine L3.at ?_
 first
  | exact wpAny_pure h
  | exact zC2 (wpAny_pure h)
  | exact zC1 (zC2 (wpAny_pure h))
theorem xY (X:K.In s.heap) (I:InstAt s.heap x ox D none)
  (hty:∀ (M:Model) h',K.In h'→Looks M h' (typeOf c) (.type "type")) (his:∀ (M:Model) h',K.In h'→Looks M h' (isType c) true)
  (hsub:∀ (M:Model) h',K.In h'→Looks M h' (isSubtype (.ref D) c) true) (h:Q (.bool true) s):wpAny (model prog w) A (call (.builtin "isinstance") [.ref x,c]) Q E s:=by
 refine call_isinstance (S:=fun _ R s=>(K.In s.heap∧InstAt s.heap x ox D none)∧R (.ok (.ret (.bool true))) s) (fun prog w A R s hs=>isinstance_outer ?_ (by intro q; (injection q; done))) ⟨⟨X,I⟩,h⟩
 refine aq fun Z7 kZ7=>?_
 obtain ⟨⟨X,I⟩,h⟩:=hs
 refine kZ7 ?_
 have L1:=hty (model prog w) _ X
 have L2:=his (model prog w) _ X
 have L3:=hsub (model prog w) _ X
 refine aq fun Z8 kZ8=>?_
 obtain ⟨h0,g,d,tt,os⟩:=s
 refine kZ8 ?_
 have L0:=I.type (M:=model prog w)
 have LI:Looks (model prog w) h0 (isInstance (.ref x) c) true:=L0.andThen L3
 unfold Builtin.«isinstance.nested»
 refine zC1 (L0.at ?_)
 by_cases q:(Value.ref D==c)=true
 ·rw [if_pos q]
  refine zC1 (wpAny_rule ?_)
  first
   | exact wpAny_pure h
   | exact zC2 (wpAny_pure h)
   | (refine zC1 ?_; exact zC2 (wpAny_pure h))
 ·rw [if_neg q]
  refine zC1 (L1.at ?_)
  refine eY (by decide) ?_
  k_delta "plainIsInstance"
  refine zC1 (zC1 (L2.at ?_))
  simp only [Bool.not_true,Bool.false_eq_true,if_false]
  refine zC1 (LI.at ?_)
  refine eY rfl ?_
  exact zC2 (wpAny_pure h)
theorem pq (X:K.In s.heap) (he:s.heap.get? e=some oe) (hcls:oe.cls=.ref D)
  (hty:∀ (M:Model) h',K.In h'→Looks M h' (typeOf (.ref C)) (.type "type")) (hex:∀ (M:Model) h',K.In h'→Looks M h' (isExcClass (.ref C)) true) (hsub:∀ (M:Model) h',K.In h'→Looks M h' (isSubtype (.ref D) (.ref C)) b) (hq:Q b s) :
  wpAny (model prog w) A (excMatches (.ref e) (.ref C)) Q E s:=by
 have L1:=hty (model prog w) _ X
 have L2:=hex (model prog w) _ X
 have L3:=hsub (model prog w) _ X
 have LT:Looks (model prog w) s.heap (isInstance (.ref C) (.type "tuple")) false:=L1.andThen (.of_pure tc_notTuple)
 have L0:Looks (model prog w) s.heap (typeOf (.ref e)) (.ref D):=hcls▸(Looks.ld he).andThen .now
 unfold excMatches
 refine zC1 (LT.here ?_)
 simp only [Bool.false_eq_true,if_false,pure_bind,List.forIn_cons,List.forIn_nil,bind_assoc]
 refine zC1 (L2.here ?_)
 simp only [Bool.not_true,Bool.false_eq_true,if_false,pure_bind]
 refine zC1 (L0.here ?_)
 refine zC1 (L3.here ?_)
 cases b
 ·exact wpAny_pure hq
 ·exact wpAny_pure hq
end
structure XClss (g:Gl):Prop where
 raises:∀ c,c < g.nc→RaiseOk g c
 catches:∀ c c',c < g.nc→c' < g.nc→mh g c c' (g.P.sup c c')
 isi:∀ c c',c < g.nc→c'≤g.nc→yE g c (iv g c') (g.P.sup c c')
theorem Bv (X:g.K.In g.h0) (hn:specialIn g.K (.builtin "object.__class__") "__get__"=some (some (.builtin "getset_descriptor.__get__"))) (htk:takesIn g.K (.builtin "object.__class__")=some true)
  (hcls:∀ c,c < g.nc→lE g.K g.P.sup g.nc g.cls c=true) (hr:∀ c,c < g.nc→RaiseOk g c):XClss g:=by
 have un:∀ c,c < g.nc→XCls g.K (g.cls c)∧mroIn g.K (g.cls c) (.type "BaseException")=some true∧typeIn g.K (.ref (g.cls c))=some (.type "type")∧mroIn g.K (g.cls c) (.type "ValueError")=some (g.P.sup c g.nc)∧g.P.sup c c=true∧∀ c',c' < g.nc→mroIn g.K (g.cls c) (.ref (g.cls c'))=some (g.P.sup c c'):=fun c hc=>by
  refine aq fun Z9 kZ9=>?_
  obtain ⟨h1,e⟩:=a2 (hcls c hc)
  obtain ⟨h0,e⟩:=a2 e
  obtain ⟨h2,e⟩:=a2 e
  obtain ⟨h3,e⟩:=a2 e
  obtain ⟨h4,e⟩:=a2 e
  obtain ⟨h5,e⟩:=a2 e
  obtain ⟨h6,e⟩:=a2 e
  obtain ⟨h7,e⟩:=a2 e
  obtain ⟨h9,h8⟩:=a2 e
  refine kZ9 ?_
  exact ⟨⟨eq_of_beq h1,eq_of_beq h0,eq_of_beq h5,h2,eq_of_beq h3,eq_of_beq h4⟩,eq_of_beq h5,eq_of_beq h6,eq_of_beq h7,h9,fun c' q=>eq_of_beq (List.all_eq_true.mp h8 c' (List.mem_range.mpr q))⟩
 refine ⟨hr,fun c c' hc hc'=>?_,fun c c' hc hc'=>?_⟩
 ·intro A E Q s e o st he hcl hq
  refine aq fun Z12 kZ12=>?_
  obtain ⟨a1,a2,a3,a4,a6,a5⟩:=un c hc
  obtain ⟨b1,b2,b3,b4,b6,b5⟩:=un c' hc'
  refine kZ12 ?_
  refine pq (K:=g.K) (X.keeps st) he hcl (fun M h' X'=>looks_typeIn X' b3) (fun M h' X'=>?_) (fun M h' X'=>looks_mroIn X' (a5 c' hc')) hq
  exact (gg X' b1.dct).andThen (looks_mroIn X' b2)
 ·intro A E Q s e o st he hcl hdi hfl hq
  obtain ⟨a1,a2,a3,a4,a6,a5⟩:=un c hc
  have I:InstAt s.heap e o (g.cls c) none:=⟨he,hcl,by obtain ⟨vs,hv⟩:=hfl; unfold notCls; rw [hv],by rw [hdi]; trivial⟩
  unfold iv
  by_cases hv:c'=g.nc
  ·rw [if_pos hv]
   have hty:∀ (M:Model) h',g.K.In h'→Looks M h' (typeOf (.type "ValueError")) (.type "type"):=fun M h' _=>.of_pure rfl
   have his:∀ (M:Model) h',g.K.In h'→Looks M h' (isType (.type "ValueError")) true:=fun M h' _=>.of_pure rfl
   cases hb:g.P.sup c c' with
   | true=>rw [hb] at hq; exact xY (K:=g.K) (X.keeps st) I hty his (fun M h' X'=>looks_mroIn X' (by rw [a4,← hv,hb])) (hq s.toks)
   | false=>rw [hb] at hq; exact vA (K:=g.K) (X.keeps st) I a1 hn htk hty his rfl (fun M h' X'=>looks_mroIn X' (by rw [a4,← hv,hb])) (hq _)
  ·rw [if_neg hv]
   have hc'':c' < g.nc:=Nat.lt_of_le_of_ne hc' hv
   obtain ⟨b1,b2,b3,b4,b6,b5⟩:=un c' hc''
   cases hb:g.P.sup c c' with
   | true=>rw [hb] at hq; exact xY (K:=g.K) (X.keeps st) I (fun M h' X'=>looks_typeIn X' b3) (fun M h' X'=>gg X' b1.dct) (fun M h' X'=>looks_mroIn X' (by rw [a5 c' hc'',hb])) (hq s.toks)
   | false=>
    rw [hb] at hq
    refine vA (K:=g.K) (X.keeps st) I a1 hn htk (fun M h' X'=>looks_typeIn X' b3) (fun M h' X'=>gg X' b1.dct) ?_ (fun M h' X'=>looks_mroIn X' (by rw [a5 c' hc'',hb])) (hq _)
    cases hne:(Value.ref (g.cls c)==Value.ref (g.cls c')) with
    | false=>rfl
    | true=>
     have:=Value.ref.inj (eq_of_beq hne)
     have q':=a5 c' hc''
     replace q':=hb▸a6▸(a5 c hc)▸this.symm▸q'
     (injection q'; done)
theorem yS {g:Gl} {A:Around} {fx:Fx} {h:Heap} (e:fx.A=A.deeper fx.env) (f:fw g fx.A h):FxTop fx:=by
 obtain ⟨l,hl,q⟩:=f
 replace hl:=e▸hl
 have hl':A.frames.map (fx.env :: ·)=some l:=hl
 cases ha:A.frames with
 | none=>replace hl':=ha▸hl'; (injection hl'; done)
 | some outer=>
  replace hl':=ha▸hl'
  (injection hl' with hl'; subst hl')
  obtain ⟨_,L,_,hf,_⟩:=q fx.env (.head _)
  exact ⟨outer,L,by rw [e]; exact hl,hf⟩
set_option tactic.hygienic true in
theorem gt {K:Frag} {h:Heap} {a:Addr} {m:Str→Option Value} {x:Str} {r:Option Value} (X:K.In h) (n:h.Ns a m) (e:nsIn K a x=some r):m x=r:=by
 unfold nsIn at e
 split at e
 ·rename_i c d es p sl ho
  obtain ⟨o,es',ep,ho',hd,hs,hf⟩:=n
  rw [X _ _ ho] at ho'
  (injection ho' with ho'; subst ho')
  (injection hd with hd; subst hd)
  refine (hf x)▸?_
  unfold nsFind findBy
  refine (Array.find?_toList)▸?_
  split at e
  ·rename_i en he; (injection e with e; subst e); rw [he]; rfl
  ·rename_i he
   split at e
   ·(injection e; done)
   ·(injection e with e; subst e); rw [he]; rfl
 ·(injection e; done)
theorem oV {ps:List Str}:∀ {vals:List Value},ps.length=vals.length→∀ n∈ps,((ps.zip vals).lookup n).isSome=true:=by
 induction ps with
 | nil=>intro vals _ n hn; cases hn
 | cons p ps ih=>
  intro vals h n hn
  cases vals with
  | nil=>(injection h; done)
  | cons v vals=>
   rw [List.zip_cons_cons,List.lookup_cons]
   cases hb:n==p with
   | true=>rfl
   | false=>
    rcases List.mem_cons.mp hn with rfl | hn
    ·simp at hb
    ·exact ih (Nat.succ.inj h) n hn
theorem oE:∀ {l:List α},(∀ x∈l,f x=g x)→l.filterMap f=l.filterMap g
 | [],_=>rfl
 | a :: l,h=>by rw [List.filterMap_cons,List.filterMap_cons,h a (.head _),oE fun x hx=>h x (.tail _ hx)]
theorem oW {ps:List Str}:∀ {vals:List Value},ps.Nodup→ps.length=vals.length→ps.filterMap (fun n=>((ps.zip vals).lookup n).map (n,·))=ps.zip vals:=by
 induction ps with
 | nil=>intro vals _ _; rfl
 | cons p ps ih=>
  intro vals hn h
  cases vals with
  | nil=>(injection h; done)
  | cons v vals=>
   obtain ⟨h1,h2⟩:=List.nodup_cons.mp hn
   refine List.zip_cons_cons.symm▸List.filterMap_cons.symm▸?_
   simp only [List.lookup_cons,beq_self_eq_true,Option.map_some]
   congr 1
   refine Eq.trans (oE fun n hnm=>?_) (ih h2 (Nat.succ.inj h))
   have:(n==p)=false:=beq_false_of_ne fun e=>h1 (e▸hnm)
   rw [this]
theorem oQ {α β γ:Type} {l:List α} {b:β} {f:α→β→Sem (ForInStep β)} {g:β→Sem γ} {r:Sem γ} (h:l=[]) (k:g b=r):(forIn l b f >>= g)=r:=by subst h; exact k
theorem nu {fd:FuncData} {ps:List Str} {vals:List Value} (h1:fd.params.posonlyargs=[]) (h2:fd.params.args.map (·.arg)=ps) (h3:fd.params.kwonlyargs=[]) (h4:fd.params.vararg=none) (h5:fd.params.kwarg=none)
  (h6:fd.defaults=.none) (hn:ps.Nodup) (hl:vals.length=ps.length):bindArgs fd ⟨vals,[]⟩=pure (ps.zip vals):=by
 have hm:(List.filter (fun n=>(List.lookup n (ps.zip vals)).isNone) ps)=[]:=by
  rw [List.filter_eq_nil_iff]
  intro n hn
  rw [Option.isNone_iff_eq_none]
  exact Option.isSome_iff_ne_none.mp (oV hl.symm n hn)
 obtain ⟨nm,qn,⟨po,as,va,ko,kd,kw,df⟩,body,sc,gl,cl,dfs,kdf,doc,pm,an,cd,ct,bl⟩:=fd
 obtain rfl:po=[]:=h1
 obtain rfl:ko=[]:=h3
 obtain rfl:va=none:=h4
 obtain rfl:kw=none:=h5
 obtain rfl:dfs=.none:=h6
 have h2:as.map Arg.arg=ps:=h2
 have e1:(decide (vals.length > ([]++as.map Arg.arg).length)&&true)=false:=by rw [List.nil_append,h2,hl,Bool.and_true]; exact decide_eq_false (Nat.lt_irrefl _)
 have e2:(!(List.filter (fun n=>(List.lookup n (([]++as.map Arg.arg).zip vals)).isNone) (([]++as.map Arg.arg).take (([]++as.map Arg.arg).length - (([]:List Value).drop (([]:List Value).length - ([]++as.map Arg.arg).length)).length))).isEmpty)=false:=by
  rw [List.nil_append,h2,List.drop_nil,List.length_nil,Nat.sub_zero,List.take_length,hm]; rfl
 have e4:(([]++as.map Arg.arg).drop (([]++as.map Arg.arg).length - (([]:List Value).drop (([]:List Value).length - ([]++as.map Arg.arg).length)).length)).zip (([]:List Value).drop (([]:List Value).length - ([]++as.map Arg.arg).length))=[]:=by rw [List.drop_nil,List.zip_nil_right]
 have e3:(([]++as.map Arg.arg)++[]).filterMap (fun n=>(List.lookup n (([]++as.map Arg.arg).zip vals)).map (n,·))=ps.zip vals:=by
  rw [List.append_nil,List.nil_append,h2,oW hn hl.symm]
 exact (if_neg (Bool.eq_false_iff.mp e1)).trans ((if_neg (Bool.eq_false_iff.mp e2)).trans (oQ e4 (oQ rfl (congrArg pure e3))))
theorem xC {K:Frag} {h:Heap} {cd:Value} {q:Str} (X:K.In h) (e:l5 K cd q=true):h.CodeRec cd q:=by
 unfold l5 at e
 split at e
 ·split at e
  ·rename_i ho
   split at e
   ·rename_i hv
    have:=eq_of_beq e
    subst this
    exact ⟨_,_,_,_,rfl,X _ _ ho,rfl,hv⟩
   ·(injection e; done)
  ·(injection e; done)
 ·(injection e; done)
theorem yV (H:GOk g Z) (h1:chkSs Z fn.body ⟨fd.scope.names,nms.zipIdx,nms.length,fn.nslots,false,nw⟩ body=true) (h2:(!safe||chkSs Z fn.body ⟨fd.scope.names,nms.zipIdx,nms.length,fn.nslots,true,nw⟩ body)=true) :
  ka g d a fn fd body nms safe nw:=fun hm A L bad hs oa G K s hd I=>by
 have top:FxTop (vI g A fd nms fn.nslots a L bad d hm nw):=yS (A:=A) rfl I.fr
 refine xU (n:=d) H fn.body (vI g A fd nms fn.nslots a L bad d hm nw) body rfl rfl top ?_ oa G K s hd I
 cases hm with
 | false=>exact h1
 | true=>exact zE h2 (hs rfl)
set_option tactic.hygienic true in
theorem rP {g:Gl} {K:Frag} {Z:Zx} {a:Addr} {fn:Fn} {nms:List Str} {safe nw:Bool} (H:GOk g Z) (X:K.In g.h0) (e0:qz K a=true) (e:jr Z fn nms safe nw (fg K a)=true):∃ fd body nms,FnAt g a fn fd body nms∧∀ d,ka g d a fn fd body nms safe nw:=by
 unfold qz at e0
 unfold fg at e
 split at e0
 ·rename_i c d fd sl ho
  replace e:=ho▸e
  dsimp only at e
  split at e
  ·rename_i body hb
   obtain ⟨h1,e0⟩:=a2 e0
   obtain ⟨h2,e0⟩:=a2 e0
   obtain ⟨h3,e0⟩:=a2 e0
   obtain ⟨h4,h13⟩:=a2 e0
   obtain ⟨h5,e⟩:=a2 e
   obtain ⟨h6,e⟩:=a2 e
   obtain ⟨h7,e⟩:=a2 e
   obtain ⟨h8,e⟩:=a2 e
   obtain ⟨h9,e⟩:=a2 e
   obtain ⟨h10,e⟩:=a2 e
   obtain ⟨h11,e⟩:=a2 e
   obtain ⟨h12,e⟩:=a2 e
   obtain ⟨h14,e⟩:=a2 e
   obtain ⟨h15,e⟩:=a2 e
   obtain ⟨h16,e⟩:=a2 e
   obtain ⟨h17,e⟩:=a2 e
   obtain ⟨h18,h19⟩:=a2 e
   have h14:=nW h14
   have h15:=of_decide_eq_true h15
   refine ⟨fd,body,nms,⟨⟨_,X _ _ ho,rfl⟩,hb,xC X h1,eq_of_beq h2,eq_of_beq h3,List.isEmpty_iff.mp h4,Bool.not_eq_true' _▸h5,Bool.not_eq_true' _▸h6,eq_of_beq h7,fun vals hv=>?_,h14,h15,of_decide_eq_true h16,fun x m=>((Bool.or_eq_true _ _).mp (List.all_eq_true.mp h17 x m)).imp eq_of_beq eq_of_beq⟩,fun d=>yV H h18 h19⟩
   refine nu (List.isEmpty_iff.mp h8) (eq_of_beq h9) (List.isEmpty_iff.mp h10) (Option.isNone_iff_eq_none.mp h11) (Option.isNone_iff_eq_none.mp h12) ?_ (h14.sublist (List.take_sublist _ _)) (by rw [List.length_take,hv]; exact (Nat.min_eq_left h15).symm)
   cases hd:fd.defaults <;> rw [hd] at h13 <;> first | rfl | (injection h13; done)
  ·(injection e; done)
 ·(injection e0; done)
theorem u2 (X:g.K.In g.h0) (e:oM g.K u v=true):∀ (bad:Addr→Prop) h,aI g.h0 h→(∀ a,bad a→g.h0.get? a=none)→Rp g bad h u v:=fun bad h st hb=>by
 cases v with
 | int j=>obtain ⟨t,rfl⟩:=Value.isInt_shape e; exact .int _ _
 | str l=>obtain ⟨t,rfl⟩:=Value.isStrOf_shape e; exact .str _ _
 | _=>(injection e; done)
theorem BJ:bH.all (fun p=>bootBuiltins p.1==some p.2&&p.1 != ("__name__" : Str))=true:=by decide +kernel
theorem zZ (e:qE g.K g.C g.flds=true):ClsOk g:=by
 refine (a2 e).elim fun h1 e=>?_
 obtain ⟨h2,e⟩:=a2 e
 obtain ⟨h3,e⟩:=a2 e
 obtain ⟨h4,e⟩:=a2 e
 obtain ⟨h5,e⟩:=a2 e
 obtain ⟨h6,e⟩:=a2 e
 obtain ⟨h7,e⟩:=a2 e
 exact ⟨eq_of_beq h1,eq_of_beq h2,eq_of_beq h3,h4,h5,fun x m=>eq_of_beq (List.all_eq_true.mp h6 x m),h7,of_decide_eq_true (a2 e).1,of_decide_eq_true (a2 e).2⟩
theorem zF (e1:g.fns=Z.fns) (e2:g.cons=Z.cons) (e3:g.flds=Z.flds) (e4:g.clss=Z.clss) (e5:g.nc=Z.nc) (e6:g.P.sup=Z.sup) (e7:g.safe=Z.safe) (e8:g.newf=Z.newf) (e9:g.fn Z.cf=g.C) (h1:Z.fns.all (fun p=>keepIn g.K (.ref (g.fn p.2)))=true) (h2:Z.meths.all (vC g.K g.C g.flds g.fn)=true):GOk g Z:=
 ⟨e1,e2,e3,e4,e5,e6,e7,e8,e9,fun x f e=>List.all_eq_true.mp h1 _ (PySem.mem_of_lookup e),fun x f e=>by
  refine (a2 (List.all_eq_true.mp h2 _ (PySem.mem_of_lookup e))).elim fun q1 q=>?_
  obtain ⟨q2,q⟩:=a2 q
  exact ⟨fun m=>by rw [List.elem_iff.mpr m] at q1; exact (nB q1),eq_of_beq q2,eq_of_beq (a2 q).1,(a2 q).2⟩⟩
set_option tactic.hygienic true in
theorem sY (X:g.K.In g.h0) (hm:g.h0.Ns mainGlobals g.mg) (hb:g.h0.Ns builtinsNs g.mb) (hl:g.h0.NoLimit) (hbt:∀ x:Str,x≠"__name__"→g.mb x=bootBuiltins x) (h0:(g.K.lookup sysModules).isSome=true) (hc:qE g.K g.C g.flds=true)
  (h1:g.fns.all (fun p=>nsIn g.K mainGlobals p.1==some (some (.ref (g.fn p.2))))=true) (h3:g.cons.all (qC g.K)=true) (h4:bH.all (fun p=>nsIn g.K mainGlobals p.1==some none)=true)
  (h5:g.clss.all (fun p=>decide (p.2 < g.nc)&&nsIn g.K mainGlobals p.1==some (some (.ref (g.cls p.2))))=true) (hx:XClss g):Ground g where
 main:=hm
 blt:=hb
 nolim:=hl
 sysm:=(Option.isSome_iff_exists.mp h0).elim fun o e=>⟨o,X _ _ e⟩
 frag:=X
 cls:=zZ hc
 fns:=fun x f e=>gt X hm (eq_of_beq (List.all_eq_true.mp h1 _ (PySem.mem_of_lookup e)))
 cons:=fun x v e=>by
  have q:=List.all_eq_true.mp h3 _ (PySem.mem_of_lookup e)
  unfold qC at q
  split at q
  ·rename_i u hu; exact ⟨u,gt X hm ((vt ..).symm.trans hu),u2 X q⟩
  ·(injection q; done)
 blts:=fun x v e=>by
  have q:=a2 (List.all_eq_true.mp BJ _ (PySem.mem_of_lookup e))
  exact ⟨gt X hm (eq_of_beq (List.all_eq_true.mp h4 _ (PySem.mem_of_lookup e))),(hbt x (bne_iff_ne.mp q.2)).trans (eq_of_beq q.1)⟩
 clss:=fun x c e=>by
  have q:=a2 (List.all_eq_true.mp h5 _ (PySem.mem_of_lookup e))
  exact ⟨of_decide_eq_true q.1,gt X hm (eq_of_beq q.2)⟩
 raises:=hx.raises
 catches:=hx.catches
 isi:=hx.isi
theorem jm (gr:Ground g) (hfn:∀ f fn,g.P.fns[f]?=some fn→fn.init=false→∃ fd body nms,FnAt g (g.fn f) fn fd body nms∧∀ d,ka g d (g.fn f) fn fd body nms (g.safe f) (g.newf f)) (hin:∀ f fn,g.P.fns[f]?=some fn→fn.init=true→g.fn f=g.C∧g.safe f=false∧∀ d,InitAt g d fn):∀ d,fj g (am g.P d) d
 | 0=>fun hm f args K A s bad vals hc=>hc.elim
 | d+1=>nt gr (fun f fn h hi=>(hfn f fn h hi).elim fun fd q=>q.elim fun body q=>q.elim fun nms q=>⟨fd,body,nms,q.1,q.2 d⟩) (fun f fn h hi=>(hin f fn h hi).imp id fun q=>q.imp id fun q=>q d) (jm gr hfn hin d)
theorem pI (xs:List WData):WShape.hasItems [] xs .int=true→∃ is:List Int,xs=is.map .int:=by
 induction xs with
 | nil=>exact fun _=>⟨[],rfl⟩
 | cons x xs ih=>
  intro h
  have h:=a2 (b:=WShape.hasItems [] xs .int) h
  have h1:=h.1
  cases x with
  | int i=>exact (ih h.2).elim fun is e=>⟨i :: is,congrArg _ e⟩
  | _=>(injection h1; done)
noncomputable def zW (v:Option WData):Bool:=match (match (match v with | some (.bool b)=>some (WData.bool (!b)) | _=>none) with | some (.bool false)=>some (WData.bool false) | some (.bool true)=>some (WData.bool true) | _=>none) with | some (.bool true)=>true | _=>false
noncomputable def BA (b:Bool):Bool:=match some (WData.bool b) with | some (.bool true)=>true | _=>false
theorem sH:same (.bool true) (.bool true)=true:=by simp only [same,beq_self_eq_true]
theorem len_of (h:(WTm.and (.not (.lt (.lit (.int (63:Nat))) (.len (.arg 0)))) (.lit (.bool true))).holds [] { args:=[.list xs] }=true):xs.length≤63:=by
 have h:zW (some (.bool (decide (((63:Nat):Int) < (xs.length:Int)))))=true:=h
 by_cases hq:((63:Nat):Int) < (xs.length:Int)
 ·rw [decide_eq_true hq] at h; (injection h; done)
 ·lia
theorem y2 {l:OpenLaw} (hm:l.most=some 63) (hb:l.bound=none):l.pre=.and (.not (.lt (.lit (.int (63:Nat))) (.len (.arg 0)))) (.lit (.bool true)):=by
 unfold OpenLaw.pre; rw [hm,hb]
theorem sF {l:OpenLaw} (hm:l.most=some 63) (hb:l.bound=none) {args:List WData} (h:l.row.claim.pre args=true):∃ is:List Int,args=[.list (is.map .int)]∧is.length≤63:=by
 have h:=a2 (a:=WShape.hasAll [] args [.list .int]) (b:=l.pre.holds [] { args:=args }) h
 rw [y2 hm hb] at h
 cases args with
 | nil=>(injection h.1; done)
 | cons x r=>
  have h1:=a2 (a:=WShape.has [] x (.list .int)) h.1
  cases r with
  | cons y r=>(injection h1.2; done)
  | nil=>
   have h2:=h1.1
   cases x with
   | list xs=>
    have h2:(WShape.hasItems [] xs .int||false)=true:=h2
    rw [Bool.or_false] at h2
    refine (pI xs h2).elim fun is e=>⟨is,congrArg (fun xs=>[WData.list xs]) e,?_⟩
    have:=len_of h.2
    rw [e,zA4] at this
    exact this
   | _=>(injection h2; done)
set_option tactic.hygienic true in
theorem sI (is:List Int):∀ vs:List Value,WellAll P g.h0 vs (is.map .int)→RpAll g (fun _=>False) g.h0 vs (is.map .int):=by
 induction is with
 | nil=>intro vs w; cases w; exact .nil
 | cons i is ih=>
  intro vs w
  cases w with
  | cons w ws=>cases w with
   | int _ t=>exact .cons (.int i t) (ih _ ws)
set_option tactic.hygienic true in
theorem uE {l:OpenLaw} (hm:l.most=some 63) (hb:l.bound=none) {g:Gl} {f d:Nat} {cl:Str→Option Addr} {mean:ExcName→Option Value} {s₁:Shared} {args:List WData} {vals:List Value} {Pm:Params}
  (call:fj g (am g.P d) d) (hg:g.prog=l.row.prog) (h0:g.h0=s₁.heap) (ho:g.os=s₁.os) (hgn:s₁.gens=#[]) (hd:d≤40)
  (hpre:l.row.claim.pre args=true) (hwl:WellAll Pm s₁.heap vals args)
  (plain:∀ scr:List Int,scr.length≤63→am g.P d f [.list (scr.map .int)] fun y=>y=.bool true) :
  wpAny (model l.row.prog g.w) callerA (PySem.call (.ref (g.fn f)) vals) (fun v s'=>GoodWG l.row.claim cl mean args s₁ (.ok (.ret v)) s') (fun e s'=>GoodWG l.row.claim cl mean args s₁ (.error e) s') s₁:=by
 obtain ⟨is,rfl,hlen⟩:=sF hm hb hpre
 cases hwl with
 | cons w ws=>
 cases ws
 cases w with
 | list ha hws=>
 rename_i a vs
 have rp:RpAll g (fun _=>False) s₁.heap [.ref a] [.list (is.map .int)]:=by
  rw [← h0] at hws ha ⊢
  exact .cons (.list id ha ⟨rfl,rfl⟩ rfl (by rw [List.toList_toArray]; exact sI _ _ hws)) .nil
 have B:Base g s₁:=⟨by rw [h0]; exact fun b o e=>e,ho.symm,hgn⟩
 have w:=call false f [.list (is.map .int)] _ callerA s₁ (fun _=>False) [.ref a] (plain is hlen) (fun _=>rfl) nofun (by refine (?_:1+claimMargin+2 * d < 990); exact Nat.lt_of_le_of_lt (Nat.add_le_add_left (Nat.mul_le_mul_left 2 hd) _) (by decide))
  (by refine (?_:4+4 * d+100 < cLine); have:(1000:Nat)≤cLine:=(by decide +kernel); exact Nat.lt_of_lt_of_le (Nat.lt_of_le_of_lt (Nat.add_le_add_right (Nat.add_le_add_left (Nat.mul_le_mul_left 4 hd) 4) 100) (by decide)) this) B ⟨_,rfl,fun env m=>nM m⟩ (fun a q=>q.elim) (fun a q=>q.elim) rp
 rw [hg] at w
 refine wpAny_mono w (fun v s' p=>?_) fun _ _ ⟨_,_,c,e,_,_,q,_⟩=>nomatch q
 obtain ⟨B',_,y,rfl,_,r,_⟩:=p
 refine r.bool_elim ?_
 refine GoodW.toG ⟨.inl ⟨_,.bool true,[],rfl,fun cls=>rfl,ReadsW.bool true,(by
  refine (?_:(WShape.has [] (.bool true) .bool&&(WTm.eq .res (.lit (.bool true))).holds [] _)=true)
  refine zA3 ⟨rfl,?_⟩
  exact congrArg BA sH),fun _=>⟨List.nodup_nil,fun a ha=>(nM ha)⟩⟩,?_,B'.os.trans ho,B'.gens⟩
 have:=B'.stays
 rw [h0] at this
 exact fun b o e=>this b o e
end Mine
end
noncomputable section
namespace Mine.L03
open PySem PySem.Calls PyProof.Rows PySem.W
theorem tq:@jt lU 0 fns nms wl=true:=by kernel_rfl
theorem B7:jt 0 fns nms wl=true:=rS▸tq
theorem qw {K:Frag}:∀ {i:Nat} {fns:List Fn} {n:List (List Str)} {A:List Addr} {b:List (Option gk)},jt i fns n b=true→A.map (fg K)=b→∀ {f:Nat} {fn:Fn},fns[f]?=some fn→A.getD f 0∈A∧∃ m,jr Z fn m (safe (i+f)) (newf (i+f)&&!fn.init) (fg K (A.getD f 0))=true
 | _,[],_,_,_,_,_,_,_,h=>nN h.symm
 | _,_ :: _,[],_,_,e,_,_,_,_=>nB e
 | _,_ :: _,_ :: _,_,[],e,_,_,_,_=>nB e
 | _,_ :: _,_ :: _,[],_ :: _,_,q,_,_,_=>nomatch q
 | i,fn :: r,n :: m,a :: A,b :: B,e,q,0,_,h=>by
  (injection h with h; subst h)
  obtain ⟨q1,q2⟩:=zA5 q
  refine ⟨.head _,n,?_⟩
  refine (?_:jr Z fn n _ _ (fg K a)=true)
  rw [q1]; exact (a2 e).1
 | i,fn :: r,n :: m,a :: A,b :: B,e,q,f+1,_,h=>by
  obtain ⟨q1,q2⟩:=zA5 q
  rw [show i+(f+1)=i+1+f from (Nat.succ_add i f).symm]
  exact (qw (a2 e).2 q2 (f:=f) h).imp (.tail _) id
theorem r8 {K:Frag}:∀ {n:Nat},l6 K n=true→∀ {c:Nat},c < n→lE K sup 8 (fun c=>clsA.getD c 0) c=true
 | n+1,e,c,h=>by
  by_cases q:c=n
  ·subst q; exact (a2 e).1
  ·exact r8 (a2 e).2 (Nat.lt_of_le_of_ne (Nat.le_of_lt_succ h) q)
theorem w7:(List.range 39).all (fun f=>(fns[f]?).all fun fn=>if fn.init=true then f==14 else fnB.getD f 0==fnA.getD f 0)=true:=rfl
theorem rK (h:fns[f]?=some fn):(if fn.init=true then f==14 else fnB.getD f 0==fnA.getD f 0)=true:=by
 have:=List.all_eq_true.mp w7 f (List.mem_range.mpr (List.getElem?_eq_some_iff.mp h).1)
 rw [h] at this
 exact this
noncomputable def xW (p:Program) (x:Str):Bool:=(ownsOf p).any fun o=>o.name==x&&(o.bm==[.type "ValueError",.type "Exception",.type "BaseException",.type "object"]&&o.newId=="ValueError.__new__")
theorem uk (own:∀ o∈ownsOf p,∃ C,OwnClsQ o.name C o.bm o.newId g.mg g.h0) (hx:xW p x=true) (hc:g.mg x=some (.ref (g.cls c))):RaiseOk g c:=by
 obtain ⟨o,ho,hq⟩:=List.any_eq_true.mp hx
 have h1:=eq_of_beq (a2 hq).1
 have h2:=eq_of_beq (a2 (a2 hq).2).1
 have h3:=eq_of_beq (a2 (a2 hq).2).2
 obtain ⟨C,O⟩:=own o ho
 have hb:=O.bound
 rw [h1,hc] at hb
 cases hb
 obtain ⟨bm,N,nm,q,bs,hdct,sn,sub,ab,col,dd,k0,k1,k2,k3,k5,mN,hC,hN,hqn,T⟩:=O.obj
 rw [h3] at hC
 rw [h2] at T
 exact ⟨nm,q,N,bs,bm,_,hdct,sn,sub,ab,col,dd,k0,k1,k2,k3,k5, "ValueError", "ValueError.__new__",_,mN,PySem.F.excBase_ValueError,T.tail.hasType PySem.F.excBase_ValueError.hasBase,hqn _ (.head _),hC,hN,T.tail⟩
theorem u3:∀ c,c < 8→clsN.any (fun p=>p.2==c&&clsN.lookup p.1==some c)=true:=by decide
theorem xF (KX:g.K.In g.h0) (e:chk g.K=true) (hbd:fnB.map (fg g.K)=wl) (hf:g.fn=fun f=>fnA.getD f 0) (hC:g.C=mchA) (hfl:g.flds=fldN) (hfn:g.fns=fnN) (hcn:g.cons=conN) (hP:g.P=prog) (hcl:g.clss=clsN) (hnc:g.nc=8) (hcs:g.cls=fun c=>clsA.getD c 0) (hsf:g.safe=safe) (hnw:g.newf=newf) (hm:g.h0.Ns mainGlobals g.mg) (hb:g.h0.Ns builtinsNs g.mb) (hl:g.h0.NoLimit) (hbt:∀ x:Str,x≠"__name__"→g.mb x=bootBuiltins x)
  (own:∀ o∈ownsOf q,∃ C,OwnClsQ o.name C o.bm o.newId g.mg g.h0) (hq:clsN.all (fun p=>xW q p.1)=true) (d:Nat):Ground g∧fj g (am g.P d) d:=by
 obtain ⟨e1,e⟩:=a2 e
 obtain ⟨e2,e⟩:=a2 e
 obtain ⟨e3,e⟩:=a2 e
 obtain ⟨e4,e⟩:=a2 e
 obtain ⟨e5,e⟩:=a2 e
 obtain ⟨e6,e⟩:=a2 e
 obtain ⟨e7,e⟩:=a2 e
 obtain ⟨e8,e⟩:=a2 e
 obtain ⟨e9,e⟩:=a2 e
 obtain ⟨e10,e⟩:=a2 e
 obtain ⟨e11,e⟩:=a2 e
 obtain ⟨e12,e⟩:=a2 e
 obtain ⟨e13,e14⟩:=a2 e
 simp only [vt] at e3 e5 e11
 have hsup:g.P.sup=sup:=by rw [hP]; rfl
 have cn:∀ x c,clsN.lookup x=some c→g.mg x=some (.ref (g.cls c)):=fun x c h=>by
  rw [hcs]
  exact gt KX hm (eq_of_beq (a2 (List.all_eq_true.mp e11 _ (PySem.mem_of_lookup h))).2)
 have xc:XClss g:=Bv KX (eq_of_beq e12) (eq_of_beq e13) (fun c h=>by rw [hsup,hnc,hcs]; exact r8 e14 (hnc▸h)) fun c h=>by
  obtain ⟨p,mp,hp⟩:=List.any_eq_true.mp (u3 c (hnc▸h))
  obtain ⟨h1,h2⟩:=a2 hp
  exact uk own (List.all_eq_true.mp hq _ mp) (cn _ _ (eq_of_beq h2))
 have gr:Mine.Ground g:=sY KX hm hb hl hbt e1 (by rw [hC,hfl]; exact e2) (by rw [hfn,hf]; exact e3) (by rw [hcn]; exact e4) e5 (by rw [hcl,hnc,hcs]; exact e11) xc
 have ok:GOk g Z:=zF hfn hcn hfl hcl hnc hsup hsf hnw (by rw [hf,hC]; rfl) (by rw [hf]; exact e6) (by rw [hC,hfl,hf]; exact e7)
 refine ⟨gr,jm gr (fun f fn h hi=>?_) (fun f fn h hi=>?_) d⟩
 ·rw [hP] at h
  obtain ⟨mb,m,q⟩:=qw B7 hbd h
  have mb:=List.all_eq_true.mp e10 _ mb
  have i:=rK h
  rw [hi,if_neg Bool.false_ne_true] at i
  rw [eq_of_beq i,hi,Nat.zero_add,Bool.not_false,Bool.and_true] at q
  rw [eq_of_beq i] at mb
  rw [hsf,hnw]
  exact rP ok KX (by rw [hf]; exact mb) (by rw [hf]; exact q)
 ·rw [hP] at h
  obtain ⟨mb,m,q⟩:=qw B7 hbd h
  have mb:=List.all_eq_true.mp e10 _ mb
  have i:=rK h
  rw [hi,if_pos rfl] at i
  obtain rfl:=eq_of_beq i
  rw [hi,Nat.zero_add,Bool.not_true,Bool.and_false] at q
  obtain ⟨fd,body,nm,F,sm⟩:=rP (g:=g) ok KX mb q
  exact ⟨by rw [hf,hC]; rfl,by rw [hsf]; rfl,fun d=>⟨223,fd,body,nm,by rw [hC]; exact eq_of_beq e8,eq_of_beq e9,F,sm d⟩⟩
end Mine.L03
end
noncomputable section
namespace Mine
open PySem
noncomputable def evs (cf:aj) (es:List E):List D:=E.rec_1 (motive_1:=fun _=>D) (motive_2:=fun _=>List D) (fun o _ ih=>bA cf o ih) [] (fun _ _ i is=>i :: is) es
noncomputable def exi (sup:Nat→Nat→Bool) (cf:aj) (l:List S):B:=S.rec_1 (motive_1:=fun _=>B) (motive_2:=fun _=>B) (fun o es _ _ x y=>d8 sup cf o (es.map (ev cf)) x y) (fun G K=>K none G) (fun _ _ i is G K=>i G fun fl G'=>match fl with | none=>is G' K | some x=>K (some x) G') l
section
variable {sup:Nat→Nat→Bool} {cf:aj} {G:Gs} {K:Option V→Gs→Prop} {e a b c:E} {es:List E} {r:List S} {v x y z:V} {o:Op} {k:Nat} {t u:Bool}
def Val (cf:aj) (G:Gs) (e:E) (v:V):Prop:=∀ K,K v→ev cf e G K
def fG (cf:aj) (G:Gs) (es:List E) (vs:List V):Prop:=∀ K,K vs→bY (evs cf es) G K
def a8 (cf:aj) (b:Bool) (G:Gs) (es:List E) (t:Bool):Prop:=∀ K,K t→ci b (evs cf es) G K
theorem al {α:Type} {o:Option α} {z:α} {K:α→Prop} (e:o=some z) (h:K z):okK o K:=by rw [e]; exact h
theorem ix {α:Type} {v:α} (K:α→Prop) (h:K v):K v:=h
theorem fG.nil:fG cf G [] []:=ix
noncomputable def pO (o:Op):Bool:=match o with
 | .bin _ | .neg | .tuple | .list | .sub | .slice _ _ | .attr _ | .isinst _ | .len | .listOf | .lenSet | .isExc _ _ | .edict | .range | .zip=>true
 | _=>false
theorem Bx (h:pO o=true) {K:V→Prop} (q:bY ds G fun xs=>okK (opN o xs) K):bA cf o ds G K:=by
 cases o <;> first | exact q | exact nB h
theorem fG.cons (h:Val cf G e v) (hs:fG cf G es vs):fG cf G (e :: es) (v :: vs):=fun K k=>h _ (hs _ k)
theorem fG.one (h:Val cf G e v):fG cf G [e] [v]:=.cons h .nil
theorem fG.two (h:Val cf G a x) (h':Val cf G b y):fG cf G [a,b] [x,y]:=.cons h (.cons h' .nil)
theorem aa {vs:List V} (hv:fG cf G es vs) (e:opN o vs=some z) (ho:pO o=true:=by exact rfl):Val cf G (.nd o es) z:=fun K k=>Bx ho (hv _ (al e k))
theorem ae {o:CmpOp} (h:Val cf G a x) (h':Val cf G b y) (e:aT o x y=some t):Val cf G (.nd (.cmp o) [a,b]) (.bool t):=fun K k=>h _ (h' _ (al e k))
theorem ar (hv:fG cf G es vs) (h:∀ K,K v→cf f vs K) (hn:noX v=true:=by rfl):Val cf G (.nd (.call f) es) v:=fun K k=>hv _ (h _ ⟨hn,k⟩)
theorem eD (hv:Val cf G e x) (hi:qv x=true) (h:∀ K,K v→cf f [x] K) (hn:noX v=true:=by rfl):Val cf G (.nd (.meth f) [e]) v:=fun K k=>hv _ ⟨hi,h _ ⟨hn,k⟩⟩
theorem ay (h:Val cf G a (.bool t)):Val cf G (.nd .not [a]) (.bool (!t)):=fun K k=>h _ k
theorem a8.nil {b:Bool}:a8 cf b G [] b:=fun _ h=>h
theorem a8.go {b:Bool} (h:Val cf G a (.bool b)) (hs:a8 cf b G es t):a8 cf b G (a :: es) t:=fun K k=>h _ (by refine (?_:if b=b then _ else _); rw [if_pos rfl]; exact hs _ k)
theorem a8.stop {b:Bool} (h:Val cf G a (.bool (!b))):a8 cf b G (a :: es) (!b):=fun K k=>h _ (by refine (?_:if (!b)=b then _ else _); rw [if_neg (by cases b <;> decide)]; exact k)
theorem a8.and {t u:Bool} (h:Val cf G a (.bool t)) (hs:t=true→a8 cf true G es u):a8 cf true G (a :: es) (t&&u):=by
 cases t
 ·exact .stop (b:=true) h
 ·exact .go h (hs rfl)
theorem a8.or {t u:Bool} (h:Val cf G a (.bool t)) (hs:t=false→a8 cf false G es u):a8 cf false G (a :: es) (t||u):=by
 cases t
 ·exact .go h (hs rfl)
 ·exact .stop (b:=false) h
theorem a8.one (h:Val cf G a (.bool t)):a8 cf true G [a] t:=by
 have:=a8.and (es:=[]) h fun _=>.nil
 rwa [Bool.and_true] at this
theorem a8.one' (h:Val cf G a (.bool t)):a8 cf false G [a] t:=by
 have:=a8.or (es:=[]) h fun _=>.nil
 rwa [Bool.or_false] at this
theorem av (h:a8 cf true G es t):Val cf G (.nd .and es) (.bool t):=fun K k=>h _ k
theorem bw (h:a8 cf false G es t):Val cf G (.nd .or es) (.bool t):=fun K k=>h _ k
theorem oN {α:Type} {e:E} {ts:List E} {b:Gs→V→Option Gs} {g:α→V} {H:α→Gs} {p:α→Bool} {f:α→V} {ws:List α}:∀ (ys:List V),(∀ w∈ws,b G (g w)=some (H w))→(∀ w∈ws,a8 cf true (H w) ts (p w))→(∀ w∈ws,p w=true→Val cf (H w) e (f w))→∀ K:List V→Prop,K (ys++(ws.filter p).map f)→jh (ev cf e) (evs cf ts) b G (ws.map g) fun zs=>K (ys++zs):=by
 induction ws with
 | nil=>exact fun ys _ _ _ K h=>h
 | cons x xs ih=>
  intro ys hb ht he K h
  refine al (hb x (.head _)) (ht x (.head _) _ ?_)
  have ih:=fun ys=>ih ys (fun x m=>hb x (.tail _ m)) (fun x m=>ht x (.tail _ m)) fun x m=>he x (.tail _ m)
  cases hp:p x with
  | false=>
   rw [List.filter_cons_of_neg (by rw [hp]; exact Bool.false_ne_true)] at h
   exact ih ys K h
  | true=>
   rw [List.filter_cons_of_pos hp] at h
   refine he x (.head _) hp _ ?_
   have e1:(fun zs=>K (ys++(f x :: zs)))=fun zs=>K ((ys++[f x])++zs):=funext fun zs=>by rw [List.append_assoc]; rfl
   refine (?_:jh (ev cf e) (evs cf ts) b G (xs.map g) fun zs=>K (ys++(f x :: zs)))
   rw [e1]
   exact ih (ys++[f x]) K (by rw [List.append_assoc]; exact h)
theorem jy {α:Type} {s e:E} {ts:List E} {g:α→V} {p:α→Bool} {f:α→V} {ws:List α} (hs:Val cf G s x) (hq:bM x=some (ws.map g)) (ht:∀ w∈ws,a8 cf true (G.set k (.v (g w))) ts (p w)) (he:∀ w∈ws,p w=true→Val cf (G.set k (.v (g w))) e (f w)) :
  Val cf G (.nd (.comp k) (s :: e :: ts)) (.list ((ws.filter p).map f)):=fun K h=>hs _ (al hq (oN [] (fun _ _=>rfl) ht he (fun ys=>K (.list ys)) h))
theorem tU {l:List V} (hl:bE G k=some l) (hz:l.length≤ai):Val cf G (.nd (.lenL k) []) (.int l.length):=fun K h=>al hl ⟨hz,h⟩
theorem tT {l:List V} (hl:bE G k=some l) (h:Val cf (G.set k (.v (.list l))) a (.bool t)):Val cf G (.nd (.lend k) [a]) (.bool t):=fun K n=>al hl (h _ n)
theorem kA {α:Type} {s e:E} {ts:List E} {ks:List Nat} {g:α→V} {H:α→Gs} {p:α→Bool} {f:α→V} {ws:List α} (hs:Val cf G s x) (hq:bM x=some (ws.map g)) (hb:∀ w∈ws,aW ks G (g w)=some (H w)) (ht:∀ w∈ws,a8 cf true (H w) ts (p w)) (he:∀ w∈ws,p w=true→Val cf (H w) e (f w)) :
  Val cf G (.nd (.compM ks) (s :: e :: ts)) (.list ((ws.filter p).map f)):=fun K h=>hs _ (al hq (oN [] hb ht he (fun ys=>K (.list ys)) h))
theorem Ah (ws:List α):ws.filter (fun _=>true)=ws:=List.filter_eq_self.mpr fun _ _=>rfl
theorem dg {α:Type} {g f:α→V} {ws:List α} (hs:Val cf G s x) (hq:bM x=some (ws.map g)) (he:∀ w∈ws,Val cf (G.set k (.v (g w))) e (f w)) :
  Val cf G (.nd (.comp k) [s,e]) (.list (ws.map f)):=by
 have q:=jy (ts:=[]) (p:=fun _=>true) (f:=f) hs hq (fun _ _=>.nil) fun x m _=>he x m
 rw [Ah] at q
 exact q
theorem exi_eq:∀ l:List S,exi sup cf l=exs sup cf l
 | []=>rfl
 | s :: r=>funext fun G=>funext fun K=>by
  refine (?_:ex sup cf s G (fun fl G'=>match fl with | none=>exi sup cf r G' K | some x=>K (some x) G')=_)
  rw [exi_eq r]; rfl
theorem lV:∀ l:List S,exs sup cf (l++r)=fun G K=>exs sup cf l G (fun fl G'=>match fl with | none=>exs sup cf r G' K | some x=>K (some x) G')
 | []=>rfl
 | s :: l=>by
  funext G K
  refine (?_:ex sup cf s G (fun fl G'=>match fl with | none=>exs sup cf (l++r) G' K | some x=>K (some x) G')=_)
  rw [lV l]; rfl
theorem aD (h:K none G):exs sup cf [] G K:=h
theorem af (h:Val cf G e v) (n:exs sup cf r (G.set k (.v v)) K):exs sup cf (.mk (.assign k) [e] [] [] :: r) G K:=h _ n
theorem ku {ks:List Nat} {G':Gs} (h:Val cf G e v) (hs:aW ks G v=some G') (n:exs sup cf r G' K):exs sup cf (.mk (.assignM ks) [e] [] [] :: r) G K:=h _ (al hs n)
theorem az (h:Val cf G e v) (n:K (some v) G) (hn:noX v=true:=by rfl):exs sup cf (.mk .ret [e] [] [] :: r) G K:=h _ ⟨hn,n⟩
theorem bQ {A B:List S} (h:Val cf G c (.bool t)) (h1:t=true→exs sup cf (A++r) G K) (h2:t=false→exs sup cf (B++r) G K):exs sup cf (.mk .ite [c] A B :: r) G K:=h _ (by
 refine (?_:if t=true then exi sup cf A G _ else exi sup cf B G _)
 rw [exi_eq,exi_eq]
 cases t
 ·have:=h2 rfl; rw [lV] at this; exact this
 ·have:=h1 rfl; rw [lV] at this; exact this)
theorem bq {A B:List S} (h:Val cf G c (.bool true)) (h1:exs sup cf (A++r) G K):exs sup cf (.mk .ite [c] A B :: r) G K:=bQ h (fun _=>h1) fun q=>nB q.symm
theorem aG (h:Val cf G c (.bool false)) (h1:exs sup cf r G K):exs sup cf (.mk .ite [c] A [] :: r) G K:=bQ h (fun q=>nB q) fun _=>h1
theorem ia (n:exs sup cf r (G.set k (.ownL [])) K):exs sup cf (.mk (.ownL k) [] [] [] :: r) G K:=⟨Nat.zero_le _,n⟩
theorem cE {l:List V} (hl:bE G k=some l) (h:Val cf G e v) (hz:l.length < ai) (n:exs sup cf r (G.set k (.ownL (l++[v]))) K):exs sup cf (.mk (.append k) [e] [] [] :: r) G K:=al hl (h _ ⟨hz,n⟩)
theorem eB {l:List V} (hl:bE G k=some l) (n:exs sup cf r (G.set k (.v (.list l))) K):exs sup cf (.mk (.freeze k) [] [] [] :: r) G K:=al hl n
theorem evs_map:∀ es:List E,es.map (ev cf)=evs cf es
 | []=>rfl
 | e :: es=>congrArg (ev cf e :: ·) (evs_map es)
theorem qJ (hv:fG cf G es vs) (h:cf f vs fun y=>if noX y=true then isNone y=true∧exs sup cf r G K else K (some y) G):exs sup cf (.mk (.call f) es [] [] :: r) G K:=by
 refine (?_:bY (es.map (ev cf)) G fun xs=>cf f xs fun y=>if noX y=true then isNone y=true∧exs sup cf r G K else K (some y) G)
 rw [evs_map]
 exact hv _ h
theorem jO (n:exs sup cf r (G.set k (.ownD [])) K):exs sup cf (.mk (.ownD k) [] [] [] :: r) G K:=n
theorem fK {l:List (V×V)} (hl:iU G k=some l) (h:Val cf G a v) (h':Val cf G b x) (hk:dp x=true) (hz:l.length < ai) (n:exs sup cf r (G.set k (.ownD (lM l x v))) K):exs sup cf (.mk (.setD k) [a,b] [] [] :: r) G K:=
 al hl (h _ (h' _ (al (if_pos (zA3 ⟨hk,decide_eq_true hz⟩)) n)))
theorem c7 {l:List (V×V)} (hl:iU G k=some l) (n:exs sup cf r (G.set k (.v (.dict l))) K):exs sup cf (.mk (.freezeD k) [] [] [] :: r) G K:=al hl n
theorem yJ {l:List V} {j f:Nat} (h:Val cf G a x) (hl:bE G k=some l) (hz:l.length≤ai) (hy:l.getLast?=some y) (h':Val cf (G.set k (.ownL l.dropLast)) b z) (h'':Val cf (G.set k (.ownL l.dropLast)) c v)
  (n:cf f [x,y,z,v] fun w=>noX w=true∧exs sup cf r ((G.set k (.ownL l.dropLast)).set j (.v w)) K):exs sup cf (.mk (.popC j k f) [a,b,c] [] [] :: r) G K:=h _ (al hl ⟨hz,al hy (h' _ (h'' _ n))⟩)
theorem yI {l:List V} {j:Nat} {d w:V} (h0:Val cf G e d) (h:Val cf G a x) (h':Val cf G b y) (hl:bE G k=some l) (hz:l.length≤ai) (hy:l.getLast?=some z) (h'':Val cf (G.set k (.ownL l.dropLast)) c v) (hs:g8 d (.tuple [x,y,z,v])=some w)
  (n:exs sup cf r ((G.set k (.ownL l.dropLast)).set j (.v w)) K):exs sup cf (.mk (.popS j k) [e,a,b,c] [] [] :: r) G K:=h0 _ (h _ (h' _ (al hl ⟨hz,al hy (h'' _ ⟨(by decide:4≤ai),al hs n⟩)⟩)))
theorem yH (hv:fG cf G es vs) (n:cf f vs fun y=>match lW y with
  | none=>w6 y=true∧exs sup cf r G K
  | some e=>sup e d=true∧exs sup cf A (G.set k (.v y)) fun fl G'=>match fl with | some z=>noX z=true∧K (some z) (G'.set k .unset) | none=>False):exs sup cf (.mk (.tryE f d k) es A [] :: r) G K:=by
 refine (?_:bY (es.map (ev cf)) G fun xs=>cf f xs fun y=>match lW y with
  | none=>w6 y=true∧exs sup cf r G K
  | some e=>sup e d=true∧exi sup cf A (G.set k (.v y)) fun fl G'=>(match fl with | some x=>noX x=true | none=>False)∧match fl with | none=>exs sup cf r (G'.set k .unset) K | some x=>K (some x) (G'.set k .unset))
 rw [evs_map,exi_eq]
 refine hv _ ?_
 have e:(fun (fl:Option V) (G':Gs)=>(match fl with | some x=>noX x=true | none=>False)∧match fl with | none=>exs sup cf r (G'.set k .unset) K | some x=>K (some x) (G'.set k .unset))=fun fl G'=>match fl with | some z=>noX z=true∧K (some z) (G'.set k .unset) | none=>False:=funext fun fl=>funext fun G'=>by
  cases fl with
  | none=>exact propext ⟨fun h=>h.1,fun h=>h.elim⟩
  | some z=>rfl
 rw [e]
 exact n
theorem rO {b:Gs→V→Option Gs} {P:List V→Gs→Prop} (done:∀ G,P [] G→K none G) (turn:∀ x l G,P (x :: l) G→(∀ G',P l G'→jb b A l G' K)→okK (b G x) fun G'=>A G' fun fl G''=>match fl with | none=>jb b A l G'' K | some y=>noX y=true∧K (some y) G''):∀ xs G,P xs G→jb b A xs G K
 | [],G,h=>done G h
 | x :: l,G,h=>turn x l G h (rO done turn l)
theorem qh {op:SOp} {b:Gs→V→Option Gs} {s:E} {body:List S} {xs:List V} {P:List V→Gs→Prop} (hop:∀ ds X Y G K,(gW ds G fun x=>okK (bM x) fun xs=>jb b X xs G K)→d8 sup cf op ds X Y G K) (hs:Val cf G s v) (hq:bM v=some xs) (h0:P xs G) (done:∀ G,P [] G→exs sup cf r G K)
  (turn:∀ x l G Kt,P (x :: l) G→(∀ G',P l G'→Kt none G')→(∀ y G',noX y=true→K (some y) G'→Kt (some y) G')→okK (b G x) fun G'=>exs sup cf body G' Kt):exs sup cf (.mk op [s] body [] :: r) G K:=by
 have q:=hop [ev cf s] (exi sup cf body) (exi sup cf []) G (fun fl G'=>match fl with | none=>exs sup cf r G' K | some x=>K (some x) G') (hs _ (al hq (by
  rw [exi_eq]
  exact rO (P:=P) (K:=fun fl G'=>match fl with | none=>exs sup cf r G' K | some x=>K (some x) G') done (fun x l G h n=>turn x l G (fun fl G''=>match fl with | none=>jb b (exs sup cf body) l G'' (fun fl G'=>match fl with | none=>exs sup cf r G' K | some x=>K (some x) G') | some y=>noX y=true∧K (some y) G'') h n fun _ _ h h'=>⟨h,h'⟩) xs G h0)))
 exact q
theorem cZ {P:List V→Gs→Prop} (hs:Val cf G s v) (hq:bM v=some xs) (h0:P xs G) (done:∀ G,P [] G→exs sup cf r G K)
  (turn:∀ x l G Kt,P (x :: l) G→(∀ G',P l G'→Kt none G')→(∀ y G',noX y=true→K (some y) G'→Kt (some y) G')→exs sup cf body (G.set k (.v x)) Kt):exs sup cf (.mk (.forS k) [s] body [] :: r) G K:=qh (P:=P) (fun _ _ _ _ _ h=>h) hs hq h0 done turn
theorem vc {P:List V→Gs→Prop} (hs:Val cf G s v) (hq:bM v=some xs) (h0:P xs G) (done:∀ G,P [] G→exs sup cf r G K)
  (turn:∀ x l G Kt,P (x :: l) G→(∀ G',P l G'→Kt none G')→(∀ y G',noX y=true→K (some y) G'→Kt (some y) G')→okK (aW ks G x) fun G'=>exs sup cf body G' Kt):exs sup cf (.mk (.forM ks) [s] body [] :: r) G K:=qh (P:=P) (fun _ _ _ _ _ h=>h) hs hq h0 done turn
end
end Mine
end
noncomputable section
namespace Mine.L03
open PySem
noncomputable def step (cf:aj):aj:=fun f args K=>okK (fns[f]?) fun fn=>args.length+(if fn.init=true then 1 else 0)=fn.npar∧exs sup cf fn.body (cP fn args) fun fl G=>
 if fn.init=true then (match fl with | none=>okK (dU G 0) fun l=>l.length=5∧K (pJ l) | some y=>noX y=false∧K y) else K (fl.getD .none)
theorem run (hf:fns[f]?=some fn) (hi:fn.init=false) (hl:args.length=fn.npar) (h:exs sup cf fn.body (args.map .v++List.replicate (fn.nslots - fn.npar) .unset) fun fl _=>K (fl.getD .none)):step cf f args K:=by
 unfold step
 refine hf.symm▸?_
 refine ⟨by rw [hi,if_neg Bool.false_ne_true]; exact hl,?_⟩
 exact hi.symm▸(show cP fn args=args.map .v++List.replicate (fn.nslots - fn.npar) .unset by unfold cP; rw [hi]; rfl).symm▸h
theorem cw (h:n≤5000):n≤ai:=zB1 h (by decide)
theorem bn (h:l.length≤5000):bM (.list l)=some l:=if_pos (cw h)
theorem eG (h:l.length≤5000):bM (text l)=some (ba l):=if_pos (cw h)
theorem pn (h:l.length≤5000):opN .len [.list l]=some (.int l.length):=by
 refine (?_:(bM (.list l)).map _=_); rw [bn h]; rfl
theorem ze (h:s.cps.toList.length≤5000):opN .len [.str s]=some (.int s.cps.toList.length):=by
 refine (?_:(dI s.cps.toList (ba s.cps.toList)).map _=_)
 rw [show dI s.cps.toList (ba s.cps.toList)=some (ba s.cps.toList) from if_pos (cw h)]
 refine (?_:some (PyData.int ((s.cps.toList.map _).length:Nat))=_); rw [zA4]
theorem B4 (h:a < b):aT .Lt (.int a) (.int b)=some true:=congrArg some (decide_eq_true h)
theorem wb (h:¬ a < b):aT .Lt (.int a) (.int b)=some false:=congrArg some (decide_eq_false h)
theorem CD (h:b < a):aT .Gt (.int a) (.int b)=some true:=congrArg some (decide_eq_true h)
theorem wc (h:¬ b < a):aT .Gt (.int a) (.int b)=some false:=congrArg some (decide_eq_false h)
theorem oP:aT .Eq (.int a) (.int b)=some (a==b):=rfl
theorem vM:aT .NotEq (.int a) (.int b)=some (!(a==b)):=rfl
theorem lR (hz:l.length≤5000) (h0:0≤i) (e:l[i.toNat]?=some x):pF l f (.int i)=some (f x):=by
 refine (?_:(if l.length≤ai then _ else none)=_)
 rw [if_pos (cw hz),if_pos h0,e]; rfl
theorem dX (hz:l.length≤5000) (h0:0≤i) (e:l[i.toNat]?=some x):opN .sub [.list l,.int i]=some x:=lR hz h0 e
theorem qr (hz:l.length≤5000) (h0:0≤i) (e:l[i.toNat]?=some c):opN .sub [text l,.int i]=some (text [c]):=lR (f:=fun c=>text [c]) hz h0 e
theorem aJ (a:Int) (h:0 < b):0≤a.fmod b:=Int.fmod_nonneg_of_pos a h
theorem be (a:Int) (h:0 < b):a.fmod b < b:=Int.fmod_lt_of_pos a h
theorem bO (h:0 < b):opN (.bin .Mod) [.int a,.int b]=some (.int (a.fmod b)):=if_neg (Int.ne_of_gt h)
theorem dY (h:0 < b) (h':b≤1000000):opN (.bin .FloorDiv) [.int a,.int b]=some (.int (a.fdiv b)):=if_neg fun z=>z.elim (fun e=>absurd h (e▸Int.lt_irrefl 0)) fun e=>absurd e (Nat.not_lt.mpr (Int.ofNat_le.mp ((Int.natAbs_of_nonneg (Int.le_of_lt h)).symm▸h')))
theorem eR (h:b.natAbs≤1000000∨a.natAbs≤1000000):opN (.bin .Mult) [.int a,.int b]=some (.int (a * b)):=if_pos h
noncomputable def cL (scr:List Int):V:=.list (scr.map .int)
noncomputable def a7 (scr:List Int) (k:Int):Int:=if k < scr.length then scr.getD k.toNat 0 else 0
def S20 (cf:aj):Prop:=∀ scr k K,scr.length≤63→0≤k→K (.int (a7 scr k))→cf 20 [cL scr,.int k] K
theorem p20 (cf:aj):S20 (step cf):=fun scr k K hs h0 h=>by
 refine run (fn:=f20) rfl rfl rfl ?_
 have hl:(scr.map PyData.int).length≤5000:=by exact zB1 (zB2 (List.length_map _)) (zB1 hs (by decide))
 have hv:Val cf [.v (cL scr),.v (.int k)] (lnE (vv 0)) (.int scr.length):=aa (.one ix) (by exact (List.length_map (f:=PyData.int) (as:=scr))▸pn hl)
 by_cases hk:k < scr.length
 ·refine bq (ae ix hv (B4 hk)) (az (aa (.two ix ix) (dX (x:=.int (a7 scr k)) hl h0 ?_)) h)
  have hk':k.toNat < scr.length:=by exact (Int.toNat_lt ‹_›).mpr hk
  rw [List.getElem?_map,List.getElem?_eq_getElem hk']
  unfold a7
  rw [if_pos hk,List.getD_eq_getElem?_getD,List.getElem?_eq_getElem hk']; rfl
 ·refine aG (ae ix hv (wb hk)) (az (v:=.int (a7 scr k)) ?_ h)
  unfold a7
  exact (if_neg hk).symm▸ix
noncomputable def rj (c k:Int):Int:=(c * 48271+7919 * k).fmod 1000003
def S21 (cf:aj):Prop:=∀ c k K,K (.int (rj c k))→cf 21 [.int c,.int k] K
theorem p21 (cf:aj):S21 (step cf):=fun c k K h=>run (fn:=f21) rfl rfl rfl (az (aa (.two (aa (.two (aa (.two ix ix) (eR (.inl (by decide)))) (aa (.two ix ix) (eR (.inr (by decide))))) rfl) ix) (bO (by decide))) h)
noncomputable def vOk (x:V):Bool:=match x with
 | .str s=>PyData.strOk s&&decide (s.cps.toList.length≤1000)
 | .dict kvs=>kvs.isEmpty
 | _=>true
theorem wm (h:Val cf G a (.dict kvs)) (hx:kvs.isEmpty=true):Val cf G (.nd (.isinst t) [a]) (.bool false):=aa (.one h) (by refine (?_:(isT (.dict kvs) t).map _=_); rw [show isT (.dict kvs) t=some false from if_pos hx]; rfl)
noncomputable def low (c:Nat):Bool:=abc.cps.toList.elem c
theorem il (h:l.length≤5000):opN .len [text l]=some (.int l.length):=ze (s:=⟨l.toArray⟩) h
theorem yB (h:a=b):aT .Eq (.int a) (.int b)=some true:=h▸congrArg some (beq_self_eq_true a)
theorem mm {K:Option V→Gs→Prop} {I:Gs→Prop} (hs:Val cf G s v) (hq:bM v=some xs) (h0:I G) (hI:∀ G x,I G→I (G.set k (.v x))) (hc:∀ x∈xs,∀ G,I G→Val cf (G.set k (.v x)) c (.bool false)) (n:∀ G,I G→exs sup cf r G K):exs sup cf (.mk (.forS k) [s] [.mk .ite [c] A []] [] :: r) G K:=
 cZ (P:=fun l G=>I G∧∀ x∈l,x∈xs) hs hq ⟨h0,fun _ m=>m⟩ (fun G h=>n G h.1) fun x l G Kt h nx rt=>aG (hc x (h.2 x (.head _)) G h.1) (aD (nx _ ⟨hI G x h.1,fun y z=>h.2 y (.tail _ z)⟩))
structure SgOk (a b c:List Nat):Prop where
 la:a.length≤4
 lb:b.length≤4
 lc:c.length≤4
 lows:∀ x∈a++b++c,low x=true
 nodup:(a++b++c).Nodup
section
variable {a b c:List Nat} {x:Nat} (ok:SgOk a b c)
include ok
theorem SgOk.inC (h:x∈c):x∉a∧x∉b:=by
 have:=(List.nodup_append.mp ok.nodup).2.2
 exact ⟨fun q=>this x (List.mem_append_left _ q) x h rfl,fun q=>this x (List.mem_append_right _ q) x h rfl⟩
theorem SgOk.inB (h:x∈b):x∉a:=fun q=>(List.nodup_append.mp (List.nodup_append.mp ok.nodup).1).2.2 x q x h rfl
theorem SgOk.lowA (h:x∈a):low x=true:=ok.lows x (List.mem_append_left _ (List.mem_append_left _ h))
theorem SgOk.lowB (h:x∈b):low x=true:=ok.lows x (List.mem_append_left _ (List.mem_append_right _ h))
theorem SgOk.lowC (h:x∈c):low x=true:=ok.lows x (List.mem_append_right _ h)
end
noncomputable def sg (a b c:List Nat):V:=.tuple [text a,text b,text c]
def S0 (cf:aj):Prop:=∀ l K,l.length≤4→(∀ c∈l,low c=true)→K (.bool true)→cf 0 [text l] K
theorem p0 (cf:aj):S0 (step cf):=fun l K hl lo h=>run (fn:=f0) rfl rfl rfl (aG (bw (.go (b:=false) (ay (t:=true) ix) (.one' (ae (aa (.one ix) (il (zB1 hl (by decide)))) ix (wc (Int.not_lt.mpr (Int.ofNat_le.mpr hl))))))) (mm (xs:=ba l) (v:=text l) (I:=fun G=>∃ t,G=[.v (text l),t]) ix (eG (zB1 hl (by decide))) ⟨_,rfl⟩ (fun G x h=>h.elim fun _ e=>⟨.v x,e▸rfl⟩) (fun x m G h=>by
 obtain ⟨t,rfl⟩:=h
 obtain ⟨c,mc,rfl⟩:=zA7 m
 exact ae ix ix (congrArg (fun b=>some (!b)) (lo c mc))) fun G _=>az (v:=.bool true) ix h))
theorem zd (nd:l.Nodup) (hz:l.length≤1000):opN .lenSet [text l]=some (.int l.length):=by
 refine (?_:(if l.Nodup∧l.toArray.size < 4000 then some l.toArray.size else none).map _=_)
 rw [if_pos ⟨nd,Nat.lt_of_le_of_lt hz (by decide)⟩]; rfl
theorem zi (h:(a.cps.toList++b.cps.toList).length≤5000):opN (.bin .Add) [.str a,.str b]=some (text (a.cps.toList++b.cps.toList)):=if_pos (cw h)
theorem ch (h:(l++m).length≤5000):opN (.bin .Add) [text l,text m]=some (text (l++m)):=zi (a:=⟨l.toArray⟩) (b:=⟨m.toArray⟩) h
def S1 (cf:aj):Prop:=∀ a b c K,SgOk a b c→K (.bool true)→cf 1 [sg a b c] K
theorem p1 (cf:aj) (h0:S0 cf):S1 (step cf):=fun a b c K sk h=>by
 refine run (fn:=f1) rfl rfl rfl (aG (bw (.go (b:=false) (ay (t:=true) ix) (.one' (ae (x:=.int 3) ix ix rfl)))) ?_)
 have go:∀ {l:List Nat},l.length≤4→(∀ c∈l,low c=true)→∀ G,(∃ t,G=[.v (sg a b c),t,.unset])→Val cf (G.set 1 (.v (text l))) (.nd .not [.nd (.call 0) [vv 1]]) (.bool false):=fun hl lo G h=>by
  obtain ⟨t,rfl⟩:=h
  exact ay (t:=true) (ar (.one ix) fun K h=>h0 _ K hl lo h)
 refine mm (xs:=[text a,text b,text c]) (v:=sg a b c) (I:=fun G=>∃ t,G=[.v (sg a b c),t,.unset]) ix rfl ⟨_,rfl⟩ (fun G x h=>h.elim fun _ e=>⟨.v x,e▸rfl⟩) (zA1 ⟨go sk.la fun _ m=>sk.lowA m,zA1 ⟨go sk.lb fun _ m=>sk.lowB m,List.forall_mem_singleton.mpr (go sk.lc fun _ m=>sk.lowC m)⟩⟩) fun G hG=>?_
 obtain ⟨t,rfl⟩:=hG
 have e1:(a++b).length≤8:=by rw [zB5]; exact Nat.add_le_add sk.la sk.lb
 have e2:(a++b++c).length≤12:=by rw [zB5]; exact Nat.add_le_add e1 sk.lc
 refine af (v:=text (a++b++c)) (aa (vs:=[text (a++b),text c]) (.two (aa (vs:=[text a,text b]) (.two ix ix) (ch (zB1 e1 (by decide)))) ix) (ch (zB1 e2 (by decide)))) ?_
 exact az (ae (aa (.one ix) (zd sk.nodup (zB1 e2 (by decide)))) (aa (.one ix) (il (zB1 e2 (by decide)))) (yB rfl)) h
theorem wj (h:K (some (gz c)) G):exs sup cf (.mk (.raise c) [] [] [] :: r) G K:=h
def S2 (cf:aj):Prop:=∀ a b c K,SgOk a b c→K .none→cf 2 [sg a b c] K
theorem p2 (cf:aj) (h1:S1 cf):S2 (step cf):=fun a b c K sk h=>run (fn:=f2) rfl rfl rfl (aG (ay (t:=true) (ar (.one ix) fun K h=>h1 a b c K sk h)) (aD h))
theorem du (x:Str):PyData.strOk x=x.cps.toList.all (· < 0x110000):=by unfold PyData.strOk; rw [Array.all_toList]
theorem okS (h:PyData.strOk s=true):dD (.str s)=true:=by
 refine (?_:(PyData.strOk s&&_)=true)
 rw [h]; rfl
theorem bK (hs:PyData.strOk s=true) (ht:PyData.strOk t=true):aT .Eq (.str s) (.str t)=some (s==t):=if_pos (by rw [okS hs,okS ht]; rfl)
theorem yy (hs:PyData.strOk s=true) (ht:PyData.strOk t=true):aT .NotEq (.str s) (.str t)=some (!(s==t)):=congrArg (Option.map (!·)) (bK hs ht)
theorem ok_on:PyData.strOk kOn=true:=by rw [du]; rfl
theorem ok_open:PyData.strOk aR=true:=by rw [du]; rfl
theorem ok_close:PyData.strOk aH=true:=by rw [du]; rfl
theorem tN:PyData.strOk k0=true:=by rw [du]; rfl
theorem jZ (h:low c=true):c < 0x110000:=by
 have:∀ x∈abc.cps.toList,x < 0x110000:=by decide
 exact this c (List.elem_iff.mp h)
theorem dO {l:List Nat} (h:∀ c∈l,low c=true):PyData.strOk ⟨l.toArray⟩=true:=by
 rw [du]
 exact List.all_eq_true.mpr fun c m=>decide_eq_true (jZ (h c m))
theorem AO (h:(!b)=true):b=false:=by cases b with | false=>rfl | true=>(injection h; done)
theorem hJ (h:(!b)=false):b=true:=by cases b with | true=>rfl | false=>(injection h; done)
noncomputable def dG (a b c:List Nat) (x:Nat):Str:=if a.elem x=true then aR else if b.elem x=true then aH else if c.elem x=true then kOn else k0
section
variable {a b c:List Nat} {x:Nat} (ok:SgOk a b c)
include ok
theorem wY (h:x∈a):dG a b c x=aR:=if_pos (List.elem_iff.mpr h)
theorem w4 (h:x∈b):dG a b c x=aH:=(if_neg fun q=>ok.inB h (List.elem_iff.mp q)).trans (if_pos (List.elem_iff.mpr h))
theorem wZ (h:x∈c):dG a b c x=kOn:=(if_neg fun q=>(ok.inC h).1 (List.elem_iff.mp q)).trans ((if_neg fun q=>(ok.inC h).2 (List.elem_iff.mp q)).trans (if_pos (List.elem_iff.mpr h)))
end
theorem vN:aT .In (text [c]) (text l)=some (l.elem c):=rfl
theorem aY (h:Val cf G e (.str s)) (hs:PyData.strOk s=true) (ht:PyData.strOk t=true) (hu:(s==t)=u):Val cf G (eqE e (ss t)) (.bool u):=ae h ix ((bK hs ht).trans (congrArg some hu))
def S3 (cf:aj):Prop:=∀ a b c x K,K (.str (dG a b c x))→cf 3 [sg a b c,text [x]] K
theorem vV (h1:l.elem x=true→∀ G,K (some (.str k)) G) (h2:l.elem x=false→∀ s t,jb (aW [2,3]) (exs sup cf xi) xs [.v v,.v (text [x]),s,t] K):jb (aW [2,3]) (exs sup cf xi) (.tuple [text l,.str k] :: xs) [.v v,.v (text [x]),s,t] K:=by
 refine (?_:exs sup cf xi [.v v,.v (text [x]),.v (text l),.v (.str k)] fun fl G=>match fl with | none=>jb (aW [2,3]) (exs sup cf xi) xs G K | some y=>noX y=true∧K (some y) G)
 exact bQ (ae (x:=text [x]) ix ix vN) (fun q=>az (v:=.str k) ix ⟨rfl,h1 q _⟩) fun q=>aD (h2 q _ _)
theorem yL (hs:Val cf G s v) (hq:bM v=some xs) (h:jb (aW ks) (exs sup cf body) xs G fun fl G'=>match fl with | none=>exs sup cf r G' K | some x=>K (some x) G'):exs sup cf (.mk (.forM ks) [s] body [] :: r) G K:=by
 rw [← exi_eq] at h
 exact hs _ (al hq h)
theorem p3 (cf:aj):S3 (step cf):=fun a b c x K h=>by
 refine run (fn:=f3) rfl rfl rfl (aG (bw (.go (b:=false) (ay (t:=true) ix) (.one' (ae (x:=.int 1) ix ix rfl)))) (yL (v:=.list [.tuple [text a,.str aR],.tuple [text b,.str aH],.tuple [text c,.str kOn]]) ix rfl ?_))
 unfold dG at h
 refine vV (fun q _=>?_) fun q _ _=>vV (fun q' _=>?_) fun q' _ _=>vV (fun q'' _=>?_) fun q'' s t=>(?_:exs sup cf [.mk .ret [ss k0] [] []] [.v (sg a b c),.v (text [x]),s,t] fun fl _=>K (fl.getD .none))
 ·rw [if_pos q] at h; exact h
 ·rw [q,if_neg Bool.false_ne_true,if_pos q'] at h; exact h
 ·replace h:=(if_pos q'')▸(if_neg Bool.false_ne_true)▸q'▸(if_neg Bool.false_ne_true)▸q▸h; exact h
 ·rw [q,if_neg Bool.false_ne_true,q',if_neg Bool.false_ne_true,q'',if_neg Bool.false_ne_true] at h
  exact az (v:=.str k0) ix h
def In (R i:Int):Prop:=0≤i∧i < R
def S10 (cf:aj):Prop:=∀ i R K,In R i→K (.bool true)→cf 10 [.int i,.int R] K
theorem p10 (cf:aj):S10 (step cf):=fun i R K hi h=>run (fn:=f10) rfl rfl rfl (az (v:=.bool true) (av (.go (b:=true) ix (.go (b:=true) (ay (t:=false) ix) (.one fun K h=>by
 refine (?_:if decide (0≤i)=true then K (.bool (decide (i < R))) else K (.bool false))
 exact (decide_eq_true hi.1).symm▸(decide_eq_true hi.2).symm▸h)))) h)
theorem gb (h10:S10 cf) (ha:Val cf G a (.int i)) (hb:Val cf G b (.int R)) (hi:In R i):Val cf G (.nd (.call 10) [a,b]) (.bool true):=ar (.two ha hb) fun K h=>h10 i R K hi h
noncomputable def aB (is:List Int):V:=.list (is.map .int)
structure RoomsOk (R:Int) (is:List Int):Prop where
 len:is.length≤40
 nodup:is.Nodup
 rooms:∀ i∈is,In R i
theorem ints_of:∀ is:List Int,gc (is.map .int)=some is
 | []=>rfl
 | i :: r=>by unfold gc; rw [List.map_cons,List.mapM_cons]; refine (?_:(gc (r.map .int)).bind _=_); rw [ints_of r]; rfl
def S11 (cf:aj):Prop:=∀ is R K,RoomsOk R is→K (.bool true)→cf 11 [aB is,.int R] K
theorem p11 (cf:aj) (h10:S10 cf):S11 (step cf):=fun is R K ok h=>by
 have hl:(is.map PyData.int).length≤5000:=by rw [zA4]; exact zB1 ok.len (by decide)
 refine run (fn:=f11) rfl rfl rfl (aG (ay (t:=true) ix) (mm (xs:=is.map .int) (v:=aB is) (I:=fun G=>∃ t,G=[.v (aB is),.v (.int R),t]) ix (bn hl) ⟨_,rfl⟩ (fun G x h=>h.elim fun _ e=>⟨.v x,e▸rfl⟩) (fun x m G h=>?_) fun G h'=>?_))
 ·obtain ⟨t,rfl⟩:=h
  obtain ⟨i,mi,rfl⟩:=zA7 m
  exact ay (t:=true) (gb h10 ix ix (ok.rooms i mi))
 ·obtain ⟨t,rfl⟩:=h'
  have e:opN .lenSet [aB is]=some (.int is.length):=by
   refine (?_:(((gc (is.map .int)).bind fun is=>if is.Nodup∧is.length < 4000 then some is.length else none).map fun (n:Nat)=>PyData.int n)=_)
   rw [ints_of,Option.bind_some,if_pos ⟨ok.nodup,Nat.lt_of_le_of_lt ok.len (by decide)⟩]; rfl
  exact az (ae (aa (.one ix) e) (aa (.one ix) (pn hl)) (yB (by rw [zA4]))) h
inductive W where
 | on (a:Int) (c:Nat) (b:Int)
 | op (a:Int) (c:Nat) (b t:Int)
 | cl (a b:Int) (c:Nat) (t:Int)
noncomputable def W.l:W→List V
 | .on a c b=>[.str kOn,.int a,text [c],.int b]
 | .op a c b t=>[.str aR,.int a,text [c],.int b,.int t]
 | .cl a b c t=>[.str aH,.int a,.int b,text [c],.int t]
noncomputable def W.v (w:W):V:=.tuple w.l
noncomputable def W.ok (s0 s1 s2:List Nat) (R:Int):W→Prop
 | .on a c b=>In R a∧c∈s2∧In R b
 | .op a c b t=>In R a∧c∈s0∧In R b∧In R t
 | .cl a b c t=>In R a∧In R b∧c∈s1∧In R t
def S12 (cf:aj):Prop:=∀ s0 s1 s2 R w K,SgOk s0 s1 s2→W.ok s0 s1 s2 R w→K (.bool true)→cf 12 [w.v,sg s0 s1 s2,.int R] K
theorem v3 (h3:S3 cf) (ha:Val cf G a (sg s0 s1 s2)) (hb:Val cf G b (text [x])) (e:dG s0 s1 s2 x=k) (hk:PyData.strOk k=true):Val cf G (eqE (.nd (.call 3) [a,b]) (ss k)) (.bool true):=aY (s:=k) (ar (.two ha hb) fun K h=>h3 s0 s1 s2 x K (e▸h)) hk hk (beq_self_eq_true k)
theorem p12 (cf:aj) (h3:S3 cf) (h10:S10 cf):S12 (step cf):=fun s0 s1 s2 R w K sk ok h=>by
 refine run (fn:=f12) rfl rfl rfl ?_
 cases w with
 | on a c b=>exact aG (bw (.go (b:=false) (ay (t:=true) ix) (.go (b:=false) (ae (x:=.int 4) ix ix rfl) (.one' (ay (t:=true) (gb h10 ix ix ok.1)))))) (aG (ay (t:=true) ix) (bq (aY (s:=kOn) ix ok_on ok_on rfl) (az (v:=.bool true) (av (.go (b:=true) (ae (x:=.int 4) ix ix rfl) (.go (b:=true) (v3 h3 ix ix (wZ sk ok.2.1) ok_on) (.one (gb h10 ix ix ok.2.2))))) h)))
 | op a c b t=>exact aG (bw (.go (b:=false) (ay (t:=true) ix) (.go (b:=false) (ae (x:=.int 5) ix ix rfl) (.one' (ay (t:=true) (gb h10 ix ix ok.1)))))) (aG (ay (t:=true) ix) (aG (aY (s:=aR) ix ok_open ok_on rfl) (aG (bw (.go (b:=false) (ae (x:=.int 5) ix ix rfl) (.one' (ay (t:=true) (gb h10 ix ix ok.2.2.2))))) (bq (aY (s:=aR) ix ok_open ok_open rfl) (az (v:=.bool true) (av (.go (b:=true) (v3 h3 ix ix (wY sk ok.2.1) ok_open) (.one (gb h10 ix ix ok.2.2.1)))) h)))))
 | cl a b c t=>exact aG (bw (.go (b:=false) (ay (t:=true) ix) (.go (b:=false) (ae (x:=.int 5) ix ix rfl) (.one' (ay (t:=true) (gb h10 ix ix ok.1)))))) (aG (ay (t:=true) ix) (aG (aY (s:=aH) ix ok_close ok_on rfl) (aG (bw (.go (b:=false) (ae (x:=.int 5) ix ix rfl) (.one' (ay (t:=true) (gb h10 ix ix ok.2.2.2))))) (aG (aY (s:=aH) ix ok_close ok_open rfl) (az (v:=.bool true) (av (.go (b:=true) (aY (s:=aH) ix ok_close ok_close rfl) (.go (b:=true) (gb h10 ix ix ok.2.1) (.one (v3 h3 ix ix (w4 sk ok.2.2.1) ok_close))))) h)))))
noncomputable def bC (ws:List W):V:=.list (ws.map W.v)
def S13 (cf:aj):Prop:=∀ s0 s1 s2 R ws K,SgOk s0 s1 s2→ws.length < 128→(∀ w∈ws,W.ok s0 s1 s2 R w)→K (.bool true)→cf 13 [bC ws,sg s0 s1 s2,.int R] K
theorem p13 (cf:aj) (h12:S12 cf):S13 (step cf):=fun s0 s1 s2 R ws K sk hl ok h=>by
 have hl':(ws.map W.v).length≤4000:=by rw [zA4]; exact zB1 (Nat.le_of_lt hl) (by decide)
 refine run (fn:=f13) rfl rfl rfl (aG (bw (.go (b:=false) (ay (t:=true) ix) (.one' (ae (aa (.one ix) (pn (zB1 hl' (by decide)))) ix (wc (Int.not_lt.mpr (Int.ofNat_le.mpr hl'))))))) (mm (xs:=ws.map W.v) (v:=bC ws) (I:=fun G=>∃ t,G=[.v (bC ws),.v (sg s0 s1 s2),.v (.int R),t]) ix (bn (zB1 hl' (by decide))) ⟨_,rfl⟩ (fun G x h=>h.elim fun _ e=>⟨.v x,e▸rfl⟩) (fun x m G h=>?_) fun G _=>az (v:=.bool true) ix h))
 obtain ⟨t,rfl⟩:=h
 obtain ⟨w,mw,rfl⟩:=zA7 m
 exact ay (t:=true) (ar (.cons ix (.two ix ix)) fun K h=>h12 s0 s1 s2 R w K sk (ok w mw) h)
theorem b0 (sk:SgOk s0 s1 s2) (ok:W.ok s0 s1 s2 R w):∀ x∈w.l,aL x=true:=by
 have t:∀ {c:Nat},low c=true→aL (text [c])=true:=fun {c} h=>dO (l:=[c]) fun x m=>by obtain rfl:=zA6 m; exact h
 have i:∀ {i:Int},aL (.int i)=true:=rfl
 have n:∀ x∈([]:List V),aL x=true:=fun _ m=>nM m
 cases w with
 | on a c b=>exact zA1 ⟨ok_on,zA1 ⟨i,zA1 ⟨t (sk.lowC ok.2.1),zA1 ⟨i,n⟩⟩⟩⟩
 | op a c b t'=>exact zA1 ⟨ok_open,zA1 ⟨i,zA1 ⟨t (sk.lowA ok.2.1),zA1 ⟨i,zA1 ⟨i,n⟩⟩⟩⟩⟩
 | cl a b c t'=>exact zA1 ⟨ok_close,zA1 ⟨i,zA1 ⟨i,zA1 ⟨t (sk.lowB ok.2.2.1),zA1 ⟨i,n⟩⟩⟩⟩⟩
section
variable {cf:aj} {G:Gs} {e:E} {k j:Nat} {l:List V} {r:List S} {K:Option V→Gs→Prop}
theorem kr (hl:dU G k=some l) (h:Val cf G e v) (hv:j5 v=false) (hj:l.length=j) (n:exs sup cf r (G.set k (.ownI (l++[v]))) K):exs sup cf (.mk (.setAttr k j) [e] [] [] :: r) G K:=h _ ⟨hv,al hl ⟨hj,n⟩⟩
theorem fk (hl:dU G k=some l) (h:ev cf e G fun v=>l.length=j∧exs sup cf r (G.set k (.ownI (l++[v]))) K):exs sup cf (.mk (.setAttrN k j) [e] [] [] :: r) G K:=by
 refine (?_:ev cf e G fun x=>okK (dU G k) fun l=>l.length=j∧exs sup cf r (G.set k (.ownI (l++[x]))) K)
 exact hl.symm▸h
end
noncomputable def bg (sv:V) (R:Int) (st en:List Int) (r:List V):V:=pJ [sv,.int R,aB st,aB en,.list r]
theorem rT (h:Val cf G a (aB is)) (hz:is.length≤40) (k:∀ r:List Int,r.Perm is→r.Pairwise (·≤·)→K (aB r)):ev cf (.nd .sorted [a]) G K:=h _ (al (z:=is) (ints_of is) ⟨by exact Nat.lt_of_le_of_lt hz (by decide),k⟩)
theorem qd (h:Val cf G a (.list l)) (k:(l.all jR&&decide (l.length≤ai))=true∧(∀ x∈l,∀ y∈l,ltK (aO x) (aO y)=true)∧(∃ m:List V,m.length < 128∧∀ x∈l,x∈m)∧∀ r:List V,r.Nodup→(∀ y,y∈r ↔ y∈l)→((∃ m:List V,m.length < 64∧∀ x∈l,x∈m)→km r)→K (.list r)):ev cf (.nd .sortedSet [a]) G K:=h _ (al rfl k)
theorem yO (sk:SgOk s0 s1 s2) (ok:W.ok s0 s1 s2 R w):jR w.v=true:=by
 have h:=List.all_eq_true.mpr fun x m=>b0 sk ok x m
 cases w <;> exact h
theorem bj (h:k.isLeft=m.isLeft) (h':k=m→ltK ks ms=true):ltK (k :: ks) (m :: ms)=true:=by
 refine (?_:(if k=m then ltK ks ms else k.isLeft==m.isLeft)=true)
 by_cases e:k=m
 ·rw [if_pos e]; exact h' e
 ·rw [if_neg e,h]; exact beq_self_eq_true _
theorem yP (w u:W):ltK (aO w.v) (aO u.v)=true:=by
 have ne:∀ {s t:Str} {ks ms:List Sc},s≠t→ltK (.inr s :: ks) (.inr t :: ms)=true:=fun h=>bj rfl fun e=>absurd (Sum.inr.inj e) h
 cases w with
 | on a c b=>cases u with
  | on a' c' b'=>exact bj rfl fun _=>bj rfl fun _=>bj rfl fun _=>bj rfl fun _=>rfl
  | op a' c' b' t'=>exact ne (by decide)
  | cl a' b' c' t'=>exact ne (by decide)
 | op a c b t=>cases u with
  | on a' c' b'=>exact ne (by decide)
  | op a' c' b' t'=>exact bj rfl fun _=>bj rfl fun _=>bj rfl fun _=>bj rfl fun _=>bj rfl fun _=>rfl
  | cl a' b' c' t'=>exact ne (by decide)
 | cl a b c t=>cases u with
  | on a' c' b'=>exact ne (by decide)
  | op a' c' b' t'=>exact ne (by decide)
  | cl a' b' c' t'=>exact bj rfl fun _=>bj rfl fun _=>bj rfl fun _=>bj rfl fun _=>bj rfl fun _=>rfl
structure Held (st:List Int) (en:List Int) (ws:List V) (st' en':List Int) (r:List V):Prop where
 p1:st'.Perm st
 o1:st'.Pairwise (·≤·)
 p2:en'.Perm en
 o2:en'.Pairwise (·≤·)
 nd:r.Nodup
 mem:∀ y,y∈r ↔ y∈ws
 up:ws.length < 64→km r
structure ah (s0 s1 s2:List Nat) (R:Int) (st en:List Int) (ws:List W):Prop where
 sk:SgOk s0 s1 s2
 r1:1≤R
 r2:R≤40
 st:RoomsOk R st
 en:RoomsOk R en
 len:ws.length < 128
 ok:∀ w∈ws,W.ok s0 s1 s2 R w
def S14 (cf:aj):Prop:=∀ s0 s1 s2 R st en ws K,ah s0 s1 s2 R st en ws→(∀ st' en' r,Held st en (ws.map W.v) st' en' r→K (bg (sg s0 s1 s2) R st' en' r))→cf 14 [sg s0 s1 s2,.int R,aB st,aB en,bC ws] K
theorem p14 (cf:aj) (h2:S2 cf) (h10:S10 cf) (h11:S11 cf) (h13:S13 cf):S14 (step cf):=fun s0 s1 s2 R st en ws K g h=>by
 refine (?_:_∧exs sup cf f14.body [.ownI [],.v (sg s0 s1 s2),.v (.int R),.v (aB st),.v (aB en),.v (bC ws)] fun fl G=>(match fl with | none=>okK (dU G 0) fun l=>l.length=5∧K (pJ l) | some y=>noX y=false∧K y))
 refine ⟨rfl,qJ (.one ix) (h2 _ _ _ _ g.sk ⟨rfl,?_⟩)⟩
 refine aG (bw (.go (b:=false) (ay (t:=true) (gb h10 ix (aa (.two ix ix) rfl) ⟨Int.le_trans (by decide) g.r1,Int.lt_of_le_of_lt g.r2 (by decide)⟩)) (.one' (ae ix ix (wb (Int.not_lt.mpr g.r1)))))) ?_
 refine aG (bw (.go (b:=false) (ay (t:=true) (ar (.two ix ix) fun K h=>h11 _ _ K g.st h)) (.go (b:=false) (ay (t:=true) (ar (.two ix ix) fun K h=>h11 _ _ K g.en h)) (.one' (ay (t:=true) (ar (.cons ix (.two ix ix)) fun K h=>h13 _ _ _ _ _ K g.sk g.len g.ok h)))))) ?_
 refine kr (l:=[]) rfl (v:=sg s0 s1 s2) ix rfl rfl (kr (l:=[_]) rfl (v:=.int R) ix rfl rfl (fk (l:=[_,_]) rfl ?_))
 refine rT (show Val cf _ (vv 3) (aB st) from ix) g.st.len fun st' p3 o3=>⟨rfl,fk (l:=[_,_,_]) rfl ?_⟩
 refine rT (show Val cf _ (vv 4) (aB en) from ix) g.en.len fun en' p10 o4=>⟨rfl,fk (l:=[_,_,_,_]) rfl ?_⟩
 refine qd (l:=ws.map W.v) ix ⟨zA3 ⟨List.all_eq_true.mpr fun x m=>?_,decide_eq_true (cw (by rw [zA4]; exact zB1 (Nat.le_of_lt g.len) (by decide)))⟩,fun x mx y my=>?_,⟨_,(by rw [zA4]; exact g.len),fun _ m=>m⟩,fun r hn hm hr=>⟨rfl,rfl,h st' en' r ⟨p3,o3,p10,o4,hn,hm,fun q=>hr ⟨_,q,fun _ m=>m⟩⟩⟩⟩
 ·obtain ⟨w,m',rfl⟩:=zA7 m
  exact yO g.sk (g.ok w m')
 ·obtain ⟨w,_,rfl⟩:=zA7 mx
  obtain ⟨u,_,rfl⟩:=zA7 my
  exact yP w u
section
variable {cf:aj} {sv:V} {R:Int} {st en:List Int} {r:List V} {K:V→Prop}
theorem fm (h:Val cf G e (.list l)) (hz:l.length≤5000):Val cf G (.nd .listOf [e]) (.list l):=aa (.one h) (show (dI l l).map _=_ by rw [show dI l l=some l from if_pos (cw hz)]; rfl)
theorem p15 (hn:noX sv=true) (h:K sv):step cf 15 [bg sv R st en r] K:=run (fn:=f15) rfl rfl rfl (az ix h hn)
theorem p16 (h:K (.int R)):step cf 16 [bg sv R st en r] K:=run (fn:=f16) rfl rfl rfl (az ix h)
theorem p17 (hz:st.length≤5000) (h:K (aB st)):step cf 17 [bg sv R st en r] K:=run (fn:=f17) rfl rfl rfl (az (v:=aB st) (fm ix (by rw [zA4]; exact hz)) h)
theorem p18 (hz:en.length≤5000) (h:K (aB en)):step cf 18 [bg sv R st en r] K:=run (fn:=f18) rfl rfl rfl (az (v:=aB en) (fm ix (by rw [zA4]; exact hz)) h)
theorem p19 (hz:r.length≤5000) (h:K (.list r)):step cf 19 [bg sv R st en r] K:=run (fn:=f19) rfl rfl rfl (az (v:=.list r) (fm ix hz) h)
end
theorem c22 (hl:∀ K:V→Prop,K (.int 1)→okK (opN .count [.list [.bool (sup c 1),.bool (sup c 2),.bool (sup c 3),.bool (sup c 4),.bool (sup c 5),.bool (sup c 6),.bool (sup c 7)],.bool true]) K)
  (h1:∀ K:V→Prop,K (.list [.bool (sup c 1),.bool (sup c 2),.bool (sup c 3),.bool (sup c 4)])→ev cf (.nd .list [xx 1 (vv 0),xx 2 (vv 0),xx 3 (vv 0),xx 4 (vv 0)]) [.v (gz c),.v (.int i),.unset] K)
  (h2:∀ K:V→Prop,K (.list [.bool (sup c 1),.bool (sup c 2),.bool (sup c 3),.bool (sup c 4),.bool (sup c 5),.bool (sup c 6),.bool (sup c 7)])→ev cf (adE (vv 2) (.nd .list [xx 5 (vv 0),xx 6 (vv 0),xx 7 (vv 0)])) [.v (gz c),.v (.int i),.v (.list [.bool (sup c 1),.bool (sup c 2),.bool (sup c 3),.bool (sup c 4)])] K)
  (h3:a8 cf true [.v (gz c),.v (.int i),.v (.list [.bool (sup c 1),.bool (sup c 2),.bool (sup c 3),.bool (sup c 4),.bool (sup c 5),.bool (sup c 6),.bool (sup c 7)])] [sbE (vv 2) (vv 1),xx 0 (vv 0),xx 8 (vv 0)] t) (h:K (.bool t)):step cf 22 [gz c,.int i] K:=
 run (fn:=f22) rfl rfl rfl (af h1 (af h2 (az (av (.go (ae (x:=.int 1) (fun K h=>⟨rfl,hl K h⟩) ix rfl) h3)) h)))
noncomputable def p5V (a b c d e:V):V:=.tuple [a,b,c,d,e]
section
variable {cf:aj} {sv a b c d:V} {K:V→Prop}
noncomputable def aQ (sv:V) (R:Int) (st en:List Int) (ws:List W):V:=p5V sv (.int R) (aB st) (aB en) (bC ws)
end
def fJ (n:Nat) (x:V):Prop:=x.canLay0=true∧x.depth≤n
theorem dR (h:fJ n x) (hn:n≤64):dD x=true:=zA3 ⟨h.1,decide_eq_true (zB1 h.2 hn)⟩
theorem mS:∀ {n:Nat} {l:List V},(∀ x∈l,fJ n x)→PyData.canLayAll0 l=true∧PyData.depthAll l≤n
 | n,[],_=>⟨rfl,Nat.zero_le _⟩
 | n,x :: l,h=>⟨zA3 ⟨(h x (.head _)).1,(mS fun y m=>h y (.tail _ m)).1⟩,Nat.max_le.mpr ⟨(h x (.head _)).2,(mS fun y m=>h y (.tail _ m)).2⟩⟩
theorem dq (h:∀ x∈l,fJ n x):fJ (n+1) (.list l):=⟨(mS h).1,Nat.succ_le_succ (mS h).2⟩
theorem fu (h:∀ x∈l,fJ n x):fJ (n+1) (.tuple l):=⟨(mS h).1,Nat.succ_le_succ (mS h).2⟩
theorem dQ (h:aL x=true):fJ 0 x:=by
 cases x with
 | int i=>exact ⟨rfl,Nat.le_refl _⟩
 | str s=>exact ⟨h,Nat.le_refl _⟩
 | _=>(injection h; done)
theorem jJ (sk:SgOk s0 s1 s2) (ok:W.ok s0 s1 s2 R w):fJ 1 w.v:=fu fun x m=>dQ (b0 sk ok x m)
theorem BG (h:dD x=true):aT .NotEq x x=some false:=by
 refine (?_:(eqO x x).map _=_)
 rw [show eqO x x=some (PyData.eqv x x) from if_pos (by rw [h]; rfl),PySem.SeqAt.eqv_refl x (zA2 h).1]; rfl
theorem wC (h:gU k m=false) (h':gU m k=false):k=m:=by
 cases k with
 | inl a=>cases m with
  | inl b=>have h:=of_decide_eq_false h; have h':=of_decide_eq_false h'; exact congrArg _ (by exact Int.le_antisymm (Int.not_lt.mp h') (Int.not_lt.mp h))
  | inr y=>(injection h; done)
 | inr x=>cases m with
  | inl b=>(injection h'; done)
  | inr y=>
   have h:=of_decide_eq_false h
   have h':=of_decide_eq_false h'
   have e:x.cps.toList=y.cps.toList:=List.le_antisymm h' h
   cases x; cases y
   exact congrArg _ (congrArg Str.mk (Array.toList_inj.mp e))
theorem nY:∀ {a b:List Sc},bJ a b=false→bJ b a=false→a=b
 | [],[],_,_=>rfl
 | [],_ :: _,h,_=>nB h.symm
 | _ :: _,[],_,h=>nB h.symm
 | k :: ks,m :: ms,h,h'=>by
  have h:(if k=m then bJ ks ms else gU k m)=false:=h
  have h':(if m=k then bJ ms ks else gU m k)=false:=h'
  by_cases e:k=m
  ·subst e
   rw [if_pos rfl] at h h'
   rw [nY h h']
  ·rw [if_neg e] at h
   rw [if_neg fun q=>e q.symm] at h'
   exact absurd (wC h h') e
theorem kOf_inj (hx:aL x=true) (hy:aL y=true) (e:kOf x=kOf y):x=y:=by
 cases x with
 | int i=>cases y with
  | int j=>rw [Sum.inl.inj e]
  | str t=>exact nomatch (show (Sum.inl i:Sc)=.inr t from e)
  | _=>(injection hy; done)
 | str s=>cases y with
  | int j=>exact nomatch (show (Sum.inr s:Sc)=.inl j from e)
  | str t=>rw [Sum.inr.inj e]
  | _=>(injection hy; done)
 | _=>(injection hx; done)
theorem keys_inj:∀ {l m:List V},(∀ x∈l,aL x=true)→(∀ x∈m,aL x=true)→l.map kOf=m.map kOf→l=m
 | [],[],_,_,_=>rfl
 | [],_ :: _,_,_,e=>nomatch e
 | _ :: _,[],_,_,e=>nomatch e
 | x :: l,y :: m,h,h',e=>by
  have e:=zA5 e
  rw [kOf_inj (h x (.head _)) (h' y (.head _)) e.1,keys_inj (fun x q=>h x (.tail _ q)) (fun x q=>h' x (.tail _ q)) e.2]
theorem je:∀ {l m:List V},(∀ x∈l,aL x=true)→(∀ x∈m,aL x=true)→PyData.eqvAll l m=true→l=m
 | [],[],_,_,_=>rfl
 | [],_ :: _,_,_,e=>nB e
 | _ :: _,[],_,_,e=>nB e
 | x :: l,y :: m,h,h',e=>by
  obtain ⟨e1,e2⟩:=zA2 e
  have e1:x=y:=by
   have hx:=h x (.head _)
   have hy:=h' y (.head _)
   cases x with
   | int i=>cases y with
    | int j=>rw [beq_iff_eq.mp (e1:(i==j)=true)]
    | str t=>exact nB e1
    | _=>(injection hy; done)
   | str s=>cases y with
    | int j=>exact nB e1
    | str t=>rw [beq_iff_eq.mp (e1:(s==t)=true)]
    | _=>(injection hy; done)
   | _=>(injection hx; done)
  rw [e1,je (fun x q=>h x (.tail _ q)) (fun x q=>h' x (.tail _ q)) e2]
section
variable {s0 s1 s2:List Nat} {R:Int} {ws:List W} (sk:SgOk s0 s1 s2) (ok:∀ w∈ws,W.ok s0 s1 s2 R w)
include sk ok
theorem tR (hx:x∈ws.map W.v) (hy:y∈ws.map W.v) (h:bJ (aO y) (aO x)=false) (h':bJ (aO x) (aO y)=false):x=y:=by
 obtain ⟨w,mw,rfl⟩:=zA7 hx
 obtain ⟨u,mu,rfl⟩:=zA7 hy
 exact congrArg PyData.tuple (keys_inj (fun x m=>b0 sk (ok w mw) x m) (fun x m=>b0 sk (ok u mu) x m) (nY h' h))
theorem sJ (hn:r.Nodup) (hm:∀ y,y∈r ↔ y∈ws.map W.v) (hr:km r) (hn':r'.Nodup) (hm':∀ y,y∈r' ↔ y∈ws.map W.v) (hr':km r'):r=r':=
 List.Perm.eq_of_pairwise (le:=fun x y=>bJ (aO y) (aO x)=false) (fun x y mx my h h'=>tR sk ok ((hm x).mp mx) ((hm' y).mp my) h h') hr hr' ((List.perm_ext_iff_of_nodup hn hn').mpr fun y=>(hm y).trans (hm' y).symm)
theorem xB (hx:x∈ws.map W.v) (hy:y∈ws.map W.v) (h:PyData.eqv x y=true):x=y:=by
 obtain ⟨w,mw,rfl⟩:=zA7 hx
 obtain ⟨u,mu,rfl⟩:=zA7 hy
 exact congrArg PyData.tuple (je (fun x m=>b0 sk (ok w mw) x m) (fun x m=>b0 sk (ok u mu) x m) h)
theorem ta {l:List V} (h:∀ x∈l,x∈ws.map W.v):∀ x∈l,fJ 1 x:=fun x m=>by
 obtain ⟨w,mw,rfl⟩:=zA7 (h x m)
 exact jJ sk (ok w mw)
end
theorem u4 (hx:dD x=true) (hl:dD (.list l)=true):aT .NotIn x (.list l)=some (!(l.any fun z=>PyData.eqv z x)):=congrArg (Option.map (!·)) (if_pos (by rw [hx,hl]; rfl))
structure MethOk (cf:aj):Prop where
 m9:∀ sv R st en r (K:V→Prop),noX sv=true→K sv→cf 15 [bg sv R st en r] K
 m10:∀ sv R st en r (K:V→Prop),K (.int R)→cf 16 [bg sv R st en r] K
 m11:∀ sv R st en r (K:V→Prop),st.length≤5000→K (aB st)→cf 17 [bg sv R st en r] K
 m12:∀ sv R st en r (K:V→Prop),en.length≤5000→K (aB en)→cf 18 [bg sv R st en r] K
 m13:∀ sv R st en (r:List V) (K:V→Prop),r.length≤5000→K (.list r)→cf 19 [bg sv R st en r] K
open Classical in
theorem jF:∀ {l m:List V},l.Nodup→(∀ x∈l,x∈m)→l.length≤m.length
 | [],_,_,_=>Nat.zero_le _
 | x :: l,m,nd,h=>by
  have nd:=List.nodup_cons.mp nd
  have mx:=h x (.head _)
  have q:=jF (m:=m.erase x) nd.2 fun y my=>(List.mem_erase_of_ne (a:=y) (b:=x) fun e=>nd.1 (by exact e▸my)).mpr (h y (.tail _ my))
  rw [List.length_erase_of_mem mx] at q
  have:=List.length_pos_of_mem mx
  exact zB1 (Nat.succ_le_succ q) (zB2 (Nat.sub_add_cancel this))
theorem yM (h:ev cf s G fun v=>exs sup cf (.mk (.forS k) [.nd (.lit v) []] body [] :: r) G K):exs sup cf (.mk (.forS k) [s] body [] :: r) G K:=h
theorem jI (g:ah s0 s1 s2 R st en ws) (hd:Held st en (ws.map W.v) st' en' r):st'.length≤40∧en'.length≤40∧r.length≤4000:=by
 refine ⟨hd.p1.length_eq▸g.st.len,hd.p2.length_eq▸g.en.len,?_⟩
 have h:=jF hd.nd fun y m=>(hd.mem y).mp m
 rw [zA4] at h
 exact zB1 h (zB1 (Nat.le_of_lt g.len) (by decide))
noncomputable def mOf (c s:Int) (i:Nat):Nat:=((c+s * (0+(i:Int))).fmod 26).toNat
noncomputable def pi (c s:Int) (n:Nat):List Nat:=(List.range n).map fun i=>97+mOf c s i
theorem vD (c s:Int) (i:Nat):mOf c s i < 26:=by
 have h1:=aJ (c+s * (0+(i:Int))) (b:=26) (by decide)
 have h2:=be (c+s * (0+(i:Int))) (b:=26) (by decide)
 unfold mOf; exact (Int.toNat_lt h1).mpr (Int.lt_of_lt_of_le h2 (by decide))
theorem vQ:∀ m,m < 26→abc.cps.toList[m]?=some (97+m)∧low (97+m)=true:=by decide
noncomputable def eO (c:Int):Int:=1+2 * ((c.fdiv 26).fmod 5)
theorem wx:∀ q,q < 5→∀ d,d < 12→d≠0→((1+2 * q) * d) % 26≠0:=by decide
theorem t8 (c:Int) (q i d:Nat):(c+(1+2 * (q:Int)) * (0+((i+d:Nat):Int))) - (c+(1+2 * (q:Int)) * (0+(i:Int)))=(((1+2 * q) * d:Nat):Int):=by
 rw [Int.zero_add,Int.zero_add,Int.natCast_add,Int.mul_add,Int.natCast_mul,Int.natCast_add,Int.natCast_mul]
 refine (?_:_=(1+2 * (q:Int)) * (d:Int))
 generalize (1+2 * (q:Int)) * (i:Int)=x
 generalize (1+2 * (q:Int)) * (d:Int)=y
 lia
theorem kH (c:Int) (hn:n≤12):(pi c (eO c) n).Nodup:=by
 refine (Int.eq_ofNat_of_zero_le (aJ (c.fdiv 26) (b:=5) (by decide))).elim fun q hq=>?_
 have h2:=be (c.fdiv 26) (b:=5) (by decide)
 skip
 refine List.pairwise_map.mpr (List.Pairwise.imp_of_mem (fun {i j} mi mj hlt e=>?_) (List.pairwise_lt_range (n:=n)))
 obtain ⟨d,rfl⟩:=Nat.exists_eq_add_of_lt hlt
 have hj:=List.mem_range.mp mj
 have e:mOf c (eO c) i=mOf c (eO c) (i+(d+1)):=Nat.add_left_cancel e
 unfold mOf eO at e
 rw [hq] at e h2
 have e:(c+(1+2 * (q:Int)) * (0+((i+(d+1):Nat):Int))).fmod 26=(c+(1+2 * (q:Int)) * (0+(i:Int))).fmod 26:=by
  rw [← Int.toNat_of_nonneg (aJ (c+(1+2 * (q:Int)) * (0+((i+(d+1):Nat):Int))) (b:=26) (by decide)),← e,Int.toNat_of_nonneg (aJ _ (by decide))]
 rw [Int.fmod_eq_emod_of_nonneg _ (by decide),Int.fmod_eq_emod_of_nonneg _ (by decide),Int.emod_eq_emod_iff_emod_sub_eq_zero,t8] at e
 exact wx q (Int.ofNat_lt.mp h2) (d+1) (Nat.lt_of_le_of_lt (Nat.le_add_left (d+1) i) (Nat.lt_of_lt_of_le hj hn)) (Nat.succ_ne_zero d) (by exact_mod_cast e)
theorem qX (c s:Int) (n:Nat):∀ x∈pi c s n,low x=true:=fun x m=>by
 obtain ⟨i,_,rfl⟩:=zA7 m
 exact (vQ _ (vD c s i)).2
theorem yW {l:List Nat} {i j k:Nat} (hn:l.Nodup) (hl:∀ x∈l,low x=true) (h1:i≤4) (h2:i≤j) (h3:j≤k) (h4:j - i≤4) (h5:k - j≤4):SgOk (l.take i) ((l.drop i).take (j - i)) ((l.drop j).take (k - j)):=by
 have e:l.take i++(l.drop i).take (j - i)++(l.drop j).take (k - j)=l.take k:=by
  rw [← List.take_add,show i+(j - i)=j by exact Nat.add_sub_cancel' h2,← List.take_add,show j+(k - j)=k by exact Nat.add_sub_cancel' h3]
 refine ⟨zB1 (List.length_take_le _ _) h1,zB1 (List.length_take_le _ _) h4,zB1 (List.length_take_le _ _) h5,?_,?_⟩
 ·exact e.symm▸fun x m=>hl x (List.mem_of_mem_take m)
 ·rw [e]; exact hn.sublist (List.take_sublist _ _)
theorem qT:∀ l:List Nat,fU (l.map fun c=>text [c])=some (l.map fun c=>[c])
 | []=>rfl
 | c :: r=>by unfold fU; rw [List.map_cons,List.mapM_cons]; refine (?_:(fU (r.map fun c=>text [c])).bind _=_); rw [qT r]; rfl
theorem kT:∀ l:List Nat,hO [] (l.map fun c=>[c])=l
 | []=>rfl
 | [c]=>rfl
 | c :: d :: r=>congrArg (c :: ·) (kT (d :: r))
theorem nE:∀ l:List Nat,((l.map fun c=>[c]).map List.length).sum=l.length
 | []=>rfl
 | c :: r=>by rw [List.map_cons,List.map_cons,List.sum_cons,nE r,zB4]; exact Nat.add_comm _ _
theorem tV (ha:Val cf G a (.list (l.map fun c=>text [c]))) (hz:l.length≤5000):Val cf G (.nd .join [ss k0,a]) (text l):=fun K h=>by
 refine ⟨rfl,ha _ (al (z:=text l) ?_ h)⟩
 refine (?_:(fU (l.map fun c=>text [c])).bind _=_)
 rw [qT]
 show (if _ then some (text (hO [] (l.map fun c=>[c]))) else none)=_
 rw [kT]
 exact if_pos (by rw [nE]; exact cw (by refine (?_:l.length+_ * 0≤5000); rw [Nat.mul_zero]; exact hz))
theorem qA (h0:0≤i) (h1:i.toNat≤n):oI d n (some (.int i))=some i.toNat:=by
 refine (?_:some (if 0≤i then min i.toNat n else _)=_)
 rw [if_pos h0,Nat.min_eq_left h1]
theorem qB (hz:l.length≤5000) (h1:oI 0 l.length lo=some i) (h2:oI l.length l.length hi=some j) (h:i≤j):lZ f l lo hi=some (f ((l.drop i).take (j - i))):=by
 unfold lZ
 rw [if_pos (cw hz),h1,h2]
 exact if_pos h
theorem vz {l:List Nat} {i j:Nat} (hz:l.length≤5000) (h:i≤j) (h1:j≤l.length):opN (.slice true true) [text l,.int i,.int j]=some (text ((l.drop i).take (j - i))):=qB (l:=l) (f:=text) hz (qA (i:=i) (Int.natCast_nonneg i) (zB1 h h1)) (qA (i:=j) (Int.natCast_nonneg j) h1) h
theorem wQ {l:List Nat} {j:Nat} (hz:l.length≤5000) (h1:j≤l.length):opN (.slice false true) [text l,.int j]=some (text (l.take j)):=qB (l:=l) (f:=text) (lo:=none) hz rfl (qA (i:=j) (Int.natCast_nonneg j) h1) (Nat.zero_le _)
theorem B3 {l:List Nat} {i j k:Int} (hl:l.length≤12) (hn:l.Nodup) (lo:∀ x∈l,low x=true) (h0:0≤i) (h1:i≤4) (h2:0≤j) (h3:j≤4) (h4:0≤k) (h5:k≤4) (h6:i+j+k≤l.length):∃ a b c,SgOk a b c∧opN (.slice false true) [text l,.int i]=some (text a)∧opN (.slice true true) [text l,.int i,.int (i+j)]=some (text b)∧opN (.slice true true) [text l,.int (i+j),.int (i+j+k)]=some (text c):=by
 refine (Int.eq_ofNat_of_zero_le h0).elim fun i Zq4=>?_
 subst Zq4
 obtain ⟨j,rfl⟩:=Int.eq_ofNat_of_zero_le h2
 obtain ⟨k,rfl⟩:=Int.eq_ofNat_of_zero_le h4
 have h6:i+j+k≤l.length:=Int.ofNat_le.mp h6
 have hz:l.length≤5000:=zB1 hl (by decide)
 have hj:i+j≤l.length:=zB1 (Nat.le_add_right _ _) h6
 refine ⟨_,_,_,yW (i:=i) (j:=i+j) (k:=i+j+k) hn lo (Int.ofNat_le.mp h1) (Nat.le_add_right _ _) (Nat.le_add_right _ _) (by rw [Nat.add_sub_cancel_left]; exact Int.ofNat_le.mp h3) (by rw [Nat.add_sub_cancel_left]; exact Int.ofNat_le.mp h5),wQ hz (zB1 (Nat.le_add_right _ _) hj),?_,?_⟩
 ·exact vz (i:=i) (j:=i+j) hz (Nat.le_add_right _ _) hj
 ·exact vz (i:=i+j) (j:=i+j+k) hz (Nat.le_add_right _ _) h6
theorem qM {c s:Int} {n:Nat} (hn:n≤12) (hr:bM (.list (aU 0 n))=some ((List.range n).map fun i:Nat=>.int (0+(i:Int)))) (h0:∀ i:Nat,Val cf (G.set 6 (.v (.int (0+(i:Int))))) (vv 0) (.int c)) (h1:∀ i:Nat,Val cf (G.set 6 (.v (.int (0+(i:Int))))) (vv 1) (.str abc)) (h2:∀ i:Nat,Val cf (G.set 6 (.v (.int (0+(i:Int))))) (vv 2) (.int s)) (h6:∀ i:Nat,Val cf (G.set 6 (.v (.int (0+(i:Int))))) (vv 6) (.int (0+(i:Int))))
  (hs:s.natAbs≤1000000) (hsrc:Val cf G e (.list (aU 0 n))):Val cf G (.nd .join [ss k0,.nd (.comp 6) [e,v7]]) (text (pi c s n)):=by
 refine tV ?_ (by unfold pi; rw [zA4,List.length_range]; exact Nat.le_add_left_of_le hn)
 have q:=dg (k:=6) (f:=fun i:Nat=>text [97+mOf c s i]) hsrc hr (e:=v7) fun i m=>aa (.two (h1 i) (aa (.two (aa (.two (h0 i) (aa (.two (h2 i) (h6 i)) (eR (.inr hs)))) rfl) ix) (bO (by decide)))) (lR (f:=fun c=>text [c]) (by decide) (aJ _ (by decide)) (vQ _ (vD c s i)).1)
 unfold pi
 rw [List.map_map]
 exact q
def SgS (n:Nat) (cf:aj):Prop:=∀ c:Int,∃ s0 s1 s2,SgOk s0 s1 s2∧∀ K,K (sg s0 s1 s2)→cf n [.int c] K
theorem iS {l:List Int} {i:Int} (h0:0≤i) (h1:i < l.length):(l.map PyData.int)[i.toNat]?=some (.int (l.getD i.toNat 0)):=by
 have:i.toNat < l.length:=by exact (Int.toNat_lt ‹_›).mpr h1
 rw [List.getElem?_map,List.getD_eq_getElem?_getD,List.getElem?_eq_getElem this]; rfl
theorem q7:(∀ i,i < 4→([1,1,2,0]:List Int).getD i 0≤2∧0≤([1,1,2,0]:List Int).getD i 0)∧∀ i,i < 5→([1,2,1,1,0]:List Int).getD i 0≤2∧0≤([1,2,1,1,0]:List Int).getD i 0:=by decide
theorem qW (c:Int):(eO c).natAbs≤1000000:=by
 have h1:=aJ (c.fdiv 26) (b:=5) (by decide)
 have h2:=be (c.fdiv 26) (b:=5) (by decide)
 unfold eO
 refine Int.ofNat_le.mp ?_
 rw [Int.natAbs_of_nonneg (Int.add_nonneg (by decide) (Int.mul_nonneg (by decide) h1))]
 exact Int.le_trans (Int.add_le_add_left (Int.mul_le_mul_of_nonneg_left (Int.le_of_lt h2) (by decide)) 1) (by decide)
theorem iN (c s:Int) (n:Nat):(pi c s n).length=n:=by unfold pi; rw [zA4,List.length_range]
theorem p23 (cf:aj):SgS 23 (step cf):=fun c=>by
 have a1:=aJ (c.fdiv 130) (b:=4) (by decide)
 have a2:=be (c.fdiv 130) (b:=4) (by decide)
 have b1:=aJ (c.fdiv 520) (b:=5) (by decide)
 have b2:=be (c.fdiv 520) (b:=5) (by decide)
 have o1:=q7.1 _ ((Int.toNat_lt a1).mpr a2)
 have o2:=q7.2 _ ((Int.toNat_lt b1).mpr b2)
 have e1:=dX (l:=[.int 1,.int 1,.int 2,.int 0]) (by decide) a1 (iS (l:=[1,1,2,0]) a1 a2)
 have e2:=dX (l:=[.int 1,.int 2,.int 1,.int 1,.int 0]) (by decide) b1 (iS (l:=[1,2,1,1,0]) b1 b2)
 clear a1 a2 b1 b2
 generalize ([1,1,2,0]:List Int).getD ((c.fdiv 130).fmod 4).toNat 0=one at o1 e1
 generalize ([1,2,1,1,0]:List Int).getD ((c.fdiv 520).fmod 5).toNat 0=two at o2 e2
 have c2:=Int.le_of_lt_add_one (be (c.fdiv 2600) (b:=2+1) (by decide))
 obtain ⟨x,y,z,ok,q1,q2,q3⟩:=B3 (l:=pi c (eO c) 6) (i:=one) (j:=two) (k:=(c.fdiv 2600).fmod 3) (by rw [iN]; decide) (kH c (by decide)) (qX c _ 6) o1.2 (Int.le_trans o1.1 (by decide)) o2.2 (Int.le_trans o2.1 (by decide)) (aJ _ (by decide)) (Int.le_trans c2 (by decide)) (by rw [iN]; exact Int.add_le_add (Int.add_le_add o1.1 o2.1) c2)
 refine ⟨x,y,z,ok,fun K h=>run (fn:=f23) rfl rfl rfl ?_⟩
 refine af (v:=.str abc) ix (af (v:=.int (eO c)) (aa (.two ix (aa (.two ix ix) (eR (.inr (by decide))))) rfl) ?_)
 refine af (qM (c:=c) (s:=eO c) (n:=6) (by decide) rfl (fun i=>ix) (fun i=>ix) (fun i=>ix) (fun i=>ix) (qW c) ix) ?_
 refine af (v:=.int one) (aa (.two ix ix) e1) (af (v:=.int (one+two)) (aa (.two ix (aa (.two ix ix) e2)) rfl) ?_)
 exact az (v:=sg x y z) (aa (.cons (aa (.two ix ix) q1) (.two (aa (.cons ix (.two ix ix)) q2) (aa (.cons ix (.two ix (aa (.two ix ix) rfl))) q3))) rfl) h
theorem mH (c:Int):0≤1+c.fmod 4∧1+c.fmod 4≤4:=by
 have a1:=aJ c (b:=4) (by decide)
 have a2:=be c (b:=3+1) (by decide)
 exact ⟨Int.add_nonneg (by decide) a1,Int.add_le_add_left (Int.le_of_lt_add_one a2) 1⟩
theorem p24 (cf:aj) (h20:SgS 23 cf):SgS 24 (step cf):=fun c=>by
 by_cases h3:(c.fdiv 7800).fmod 8=3
 ·have a:=mH (c.fdiv 130)
  have b:=mH (c.fdiv 520)
  have d:=mH (c.fdiv 2600)
  obtain ⟨x,y,z,ok,q1,q2,q3⟩:=B3 (l:=pi c (eO c) 12) (by rw [iN]; decide) (kH c (by decide)) (qX c _ 12) a.1 a.2 b.1 b.2 d.1 d.2 (by rw [iN]; exact Int.add_le_add (Int.add_le_add a.2 b.2) d.2)
  rw [← Int.add_assoc] at q2 q3
  rw [← Int.add_assoc] at q3
  refine ⟨x,y,z,ok,fun K h=>run (fn:=f24) rfl rfl rfl ?_⟩
  refine aG (ae (x:=.int ((c.fdiv 7800).fmod 8)) ix ix (vM.trans (by rw [h3]; rfl))) ?_
  refine af (v:=.str abc) ix (af (v:=.int (eO c)) (aa (.two ix (aa (.two ix ix) (eR (.inr (by decide))))) rfl) ?_)
  refine af (qM (c:=c) (s:=eO c) (n:=12) (by decide) rfl (fun i=>ix) (fun i=>ix) (fun i=>ix) (fun i=>ix) (qW c) ix) ?_
  refine af (v:=.int (1+(c.fdiv 130).fmod 4)) ix (af (v:=.int (1+(c.fdiv 130).fmod 4+1+(c.fdiv 520).fmod 4)) ix ?_)
  exact az (v:=sg x y z) (aa (.cons (aa (.two ix ix) q1) (.two (aa (.cons ix (.two ix ix)) q2) (aa (.cons ix (.two ix ix)) q3))) rfl) h
 ·refine (h20 c).elim fun s0 Zq7=>Zq7.elim fun s1 Zq8=>Zq8.elim fun s2 Zq9=>Zq9.elim fun ok h=>?_
  refine ⟨s0,s1,s2,ok,fun K hk=>run (fn:=f24) rfl rfl rfl (bq (ae (x:=.int ((c.fdiv 7800).fmod 8)) ix ix (vM.trans (congrArg some ?_))) (az (ar (.one ix) h) hk))⟩
  rw [beq_eq_false_iff_ne.mpr h3]; rfl
theorem yC {l:List V} (hl:dD (.list l)=true):aT .Eq (.list l) (.list [])=some l.isEmpty:=(if_pos (by rw [hl]; rfl)).trans (congrArg some (by cases l <;> rfl))
noncomputable def eP (cell:Int) (s:List Nat):Nat:=s.getD ((cell.fdiv 256).fmod s.length).toNat 0
theorem iR {cell:Int} {n:Nat} (h:0 < n):(cell.fmod n).toNat < n:=by
 have h1:=aJ cell (b:=n) (Int.ofNat_lt.mpr h)
 have h2:=be cell (b:=n) (Int.ofNat_lt.mpr h)
 exact (Int.toNat_lt ‹_›).mpr h2
theorem nR {cell:Int} {s:List Nat} (h:s≠[]):s[((cell.fdiv 256).fmod s.length).toNat]?=some (eP cell s):=by
 have:=iR (cell:=cell.fdiv 256) (List.length_pos_iff.mpr h)
 unfold eP
 rw [List.getD_eq_getElem?_getD,List.getElem?_eq_getElem this]; rfl
theorem cr {cell:Int} {s:List Nat} (h:s≠[]):eP cell s∈s:=List.mem_of_getElem? (nR h)
theorem jx {cf:aj} {G:Gs} {e:E} {cell:Int} {s:List Nat} (he:Val cf G e (text s)) (h0:Val cf G (vv 0) (.int cell)) (hs:s≠[]) (hl:s.length≤4):Val cf G (sbE e (mdE (fdE (vv 0) (ii 256)) (lnE e))) (text [eP cell s]):=
 have hp:=List.length_pos_iff.mpr hs
 have hz:s.length≤5000:=zB1 hl (by decide)
 aa (.two he (aa (.two (aa (.two h0 ix) (dY (by decide) (by decide))) (aa (.one he) (il hz))) (bO (Int.ofNat_lt.mpr hp)))) (qr hz (aJ _ (Int.ofNat_lt.mpr hp)) (nR hs))
theorem iJ {l:List Nat} (h:PyData.strOk ⟨l.toArray⟩=true):aT .NotEq (text l) (.str k0)=some (!l.isEmpty):=(yy h tN).trans (congrArg (fun b=>some (!b)) (by
 cases l with
 | nil=>rfl
 | cons c r=>exact beq_eq_false_iff_ne.mpr fun e=>nomatch congrArg (fun s:Str=>s.cps.toList) e))
theorem rH {l:List V} (h:∀ x∈l,fJ 1 x):aT .NotEq (.list l) (.list [])=some (!l.isEmpty):=congrArg (Option.map (!·)) (yC (dR (n:=2) (dq h) (by decide)):eqO (.list l) (.list [])=some l.isEmpty)
def Ak (s0 s1 s2:List Nat) (R:Int) (v:V):Prop:=v=.none∨∃ w,W.ok s0 s1 s2 R w∧v=w.v
noncomputable def Av:W→Prop
 | .op _ _ _ _=>True
 | _=>False
def S25 (cf:aj):Prop:=∀ cell s0 s1 s2 R (os:List W) (most:Int),SgOk s0 s1 s2→1≤R→os.length≤100→(∀ w∈os,Av w∧W.ok s0 s1 s2 R w)→∃ v,Ak s0 s1 s2 R v∧∀ K,K v→cf 25 [.int cell,sg s0 s1 s2,.int R,bC os,.int most] K
section
variable {cf:aj} {cell R most:Int} {s0 s1 s2:List Nat} {os:List W}
noncomputable def g25 (cell:Int) (s0 s1 s2:List Nat) (R:Int) (os:List W) (most a b t:Int):Gs:=[.v (.int cell),.v (sg s0 s1 s2),.v (.int R),.v (bC os),.v (.int most),.v (.int a),.v (.int b),.v (.int t)]
theorem dP {K:Option V→Gs→Prop} (a b t:Int) (fl:∀ x∈os.map W.v,fJ 1 x):Val cf (g25 cell s0 s1 s2 R os most a b t) (neE (vv 3) (.nd .list [])) (.bool (!(os.map W.v).isEmpty)):=ae (x:=.list (os.map W.v)) ix ix (rH fl)
theorem uq (sk:SgOk s0 s1 s2) (ok:∀ w∈os,Av w∧W.ok s0 s1 s2 R w) (hl:os.length≤100) (fl:∀ x∈os.map W.v,fJ 1 x) (h0:s0≠[]) {a b t:Int} (ha:In R a) (hb:In R b) (ht:In R t):∃ v,Ak s0 s1 s2 R v∧∀ (r:List S) (K:Option V→Gs→Prop),(∀ G,K (some v) G)→exs sup cf (yr++r) (g25 cell s0 s1 s2 R os most a b t) K:=by
 have q0:∀ {k:Int},Val cf (g25 cell s0 s1 s2 R os most a b t) (eqE (mdE (fdE (vv 0) (ii 1024)) (ii 3)) (ii k)) (.bool ((cell.fdiv 1024).fmod 3==k)):=fun K h=>h
 have last:∀ (r:List S) (K:Option V→Gs→Prop),(∀ G,K (some (W.v (.op a (eP cell s0) b t))) G)→exs sup cf (.mk .ret [.nd .tuple [ss aR,vv 5,sbE (sbE (vv 1) (ii 0)) (mdE (fdE (vv 0) (ii 256)) (lnE (sbE (vv 1) (ii 0)))),vv 6,vv 7]] [] [] :: r) (g25 cell s0 s1 s2 R os most a b t) K:=fun r K h=>
  az (aa (.cons ix (.cons ix (.cons (jx ix ix h0 sk.la) (.two ix ix)))) rfl) (h _)
 cases os with
 | nil=>
  refine ⟨_,.inr ⟨.op a (eP cell s0) b t,⟨ha,cr h0,hb,ht⟩,rfl⟩,fun r K h=>?_⟩
  exact aG (av (.stop (b:=true) (dP (K:=K) a b t fl))) (aG (av (.stop (b:=true) (dP (K:=K) a b t fl))) (last r K h))
 | cons w os=>
  obtain ⟨io,wo⟩:=ok w (.head _)
  cases w with
  | on=>cases io
  | cl=>cases io
  | op a' c' b' t'=>
   have hz:((W.op a' c' b' t' :: os).map W.v).length≤5000:=by exact zB1 (zB2 (List.length_map _)) (zB1 hl (by decide))
   have w0:Val cf (g25 cell s0 s1 s2 R (.op a' c' b' t' :: os) most a b t) (sbE (vv 3) (ii 0)) (W.v (.op a' c' b' t')):=aa (.two (x:=.list ((W.op a' c' b' t' :: os).map W.v)) ix ix) (dX hz (Int.le_refl _) rfl)
   by_cases c0:(cell.fdiv 1024).fmod 3=0
   ·refine ⟨_,.inr ⟨.op a' c' b t,⟨wo.1,wo.2.1,hb,ht⟩,rfl⟩,fun r K h=>?_⟩
    exact bq (av (.go (dP (K:=K) a b t fl) (.go (by have:=q0 (k:=0); rw [c0] at this; exact this) .nil))) (az (aa (.two (x:=.tuple [.str aR,.int a',text [c']]) (aa (.two w0 ix) rfl) ix) rfl) (h _))
   ·have n0:=q0 (k:=0)
    rw [beq_eq_false_iff_ne.mpr c0] at n0
    have s1:∀ {X:List S} {r K},exs sup cf r (g25 cell s0 s1 s2 R (.op a' c' b' t' :: os) most a b t) K→exs sup cf (.mk .ite [.nd .and [(neE (vv 3) (.nd .list [])),eqE (mdE (fdE (vv 0) (ii 1024)) (ii 3)) (ii 0)]] X [] :: r) (g25 cell s0 s1 s2 R (.op a' c' b' t' :: os) most a b t) K:=fun {X r K} h=>aG (av (.go (dP (K:=K) a b t fl) (.stop (b:=true) n0))) h
    by_cases c1:(cell.fdiv 1024).fmod 3=1
    ·refine ⟨_,.inr ⟨.op (R - 1 - a') c' b t,⟨⟨by have:=wo.1.2; lia,by have:=wo.1.1; lia⟩,wo.2.1,hb,ht⟩,rfl⟩,fun r K h=>s1 ?_⟩
     refine bq (av (.go (dP (K:=K) a b t fl) (.go (by have:=q0 (k:=1); rw [c1] at this; exact this) .nil))) (az (aa (.cons ix (.cons (aa (.two (x:=.int (R - 1)) ix (aa (.two w0 ix) rfl)) rfl) (.cons (aa (.two w0 ix) rfl) (.two ix ix)))) rfl) (h _))
    ·refine ⟨_,.inr ⟨.op a (eP cell s0) b t,⟨ha,cr h0,hb,ht⟩,rfl⟩,fun r K h=>s1 ?_⟩
     have n1:=q0 (k:=1)
     rw [beq_eq_false_iff_ne.mpr c1] at n1
     exact aG (av (.go (dP (K:=K) a b t fl) (.stop (b:=true) n1))) (last r K h)
theorem sN (sk:SgOk s0 s1 s2) (ok:∀ w∈os,Av w∧W.ok s0 s1 s2 R w) (hl:os.length≤100) (fl:∀ x∈os.map W.v,fJ 1 x) (h1:s1≠[]) {a b t:Int} (ha:In R a) (hb:In R b) (ht:In R t):∃ v,Ak s0 s1 s2 R v∧∀ (r:List S) (K:Option V→Gs→Prop),(∀ G,K (some v) G)→exs sup cf (yq++r) (g25 cell s0 s1 s2 R os most a b t) K:=by
 have last:∀ (a b:Int) (r:List S) (K:Option V→Gs→Prop),(∀ G,K (some (W.v (.cl a b (eP cell s1) t))) G)→exs sup cf (.mk .ret [.nd .tuple [ss aH,vv 5,vv 6,sbE (sbE (vv 1) (ii 1)) (mdE (fdE (vv 0) (ii 256)) (lnE (sbE (vv 1) (ii 1)))),vv 7]] [] [] :: r) (g25 cell s0 s1 s2 R os most a b t) K:=fun a b r K h=>
  az (aa (.cons ix (.cons ix (.cons ix (.two (jx ix ix h1 sk.lb) ix)))) rfl) (h _)
 have nn:=fun K=>dP (cf:=cf) (cell:=cell) (s0:=s0) (s1:=s1) (s2:=s2) (R:=R) (most:=most) (K:=K) a b t fl
 by_cases he:os=[]
 ·refine ⟨_,.inr ⟨.cl a b (eP cell s1) t,⟨ha,hb,cr h1,ht⟩,rfl⟩,fun r K h=>?_⟩
  subst he
  exact aG (av (.stop (b:=true) (nn K))) (last a b r K h)
 ·have ne:(!(os.map W.v).isEmpty)=true:=by cases os with | nil=>exact absurd rfl he | cons=>rfl
  by_cases c0:0 < (cell.fdiv 1024).fmod 4
  ·have hlt:=iR (cell:=cell.fdiv 16) (List.length_pos_iff.mpr he)
   refine (ok _ (List.getElem_mem hlt)).elim fun io wo=>?_
   have hw:(os.map W.v)[((cell.fdiv 16).fmod os.length).toNat]?=some (W.v os[((cell.fdiv 16).fmod os.length).toNat]):=by rw [List.getElem?_map,List.getElem?_eq_getElem hlt]; rfl
   generalize os[((cell.fdiv 16).fmod os.length).toNat]=w at io wo hw
   cases w with
   | on=>cases io
   | cl=>cases io
   | op a' c' b' t'=>
    refine ⟨_,.inr ⟨.cl b' t' (eP cell s1) t,⟨wo.2.2.1,wo.2.2.2,cr h1,ht⟩,rfl⟩,fun r K h=>?_⟩
    have hz:(os.map W.v).length≤5000:=by exact zB1 (zB2 (List.length_map _)) (zB1 hl (by decide))
    refine bq (av (.go (ne▸nn K) (.go (ae (x:=.int ((cell.fdiv 1024).fmod 4)) ix ix (CD c0)) .nil))) ?_
    refine ku (v:=.tuple [.int b',.int t']) (aa (.two (aa (.two (x:=.list (os.map W.v)) ix (aa (.two (x:=.int (cell.fdiv 16)) ix (aa (.one (v:=.list (os.map W.v)) ix) (pn hz))) (bO (by rw [zA4]; have:=List.length_pos_iff.mpr he; exact Int.ofNat_lt.mpr this)))) (dX hz (by rw [zA4]; exact aJ _ (by exact Int.ofNat_lt.mpr (List.length_pos_iff.mpr he))) (by rw [zA4]; exact hw))) ix) rfl) rfl (last b' t' r K h)
  ·refine ⟨_,.inr ⟨.cl a b (eP cell s1) t,⟨ha,hb,cr h1,ht⟩,rfl⟩,fun r K h=>?_⟩
   exact aG (av (.go (ne▸nn K) (.stop (b:=true) (ae (x:=.int ((cell.fdiv 1024).fmod 4)) ix ix (wc c0))))) (last a b r K h)
end
theorem p25 (cf:aj):S25 (step cf):=fun cell s0 s1 s2 R os most sk hR hl ok=>by
 have in':∀ x:Int,In R (x.fmod R):=fun x=>⟨aJ x (by exact Int.lt_of_lt_of_le (by decide) hR),be x (by exact Int.lt_of_lt_of_le (by decide) hR)⟩
 have fl:∀ x∈os.map W.v,fJ 1 x:=fun x m=>by
  obtain ⟨w,mw,rfl⟩:=zA7 m
  exact jJ sk (ok w mw).2
 have hz:(os.map W.v).length≤5000:=by exact zB1 (zB2 (List.length_map _)) (zB1 hl (by decide))
 have start:∀ (K:V→Prop),(exs sup cf (f25.body.drop 3) (g25 cell s0 s1 s2 R os most ((cell.fdiv 4).fmod R) ((cell.fdiv 16).fmod R) ((cell.fdiv 64).fmod R)) fun fl _=>K (fl.getD .none))→step cf 25 [.int cell,sg s0 s1 s2,.int R,bC os,.int most] K:=fun K h=>
  run (fn:=f25) rfl rfl rfl (af (aa (.two ix ix) (bO (by exact Int.lt_of_lt_of_le (by decide) hR))) (af (aa (.two ix ix) (bO (by exact Int.lt_of_lt_of_le (by decide) hR))) (af (aa (.two ix ix) (bO (by exact Int.lt_of_lt_of_le (by decide) hR))) h)))
 have c1:Val cf (g25 cell s0 s1 s2 R os most ((cell.fdiv 4).fmod R) ((cell.fdiv 16).fmod R) ((cell.fdiv 64).fmod R)) (.nd .and [(eqE (mdE (vv 0) (ii 4)) (ii 0)),.nd (.cmp .Lt) [(lnE (vv 3)),vv 4],neE (sbE (vv 1) (ii 0)) (ss k0)]) (.bool ((cell.fmod 4==0)&&(decide (((os.map W.v).length:Int) < most)&&(!s0.isEmpty&&true)))):=
  av (.and ix fun _=>.and (ae (aa (.one (v:=.list (os.map W.v)) ix) (pn hz)) ix rfl) fun _=>.and (ae (x:=text s0) ix ix (iJ (dO fun c m=>sk.lowA m))) fun _=>.nil)
 have c2:Val cf (g25 cell s0 s1 s2 R os most ((cell.fdiv 4).fmod R) ((cell.fdiv 16).fmod R) ((cell.fdiv 64).fmod R)) (.nd .and [.nd (.cmp .Lt) [(mdE (vv 0) (ii 4)),ii 2],neE (sbE (vv 1) (ii 1)) (ss k0)]) (.bool (decide (cell.fmod 4 < 2)&&(!s1.isEmpty&&true))):=
  av (.and ix fun _=>.and (ae (x:=text s1) ix ix (iJ (dO fun c m=>sk.lowB m))) fun _=>.nil)
 have c3:Val cf (g25 cell s0 s1 s2 R os most ((cell.fdiv 4).fmod R) ((cell.fdiv 16).fmod R) ((cell.fdiv 64).fmod R)) (neE (sbE (vv 1) (ii 2)) (ss k0)) (.bool (!s2.isEmpty)):=ae (x:=text s2) ix ix (iJ (dO fun c m=>sk.lowC m))
 have ne:∀ {s:List Nat},(!s.isEmpty)=true→s≠[]:=fun h e=>by replace h:=e▸h; (injection h; done)
 cases t1:(cell.fmod 4==0)&&(decide (((os.map W.v).length:Int) < most)&&(!s0.isEmpty&&true)) with
 | true=>
  rw [t1] at c1
  have z:=zA2 (zA2 (zA2 t1).2).2
  refine (uq (cf:=cf) (cell:=cell) (most:=most) sk ok hl fl (ne z.1) (in' (cell.fdiv 4)) (in' (cell.fdiv 16)) (in' (cell.fdiv 64))).elim fun v Zq3=>Zq3.elim fun hv h=>?_
  exact ⟨v,hv,fun K k=>start K (bq c1 (h _ _ fun _=>k))⟩
 | false=>
  rw [t1] at c1
  cases t2:decide (cell.fmod 4 < 2)&&(!s1.isEmpty&&true) with
  | true=>
   rw [t2] at c2
   have z:=zA2 (zA2 t2).2
   refine (sN (cf:=cf) (cell:=cell) (most:=most) sk ok hl fl (ne z.1) (in' (cell.fdiv 4)) (in' (cell.fdiv 16)) (in' (cell.fdiv 64))).elim fun v Zq4=>Zq4.elim fun hv h=>?_
   exact ⟨v,hv,fun K k=>start K (aG c1 (bq c2 (h _ _ fun _=>k)))⟩
  | false=>
   rw [t2] at c2
   cases t3:s2.isEmpty with
   | true=>
    replace c3:=t3▸c3
    exact ⟨.none,.inl rfl,fun K k=>start K (aG c1 (aG c2 (aG c3 (az ix k))))⟩
   | false=>
    rw [t3] at c3
    have h2:s2≠[]:=ne (by rw [t3]; rfl)
    exact ⟨_,.inr ⟨.on ((cell.fdiv 4).fmod R) (eP cell s2) ((cell.fdiv 16).fmod R),⟨in' _,cr h2,in' _⟩,rfl⟩,fun K k=>start K (aG c1 (aG c2 (bq c3 (az (aa (.cons ix (.cons ix (.two (jx ix ix h2 sk.lc) ix))) rfl) k))))⟩
theorem rOk_of (h0:0≤n) (h:n≤1000):rOk n=true:=Nat.ble_eq_true_of_le (Int.ofNat_le.mp (by rw [Int.natAbs_of_nonneg h0]; exact Int.le_trans h (by decide)))
theorem range_len:(aU 0 n).length=n.toNat:=by unfold aU; rw [zA4,List.length_range,Int.sub_zero]
theorem wP (h0:0≤n) (h:n≤1000):opN .range [.int n]=some (.list (aU 0 n)):=(if_pos ⟨rfl,rOk_of h0 h⟩).trans (if_pos (cw (by rw [range_len]; exact Int.toNat_le.mpr (Int.le_trans h (by decide)))))
theorem bk (h:n≤1000):bM (.list (aU 0 n))=some (aU 0 n):=bn (by rw [range_len]; exact Int.toNat_le.mpr (Int.le_trans h (by decide)))
theorem range_eq (n:Int):aU 0 n=(List.range n.toNat).map fun i:Nat=>.int (0+(i:Int)):=by unfold aU; rw [Int.sub_zero]
theorem br (h:Val cf G e (.int n)) (h0:0≤n) (hz:n≤1000):Val cf G (.nd .range [e]) (.list (aU 0 n)):=aa (.one h) (wP h0 hz)
noncomputable def pickR (n:Nat) (p:Nat→Bool):List Int:=((List.range n).filter p).map fun i:Nat=>0+(i:Int)
theorem jE (h:R≤4):RoomsOk R (pickR R.toNat p) where
 len:=by
  unfold pickR
  rw [zA4]
  have:=List.length_filter_le p (List.range R.toNat)
  rw [List.length_range] at this
  exact zB1 this (Int.toNat_le.mpr (Int.le_trans h (by decide)))
 nodup:=List.pairwise_map.mpr ((List.nodup_range.filter p).imp fun h e=>h (by rw [Int.zero_add,Int.zero_add] at e; exact Int.ofNat.inj e))
 rooms:=fun i m=>by
  obtain ⟨j,mj,rfl⟩:=zA7 m
  have:=List.mem_range.mp (List.mem_filter.mp mj).1
  exact ⟨Int.add_nonneg (Int.le_refl _) (Int.natCast_nonneg _),by rw [Int.zero_add]; exact Int.lt_toNat.mp this⟩
theorem gE (h:Val cf G e (.int R)) (h0:0≤R) (h1:R≤4) (ht:∀ i:Nat,(i:Int) < R→Val cf (G.set k (.v (.int (0+(i:Int))))) t (.bool (p i))) (hv:∀ i:Nat,Val cf (G.set k (.v (.int (0+(i:Int))))) (vv k) (.int (0+(i:Int)))) :
  Val cf G (.nd (.comp k) [.nd .range [e],vv k,t]) (aB (pickR R.toNat p)):=by
 have q:=jy (k:=k) (e:=vv k) (ts:=[t]) (p:=p) (f:=fun i:Nat=>.int (0+(i:Int))) (br h h0 (by exact Int.le_trans h1 (by decide))) ((bk (by exact Int.le_trans h1 (by decide))).trans (congrArg some (range_eq R))) (fun i m=>a8.one (ht i (Int.lt_toNat.mp (List.mem_range.mp m)))) fun i m _=>hv i
 unfold aB pickR
 rw [List.map_map]
 exact q
theorem B0 {i:Nat} {R:Int} (h:(i:Int) < R) (h4:R≤4):0 < 4 * (0+(i:Int))+1∧4 * (0+(i:Int))+1≤1000000:=by
 rw [Int.zero_add]
 exact ⟨Int.add_pos_of_nonneg_of_pos (Int.mul_nonneg (by decide) (Int.natCast_nonneg i)) (by decide),Int.le_trans (Int.add_le_add_right (Int.mul_le_mul_of_nonneg_left (Int.le_trans (Int.le_of_lt h) h4) (by decide)) 1) (by decide)⟩
theorem BZ {i:Nat} {R:Int} (h:(i:Int) < R) (h4:R≤4):0 < 5 * (0+(i:Int))+7∧5 * (0+(i:Int))+7≤1000000:=by
 rw [Int.zero_add]
 exact ⟨Int.add_pos_of_nonneg_of_pos (Int.mul_nonneg (by decide) (Int.natCast_nonneg i)) (by decide),Int.le_trans (Int.add_le_add_right (Int.mul_le_mul_of_nonneg_left (Int.le_trans (Int.le_of_lt h) h4) (by decide)) 7) (by decide)⟩
structure PartsOk (s0 s1 s2:List Nat) (R:Int) (st en:List Int) (ws:List W):Prop where
 r1:1≤R
 r4:R≤4
 st:RoomsOk R st
 en:RoomsOk R en
 len:ws.length≤10
 ok:∀ w∈ws,W.ok s0 s1 s2 R w
def S26 (cf:aj):Prop:=∀ scr s0 s1 s2 K,scr.length≤63→SgOk s0 s1 s2→(∀ R st en ws,PartsOk s0 s1 s2 R st en ws→K (aQ (sg s0 s1 s2) R st en ws))→cf 26 [cL scr,.int 2,sg s0 s1 s2,.int 4] K
noncomputable def opB:W→Bool
 | .op _ _ _ _=>true
 | _=>false
noncomputable def g26 (scr:List Int) (s0 s1 s2:List Nat) (R many:Int) (st en:List Int) (ws:List W) (s9 s10 s11:Slot):Gs:=[.v (cL scr),.v (.int 2),.v (sg s0 s1 s2),.v (.int 4),.v (.int R),.v (.int many),.v (aB st),.v (aB en),.ownL (ws.map W.v),s9,s10,s11,.unset,.unset]
inductive Ip26_1 (s0 s1 s2:List Nat) (R:Int) (scr:List Int) (many:Int) (st en:List Int) (xs:List V) (G:Gs):Prop
 | mk (ws:List W) (s9:Slot) (s10:Slot) (s11:Slot) (e4_:(∀ x∈xs,∃ i:Int,0≤i∧x=.int i)) (e5_:ws.length+xs.length≤10) (e6_:(∀ w∈ws,W.ok s0 s1 s2 R w)) (e7_:G=g26 scr s0 s1 s2 R many st en ws s9 s10 s11):Ip26_1 s0 s1 s2 R scr many st en xs G
theorem p26 (cf:aj) (hA:S20 cf) (hB:S21 cf) (hC:S25 cf):S26 (step cf):=fun scr s0 s1 s2 K hs sk h=>by
 have mR:=mH (a7 scr 2)
 have mR1:1≤1+(a7 scr 2).fmod 4:=Int.add_le_add_left (aJ (a7 scr 2) (b:=4) (by decide)) 1
 have n1:0≤2+((a7 scr 2).fdiv 4).fmod 9:=Int.add_le_add (show 0≤(2:Int) by decide) (aJ _ (by decide))
 have n2:2+((a7 scr 2).fdiv 4).fmod 9≤10:=Int.add_le_add_left (Int.le_of_lt_add_one (be _ (b:=8+1) (by decide))) 2
 have cA:∀ {G a b} {i:Int},Val cf G a (cL scr)→Val cf G b (.int i)→0≤i→Val cf G (.nd (.call 20) [a,b]) (.int (a7 scr i)):=fun ha hb hi=>ar (.two ha hb) fun K h=>hA scr _ K hs hi h
 have e1:=iS (l:=[4,2,1,1]) (i:=1+(a7 scr 2).fmod 4 - 1) (Int.sub_nonneg_of_le mR1) (Int.sub_lt_iff.mpr (Int.lt_add_one_of_le mR.2))
 refine run (fn:=f26) rfl rfl rfl ?_
 have mR2:=mR.2
 have mR0:=mR.1
 clear mR
 generalize hR:1+(a7 scr 2).fmod 4=R at e1 mR0 mR1 mR2
 refine af (v:=.int R) (hR▸aa (.two ix (aa (.two (cA ix ix (by decide)) ix) (bO (by decide)))) rfl) ?_
 refine af (aa (.two (x:=.list [.int 4,.int 2,.int 1,.int 1]) ix ix) (dX (by decide) (Int.sub_nonneg_of_le mR1) e1)) ?_
 generalize ([4,2,1,1]:List Int).getD (R - 1).toNat 0=many
 refine af (gE (p:=fun i=>decide (0 < ((a7 scr 3).fdiv (4 * (0+(i:Int))+1)).fmod 3)) ix mR0 mR2 (fun i hi=>ae (aa (.two (aa (.two (cA (i:=3) ix ix (by decide)) (aa (.two (aa (.two ix ix) (eR (.inr (by decide)))) ix) rfl)) (dY (B0 hi mR2).1 (B0 hi mR2).2)) ix) (bO (by decide))) ix rfl) fun i=>ix) ?_
 refine af (gE (p:=fun i=>((a7 scr 3).fdiv (5 * (0+(i:Int))+7)).fmod 2==0) ix mR0 mR2 (fun i hi=>ae (aa (.two (aa (.two (cA (i:=3) ix ix (by decide)) (aa (.two (aa (.two ix ix) (eR (.inr (by decide)))) ix) rfl)) (dY (BZ hi mR2).1 (BZ hi mR2).2)) ix) (bO (by decide))) ix rfl) fun i=>ix) (ia ?_)
 have ost:=jE (R:=R) (p:=fun i=>decide (0 < ((a7 scr 3).fdiv (4 * (0+(i:Int))+1)).fmod 3)) mR2
 have oen:=jE (R:=R) (p:=fun i=>((a7 scr 3).fdiv (5 * (0+(i:Int))+7)).fmod 2==0) mR2
 generalize pickR R.toNat (fun i=>decide (0 < ((a7 scr 3).fdiv (4 * (0+(i:Int))+1)).fmod 3))=st at ost
 generalize pickR R.toNat (fun i=>((a7 scr 3).fdiv (5 * (0+(i:Int))+7)).fmod 2==0)=en at oen
 refine cZ (xs:=aU 0 (2+((a7 scr 2).fdiv 4).fmod 9)) (P:=Ip26_1 s0 s1 s2 R scr many st en)
  (br (aa (.two ix (aa (.two (aa (.two (cA ix ix (by decide)) ix) (dY (by decide) (by decide))) ix) (bO (by decide)))) rfl) n1 (Int.le_trans n2 (by decide))) (bk (Int.le_trans n2 (by decide))) ⟨[],_,_,_,fun x m=>?_,by rw [range_len,List.length_nil,Nat.zero_add]; exact Int.toNat_le.mpr n2,fun w m=>(nM m),rfl⟩ (fun G hP=>?_) fun x xs' G Kt hP nx _=>?_
 ·rw [range_eq] at m
  obtain ⟨i,_,rfl⟩:=zA7 m
  exact ⟨_,Int.add_nonneg (by decide) (Int.natCast_nonneg i),rfl⟩
 ·obtain ⟨ws,s9,s10,s11,_,hl,hw,rfl⟩:=hP
  rw [List.length_nil] at hl
  exact eB (l:=ws.map W.v) rfl (az ix (h R st en ws ⟨mR1,mR2,ost,oen,zB1 hl (by decide),hw⟩))
 ·obtain ⟨ws,s9,s10,s11,hx,hl,hw,rfl⟩:=hP
  rw [zB4,← Nat.add_assoc] at hl
  have hl':=Nat.le_of_succ_le hl
  have hw10:ws.length≤10:=zB1 (Nat.le_add_right _ _) hl'
  obtain ⟨i,hi,rfl⟩:=hx x (.head _)
  have hz:(ws.map W.v).length≤5000:=by rw [zA4]; exact zB1 hw10 (by decide)
  refine af (v:=bC (ws.filter opB)) (jy (g:=W.v) (p:=opB) (f:=W.v) (x:=.list (ws.map W.v)) ix (bn hz) (fun w m=>a8.one ?_) fun w m _=>ix) ?_
  ·cases w with
   | on a c b=>exact ae (x:=.str kOn) ix ix ((bK ok_on ok_open).trans (congrArg some (by rfl)))
   | op a c b t=>exact ae (x:=.str aR) ix ix ((bK ok_open ok_open).trans (congrArg some (by rfl)))
   | cl a b c t=>exact ae (x:=.str aH) ix ix ((bK ok_close ok_open).trans (congrArg some (by rfl)))
  obtain ⟨v,hv,hC⟩:=hC (rj (a7 scr (2+2+i)) i) s0 s1 s2 R (ws.filter opB) many sk mR1 (zB1 (List.length_filter_le opB ws) (zB1 hw10 (by decide))) fun w m=>by
   have m:=List.mem_filter.mp m
   exact ⟨(by cases w with | op=>trivial | _=>(injection m.2; done)),hw w m.1⟩
  refine af (v:=v) (ar (vs:=[.int (rj (a7 scr (2+2+i)) i),sg s0 s1 s2,.int R,bC (ws.filter opB),.int many]) (.cons (ar (.two (cA (i:=2+2+i) ix ix (Int.add_nonneg (by decide) hi)) ix) fun K h=>hB _ _ K h) (.cons ix (.cons ix (.two ix ix)))) hC (by rcases hv with rfl | ⟨w,_,rfl⟩ <;> rfl)) ?_
  have hx':∀ x∈xs',∃ i:Int,0≤i∧x=.int i:=fun x m=>hx x (.tail _ m)
  rcases hv with rfl | ⟨w,ow,rfl⟩
  ·exact aG ix (aD (nx _ ⟨ws,_,_,_,hx',hl',hw,rfl⟩))
  ·refine bq (by cases w <;> exact ix) (cE (l:=ws.map W.v) rfl (v:=w.v) ix (Nat.lt_of_le_of_lt hz (by decide)) (aD (nx _ ⟨ws++[w],_,_,_,hx',by rw [zB5,List.length_singleton,Nat.add_right_comm]; exact hl,fun u m=>?_,by unfold g26; rw [List.map_append]; rfl⟩)))
   rcases List.mem_append.mp m with m | m
   ·exact hw u m
   ·obtain rfl:=zA6 m; exact ow
noncomputable def iw (a b c:List Nat):Int→List Nat→Bool
 | d,[]=>d==0
 | d,x :: w=>if a.elem x=true then iw a b c (d+1) w else if b.elem x=true then decide (1≤d)&&iw a b c (d - 1) w else c.elem x&&iw a b c d w
noncomputable def iwV (a b c:List Nat) (x:V):Bool:=match x with
 | .str t=>iw a b c 0 t.cps.toList
 | _=>false
theorem kind4 (a b c:List Nat) (x:Nat):(a.elem x=true∧dG a b c x=aR)∨(a.elem x=false∧b.elem x=true∧dG a b c x=aH)∨(a.elem x=false∧b.elem x=false∧c.elem x=true∧dG a b c x=kOn)∨(a.elem x=false∧b.elem x=false∧c.elem x=false∧dG a b c x=k0):=by
 unfold dG
 cases a.elem x with
 | true=>exact .inl ⟨rfl,rfl⟩
 | false=>cases b.elem x with
  | true=>exact .inr (.inl ⟨rfl,rfl,rfl⟩)
  | false=>cases c.elem x with
   | true=>exact .inr (.inr (.inl ⟨rfl,rfl,rfl,rfl⟩))
   | false=>exact .inr (.inr (.inr ⟨rfl,rfl,rfl,rfl⟩))
def S4 (cf:aj):Prop:=∀ a b c x K,vOk x=true→K (.bool (iwV a b c x))→cf 4 [sg a b c,x] K
inductive Ip4_1 (a b c:List Nat) (t:Str) (xs:List V) (G:Gs):Prop
 | mk (d:Int) (u:List Nat) (s3:Slot) (s4:Slot) (e4_:0≤d) (e5_:xs=ba u) (e7_:iw a b c d u=iw a b c 0 t.cps.toList) (e8_:G=[.v (sg a b c),.v (.str t),.v (.int d),s3,s4]):Ip4_1 a b c t xs G
theorem p4 (cf:aj) (h3:S3 cf):S4 (step cf):=fun a b c v K hv h=>by
 refine run (fn:=f4) rfl rfl rfl ?_
 cases v with
 | str t=>
  have hl:t.cps.toList.length≤5000:=zB1 (of_decide_eq_true (zA2 hv).2) (by decide)
  refine aG (ay (t:=true) ix) (af ix (cZ (xs:=ba t.cps.toList) (v:=.str t) (P:=Ip4_1 a b c t) ix (if_pos (cw hl)) ⟨0,_,_,_,Int.le_refl _,rfl,rfl,rfl⟩ (fun G hP=>?_) fun x l G Kt hP nx rt=>?_))
  ·obtain ⟨d,u,s3,s4,_,e,hi,rfl⟩:=hP
   cases u with
   | nil=>exact az (v:=.bool (d==0)) (ae ix ix oP) (by exact (show (d==0)=iw a b c 0 t.cps.toList from hi).symm▸h)
   | cons=>(injection e; done)
  ·obtain ⟨d,u,s3,s4,hd,e,hi,rfl⟩:=hP
   cases u with
   | nil=>(injection e; done)
   | cons y u=>
    obtain ⟨rfl,rfl⟩:=zA5 e
    refine af (v:=.str (dG a b c y)) (ar (.two ix ix) fun K h=>h3 a b c y K h) ?_
    have hi:(if a.elem y=true then iw a b c (d+1) u else if b.elem y=true then decide (1≤d)&&iw a b c (d - 1) u else c.elem y&&iw a b c d u)=iw a b c 0 t.cps.toList:=hi
    have fin:∀ {s:Str} {d':Int},dG a b c y=s→(s==k0)=false→PyData.strOk s=true→(0≤d'→iw a b c d' u=iw a b c 0 t.cps.toList)→(d' < 0→iw a b c 0 t.cps.toList=false)→exs sup cf [.mk .ite [.nd .or [(eqE (vv 4) (ss k0)),.nd (.cmp .Lt) [vv 2,ii 0]]] [.mk .ret [bb false] [] []] []] [.v (sg a b c),.v (.str t),.v (.int d'),.v (text [y]),.v (.str s)] Kt:=fun {s d'} _ es os g1 g2=>by
     by_cases hd':d' < 0
     ·exact bq (bw (.go (aY ix os tN es) (.one' (ae ix ix (B4 hd'))))) (az (v:=.bool false) ix (rt _ _ rfl (g2 hd'▸h)))
     ·exact aG (bw (.go (aY ix os tN es) (.one' (ae ix ix (wb hd'))))) (aD (nx _ ⟨d',u,_,_,Int.not_lt.mp hd',rfl,g1 (Int.not_lt.mp hd'),rfl⟩))
    rcases kind4 a b c y with ⟨q,e⟩ | ⟨q,q',e⟩ | ⟨q,q',q'',e⟩ | ⟨q,q',q'',e⟩ <;> refine e.symm▸?_
    ·rw [if_pos q] at hi
     exact bq (aY ix ok_open ok_open rfl) (af (v:=.int (d+1)) ix (fin e rfl ok_open (fun _=>hi) fun z=>absurd z (Int.not_lt.mpr (Int.add_nonneg hd (by decide)))))
    ·rw [if_neg (by rw [q]; exact Bool.false_ne_true),if_pos q'] at hi
     refine bQ (aY (u:=false) ix ok_close ok_open rfl) (fun z=>nB z) fun _=>bq (aY ix ok_close ok_close rfl) (af (v:=.int (d - 1)) ix (fin e rfl ok_close (fun z=>?_) fun z=>?_))
     ·rw [decide_eq_true (Int.le_of_sub_nonneg z),Bool.true_and] at hi; exact hi
     ·rw [decide_eq_false fun z'=>absurd z (Int.not_lt.mpr (Int.sub_nonneg_of_le z')),Bool.false_and] at hi; exact hi.symm
    ·rw [if_neg (by rw [q]; exact Bool.false_ne_true),if_neg (by rw [q']; exact Bool.false_ne_true),q'',Bool.true_and] at hi
     exact bQ (aY (u:=false) ix ok_on ok_open rfl) (fun z=>nB z) fun _=>aG (aY ix ok_on ok_close rfl) (fin e rfl ok_on (fun _=>hi) fun z=>absurd z (Int.not_lt.mpr hd))
    ·rw [if_neg (by rw [q]; exact Bool.false_ne_true),if_neg (by rw [q']; exact Bool.false_ne_true),q'',Bool.false_and] at hi
     exact bQ (aY (u:=false) ix tN ok_open rfl) (fun z=>nB z) fun _=>aG (aY ix tN ok_close rfl) (bq (bw (.stop (b:=false) (aY ix tN tN rfl))) (az (v:=.bool false) ix (rt _ _ rfl (hi▸h))))
 | dict kvs=>exact bq (ay (t:=false) (wm ix hv)) (az (v:=.bool false) ix h)
 | _=>exact bq (ay (t:=false) ix) (az (v:=.bool false) ix h)
def S5 (cf:aj):Prop:=∀ a b c x K,vOk x=true→(iwV a b c x=true→K .none)→(iwV a b c x=false→K (gz 2))→cf 5 [sg a b c,x] K
theorem p5 (cf:aj) (h4:S4 cf):S5 (step cf):=fun a b c x K hx ht hf=>run (fn:=f5) rfl rfl rfl (bQ (ay (ar (.two ix ix) fun K h=>h4 a b c x K hx h)) (fun q=>wj (hf (AO q))) fun q=>aD (ht (hJ q)))
structure MOk (s0 s1 s2:List Nat) (R:Int) (ws:List W):Prop where
 sk:SgOk s0 s1 s2
 r:R≤4
 len:ws.length < 128
 ok:∀ w∈ws,W.ok s0 s1 s2 R w
noncomputable def pV (k:V×Int):V:=.tuple [k.1,.int k.2]
noncomputable def dK (ks:List (V×Int)):List (V×V):=ks.map fun k=>(pV k,.bool true)
def Bg (ws:List W) (v:V):Prop:=v=.none∨v∈ws.map W.v
structure KOk (R:Int) (ws:List W) (ks:List (V×Int)):Prop where
 nd:ks.Nodup
 ok:∀ k∈ks,Bg ws k.1∧In R k.2
theorem in4 (h:R≤4) (q:In R i):i∈([0,1,2,3]:List Int):=by
 obtain ⟨n,rfl⟩:=Int.eq_ofNat_of_zero_le q.1
 exact (by decide:∀ n:Nat,n < 4→(n:Int)∈([0,1,2,3]:List Int)) n (Int.ofNat_lt.mp (Int.lt_of_lt_of_le q.2 h))
section
variable {s0 s1 s2:List Nat} {R:Int} {ws:List W} (m:MOk s0 s1 s2 R ws)
include m
theorem BK (h:Bg ws v):itV v=true:=by
 rcases h with rfl | h
 ·rfl
 ·obtain ⟨w,mw,rfl⟩:=zA7 h
  exact List.all_eq_true.mpr fun x q=>b0 m.sk (m.ok w mw) x q
theorem mT (h:Bg ws k.1):dp (pV k)=true:=zA3 ⟨BK m h,rfl⟩
theorem Ae (h:Bg ws v):v.canLay0=true:=by
 rcases h with rfl | h
 ·rfl
 ·obtain ⟨w,mw,rfl⟩:=zA7 h
  exact (jJ m.sk (m.ok w mw)).1
theorem zV (hx:Bg ws x) (hy:Bg ws y) (e:PyData.eqv x y=true):x=y:=by
 rcases hx with rfl | hx
 ·rcases hy with rfl | hy
  ·rfl
  ·obtain ⟨w,mw,rfl⟩:=zA7 hy
   exact nB e
 ·rcases hy with rfl | hy
  ·obtain ⟨w,mw,rfl⟩:=zA7 hx
   exact nB e
  ·exact xB m.sk m.ok hx hy e
theorem Bz (hk:Bg ws k.1) (hj:Bg ws j.1) (e:PyData.eqv (pV k) (pV j)=true):k=j:=by
 obtain ⟨e1,e2⟩:=zA2 (show (PyData.eqv k.1 j.1&&((k.2==j.2)&&true))=true from e)
 exact Prod.ext (zV m hk hj e1) (eq_of_beq (zA2 e2).1)
theorem mG (o:KOk R ws ks) (hb:Bg ws k.1) (hr:In R k.2):∃ ks',lM (dK ks) (pV k) (.bool true)=dK ks'∧KOk R ws ks'∧∀ j,j∈ks' ↔ j∈ks∨j=k:=by
 unfold lM
 by_cases q:k∈ks
 ·refine ⟨ks,?_,o,fun j=>⟨.inl,fun h=>h.elim id fun e=>e▸q⟩⟩
  rw [if_pos]
  ·unfold dK
   rw [List.map_map]
   refine List.map_congr_left fun j mj=>?_
   refine (?_:(if PyData.eqv (pV j) (pV k)=true then (pV j,PyData.bool true) else (pV j,PyData.bool true))=_)
   exact ite_self _
  ·refine List.any_eq_true.mpr ⟨_,List.mem_map.mpr ⟨k,q,rfl⟩,?_⟩
   exact PySem.SeqAt.eqv_refl (pV k) (zA3 ⟨Ae m hb,rfl⟩)
 ·refine ⟨ks++[k],?_,⟨?_,fun j mj=>?_⟩,fun j=>by rw [List.mem_append,List.mem_singleton]⟩
  ·rw [if_neg]
   ·unfold dK; rw [List.map_append]; rfl
   ·intro h
    obtain ⟨p,mp,hp⟩:=List.any_eq_true.mp h
    obtain ⟨j,mj,rfl⟩:=zA7 mp
    exact q (Bz m (o.ok j mj).1 hb hp▸mj)
  ·exact List.nodup_append.mpr ⟨o.nd,List.pairwise_singleton _ k,fun a ha b hb e=>q (by obtain rfl:=zA6 hb; exact e▸ha)⟩
  ·rcases List.mem_append.mp mj with mj | mj
   ·exact o.ok j mj
   ·obtain rfl:=zA6 mj; exact ⟨hb,hr⟩
open Classical in
theorem yd (o:KOk R ws ks):ks.length≤512:=by
 have h:ks.length≤((PyData.none :: ws.map W.v).flatMap fun v=>([0,1,2,3]:List Int).map fun i=>(v,i)).length:=o.nd.length_le_of_subset fun k mk=>by
  refine (o.ok k mk).elim fun h1 h2=>?_
  exact List.mem_flatMap.mpr ⟨k.1,h1.elim (fun e=>e▸.head _) fun e=>.tail _ e,List.mem_map.mpr ⟨k.2,in4 m.r h2,rfl⟩⟩
 rw [List.length_flatMap] at h
 have e:((PyData.none :: ws.map W.v).map fun v=>(([0,1,2,3]:List Int).map fun i=>(v,i)).length).sum=(ws.length+1) * 4:=by
  rw [show (fun v:V=>(([0,1,2,3]:List Int).map fun i=>(v,i)).length)=fun _=>4 from rfl,List.map_const',List.sum_replicate_nat,zB4,zA4]
 rw [e] at h
 exact zB1 h (Nat.mul_le_mul_right 4 m.len)
theorem jX (o:KOk R ws ks):bM (.dict (dK ks))=some (ks.map pV):=by
 refine (if_pos (List.all_eq_true.mpr fun p mp=>?_)).trans ((if_pos ?_).trans (congrArg some ?_))
 ·obtain ⟨j,mj,rfl⟩:=zA7 mp
  exact mT m (o.ok j mj).1
 ·refine cw ?_
  unfold dK
  rw [zA4]; exact zB1 (yd m o) (by decide)
 ·unfold dK
  rw [List.map_map]; rfl
theorem tI (o:KOk R ws ks):(dK ks).length < ai:=by
 unfold dK
 rw [zA4]; exact Nat.lt_of_le_of_lt (yd m o) (by decide)
end
theorem ex_cons (A:α→β→Prop):(∃ x,x∈y :: ys∧A x p) ↔ A y p∨∃ x,x∈ys∧A x p:=⟨fun h=>h.elim fun x q=>(List.mem_cons.mp q.1).elim (fun e=>.inl (e▸q.2)) fun m=>.inr ⟨x,m,q.2⟩,fun h=>h.elim (fun q=>⟨y,.head _,q⟩) fun h=>h.elim fun x q=>⟨x,.tail _ q.1,q.2⟩⟩
inductive AddI {α β:Type} (xs:List α) (g:α→V) (J:Gs→List β→Prop) (A:α→β→Prop) (fs:List β) (l:List V) (G:Gs):Prop
 | mk (ys:List α) (fs':List β) (e:l=ys.map g) (my:∀ y∈ys,y∈xs) (j:J G fs') (h:∀ p,(p∈fs'∨∃ x,x∈ys∧A x p) ↔ (p∈fs∨∃ x,x∈xs∧A x p)):AddI xs g J A fs l G
theorem fR {α β:Type} {K:Option V→Gs→Prop} {b:Gs→V→Option Gs} {body r:List S} {xs:List α} {g:α→V} {J:Gs→List β→Prop} {A:α→β→Prop} {fs:List β}
  (hop:∀ ds X Y G K,(gW ds G fun x=>okK (bM x) fun xs=>jb b X xs G K)→d8 sup cf op ds X Y G K) (hs:Val cf G s v) (hq:bM v=some (xs.map g)) (h0:J G fs)
  (turn:∀ x∈xs,∀ G fs Kt,J G fs→(∀ G' fs',J G' fs'→(∀ p,p∈fs' ↔ p∈fs∨A x p)→Kt none G')→okK (b G (g x)) fun G'=>exs sup cf body G' Kt)
  (n:∀ G fs',J G fs'→(∀ p,p∈fs' ↔ p∈fs∨∃ x∈xs,A x p)→exs sup cf r G K):exs sup cf (.mk op [s] body [] :: r) G K:=by
 refine qh (P:=AddI xs g J A fs) hop hs hq ⟨xs,fs,rfl,fun _ m=>m,h0,fun _=>Iff.rfl⟩ (fun G hP=>?_) fun x l G Kt hP nx rt=>?_
 ·obtain ⟨ys,fs',e,_,j,h⟩:=hP
  obtain rfl:=List.map_eq_nil_iff.mp e.symm
  exact n G fs' j fun p=>(or_iff_left fun q=>q.elim fun _ q=>List.not_mem_nil q.1).symm.trans (h p)
 ·obtain ⟨ys,fs',e,my,j,h⟩:=hP
  cases ys with
  | nil=>(injection e; done)
  | cons y ys=>
   obtain ⟨rfl,rfl⟩:=zA5 e
   exact turn y (my y (.head _)) G fs' Kt j fun G' fs'' j' h'=>nx G' ⟨ys,fs'',rfl,fun z q=>my z (.tail _ q),j',fun p=>((or_congr_left (h' p)).trans or_assoc).trans ((or_congr_right (ex_cons A).symm).trans (h p))⟩
theorem ij (h:((⟨[x].toArray⟩:Str)==⟨[y].toArray⟩)=true):x=y:=by
 have e:=congrArg (fun s:Str=>s.cps.toList) (eq_of_beq h)
 exact (zA5 e).1
theorem mA (h:low x=true):PyData.strOk ⟨[x].toArray⟩=true:=dO (l:=[x]) fun y q=>by obtain rfl:=zA6 q; exact h
theorem we (hx:low x=true) (hy:low y=true):aT .Eq (text [x]) (text [y])=some ((⟨[x].toArray⟩:Str)==⟨[y].toArray⟩):=bK (mA hx) (mA hy)
theorem ik (ks:List (V×Int)):noX (.dict (dK ks))=true:=by cases ks <;> rfl
section
variable {s0 s1 s2:List Nat} {R:Int} {ws:List W}
theorem jW (m:MOk s0 s1 s2 R ws):bM (bC ws)=some (ws.map W.v):=bn (by rw [zA4]; exact zB1 (Nat.le_of_lt m.len) (by decide))
theorem cN {β:Type} {fs:List β} {A:β→Prop} (h:∀ p,¬ A p):∀ p,p∈fs ↔ p∈fs∨A p:=fun p=>⟨.inl,fun q=>q.elim id fun q=>absurd q (h p)⟩
theorem b3 (h:(true&&(a&&b))=true):a=true∧b=true:=zA2 h
def OnK (ws:List W) (c:Nat) (ks ks':List (V×Int)):Prop:=∀ p,p∈ks' ↔ ∃ k∈ks,p.1=k.1∧W.on k.2 c p.2∈ws
def OpK (ws:List W) (c:Nat) (ks ks':List (V×Int)):Prop:=∀ p,p∈ks' ↔ ∃ k∈ks,∃ t,W.op k.2 c p.2 t∈ws∧p.1=(W.op k.2 c p.2 t).v
def S6 (cf:aj):Prop:=∀ s0 s1 s2 R ws ks c K,MOk s0 s1 s2 R ws→KOk R ws ks→low c=true→(∀ ks',KOk R ws ks'→OnK ws c ks ks'→K (.dict (dK ks')))→cf 6 [bC ws,.dict (dK ks),text [c]] K
noncomputable def tH (ws:List W) (ks:List (V×Int)) (c:Nat) (fs:List (V×Int)) (z4:Slot) (z5:Slot) (z6:Slot):Gs:=[.v (bC ws),.v (.dict (dK ks)),.v (text [c]),.ownD (dK fs),z4,z5,z6]
inductive Ip6_1 (R:Int) (ws:List W) (ks:List (V×Int)) (c:Nat) (G:Gs) (fs:List (V×Int)):Prop
 | mk (e0_:KOk R ws fs) (x:Slot) (y:Slot) (z:Slot) (e4_:G=(tH ws ks c fs x y z)):Ip6_1 R ws ks c G fs
inductive Ip6_2 (R:Int) (ws:List W) (ks:List (V×Int)) (c:Nat) (k:V×Int) (G:Gs) (fs:List (V×Int)):Prop
 | mk (e0_:KOk R ws fs) (z:Slot) (e2_:G=(tH ws ks c fs (.v k.1) (.v (.int k.2)) z)):Ip6_2 R ws ks c k G fs
theorem p6 (cf:aj):S6 (step cf):=fun s0 s1 s2 R ws ks c K m o lc h=>by
 refine run (fn:=f6) rfl rfl rfl (jO ?_)
 refine fR (op:=.forM [4,5]) (fs:=[]) (A:=fun k p=>p.1=k.1∧W.on k.2 c p.2∈ws) (J:=Ip6_1 R ws ks c) (fun _ _ _ _ _ h=>h) ix (jX m o) ⟨⟨.nil,fun _ q=>nM q⟩,_,_,_,rfl⟩ (fun k mk G fs Kt j nx=>?_) fun G fs j hf=>?_
 ·obtain ⟨jo,x,y,z,rfl⟩:=j
  have hb:=(o.ok k mk).1
  refine al (z:=(tH ws ks c fs (.v k.1) (.v (.int k.2)) z)) rfl ?_
  refine fR (op:=.forS 6) (fs:=fs) (A:=fun w p=>w=W.on k.2 c p.2∧p.1=k.1) (J:=Ip6_2 R ws ks c k) (fun _ _ _ _ _ h=>h) ix (jW m) ⟨jo,_,rfl⟩ (fun w mw G fs Kt j nx=>?_) fun G fs' j hf=>aD (nx _ fs' ?_ fun p=>?_)
  ·obtain ⟨jo,z,rfl⟩:=j
   refine al (z:=(tH ws ks c fs (.v k.1) (.v (.int k.2)) (.v w.v))) rfl ?_
   have ok:=m.ok w mw
   cases w with
   | on a d b=>
    refine bQ (av (.and (ae (x:=.str kOn) ix ix ((bK ok_on ok_on).trans (congrArg some (by rfl)))) fun _=>.and (ae (x:=.int a) ix ix oP) fun _=>.one (ae (x:=text [d]) ix ix (we (m.sk.lowC ok.2.1) lc)))) (fun q=>?_) fun q=>aD (nx _ fs ⟨jo,_,rfl⟩ (cN fun p Zq1=>Zq1.elim fun e _=>?_))
    ·obtain ⟨q1,q2⟩:=b3 q
     obtain rfl:=eq_of_beq q1
     obtain rfl:=ij q2
     refine (mG m jo (k:=(k.1,b)) hb ok.2.2).elim fun ks' Zq29=>Zq29.elim fun e Zq30=>Zq30.elim fun o' hm=>?_
     refine fK (l:=dK fs) rfl (v:=.bool true) ix (x:=pV (k.1,b)) ix (mT m (k:=(k.1,b)) hb) (tI m jo) (aD (nx _ ks' ⟨o',_,by rw [e]; rfl⟩ fun p=>?_))
     rw [hm]
     refine or_congr_right ⟨fun q=>?_,fun Zq2=>Zq2.elim fun q q'=>?_⟩
     ·subst q; exact ⟨rfl,rfl⟩
     ·injection q with _ _ q
      exact Prod.ext q' q.symm
    ·injection e with e1 e2
     subst e1 e2
     rw [beq_self_eq_true,beq_self_eq_true,beq_self_eq_true] at q
     (injection q; done)
   | op a d b t=>exact aG (av (.stop (b:=true) (ae (x:=.str aR) ix ix ((bK ok_open ok_on).trans (congrArg some (by rfl)))))) (aD (nx _ fs ⟨jo,_,rfl⟩ (cN fun p Zq3=>Zq3.elim fun e _=>nomatch e)))
   | cl a b d t=>exact aG (av (.stop (b:=true) (ae (x:=.str aH) ix ix ((bK ok_close ok_on).trans (congrArg some (by rfl)))))) (aD (nx _ fs ⟨jo,_,rfl⟩ (cN fun p Zq4=>Zq4.elim fun e _=>nomatch e)))
  ·obtain ⟨jo,z,rfl⟩:=j
   exact ⟨jo,_,_,_,rfl⟩
  ·rw [hf]
   exact or_congr_right ⟨fun ⟨w,mw,e,q⟩=>⟨q,e▸mw⟩,fun Zq8=>Zq8.elim fun q mw=>⟨_,mw,rfl,q⟩⟩
 ·obtain ⟨jo,x,y,z,rfl⟩:=j
  exact c7 (l:=dK fs) rfl (az ix (h fs jo fun p=>(hf p).trans ⟨fun q=>q.elim (fun q=>nM q) id,.inr⟩) (ik fs))
def S7 (cf:aj):Prop:=∀ s0 s1 s2 R ws ks c K,MOk s0 s1 s2 R ws→KOk R ws ks→low c=true→(∀ ks',KOk R ws ks'→OpK ws c ks ks'→K (.dict (dK ks')))→cf 7 [bC ws,.dict (dK ks),text [c]] K
noncomputable def tG (ws:List W) (ks:List (V×Int)) (c:Nat) (fs:List (V×Int)) (z4:Slot) (z5:Slot) (z6:Slot):Gs:=[.v (bC ws),.v (.dict (dK ks)),.v (text [c]),.ownD (dK fs),z4,z5,z6]
inductive Ip7_1 (R:Int) (ws:List W) (ks:List (V×Int)) (c:Nat) (G:Gs) (fs:List (V×Int)):Prop
 | mk (e0_:KOk R ws fs) (x:Slot) (y:Slot) (z:Slot) (e4_:G=(tG ws ks c fs x y z)):Ip7_1 R ws ks c G fs
inductive Ip7_2 (R:Int) (ws:List W) (ks:List (V×Int)) (c:Nat) (k:V×Int) (G:Gs) (fs:List (V×Int)):Prop
 | mk (e0_:KOk R ws fs) (z:Slot) (e2_:G=(tG ws ks c fs (.v k.1) (.v (.int k.2)) z)):Ip7_2 R ws ks c k G fs
theorem p7 (cf:aj):S7 (step cf):=fun s0 s1 s2 R ws ks c K m o lc h=>by
 refine run (fn:=f7) rfl rfl rfl (jO ?_)
 refine fR (op:=.forM [4,5]) (fs:=[]) (A:=fun k p=>∃ t,W.op k.2 c p.2 t∈ws∧p.1=(W.op k.2 c p.2 t).v) (J:=Ip7_1 R ws ks c) (fun _ _ _ _ _ h=>h) ix (jX m o) ⟨⟨.nil,fun _ q=>nM q⟩,_,_,_,rfl⟩ (fun k mk G fs Kt j nx=>?_) fun G fs j hf=>?_
 ·obtain ⟨jo,x,y,z,rfl⟩:=j
  refine al (z:=(tG ws ks c fs (.v k.1) (.v (.int k.2)) z)) rfl ?_
  refine fR (op:=.forS 6) (fs:=fs) (A:=fun w p=>∃ t,w=W.op k.2 c p.2 t∧p.1=w.v) (J:=Ip7_2 R ws ks c k) (fun _ _ _ _ _ h=>h) ix (jW m) ⟨jo,_,rfl⟩ (fun w mw G fs Kt j nx=>?_) fun G fs' j hf=>aD (nx _ fs' ?_ fun p=>?_)
  ·obtain ⟨jo,z,rfl⟩:=j
   refine al (z:=(tG ws ks c fs (.v k.1) (.v (.int k.2)) (.v w.v))) rfl ?_
   have ok:=m.ok w mw
   cases w with
   | op a d b t=>
    refine bQ (av (.and (ae (x:=.str aR) ix ix ((bK ok_open ok_open).trans (congrArg some (by rfl)))) fun _=>.and (ae (x:=.int a) ix ix oP) fun _=>.one (ae (x:=text [d]) ix ix (we (m.sk.lowA ok.2.1) lc)))) (fun q=>?_) fun q=>aD (nx _ fs ⟨jo,_,rfl⟩ (cN fun p Zq9=>Zq9.elim fun t' Zq10=>Zq10.elim fun e _=>?_))
    ·obtain ⟨q1,q2⟩:=b3 q
     obtain rfl:=eq_of_beq q1
     obtain rfl:=ij q2
     have hb:Bg ws (W.op k.2 d b t).v:=.inr (List.mem_map.mpr ⟨_,mw,rfl⟩)
     refine (mG m jo (k:=((W.op k.2 d b t).v,b)) hb ok.2.2.1).elim fun ks' Zq43=>Zq43.elim fun e Zq44=>Zq44.elim fun o' hm=>?_
     refine fK (l:=dK fs) rfl (v:=.bool true) ix (x:=pV ((W.op k.2 d b t).v,b)) ix (mT m (k:=((W.op k.2 d b t).v,b)) hb) (tI m jo) (aD (nx _ ks' ⟨o',_,by rw [e]; rfl⟩ fun p=>?_))
     rw [hm]
     refine or_congr_right ⟨fun q=>?_,fun Zq11=>Zq11.elim fun t' Zq12=>Zq12.elim fun q q'=>?_⟩
     ·subst q; exact ⟨t,rfl,rfl⟩
     ·injection q with _ _ q
      exact Prod.ext q' q.symm
    ·injection e with e1 e2
     subst e1 e2
     rw [beq_self_eq_true,beq_self_eq_true,beq_self_eq_true] at q
     (injection q; done)
   | on a d b=>exact aG (av (.stop (b:=true) (ae (x:=.str kOn) ix ix ((bK ok_on ok_open).trans (congrArg some (by rfl)))))) (aD (nx _ fs ⟨jo,_,rfl⟩ (cN fun p Zq13=>Zq13.elim fun _ Zq14=>Zq14.elim fun e _=>nomatch e)))
   | cl a b d t=>exact aG (av (.stop (b:=true) (ae (x:=.str aH) ix ix ((bK ok_close ok_open).trans (congrArg some (by rfl)))))) (aD (nx _ fs ⟨jo,_,rfl⟩ (cN fun p Zq15=>Zq15.elim fun _ Zq16=>Zq16.elim fun e _=>nomatch e)))
  ·obtain ⟨jo,z,rfl⟩:=j
   exact ⟨jo,_,_,_,rfl⟩
  ·rw [hf]
   exact or_congr_right ⟨fun ⟨w,mw,t,e,q⟩=>⟨t,e▸mw,e▸q⟩,fun Zq21=>Zq21.elim fun t Zq22=>Zq22.elim fun mw q=>⟨_,mw,t,rfl,q⟩⟩
 ·obtain ⟨jo,x,y,z,rfl⟩:=j
  exact c7 (l:=dK fs) rfl (az ix (h fs jo fun p=>(hf p).trans ⟨fun q=>q.elim (fun q=>nM q) id,.inr⟩) (ik fs))
end
inductive ClA (ws:List W) (c:Nat) (ko:List (V×Int)) (k p:V×Int):Prop
 | mk (a:Int) (d:Nat) (e t:Int) (ek:k.1=(W.op a d e t).v) (w:W.cl k.2 t c p.2∈ws) (m:(p.1,a)∈ko):ClA ws c ko k p
def ClK (ws:List W) (c:Nat) (ko ki ks':List (V×Int)):Prop:=∀ p,p∈ks' ↔ ∃ k∈ki,ClA ws c ko k p
inductive OpA (ws:List W) (v:V):Prop
 | mk (a:Int) (d:Nat) (e t:Int) (mo:W.op a d e t∈ws) (ek:v=(W.op a d e t).v):OpA ws v
def Ops (ws:List W) (ks:List (V×Int)):Prop:=∀ k∈ks,OpA ws k.1
theorem vq {a d e t a' d' e' t'} (h:(W.op a d e t).v=(W.op a' d' e' t').v):a=a'∧t=t':=by
 injection h with h
 injection h with _ h
 injection h with h1 h
 injection h with _ h
 injection h with _ h
 injection h with h2 h
 injection h1 with h1
 injection h2 with h2
 exact ⟨h1,h2⟩
theorem b4 (hu:u=true) (h:(u&&(a&&(b&&c)))=true):a=true∧b=true∧c=true:=by
 rw [hu] at h
 obtain ⟨h1,h⟩:=zA2 h
 exact ⟨zA2 h |>.1,zA2 (zA2 h).2⟩
def S8 (cf:aj):Prop:=∀ s0 s1 s2 R ws ko ki c K,MOk s0 s1 s2 R ws→KOk R ws ko→KOk R ws ki→Ops ws ki→low c=true→(∀ ks',KOk R ws ks'→ClK ws c ko ki ks'→K (.dict (dK ks')))→cf 8 [bC ws,.dict (dK ko),.dict (dK ki),text [c]] K
noncomputable def mP (ws:List W) (ko ki fs:List (V×Int)) (y3:V) (z5:Slot) (z6:Slot) (z7:Slot) (z8:Slot) (z9:Slot):Gs:=[.v (bC ws),.v (.dict (dK ko)),.v (.dict (dK ki)),.v y3,.ownD (dK fs),z5,z6,z7,z8,z9]
inductive Ip8_1 (R:Int) (ws:List W) (ko ki:List (V×Int)) (c:Nat) (G:Gs) (fs:List (V×Int)):Prop
 | mk (e0_:KOk R ws fs) (x5:Slot) (x6:Slot) (x7:Slot) (x8:Slot) (x9:Slot) (e6_:G=(mP ws ko ki fs (text [c]) x5 x6 x7 x8 x9)):Ip8_1 R ws ko ki c G fs
inductive Ip8_2 (R:Int) (ws:List W) (ko ki:List (V×Int)) (c:Nat) (a:Int) (d:Nat) (e t:Int) (k:V×Int) (G:Gs) (fs:List (V×Int)):Prop
 | mk (e0_:KOk R ws fs) (x7:Slot) (x8:Slot) (x9:Slot) (e4_:G=(mP ws ko ki fs (text [c]) (.v (W.op a d e t).v) (.v (.int k.2)) x7 x8 x9)):Ip8_2 R ws ko ki c a d e t k G fs
inductive Ip8_3 (R:Int) (ws:List W) (ko ki:List (V×Int)) (d':Nat) (a:Int) (d:Nat) (e b:Int) (k:V×Int) (t':Int) (G:Gs) (fs:List (V×Int)):Prop
 | mk (e0_:KOk R ws fs) (x8:Slot) (x9:Slot) (e3_:G=(mP ws ko ki fs (text [d']) (.v (W.op a d e b).v) (.v (.int k.2)) (.v (W.cl k.2 b d' t').v) x8 x9)):Ip8_3 R ws ko ki d' a d e b k t' G fs
theorem p8 (cf:aj):S8 (step cf):=fun s0 s1 s2 R ws ko ki c K m oo oi hop lc h=>by
 refine run (fn:=f8) rfl rfl rfl (jO ?_)
 refine fR (op:=.forM [5,6]) (fs:=[]) (A:=ClA ws c ko) (J:=Ip8_1 R ws ko ki c) (fun _ _ _ _ _ h=>h) ix (jX m oi) ⟨⟨.nil,fun _ q=>nM q⟩,_,_,_,_,_,rfl⟩ (fun k mk G fs Kt j nx=>?_) fun G fs j hf=>?_
 ·obtain ⟨jo,x5,x6,x7,x8,x9,rfl⟩:=j
  obtain ⟨a,d,e,t,mo,ek⟩:=hop k mk
  refine al (z:=(mP ws ko ki fs (text [c]) (.v k.1) (.v (.int k.2)) x7 x8 x9)) rfl ?_
  rw [ek]
  refine fR (op:=.forS 7) (fs:=fs) (A:=fun w p=>w=W.cl k.2 t c p.2∧(p.1,a)∈ko) (J:=Ip8_2 R ws ko ki c a d e t k) (fun _ _ _ _ _ h=>h) ix (jW m) ⟨jo,_,_,_,rfl⟩ (fun w mw G fs Kt j nx=>?_) fun G fs' j hf=>aD (nx _ fs' ?_ fun p=>?_)
  ·obtain ⟨jo,x7,x8,x9,rfl⟩:=j
   refine al (z:=(mP ws ko ki fs (text [c]) (.v (W.op a d e t).v) (.v (.int k.2)) (.v w.v) x8 x9)) rfl ?_
   have ok:=m.ok w mw
   cases w with
   | cl a' b d' t'=>
    refine bQ (av (.and (ae (x:=.str aH) ix ix ((bK ok_close ok_close).trans (congrArg some (by rfl)))) fun _=>.and (ae (x:=.int a') ix ix oP) fun _=>.and (ae (x:=.int b) (y:=.int t) ix ix oP) fun _=>.one (ae (x:=text [d']) ix ix (we (m.sk.lowB ok.2.2.1) lc)))) (fun q=>?_) fun q=>aD (nx _ fs ⟨jo,_,_,_,rfl⟩ (cN fun p z=>?_))
    ·obtain ⟨q1,q2,q3⟩:=b4 (beq_self_eq_true _) q
     obtain rfl:=eq_of_beq q1
     obtain rfl:=eq_of_beq q2
     obtain rfl:=ij q3
     refine fR (op:=.forM [8,9]) (fs:=fs) (A:=fun j p=>p=(j.1,t')∧j.2=a) (J:=Ip8_3 R ws ko ki d' a d e b k t') (fun _ _ _ _ _ h=>h) ix (jX m oo) ⟨jo,_,_,rfl⟩ (fun j mj G fs Kt jj nx=>?_) fun G fs' j hf=>aD (nx _ fs' ?_ fun p=>?_)
     ·obtain ⟨jo,x8,x9,rfl⟩:=jj
      refine al (z:=(mP ws ko ki fs (text [d']) (.v (W.op a d e b).v) (.v (.int k.2)) (.v (W.cl k.2 b d' t').v) (.v j.1) (.v (.int j.2)))) rfl ?_
      refine bQ (ae (x:=.int j.2) (y:=.int a) ix ix oP) (fun q=>?_) fun q=>aD (nx _ fs ⟨jo,_,_,rfl⟩ (cN fun p z=>?_))
      ·obtain rfl:=eq_of_beq q
       have hb:=(oo.ok j mj).1
       obtain ⟨ks',e,o',hm⟩:=mG m jo (k:=(j.1,t')) hb ok.2.2.2
       refine fK (l:=dK fs) rfl (v:=.bool true) ix (x:=pV (j.1,t')) ix (mT m (k:=(j.1,t')) hb) (tI m jo) (aD (nx _ ks' ⟨o',_,_,by rw [e]; rfl⟩ fun p=>?_))
       rw [hm]
       exact or_congr_right ⟨fun q=>⟨q,rfl⟩,fun q=>q.1⟩
      ·rw [z.2,beq_self_eq_true] at q
       (injection q; done)
     ·obtain ⟨jo,x8,x9,rfl⟩:=j
      exact ⟨jo,_,_,_,rfl⟩
     ·rw [hf]
      refine or_congr_right ⟨fun ⟨j,mj,e1,e2⟩=>?_,fun z=>?_⟩
      ·subst e1 e2; exact ⟨rfl,mj⟩
      ·injection z.1 with _ _ _ q
       exact ⟨_,z.2,Prod.ext rfl q.symm,rfl⟩
    ·injection z.1 with e1 e2 e3
     subst e1 e2 e3
     rw [beq_self_eq_true,beq_self_eq_true,beq_self_eq_true,beq_self_eq_true] at q
     (injection q; done)
   | on a' d' b=>exact aG (av (.stop (b:=true) (ae (x:=.str kOn) ix ix ((bK ok_on ok_close).trans (congrArg some (by rfl)))))) (aD (nx _ fs ⟨jo,_,_,_,rfl⟩ (cN fun p z=>nomatch z.1)))
   | op a' d' b t'=>exact aG (av (.stop (b:=true) (ae (x:=.str aR) ix ix ((bK ok_open ok_close).trans (congrArg some (by rfl)))))) (aD (nx _ fs ⟨jo,_,_,_,rfl⟩ (cN fun p z=>nomatch z.1)))
  ·obtain ⟨jo,x7,x8,x9,rfl⟩:=j
   exact ⟨jo,_,_,_,_,_,rfl⟩
  ·rw [hf]
   refine or_congr_right ⟨fun ⟨w,mw,e',q⟩=>⟨a,d,e,t,ek,e'▸mw,q⟩,fun ⟨a',d',e',t',q1,q2,q3⟩=>?_⟩
   obtain ⟨rfl,rfl⟩:=vq (ek.symm.trans q1)
   exact ⟨_,q2,rfl,q3⟩
 ·obtain ⟨jo,x5,x6,x7,x8,x9,rfl⟩:=j
  exact c7 (l:=dK fs) rfl (az ix (h fs jo fun p=>(hf p).trans ⟨fun q=>q.elim (fun q=>nM q) id,.inr⟩) (ik fs))
noncomputable abbrev Rel:=Int→List Int→Prop
inductive nx (ws:List W) (c:Nat) (X:Rel) (q:Int) (p:List Int):Prop
 | on (q0:Int) (x:X q0 p) (w:W.on q0 c q∈ws):nx ws c X q p
 | op (q0 t:Int) (p0:List Int) (e:p=t :: p0) (x:X q0 p0) (w:W.op q0 c q t∈ws):nx ws c X q p
 | cl (q0 t:Int) (x:X q0 (t :: p)) (w:W.cl q0 t c q∈ws):nx ws c X q p
noncomputable def lL (ws:List W):List Nat→Rel→Rel
 | [],X=>X
 | c :: w,X=>lL ws w (nx ws c X)
noncomputable def st0 (st:List Int):Rel:=fun q p=>q∈st∧p=[]
def Acc (ws:List W) (st en:List Int) (w:List Nat):Prop:=∃ q p,lL ws w (st0 st) q p∧q∈en
theorem vr (h:∀ w,w∈ws→w∈ws'):nx ws c X q p→nx ws' c X q p
 | .on q0 x w=>.on q0 x (h _ w)
 | .op q0 t p0 e x w=>.op q0 t p0 e x (h _ w)
 | .cl q0 t x w=>.cl q0 t x (h _ w)
theorem wI (h:∀ w,w∈ws ↔ w∈ws') (c:Nat) (X:Rel):nx ws c X=nx ws' c X:=funext fun _=>funext fun _=>propext ⟨vr fun w=>(h w).mp,vr fun w=>(h w).mpr⟩
theorem nH (h:∀ w,w∈ws ↔ w∈ws'):∀ (w:List Nat) (X:Rel),lL ws w X=lL ws' w X
 | [],_=>rfl
 | c :: w,X=>by unfold lL; rw [wI h]; exact nH h w _
inductive Link (X:Rel) (h:List (V×Int)) (q:Int) (p:List Int):Prop
 | mk (a:Int) (d:Nat) (e t:Int) (p':List Int) (e1:p=t :: p') (m:((W.op a d e t).v,q)∈h) (x:X a p'):Link X h q p
noncomputable def fy:List (List (V×Int))→Rel
 | []=>fun _ _=>False
 | h :: r=>fun q p=>(r=[]∧p=[]∧(PyData.none,q)∈h)∨Link (fy r) h q p
noncomputable def Wf (ws:List W):List (List (V×Int))→Prop
 | []=>False
 | h :: r=>(r=[]∧∀ k∈h,k.1=.none)∨(Ops ws h∧Wf ws r)
section
variable {s0 s1 s2:List Nat} {R:Int} {ws:List W} {c:Nat} (m:MOk s0 s1 s2 R ws)
include m
theorem tA (h:W.on a c b∈ws):c∈s2:=(m.ok _ h).2.1
theorem tz (h:W.op a c b t∈ws):c∈s0:=(m.ok _ h).2.1
theorem tB (h:W.cl a b c t∈ws):c∈s1:=(m.ok _ h).2.2.1
theorem BD (hc:c∈s2) (o:OnK ws c h h'):fy (h' :: r)=nx ws c (fy (h :: r)):=by
 funext q p
 refine propext ⟨fun q=>?_,fun q=>?_⟩
 ·rcases q with ⟨e1,e2,q⟩ | ⟨a,d,e,t,p',e1,q,q'⟩
  ·obtain ⟨k,mk,ek,w⟩:=(o _).mp q
   exact .on k.2 (.inl ⟨e1,e2,(show (PyData.none,k.2)=k from Prod.ext ek rfl)▸mk⟩) w
  ·obtain ⟨k,mk,ek,w⟩:=(o _).mp q
   exact .on k.2 (.inr ⟨a,d,e,t,p',e1,(show ((W.op a d e t).v,k.2)=k from Prod.ext ek rfl)▸mk,q'⟩) w
 ·rcases q with ⟨q0,q,w⟩ | ⟨q0,t,p0,_,_,w⟩ | ⟨q0,t,_,w⟩
  ·rcases q with ⟨e1,e2,q⟩ | ⟨a,d,e,t,p',e1,q,q'⟩
   ·exact .inl ⟨e1,e2,(o _).mpr ⟨_,q,rfl,w⟩⟩
   ·exact .inr ⟨a,d,e,t,p',e1,(o _).mpr ⟨_,q,rfl,w⟩,q'⟩
  ·exact absurd (tz m w) (m.sk.inC hc).1
  ·exact absurd (tB m w) (m.sk.inC hc).2
theorem BC (hc:c∈s0) (o:OpK ws c h h'):fy (h' :: h :: r)=nx ws c (fy (h :: r)):=by
 have some_of:∀ {q p},fy (h :: r) q p→∃ k∈h,k.2=q:=fun {q p} z=>by
  rcases z with ⟨_,_,z⟩ | ⟨_,_,_,_,_,_,z,_⟩ <;> exact ⟨_,z,rfl⟩
 funext q p
 refine propext ⟨fun q=>?_,fun q=>?_⟩
 ·rcases q with ⟨e1,_⟩ | ⟨a,d,e,t,p',e1,q,q'⟩
  ·(injection e1; done)
  ·obtain ⟨k,mk,t',w,ek⟩:=(o _).mp q
   obtain ⟨rfl,rfl⟩:=vq ek
   exact .op k.2 t p' e1 q' w
 ·rcases q with ⟨q0,q,w⟩ | ⟨q0,t,p0,e,q,w⟩ | ⟨q0,t,_,w⟩
  ·exact absurd hc (m.sk.inC (tA m w)).1
  ·obtain ⟨k,mk,ek⟩:=some_of q
   subst ek
   exact .inr ⟨k.2,c,_,t,p0,e,(o _).mpr ⟨k,mk,t,w,rfl⟩,q⟩
  ·exact absurd hc (m.sk.inB (tB m w))
theorem BE (hc:c∈s1) (o:ClK ws c ho h h'):fy (h' :: r)=nx ws c (fy (h :: ho :: r)):=by
 have mk':∀ {k:V×Int} {a d e t},k∈h→k.1=(W.op a d e t).v→((W.op a d e t).v,k.2)∈h:=fun {k a d e t} mk ek=>(show ((W.op a d e t).v,k.2)=k from Prod.ext ek.symm rfl)▸mk
 funext q p
 refine propext ⟨fun q=>?_,fun q=>?_⟩
 ·rcases q with ⟨e1,e2,q⟩ | ⟨a2,d2,e2,t2,p',e1,q,q'⟩
  ·obtain ⟨k,mk,a,d,e,t,ek,w,q⟩:=(o _).mp q
   exact .cl k.2 t (.inr ⟨a,d,e,t,p,rfl,mk' mk ek,.inl ⟨e1,e2,q⟩⟩) w
  ·obtain ⟨k,mk,a,d,e,t,ek,w,q⟩:=(o _).mp q
   exact .cl k.2 t (.inr ⟨a,d,e,t,p,rfl,mk' mk ek,.inr ⟨a2,d2,e2,t2,p',e1,q,q'⟩⟩) w
 ·rcases q with ⟨q0,q,w⟩ | ⟨q0,t,p0,e,q,w⟩ | ⟨q0,t,q,w⟩
  ·exact absurd hc (m.sk.inC (tA m w)).2
  ·exact absurd (tz m w) (m.sk.inB hc)
  ·rcases q with ⟨_,e,_⟩ | ⟨a,d,e,t',p',e1,q,q'⟩
   ·(injection e; done)
   ·obtain ⟨rfl,rfl⟩:=zA5 e1
    rcases q' with ⟨f1,f2,f⟩ | ⟨a2,d2,e2,t2,p',f1,f,f'⟩
    ·exact .inl ⟨f1,f2,(o _).mpr ⟨_,q,a,d,e,t,rfl,w,f⟩⟩
    ·exact .inr ⟨a2,d2,e2,t2,p',f1,(o _).mpr ⟨_,q,a,d,e,t,rfl,w,f⟩,f'⟩
omit m in
theorem AB (o:OnK ws c h h') (q:Wf ws (h :: r)):Wf ws (h' :: r):=by
 rcases q with ⟨e,q⟩ | ⟨q,q'⟩
 ·exact .inl ⟨e,fun k mk=>by obtain ⟨j,mj,ej,_⟩:=(o k).mp mk; exact ej.trans (q j mj)⟩
 ·exact .inr ⟨fun k mk=>by obtain ⟨j,mj,ej,_⟩:=(o k).mp mk; rw [ej]; exact q j mj,q'⟩
omit m in
theorem AA (o:OpK ws c h h') (q:Wf ws (h :: r)):Wf ws (h' :: h :: r):=
 .inr ⟨fun k mk=>by obtain ⟨j,mj,t,w,e⟩:=(o k).mp mk; exact ⟨_,_,_,_,w,e⟩,q⟩
omit m in
theorem AC (o:ClK ws c ho h h') (q:Wf ws (h :: ho :: r)):Ops ws h∧Wf ws (h' :: r):=by
 rcases q with ⟨e,q⟩ | ⟨q,q' | q'⟩
 ·(injection e; done)
 ·exact ⟨q,.inl ⟨q'.1,fun k mk=>by obtain ⟨j,mj,a,d,e,t,_,_,z⟩:=(o k).mp mk; exact q'.2 (k.1,a) z⟩⟩
 ·exact ⟨q,.inr ⟨fun k mk=>by obtain ⟨j,mj,a,d,e,t,_,_,z⟩:=(o k).mp mk; exact q'.1 (k.1,a) z,q'.2⟩⟩
end
theorem cj (hv:fG cf G es vs) (h:cf f vs fun y=>noX y=true∧exs sup cf r (G.set k (.v y)) K):exs sup cf (.mk (.assign k) [.nd (.call f) es] [] [] :: r) G K:=hv _ h
theorem yz:∃ t,aT .In (.int q) (aB en)=some t∧(t=true ↔ q∈en):=by
 refine ⟨_,if_pos (by rw [dR (x:=.int q) (dQ rfl) (by decide),dR (n:=1) (dq fun x mx=>by obtain ⟨i,_,rfl⟩:=zA7 mx; exact dQ rfl) (by decide)]; rfl),?_⟩
 rw [List.any_eq_true]
 constructor
 ·rintro ⟨x,mx,e⟩
  obtain ⟨i,mi,rfl⟩:=zA7 mx
  exact eq_of_beq (show (i==q)=true from e)▸mi
 ·exact fun h=>⟨_,List.mem_map.mpr ⟨q,h,rfl⟩,(beq_self_eq_true q:(q==q)=true)⟩
noncomputable def dV (ks:List (V×Int)):V:=.dict (dK ks)
def S9 (cf:aj):Prop:=∀ s0 s1 s2 R st en ws x K,MOk s0 s1 s2 R ws→st.length≤40→(∀ i∈st,In R i)→en.length≤40→vOk x=true→(∀ t,x=.str t→iw s0 s1 s2 0 t.cps.toList=true→∀ b,(b=true ↔ Acc ws st en t.cps.toList)→K (.bool b))→(iwV s0 s1 s2 x=false→K (gz 2))→cf 9 [bg (sg s0 s1 s2) R st en (ws.map W.v),x] K
noncomputable def gO (s0 s1 s2:List Nat) (R:Int) (st en:List Int) (ws:List W) (x:V) (h:List (V×Int)) (z4:Slot) (z5:Slot) (z6:Slot) (z7:Slot) (z8:Slot) (z9:Slot):Gs:=[.v (bg (sg s0 s1 s2) R st en (ws.map W.v)),.v x,.v (bC ws),.v (dV h),z4,z5,z6,z7,z8,z9]
inductive Ip9_end_1 (h:List (V×Int)) (en:List Int) (s0 s1 s2:List Nat) (R:Int) (st:List Int) (ws:List W) (x:V) (s5 s6 s7:Slot) (xs:List V) (G:Gs):Prop
 | mk (ys:_) (zs:_) (s4:Slot) (s9:Slot) (e4_:xs=ys.map pV) (e5_:h=zs++ys) (e6_:(∀ k∈zs,k.2∉en)) (e7_:G=(gO s0 s1 s2 R st en ws x h s4 s5 s6 s7 (.v (aB en)) s9)):Ip9_end_1 h en s0 s1 s2 R st ws x s5 s6 s7 xs G
theorem y7 (m:MOk s0 s1 s2 R ws) (o:KOk R ws h) (hn:∀ k∈h,k.1=.none) (me:MethOk cf) (he:en.length≤40)
  (hK:∀ b G,(b=true ↔ ∃ q p,fy [h] q p∧q∈en)→K (some (.bool b)) G):exs sup cf [.mk (.assign 8) [.nd (.meth 18) [vv 0]] [] [],.mk (.forM [9,4]) [vv 3] BY [],.mk .ret [bb false] [] []] (gO s0 s1 s2 R st en ws x h s4 s5 s6 s7 .unset s9) K:=by
 refine af (v:=aB en) (eD ix rfl (me.m12 _ _ _ _ _ · (zB1 he (by decide)))) ?_
 refine vc (P:=Ip9_end_1 h en s0 s1 s2 R st ws x s5 s6 s7) ix (jX m o) ⟨h,[],_,_,rfl,rfl,fun _ q=>(nM q),rfl⟩ (fun G hP=>?_) fun y l G Kt hP nx rt=>?_
 ·obtain ⟨ys,zs,s4,s9,e,eh,hz,rfl⟩:=hP
  obtain rfl:=List.map_eq_nil_iff.mp e.symm
  rw [List.append_nil] at eh
  subst eh
  refine az (v:=.bool false) ix (hK false _ ⟨fun q=>(nB q),fun Zq1=>Zq1.elim fun q Zq2=>Zq2.elim fun p Zq3=>Zq3.elim fun hc hq=>?_⟩)
  rcases hc with ⟨_,_,z⟩ | ⟨_,_,_,_,_,_,z,_⟩ <;> exact absurd hq (hz _ z)
 ·obtain ⟨ys,zs,s4,s9,e,eh,hz,rfl⟩:=hP
  cases ys with
  | nil=>(injection e; done)
  | cons k ys=>
   obtain ⟨rfl,rfl⟩:=zA5 e
   have mk:k∈h:=by rw [eh]; exact List.mem_append_right _ (.head _)
   obtain ⟨t,ht,hq⟩:=yz (q:=k.2) (en:=en)
   refine al (z:=(gO s0 s1 s2 R st en ws x h (.v (.int k.2)) s5 s6 s7 (.v (aB en)) (.v k.1))) rfl ?_
   refine bQ (ae (x:=.int k.2) (y:=aB en) ix ix ht) (fun q=>az (v:=.bool true) ix (rt _ _ rfl (hK true _ ⟨fun _=>⟨k.2,[],.inl ⟨rfl,rfl,(show (PyData.none,k.2)=k from Prod.ext (hn k mk).symm rfl)▸mk⟩,hq.mp q⟩,fun _=>rfl⟩))) fun q=>aD (nx _ ⟨ys,zs++[k],_,_,rfl,by rw [eh,List.append_assoc]; rfl,fun j mj=>?_,rfl⟩)
   rcases List.mem_append.mp mj with mj | mj
   ·exact hz j mj
   ·obtain rfl:=zA6 mj
    intro z
    rw [hq.mpr z] at q
    (injection q; done)
noncomputable def v6 (s0 s1 s2:List Nat) (R:Int) (st en:List Int) (ws:List W) (t:Str) (z3:Slot) (z4:Slot) (z5:Slot) (z6:Slot) (z7:Slot):Gs:=[.v (bg (sg s0 s1 s2) R st en (ws.map W.v)),.v (.str t),.v (bC ws),z3,z4,z5,z6,z7,.unset,.unset]
inductive Ip9_1 (R:Int) (ws:List W) (s0 s1 s2:List Nat) (st en:List Int) (t:Str) (G:Gs) (fs:List (V×Int)):Prop
 | mk (e0_:KOk R ws fs) (s4:Slot) (e2_:G=(v6 s0 s1 s2 R st en ws t (.ownD (dK fs)) s4 .unset .unset .unset)):Ip9_1 R ws s0 s1 s2 st en t G fs
inductive Ip9_2 (s0 s1 s2:List Nat) (R:Int) (ws:List W) (t:Str) (st en:List Int) (xs:List V) (G:Gs):Prop
 | mk (h:List (V×Int)) (r:List (List (V×Int))) (w:List Nat) (s4:Slot) (s6:Slot) (s7:Slot) (e6_:xs=ba w) (e8_:r.length+w.length≤1000) (e9_:iw s0 s1 s2 (r.length:Int) w=true) (e10_:KOk R ws h) (e11_:(∀ k∈r,KOk R ws k)) (e12_:Wf ws (h :: r)) (e13_:lL ws w (fy (h :: r))=lL ws t.cps.toList (st0 st) ∧
  G=(v6 s0 s1 s2 R st en ws t (.v (dV h)) s4 (.ownL (r.reverse.map dV)) s6 s7)):Ip9_2 s0 s1 s2 R ws t st en xs G
theorem p9 (cf:aj) (h3:S3 cf) (h5:S5 cf) (h6:S6 cf) (h7:S7 cf) (h8:S8 cf) (me:MethOk cf):S9 (step cf):=fun s0 s1 s2 R st en ws x K m ls is le hx hT hF=>by
 refine run (fn:=f9) rfl rfl rfl ?_
 have sgm:∀ {G:Gs} {e:E},Val cf G e (bg (sg s0 s1 s2) R st en (ws.map W.v))→Val cf G (.nd (.meth 15) [e]) (sg s0 s1 s2):=fun h=>eD h rfl (me.m9 _ _ _ _ _ · rfl)
 refine qJ (.two (sgm ix) ix) (h5 s0 s1 s2 x _ hx (fun hw=>⟨rfl,?_⟩) fun hw=>hF hw)
 obtain ⟨t,rfl⟩:∃ t,x=.str t:=by
  cases x with
  | str t=>exact ⟨t,rfl⟩
  | _=>(injection hw; done)
 have hw:iw s0 s1 s2 0 t.cps.toList=true:=hw
 have hT:=hT t rfl hw
 have q2:t.cps.toList.length≤1000:=of_decide_eq_true (zA2 hx).2
 refine af (v:=bC ws) (eD ix rfl (me.m13 _ _ _ _ _ · (by rw [zA4]; exact zB1 (Nat.le_of_lt m.len) (by decide)))) (jO ?_)
 refine fR (op:=.forS 4) (fs:=[]) (A:=fun i p=>p=(PyData.none,i)) (J:=Ip9_1 R ws s0 s1 s2 st en t) (v:=aB st) (xs:=st) (g:=.int) (fun _ _ _ _ _ h=>h) (eD ix rfl (me.m11 _ _ _ _ _ · (zB1 ls (by decide)))) (bn (by rw [zA4]; exact zB1 ls (by decide))) ⟨⟨.nil,fun _ q=>nM q⟩,_,rfl⟩ (fun i mi G fs Kt j nx=>?_) fun G fs j hf=>?_
 ·obtain ⟨jo,s4,rfl⟩:=j
  refine al (z:=(v6 s0 s1 s2 R st en ws t (.ownD (dK fs)) (.v (.int i)) .unset .unset .unset)) rfl ?_
  refine (mG m jo (k:=(PyData.none,i)) (.inl rfl) (is i mi)).elim fun ks' Zq26=>Zq26.elim fun e Zq27=>Zq27.elim fun o' hm=>?_
  exact fK (l:=dK fs) rfl (v:=.bool true) ix (x:=pV (.none,i)) ix rfl (tI m jo) (aD (nx _ ks' ⟨o',_,by rw [e]; rfl⟩ hm))
 obtain ⟨o,s4,rfl⟩:=j
 have hf:∀ p,p∈fs ↔ ∃ i∈st,p=(PyData.none,i):=fun p=>(hf p).trans ⟨fun q=>q.elim (fun q=>nM q) id,.inr⟩
 have c0:fy [fs]=st0 st:=by
  funext q p
  refine propext ⟨fun z=>?_,fun ⟨z1,z2⟩=>.inl ⟨rfl,z2,(hf _).mpr ⟨q,z1,rfl⟩⟩⟩
  rcases z with ⟨_,z2,z⟩ | ⟨_,_,_,_,_,_,_,z'⟩
  ·obtain ⟨i,mi,e⟩:=(hf _).mp z
   injection e with _ e
   exact ⟨e▸mi,z2⟩
  ·exact z'.elim
 have w0:Wf ws [fs]:=.inl ⟨rfl,fun k mk=>by obtain ⟨i,_,e⟩:=(hf k).mp mk; rw [e]⟩
 refine ia (c7 (l:=dK fs) rfl ?_)
 refine cZ (xs:=ba t.cps.toList) (v:=.str t) (P:=Ip9_2 s0 s1 s2 R ws t st en) ix (if_pos (cw (zB1 q2 (by decide)))) ⟨fs,[],_,_,_,_,rfl,by rw [List.length_nil,Nat.zero_add]; exact q2,hw,o,fun _ q=>(nM q),w0,by rw [c0],rfl⟩ (fun G hP=>?_) fun y l G Kt hP nx rt=>?_
 ·obtain ⟨h,r,w,s4,s6,s7,e,_,hi,o,_,wf,hr,rfl⟩:=hP
  cases w with
  | cons=>(injection e; done)
  | nil=>
   cases r with
   | cons a r=>exact absurd (eq_of_beq (show (((a :: r).length:Int)==0)=true from hi)) (by rw [zB4]; exact Int.ofNat_ne_zero.mpr (Nat.succ_ne_zero _))
   | nil=>
    have hn:∀ k∈h,k.1=.none:=by
     rcases wf with wf | wf
     ·exact wf.2
     ·exact wf.2.elim
    refine y7 m o hn me le fun b G hb=>hT b (hb.trans ?_)
    unfold Acc
    exact hr▸Iff.rfl
 ·obtain ⟨h,r,w,s4,s6,s7,e,hl,hi,o,or,wf,hr,rfl⟩:=hP
  cases w with
  | nil=>(injection e; done)
  | cons c w=>
   obtain ⟨rfl,rfl⟩:=zA5 e
   rw [zB4,← Nat.add_assoc] at hl
   refine af (v:=.str (dG s0 s1 s2 c)) (ar (.two (sgm ix) ix) fun K h=>h3 s0 s1 s2 c K h) ?_
   have hi:(if s0.elem c=true then iw s0 s1 s2 ((r.length:Int)+1) w else if s1.elem c=true then decide (1≤(r.length:Int))&&iw s0 s1 s2 (r.length - 1) w else s2.elem c&&iw s0 s1 s2 r.length w)=true:=hi
   rcases kind4 s0 s1 s2 c with ⟨q,e⟩ | ⟨q,q',e⟩ | ⟨q,q',q'',e⟩ | ⟨q,q',q'',e⟩ <;> refine e.symm▸?_
   ·rw [if_pos q] at hi
    have mc:=List.elem_iff.mp q
    refine bQ (aY (u:=false) ix ok_open ok_on rfl) (fun z=>nB z) fun _=>bq (aY ix ok_open ok_open rfl) ?_
    refine cE (l:=r.reverse.map dV) rfl (v:=dV h) ix (by rw [zA4,List.length_reverse]; exact Nat.lt_of_le_of_lt (zB1 (Nat.le_add_right _ _) (Nat.le_of_succ_le hl)) (by decide)) ?_
    refine cj (.cons ix (.two ix ix)) (h7 s0 s1 s2 R ws h c _ m o (m.sk.lowA mc) fun h' o' hk=>⟨ik h',aD (nx _ ⟨h',h :: r,w,s4,.v (text [c]),.v (.str aR),rfl,?_,hi,o',zA1 ⟨o,or⟩,AA hk wf,?_,?_⟩)⟩)
    ·rw [zB4,Nat.succ_add]; exact hl
    ·rw [BC m mc hk]; exact hr
    ·rw [List.reverse_cons,List.map_append]; rfl
   ·rw [if_neg (by exact q.symm▸Bool.false_ne_true),if_pos q'] at hi
    have mc:=List.elem_iff.mp q'
    obtain ⟨hi1,hi2⟩:=zA2 hi
    cases r with
    | nil=>exact absurd (of_decide_eq_true hi1) (by decide)
    | cons ho r=>
     refine bQ (aY (u:=false) ix ok_close ok_on rfl) (fun z=>nB z) fun _=>bQ (aY (u:=false) ix ok_close ok_open rfl) (fun z=>nB z) fun _=>?_
     have hw':((ho :: r).reverse.map dV)=r.reverse.map dV++[dV ho]:=by rw [List.reverse_cons,List.map_append]; rfl
     replace hl:=List.length_cons▸hl
     refine (List.forall_mem_cons.mp or).elim fun or1 or2=>?_
     refine yJ (l:=(ho :: r).reverse.map dV) ix rfl (by rw [zA4,List.length_reverse,zB4]; exact zB1 (zB1 (Nat.le_add_right _ _) (Nat.le_of_succ_le hl)) (by decide)) (y:=dV ho) (by rw [hw',List.getLast?_append]; rfl) ix ix ?_
     have hop:Ops ws h:=by
      refine wf.elim (fun Zq68=>Zq68.elim fun e _=>?_) fun wf=>?_
      ·(injection e; done)
      ·exact wf.1
     refine h8 s0 s1 s2 R ws ho h c _ m or1 o hop (m.sk.lowB mc) fun h' o' hk=>⟨ik h',aD (nx _ ⟨h',r,w,s4,.v (text [c]),.v (.str aH),rfl,?_,?_,o',or2,(AC hk wf).2,?_,?_⟩)⟩
     ·exact zB1 (Nat.add_le_add_right (Nat.le_succ _) _) (Nat.le_of_succ_le hl)
     ·rw [zB4,show (((r.length+1:Nat):Int) - 1)=r.length from Int.add_sub_cancel (r.length:Int) 1] at hi2; exact hi2
     ·rw [BE m mc hk]; exact hr
     ·rw [hw',List.dropLast_concat]; rfl
   ·rw [if_neg (by rw [q]; exact Bool.false_ne_true),if_neg (by rw [q']; exact Bool.false_ne_true),q'',Bool.true_and] at hi
    have mc:=List.elem_iff.mp q''
    refine bq (aY ix ok_on ok_on rfl) (cj (.cons ix (.two ix ix)) (h6 s0 s1 s2 R ws h c _ m o (m.sk.lowC mc) fun h' o' hk=>⟨ik h',aD (nx _ ⟨h',r,w,_,_,_,rfl,Nat.le_of_succ_le hl,hi,o',or,AB hk wf,?_,rfl⟩)⟩))
    rw [BD m mc hk]; exact hr
   ·rw [if_neg (by rw [q]; exact Bool.false_ne_true),if_neg (by rw [q']; exact Bool.false_ne_true),q'',Bool.false_and] at hi
    (injection hi; done)
noncomputable def cI (p:List Int):V:=.list (p.reverse.map .int)
noncomputable def stV (s:Int×List Int):V:=.tuple [.int s.1,cI s.2]
noncomputable def xX:Option (Int×List Int)→V
 | none=>.none
 | some s=>stV s
noncomputable def fo:W→Int→List Int→Nat→Option (Int×List Int)
 | .on a d b,q,p,c=>if a=q∧d=c then some (b,p) else none
 | .op a d b t,q,p,c=>if a=q∧d=c then some (b,t :: p) else none
 | .cl a b d t,q,p,c=>if a=q∧d=c∧p.head?=some b then some (t,p.tail) else none
theorem xS:fo (.on a d b) q p c=if a=q∧d=c then some (b,p) else none:=rfl
theorem xR:fo (.op a d b t) q p c=if a=q∧d=c then some (b,t :: p) else none:=rfl
theorem pc:fo (.cl a b d t) q p c=if a=q∧d=c∧p.head?=some b then some (t,p.tail) else none:=rfl
theorem step_iff:fo w q p c=some (q',p') ↔ (w=.on q c q'∧p'=p)∨(∃ t,w=.op q c q' t∧p'=t :: p)∨∃ t,w=.cl q t c q'∧p=t :: p':=by
 constructor
 ·intro h
  cases w with
  | on a d b=>
   replace h:=xS▸h
   by_cases e:a=q∧d=c
   ·rw [if_pos e] at h
    injection h with h; injection h with h1 h2
    exact .inl ⟨by rw [e.1,e.2,h1],h2.symm⟩
   ·rw [if_neg e] at h; (injection h; done)
  | op a d b t=>
   rw [xR] at h
   by_cases e:a=q∧d=c
   ·rw [if_pos e] at h
    injection h with h; injection h with h1 h2
    exact .inr (.inl ⟨t,by rw [e.1,e.2,h1],h2.symm⟩)
   ·rw [if_neg e] at h; (injection h; done)
  | cl a b d t=>
   rw [pc] at h
   by_cases e:a=q∧d=c∧p.head?=some b
   ·rw [if_pos e] at h
    injection h with h; injection h with h1 h2
    cases p with
    | nil=>exact nomatch e.2.2
    | cons s p=>exact .inr (.inr ⟨b,by rw [e.1,e.2.1,h1],by rw [Option.some.inj e.2.2,← h2]; rfl⟩)
   ·rw [if_neg e] at h; (injection h; done)
 ·rintro (⟨rfl,rfl⟩ | ⟨t,rfl,rfl⟩ | ⟨t,rfl,rfl⟩)
  ·exact if_pos ⟨rfl,rfl⟩
  ·exact if_pos ⟨rfl,rfl⟩
  ·exact if_pos ⟨rfl,rfl,rfl⟩
theorem kY (l:List Int):fJ 1 (.list (l.map .int)):=dq fun x mx=>by obtain ⟨i,_,rfl⟩:=zA7 mx; exact dQ rfl
theorem zf (h:(l++[x]).length≤5000):opN .sub [.list (l++[x]),.int (-1)]=some x:=by
 refine (?_:(if (l++[x]).length≤ai then _ else none)=_)
 rw [if_pos (cw h),if_neg (by decide),zB5]
 have e:(-1:Int)+((l.length + [x].length:Nat):Int)=l.length:=by rw [List.length_singleton,Int.natCast_add]; exact (congrArg (-1 + ·) (Int.add_comm _ _)).trans (Int.neg_add_cancel_left 1 _)
 rw [e,if_pos (Int.natCast_nonneg _),Int.toNat_natCast,List.getElem?_append_right (Nat.le_refl _),Nat.sub_self]; rfl
theorem zg (h:(l++[x]).length≤5000):opN (.slice false true) [.list (l++[x]),.int (-1)]=some (.list l):=by
 refine (?_:lZ .list (l++[x]) none (some (.int (-1)))=_)
 unfold lZ
 refine (if_pos (cw h)).symm▸?_
 have e:oI (l++[x]).length (l++[x]).length (some (.int (-1)))=some l.length:=by
  refine congrArg some ?_
  rw [if_neg (by decide),zB5,List.length_singleton]
  have e:(-1:Int)+((l.length+1:Nat):Int)=l.length:=by rw [Int.natCast_add]; exact (congrArg (-1 + ·) (Int.add_comm _ _)).trans (Int.neg_add_cancel_left 1 _)
  rw [e,Int.toNat_natCast]
 refine e.symm▸?_
 refine (?_:(if 0≤l.length then some (PyData.list (((l++[x]).drop 0).take (l.length - 0))) else none)=_)
 rw [if_pos (Nat.zero_le _),Nat.sub_zero,List.drop_zero,List.take_left]
theorem zm (h:(a++b).length≤5000):opN (.bin .Add) [.list a,.list b]=some (.list (a++b)):=if_pos (cw h)
theorem wd (hx:low x=true) (hy:low y=true):aT .NotEq (text [x]) (text [y])=some (!((⟨[x].toArray⟩:Str)==⟨[y].toArray⟩)):=yy (mA hx) (mA hy)
theorem vY {a b:Int} (h:(!(a==b))=true):a≠b:=fun e=>by subst e; rw [beq_self_eq_true] at h; (injection h; done)
theorem vy (h:(!((⟨[a].toArray⟩:Str)==⟨[b].toArray⟩))=true):a≠b:=fun e=>by subst e; rw [beq_self_eq_true] at h; (injection h; done)
def S28 (cf:aj):Prop:=∀ s0 s1 s2 R w q p c K,SgOk s0 s1 s2→W.ok s0 s1 s2 R w→low c=true→p.length≤1000→K (xX (fo w q p c))→cf 28 [w.v,.int q,cI p,text [c]] K
theorem p28 (cf:aj):S28 (step cf):=fun s0 s1 s2 R w q p c K sk ok lc lp h=>by
 refine run (fn:=f28) rfl rfl rfl ?_
 have no:∀ {a:Int} {d:Nat} {u:Prop} [Decidable u] {z:Int×List Int},a≠q∨d≠c→K (xX (if a=q∧d=c then some z else none))→K .none:=fun e h=>by
  rw [if_neg (fun z=>e.elim (fun e=>e z.1) fun e=>e z.2)] at h; exact h
 cases w with
 | on a d b=>
  refine bQ (ae (x:=.int a) ix ix vM) (fun e=>az (v:=.none) ix (no (u:=True) (.inl (vY e)) h)) fun e=>?_
  refine aG (ae (x:=.str kOn) ix ix ((bK ok_on ok_close).trans (congrArg some (by rfl)))) ?_
  refine bQ (ae (x:=text [d]) ix ix (wd (sk.lowC ok.2.1) lc)) (fun e=>az (v:=.none) ix (no (u:=True) (.inr (vy e)) h)) fun e'=>?_
  refine aG (ae (x:=.str kOn) ix ix ((bK ok_on ok_open).trans (congrArg some (by rfl)))) (az (v:=stV (b,p)) ix ?_)
  rw [xS] at h
  rw [if_pos ⟨eq_of_beq (hJ e),ij (hJ e')⟩] at h
  exact h
 | op a d b t=>
  refine bQ (ae (x:=.int a) ix ix vM) (fun e=>az (v:=.none) ix (no (u:=True) (.inl (vY e)) h)) fun e=>?_
  refine aG (ae (x:=.str aR) ix ix ((bK ok_open ok_close).trans (congrArg some (by rfl)))) ?_
  refine bQ (ae (x:=text [d]) ix ix (wd (sk.lowA ok.2.1) lc)) (fun e=>az (v:=.none) ix (no (u:=True) (.inr (vy e)) h)) fun e'=>?_
  refine bq (ae (x:=.str aR) ix ix ((bK ok_open ok_open).trans (congrArg some (by rfl)))) (az (v:=stV (b,t :: p)) (aa (.two (x:=.int b) ix (aa (.two (x:=cI p) (y:=.list [.int t]) ix ix) (zm (by rw [zB5,zA4,List.length_reverse]; exact zB1 (Nat.add_le_add_right lp 1) (by decide))))) ?_) ?_)
  ·unfold stV cI; rw [List.reverse_cons,List.map_append]; rfl
  ·rw [xR] at h
   rw [if_pos ⟨eq_of_beq (hJ e),ij (hJ e')⟩] at h
   exact h
 | cl a b d t=>
  refine bQ (ae (x:=.int a) ix ix vM) (fun e=>az (v:=.none) ix ?_) fun e=>?_
  ·rw [pc] at h
   rw [if_neg fun z=>vY e z.1] at h; exact h
  refine bq (ae (x:=.str aH) ix ix ((bK ok_close ok_close).trans (congrArg some (by rfl)))) ?_
  have e0:=yC (l:=p.reverse.map PyData.int) (dR (kY _) (by decide))
  cases p with
  | nil=>
   refine bq (bw (.stop (b:=false) (ae (x:=cI []) (y:=.list []) ix ix e0))) (az (v:=.none) ix ?_)
   rw [pc] at h
   rw [if_neg fun z=>nomatch z.2.2] at h; exact h
  | cons s p=>
   have ep:(s :: p).reverse.map PyData.int=p.reverse.map .int++[.int s]:=by rw [List.reverse_cons,List.map_append]; rfl
   have lz:(p.reverse.map PyData.int++[PyData.int s]).length≤5000:=by rw [← ep,zA4,List.length_reverse]; exact zB1 lp (by decide)
   have e1:opN .sub [cI (s :: p),.int (-1)]=some (.int s):=by unfold cI; exact ep.symm▸zf lz
   have e2:opN (.slice false true) [cI (s :: p),.int (-1)]=some (cI p):=by unfold cI; exact ep.symm▸zg lz
   rw [show ((s :: p).reverse.map PyData.int).isEmpty=false by rw [ep]; cases p.reverse.map PyData.int <;> rfl] at e0
   refine bQ (bw (.go (ae (x:=cI (s :: p)) (y:=.list []) ix ix e0) (.or (ae (x:=.int b) ix (aa (.two ix ix) e1) vM) fun _=>.one' (ae (x:=text [d]) ix ix (wd (sk.lowB ok.2.2.1) lc))))) (fun e'=>az (v:=.none) ix ?_) fun e'=>az (v:=stV (t,p)) (aa (.two (x:=.int t) ix (aa (.two ix ix) e2)) rfl) ?_
   ·replace h:=pc▸h
    rw [if_neg fun z=>?_] at h
    ·exact h
    ·obtain ⟨_,z1,z2⟩:=z
     obtain rfl:=Option.some.inj z2
     subst z1
     rw [beq_self_eq_true,beq_self_eq_true] at e'
     (injection e'; done)
   ·refine (Bool.or_eq_false_iff.mp e').elim fun z1 z2=>?_
    rw [pc] at h
    rw [if_pos ⟨eq_of_beq (hJ e),ij (hJ z2),by rw [eq_of_beq (hJ z1)]; rfl⟩] at h
    exact h
noncomputable def Gd (s0 s1 s2:List Nat) (m e:Nat):Nat→List Nat→Prop
 | d,[]=>d=e
 | d,c :: w=>(c∈s0∧d < m∧Gd s0 s1 s2 m e (d+1) w)∨(c∈s1∧∃ d',d=d' + 1∧Gd s0 s1 s2 m e d' w)∨(c∈s2∧Gd s0 s1 s2 m e d w)
theorem ir (hv:Gd s0 s1 s2 m f e v):∀ {u:List Nat} {d:Nat},Gd s0 s1 s2 m e d u→Gd s0 s1 s2 m f d (u++v)
 | [],d,h=>by subst h; exact hv
 | c :: u,d,h=>by
  rcases h with ⟨h1,h2,h⟩ | ⟨h1,d',h2,h⟩ | ⟨h1,h⟩
  ·exact .inl ⟨h1,h2,ir hv h⟩
  ·exact .inr (.inl ⟨h1,d',h2,ir hv h⟩)
  ·exact .inr (.inr ⟨h1,ir hv h⟩)
theorem iw_cons:iw a b c d (x :: w)=if a.elem x=true then iw a b c (d+1) w else if b.elem x=true then decide (1≤d)&&iw a b c (d - 1) w else c.elem x&&iw a b c d w:=rfl
section
variable {s0 s1 s2:List Nat} (sk:SgOk s0 s1 s2)
include sk
theorem pN:∀ {w:List Nat} {d:Nat},Gd s0 s1 s2 m e d w→∀ v,iw s0 s1 s2 d (w++v)=iw s0 s1 s2 e v
 | [],d,h,v=>by subst h; rfl
 | c :: w,d,h,v=>by
  rw [List.cons_append,iw_cons]
  rcases h with ⟨h1,h2,h⟩ | ⟨h1,d',h2,h⟩ | ⟨h1,h⟩
  ·rw [if_pos (List.elem_iff.mpr h1)]; exact pN (d:=d+1) h v
  ·rw [if_neg fun z=>sk.inB h1 (List.elem_iff.mp z),if_pos (List.elem_iff.mpr h1),h2,show ((d' + 1:Nat):Int) - 1=d' from Int.add_sub_cancel (d':Int) 1,decide_eq_true (show (1:Int)≤((d' + 1:Nat):Int) from Int.ofNat_le.mpr (Nat.le_add_left 1 d')),Bool.true_and]; exact pN h v
  ·rw [if_neg fun z=>(sk.inC h1).1 (List.elem_iff.mp z),if_neg fun z=>(sk.inC h1).2 (List.elem_iff.mp z),List.elem_iff.mpr h1,Bool.true_and]; exact pN h v
theorem j6:∀ {w:List Nat} {d:Nat},Gd s0 s1 s2 m e d w→∀ c∈w,low c=true
 | c :: w,d,h,x,q=>by
  rcases List.mem_cons.mp q with rfl | q
  ·rcases h with ⟨h1,_⟩ | ⟨h1,_⟩ | ⟨h1,_⟩
   ·exact sk.lowA h1
   ·exact sk.lowB h1
   ·exact sk.lowC h1
  ·rcases h with ⟨_,_,h⟩ | ⟨_,d',_,h⟩ | ⟨_,h⟩ <;> exact j6 h x q
end
structure SOk (R:Int) (d:Nat) (ns:List (Int×List Int)):Prop where
 nd:ns.Nodup
 ok:∀ s∈ns,s.2.length=d∧In R s.1∧∀ t∈s.2,In R t
noncomputable def tup:Nat→List (List Int)
 | 0=>[[]]
 | n+1=>(tup n).flatMap fun l=>([0,1,2,3]:List Int).map (· :: l)
theorem qQ:∀ n,(tup n).length=4 ^ n
 | 0=>rfl
 | n+1=>by
  unfold tup
  rw [List.length_flatMap,show (fun l:List Int=>(([0,1,2,3]:List Int).map (· :: l)).length)=fun _=>4 from rfl,List.map_const',List.sum_replicate_nat,qQ n,Nat.pow_succ]
theorem qP (h:R≤4):∀ {l:List Int},(∀ t∈l,In R t)→l∈tup l.length
 | [],_=>.head _
 | x :: l,q=>List.mem_flatMap.mpr ⟨l,qP h fun t mt=>q t (.tail _ mt),List.mem_map.mpr ⟨x,in4 h (q x (.head _)),rfl⟩⟩
theorem vX (h:R≤4) (hd:d≤4) (o:SOk R d ns):ns.length≤1024:=by
 have nd:(ns.map fun s=>s.1 :: s.2).Nodup:=List.Pairwise.map _ (fun a b ne e=>ne (by injection e with e1 e2; exact Prod.ext e1 e2)) o.nd
 have q:=nd.length_le_of_subset (l₂:=tup (d+1)) fun l ml=>by
  obtain ⟨s,ms,rfl⟩:=zA7 ml
  obtain ⟨h1,h2,h3⟩:=o.ok s ms
  have z:=qP h (l:=s.1 :: s.2) (zA1 ⟨h2,h3⟩)
  rw [zB4,h1] at z
  exact z
 rw [zA4,qQ] at q
 exact zB1 q (Nat.pow_le_pow_right (by decide) (Nat.succ_le_succ hd))
theorem rQ (h:fJ n x) (q:n≤m):fJ m x:=⟨h.1,zB1 h.2 q⟩
theorem lT (s:Int×List Int):fJ 2 (stV s):=fu (zA1 ⟨rQ (dQ rfl) (Nat.zero_le _),List.forall_mem_singleton.mpr (kY _)⟩)
theorem uP (ns:List (Int×List Int)):dD (.list (ns.map stV))=true:=dR (n:=3) (dq fun x mx=>by obtain ⟨s,_,rfl⟩:=zA7 mx; exact lT s) (by decide)
theorem om:∀ {l m:List Int},l.map PyData.int=m.map PyData.int→l=m
 | [],[],_=>rfl
 | [],_ :: _,e=>nomatch e
 | _ :: _,[],e=>nomatch e
 | x :: l,y :: m,e=>by
  injection e with e1 e2
  injection e1 with e1
  rw [e1,om e2]
theorem zT (h:PyData.eqv (stV s) (stV s')=true):s=s':=by
 obtain ⟨h1,h2⟩:=zA2 (show ((s.1==s'.1)&&(PyData.eqvAll (s.2.reverse.map .int) (s'.2.reverse.map .int)&&true))=true from h)
 have sc:∀ l:List Int,∀ x∈l.map PyData.int,aL x=true:=fun l x mx=>by obtain ⟨i,_,rfl⟩:=zA7 mx; rfl
 exact Prod.ext (eq_of_beq h1) (List.reverse_inj.mp (om (je (sc _) (sc _) (zA2 h2).1)))
theorem vP {s:Int×List Int} {fs:List (Int×List Int)}:((fs.map stV).any fun z=>PyData.eqv z (stV s))=true ↔ s∈fs:=by
 rw [List.any_eq_true]
 constructor
 ·rintro ⟨x,mx,e⟩
  obtain ⟨i,mi,rfl⟩:=zA7 mx
  exact zT e▸mi
 ·exact fun h=>⟨_,List.mem_map.mpr ⟨s,h,rfl⟩,PySem.SeqAt.eqv_refl _ (lT s).1⟩
theorem AN {ws:List W} {c:Nat} {ns fs:List (Int×List Int)} (h:∀ s',s'∈fs ↔ ∃ s∈ns,∃ w∈ws,fo w s.1 s.2 c=some s'):(fun q p=>(q,p)∈fs)=nx ws c fun q p=>(q,p)∈ns:=by
 funext q p
 refine propext ((h _).trans ⟨fun ⟨s,ms,w,mw,e⟩=>?_,fun z=>?_⟩)
 ·rcases step_iff.mp e with ⟨rfl,rfl⟩ | ⟨t,rfl,rfl⟩ | ⟨t,rfl,e'⟩
  ·exact .on s.1 ms mw
  ·exact .op s.1 t s.2 rfl ms mw
  ·exact .cl s.1 t ((show (s.1,t :: p)=s from Prod.ext rfl e'.symm)▸ms) mw
 ·rcases z with ⟨q0,z,mw⟩ | ⟨q0,t,p0,rfl,z,mw⟩ | ⟨q0,t,z,mw⟩
  ·exact ⟨_,z,_,mw,step_iff.mpr (.inl ⟨rfl,rfl⟩)⟩
  ·exact ⟨_,z,_,mw,step_iff.mpr (.inr (.inl ⟨t,rfl,rfl⟩))⟩
  ·exact ⟨_,z,_,mw,step_iff.mpr (.inr (.inr ⟨t,rfl,rfl⟩))⟩
theorem ww {s0 s1 s2:List Nat} {R:Int} {ws:List W} {c d d':Nat} (m:MOk s0 s1 s2 R ws) (hd:(c∈s0∧d'=d+1)∨(c∈s1∧d=d' + 1)∨(c∈s2∧d'=d)) (mw:w∈ws) {s s':Int×List Int} (h:s.2.length=d∧In R s.1∧∀ t∈s.2,In R t) (e:fo w s.1 s.2 c=some s'):s'.2.length=d'∧In R s'.1∧∀ t∈s'.2,In R t:=by
 obtain ⟨q',p'⟩:=s'
 obtain ⟨h1,h2,h3⟩:=h
 have ok:=m.ok w mw
 rcases step_iff.mp e with ⟨rfl,rfl⟩ | ⟨t,rfl,rfl⟩ | ⟨t,rfl,e'⟩
 ·rcases hd with ⟨hc,rfl⟩ | ⟨hc,rfl⟩ | ⟨hc,rfl⟩
  ·exact absurd hc (m.sk.inC ok.2.1).1
  ·exact absurd hc (m.sk.inC ok.2.1).2
  ·exact ⟨h1,ok.2.2,h3⟩
 ·rcases hd with ⟨hc,rfl⟩ | ⟨hc,rfl⟩ | ⟨hc,rfl⟩
  ·exact ⟨congrArg (· + 1) h1,ok.2.2.1,zA1 ⟨ok.2.2.2,h3⟩⟩
  ·exact absurd ok.2.1 (m.sk.inB hc)
  ·exact absurd ok.2.1 (m.sk.inC hc).1
 ·rcases hd with ⟨hc,rfl⟩ | ⟨hc,rfl⟩ | ⟨hc,rfl⟩
  ·exact absurd hc (m.sk.inB ok.2.2.1)
  ·rw [e',zB4] at h1
   rw [e'] at h3
   exact ⟨Nat.succ.inj h1,ok.2.2.2,(List.forall_mem_cons.mp h3).2⟩
  ·exact absurd ok.2.2.1 (m.sk.inC hc).2
theorem yA:aT .In (.int q) (aB en)=some (decide (q∈en)):=by
 obtain ⟨t,e,h⟩:=yz (q:=q) (en:=en)
 rw [e,decide_eq_decide.mpr h.symm]
 cases t <;> rfl
theorem wL (o:Option (Int×List Int)):noX (xX o)=true:=by cases o <;> rfl
def S29 (cf:aj):Prop:=∀ s0 s1 s2 R st en ws w K,MOk s0 s1 s2 R ws→RoomsOk R st→Gd s0 s1 s2 4 0 0 w→w.length≤1000→(∀ b,(b=true ↔ Acc ws st en w)→K (.bool b))→cf 29 [aQ (sg s0 s1 s2) R st en ws,text w] K
noncomputable def fe (s0 s1 s2:List Nat) (R:Int) (st en:List Int) (ws:List W) (w:List Nat) (ns:List (Int×List Int)) (z3:Slot) (z4:Slot) (z5:Slot) (z6:Slot) (z7:Slot) (z8:Slot) (z9:Slot) (z10:Slot):Gs:=[.v (aQ (sg s0 s1 s2) R st en ws),.v (text w),.v (.list (ns.map stV)),z3,z4,z5,z6,z7,z8,z9,z10]
inductive Ip29_1 (s0 s1 s2:List Nat) (R:Int) (ws:List W) (w:List Nat) (st en:List Int) (xs:List V) (G:Gs):Prop
 | mk (ns:List (Int×List Int)) (d:Nat) (u:List Nat) (s3:Slot) (s4:Slot) (s5:Slot) (s6:Slot) (s7:Slot) (s8:Slot) (e9_:xs=ba u) (e10_:(∀ y∈u,low y=true)) (e11_:Gd s0 s1 s2 4 0 d u) (e12_:d≤4) (e13_:SOk R d ns) (e14_:lL ws u (fun q p=>(q,p)∈ns)=lL ws w (st0 st)) (e15_:G=(fe s0 s1 s2 R st en ws w ns s3 s4 s5 s6 s7 s8 .unset .unset)):Ip29_1 s0 s1 s2 R ws w st en xs G
inductive Ip29_2 (R:Int) (d':Nat) (s0 s1 s2:List Nat) (st en:List Int) (ws:List W) (w:List Nat) (ns:List (Int×List Int)) (c:Nat) (G:Gs) (fs:List (Int×List Int)):Prop
 | mk (e0_:SOk R d' fs) (s5:Slot) (s6:Slot) (s7:Slot) (s8:Slot) (e5_:G=(fe s0 s1 s2 R st en ws w ns (.v (text [c])) (.ownL (fs.map stV)) s5 s6 s7 s8 .unset .unset)):Ip29_2 R d' s0 s1 s2 st en ws w ns c G fs
inductive Ip29_3 (R:Int) (d':Nat) (s0 s1 s2:List Nat) (st en:List Int) (ws:List W) (w:List Nat) (ns:List (Int×List Int)) (c:Nat) (s:Int×List Int) (G:Gs) (fs:List (Int×List Int)):Prop
 | mk (e0_:SOk R d' fs) (s7:Slot) (s8:Slot) (e3_:G=(fe s0 s1 s2 R st en ws w ns (.v (text [c])) (.ownL (fs.map stV)) (.v (.int s.1)) (.v (cI s.2)) s7 s8 .unset .unset)):Ip29_3 R d' s0 s1 s2 st en ws w ns c s G fs
theorem p29 (cf:aj) (h28:S28 cf):S29 (step cf):=fun s0 s1 s2 R st en ws w K m os gw lw h=>by
 refine run (fn:=f29) rfl rfl rfl ?_
 have hst:(st.map PyData.int).length≤5000:=by rw [zA4]; exact zB1 os.len (by decide)
 refine af (v:=.list (st.map fun i=>stV (i,[]))) (dg (g:=.int) (x:=aB st) ix (bn hst) fun i _=>ix) ?_
 have o0:SOk R 0 (st.map fun i=>(i,[])):=⟨List.Pairwise.map _ (fun a b ne e=>ne (by injection e)) os.nodup,fun s ms=>by
  obtain ⟨i,mi,rfl⟩:=zA7 ms
  exact ⟨rfl,os.rooms i mi,fun _ q=>nM q⟩⟩
 have r0:(fun q p=>(q,p)∈st.map fun i=>(i,([]:List Int)))=st0 st:=by
  funext q p
  refine propext ⟨fun z=>?_,fun Zq1=>Zq1.elim fun z1 z2=>List.mem_map.mpr ⟨q,z1,by rw [z2]⟩⟩
  refine (zA7 z).elim fun i Zq5=>Zq5.elim fun mi e=>?_
  injection e with e1 e2
  exact ⟨e1▸mi,e2.symm⟩
 refine cZ (xs:=ba w) (v:=text w) (P:=Ip29_1 s0 s1 s2 R ws w st en)
  ix (eG (zB1 lw (by decide))) ⟨st.map fun i=>(i,[]),0,w,_,_,_,_,_,_,rfl,j6 m.sk gw,gw,Nat.zero_le _,o0,by rw [r0],by unfold fe; rw [List.map_map]; rfl⟩ (fun G hP=>?_) fun y l G Kt hP nx rt=>?_
 ·obtain ⟨ns,d,u,s3,s4,s5,s6,s7,s8,e,_,_,hd,o,hr,rfl⟩:=hP
  cases u with
  | cons=>(injection e; done)
  | nil=>
   have hz:(ns.map stV).length≤5000:=by rw [zA4]; exact zB1 (vX m.r hd o) (by decide)
   refine az (ae (kA (g:=stV) (f:=fun s=>.int s.1) (p:=fun s=>decide (s.1∈en)) (H:=fun s=>(fe s0 s1 s2 R st en ws w ns s3 s4 s5 s6 s7 s8 (.v (.int s.1)) (.v (cI s.2)))) ix (bn hz) (fun s _=>rfl) (fun s _=>.one (ae (x:=.int s.1) (y:=aB en) ix ix yA)) fun s _ _=>ix) ix (rH fun x mx=>?_)) (h _ ?_)
   ·obtain ⟨s,_,rfl⟩:=zA7 mx
    exact rQ (dQ rfl) (Nat.zero_le _)
   ·unfold Acc
    rw [← hr,Bool.not_eq_true',List.isEmpty_eq_false_iff_exists_mem]
    constructor
    ·rintro ⟨x,mx⟩
     obtain ⟨s,ms,rfl⟩:=zA7 mx
     obtain ⟨ms,q⟩:=List.mem_filter.mp ms
     exact ⟨s.1,s.2,ms,of_decide_eq_true q⟩
    ·rintro ⟨q,p,z,hq⟩
     exact ⟨_,List.mem_map.mpr ⟨(q,p),List.mem_filter.mpr ⟨z,decide_eq_true hq⟩,rfl⟩⟩
 ·obtain ⟨ns,d,u,s3,s4,s5,s6,s7,s8,e,hu,gu,hd,o,hr,rfl⟩:=hP
  cases u with
  | nil=>(injection e; done)
  | cons c u=>
   obtain ⟨rfl,rfl⟩:=zA5 e
   have lc:=hu c (.head _)
   have hz:(ns.map stV).length≤5000:=by rw [zA4]; exact zB1 (vX m.r hd o) (by decide)
   obtain ⟨d',hd',hc,gu'⟩:∃ d',d'≤4∧((c∈s0∧d'=d+1)∨(c∈s1∧d=d' + 1)∨(c∈s2∧d'=d))∧Gd s0 s1 s2 4 0 d' u:=by
    rcases gu with ⟨h1,h2,z⟩ | ⟨h1,d',h2,z⟩ | ⟨h1,z⟩
    ·exact ⟨d+1,h2,.inl ⟨h1,rfl⟩,z⟩
    ·exact ⟨d',Nat.le_of_succ_le (zB1 (zB2 h2.symm) hd),.inr (.inl ⟨h1,h2⟩),z⟩
    ·exact ⟨d,hd,.inr (.inr ⟨h1,rfl⟩),z⟩
   refine ia ?_
   refine fR (op:=.forM [5,6]) (g:=stV) (xs:=ns) (fs:=[]) (A:=fun s s'=>∃ w∈ws,fo w s.1 s.2 c=some s') (J:=Ip29_2 R d' s0 s1 s2 st en ws w ns c) (fun _ _ _ _ _ h=>h) ix (bn hz) ⟨⟨.nil,fun _ q=>nM q⟩,_,_,_,_,rfl⟩ (fun s ms G fs Kt j nx=>?_) fun G fs j hf=>?_
   ·obtain ⟨jo,s5,s6,s7,s8,rfl⟩:=j
    refine al (z:=(fe s0 s1 s2 R st en ws w ns (.v (text [c])) (.ownL (fs.map stV)) (.v (.int s.1)) (.v (cI s.2)) s7 s8 .unset .unset)) rfl ?_
    refine fR (op:=.forS 7) (g:=W.v) (xs:=ws) (fs:=fs) (A:=fun w s'=>fo w s.1 s.2 c=some s') (J:=Ip29_3 R d' s0 s1 s2 st en ws w ns c s) (fun _ _ _ _ _ h=>h) (v:=bC ws) ix (jW m) ⟨jo,_,_,rfl⟩ (fun v mv G fs Kt j nx=>?_) fun G fs' j hf=>aD (nx _ fs' ?_ hf)
    ·obtain ⟨jo,s7,s8,rfl⟩:=j
     refine al (z:=(fe s0 s1 s2 R st en ws w ns (.v (text [c])) (.ownL (fs.map stV)) (.v (.int s.1)) (.v (cI s.2)) (.v v.v) s8 .unset .unset)) rfl ?_
     have hs:=o.ok s ms
     refine af (v:=xX (fo v s.1 s.2 c)) (ar (vs:=[v.v,.int s.1,cI s.2,text [c]]) (.cons ix (.cons ix (.two ix ix))) (fun K h=>h28 s0 s1 s2 R v s.1 s.2 c K m.sk (m.ok v mv) lc (by exact hs.1.symm▸zB1 hd (by decide)) h) (wL _)) ?_
     cases hv:fo v s.1 s.2 c with
     | none=>exact aG (av (.stop (b:=true) (show Val _ _ _ (.bool false) from ix))) (aD (nx _ fs ⟨jo,_,_,rfl⟩ (cN fun p e=>nomatch hv.symm.trans e)))
     | some s'=>
      have hs':=ww m hc mv hs hv
      have lf:=vX m.r hd' jo
      refine bQ (av (.go (b:=true) (show Val _ _ _ (.bool true) from ix) (.one (tT (l:=fs.map stV) rfl (ae (x:=stV s') (y:=.list (fs.map stV)) ix ix (u4 (dR (lT s') (by decide)) (uP fs))))))) (fun q=>?_) fun q=>aD (nx _ fs ⟨jo,_,_,rfl⟩ fun p=>⟨.inl,fun z=>z.elim id fun z=>?_⟩)
      ·have nm:s'∉fs:=fun z=>by rw [vP.mpr z] at q; (injection q; done)
       refine cE (l:=fs.map stV) rfl (v:=stV s') ix (by rw [zA4]; exact Nat.lt_of_le_of_lt lf (by decide)) (aD (nx _ (fs++[s']) ⟨⟨List.nodup_append.mpr ⟨jo.nd,List.pairwise_singleton _ _,fun a ha b hb e=>nm (by obtain rfl:=zA6 hb; exact e▸ha)⟩,fun a ha=>?_⟩,_,_,by unfold fe; rw [List.map_append]; rfl⟩ fun p=>?_))
       ·rcases List.mem_append.mp ha with ha | ha
        ·exact jo.ok a ha
        ·obtain rfl:=zA6 ha; exact hs'
       ·rw [List.mem_append,List.mem_singleton]
        exact or_congr_right ⟨fun e=>by rw [e,hv],fun e=>Option.some.inj (e.symm.trans hv)⟩
      ·obtain rfl:=Option.some.inj (hv.symm.trans z)
       exact vP.mp (hJ q)
    ·obtain ⟨jo,s7,s8,rfl⟩:=j
     exact ⟨jo,_,_,_,_,rfl⟩
   ·obtain ⟨jo,s5,s6,s7,s8,rfl⟩:=j
    refine eB (l:=fs.map stV) rfl (af (v:=.list (fs.map stV)) ix (aD (nx _ ⟨fs,d',u,_,_,_,_,_,_,rfl,fun y my=>hu y (.tail _ my),gu',hd',jo,?_,rfl⟩)))
    exact (AN (ws:=ws) (c:=c) (ns:=ns) (fs:=fs) fun s'=>(hf s').trans ⟨fun q=>q.elim (fun q=>nM q) id,.inr⟩).symm▸hr
theorem ig (he:Val cf G e (text s)) (hi:Val cf G ei (.int i)) (hs:s≠[]) (hl:s.length≤4):∃ x∈s,Val cf G (sbE e (mdE ei (lnE e))) (text [x]):=by
 have hp:=List.length_pos_iff.mpr hs
 have hz:s.length≤5000:=zB1 hl (by decide)
 have lt:=iR (cell:=i) hp
 exact ⟨_,List.getElem_mem lt,aa (.two he (aa (.two hi (aa (.one he) (il hz))) (bO (Int.ofNat_lt.mpr hp)))) (qr hz (aJ _ (Int.ofNat_lt.mpr hp)) (List.getElem?_eq_getElem lt))⟩
theorem jn (h:∀ c∈s0,low c=true):aT .NotEq (text s0) (.str k0)=some (!s0.isEmpty):=iJ (dO h)
theorem dW (h:(!s.isEmpty)=true):s≠[]:=fun e=>by subst e; (injection h; done)
theorem v5 (h:Gd s0 s1 s2 m d 0 w) (hc:c∈s0) (hd:d < m):Gd s0 s1 s2 m (d+1) 0 (w++[c]):=ir (v:=[c]) (.inl ⟨hc,hd,rfl⟩) h
theorem tF (h:Gd s0 s1 s2 m (d+1) 0 w) (hc:c∈s1):Gd s0 s1 s2 m d 0 (w++[c]):=ir (v:=[c]) (.inr (.inl ⟨hc,d,rfl,rfl⟩)) h
theorem v4 (h:Gd s0 s1 s2 m d 0 w) (hc:c∈s2):Gd s0 s1 s2 m d 0 (w++[c]):=ir (v:=[c]) (.inr (.inr ⟨hc,rfl⟩)) h
theorem len1 (h:w.length+1≤n):(w++[c]).length≤n:=by rw [zB5]; exact h
def S30 (cf:aj):Prop:=∀ s0 s1 s2 (cs:List Int) K,SgOk s0 s1 s2→cs.length≤20→(∀ w,Gd s0 s1 s2 4 0 0 w→w.length≤40→K (text w))→cf 30 [sg s0 s1 s2,.list (cs.map .int)] K
noncomputable def iu (s0 s1 s2:List Nat) (cs:List Int) (w:List Nat) (d:Nat) (z4:Slot) (z5:Slot):Gs:=[.v (sg s0 s1 s2),.v (.list (cs.map .int)),.v (text w),.v (.int (d:Int)),z4,z5]
inductive Ip30_1 (s0 s1 s2:List Nat) (cs:List Int) (xs:List V) (G:Gs):Prop
 | mk (is:List Int) (w:List Nat) (d:Nat) (s4:Slot) (e4_:xs=is.map .int) (e5_:Gd s0 s1 s2 4 d 0 w) (e6_:d≤4) (e7_:(d≠0→s1≠[])) (e8_:w.length+is.length≤20) (e9_:G=(iu s0 s1 s2 cs w d s4 .unset)):Ip30_1 s0 s1 s2 cs xs G
inductive Ip30_2 (s0 s1 s2:List Nat) (cs:List Int) (d:Nat) (s4:Slot) (xs:List V) (G:Gs):Prop
 | mk (is:List Int) (w:List Nat) (s5:Slot) (e3_:xs=is.map .int) (e4_:Gd s0 s1 s2 4 is.length 0 w) (e5_:(is≠[]→s1≠[])) (e6_:w.length+is.length≤40) (e7_:G=(iu s0 s1 s2 cs w d s4 s5)):Ip30_2 s0 s1 s2 cs d s4 xs G
theorem p30 (cf:aj):S30 (step cf):=fun s0 s1 s2 cs K sk lc h=>by
 refine run (fn:=f30) rfl rfl rfl (af ix (af ix ?_))
 refine cZ (P:=Ip30_1 s0 s1 s2 cs) ix (bn (by rw [zA4]; exact zB1 lc (by decide))) ⟨cs,[],0,_,rfl,rfl,Nat.zero_le _,fun q=>absurd rfl q,by rw [List.length_nil,Nat.zero_add]; exact lc,rfl⟩ (fun G hP=>?_) fun x l G Kt hP nx rt=>?_
 ·obtain ⟨is,w,d,s4,_,gw,hd,hs,lw,rfl⟩:=hP
  have lw:w.length≤20:=zB1 (Nat.le_add_right _ _) lw
  refine cZ (P:=Ip30_2 s0 s1 s2 cs d s4) (br ix (Int.natCast_nonneg d) (Int.le_trans (Int.ofNat_le.mpr hd) (by decide))) (bk (Int.le_trans (Int.ofNat_le.mpr hd) (by decide))) ⟨(List.range d).map fun i:Nat=>0+(i:Int),w,_,by rw [range_eq,List.map_map]; rfl,by rw [zA4,List.length_range]; exact gw,fun q=>hs fun e=>q (by rw [e]; rfl),by rw [zA4,List.length_range]; exact zB1 (Nat.add_le_add lw hd) (by decide),rfl⟩ (fun G hP=>?_) fun x l G Kt hP nx rt=>?_
  ·obtain ⟨is,w,s5,e,gw,_,lw,rfl⟩:=hP
   obtain rfl:=List.map_eq_nil_iff.mp e.symm
   exact az (v:=text w) ix (h w gw (zB1 (Nat.le_add_right _ _) lw))
  ·obtain ⟨is,w,s5,e,gw,hs,lw,rfl⟩:=hP
   cases is with
   | nil=>(injection e; done)
   | cons i is=>
    obtain ⟨rfl,rfl⟩:=zA5 e
    rw [zB4,← Nat.add_assoc] at lw
    have lw':w.length≤40:=zB1 (Nat.le_add_right _ _) (Nat.le_of_succ_le lw)
    have hs':=hs nofun
    refine (ig (cf:=cf) (G:=(iu s0 s1 s2 cs w d s4 (.v (.int i)))) (e:=(sbE (vv 0) (ii 1))) (ei:=(adE (lnE (vv 2)) (vv 5))) (i:=(w.length:Int)+i) (s:=s1) ix (aa (.two (aa (.one ix) (il (zB1 lw' (by decide)))) ix) rfl) hs' sk.lb).elim fun y Zq26=>Zq26.elim fun my hy=>?_
    refine af (v:=text (w++[y])) (aa (.two ix hy) (ch (len1 (zB1 (Nat.succ_le_succ lw') (by decide))))) (aD (nx _ ⟨is,w++[y],_,rfl,tF gw my,fun _=>hs',?_,rfl⟩))
    rw [zB5,List.length_singleton,Nat.add_right_comm]; exact lw
 ·obtain ⟨is,w,d,s4,e,gw,hd,hs,lw,rfl⟩:=hP
  cases is with
  | nil=>(injection e; done)
  | cons i is=>
   obtain ⟨rfl,rfl⟩:=zA5 e
   rw [zB4,← Nat.add_assoc] at lw
   have lw1:=Nat.le_of_succ_le lw
   have lw2:∀ c,(w++[c]).length+is.length≤20:=fun c=>by rw [zB5,List.length_singleton,Nat.add_right_comm]; exact lw
   have lw':w.length≤20:=zB1 (Nat.le_add_right _ _) lw1
   have ad:∀ {y:Nat},(w++[y]).length≤5000:=fun {y}=>len1 (zB1 (Nat.succ_le_succ lw') (by decide))
   have pk:∀ {k:Int} {s:List Nat},Val cf (iu s0 s1 s2 cs w d (.v (.int i)) .unset) (sbE (vv 0) (ii k)) (text s)→s≠[]→s.length≤4→∃ y∈s,Val cf (iu s0 s1 s2 cs w d (.v (.int i)) .unset) (adE (vv 2) (sbE (sbE (vv 0) (ii k)) (mdE (fdE (vv 4) (ii 3)) (lnE (sbE (vv 0) (ii k)))))) (text (w++[y])):=fun hv hn hl=>by
    refine (ig (i:=i.fdiv 3) (ei:=(fdE (vv 4) (ii 3))) hv (aa (.two ix ix) (dY (by decide) (by decide))) hn hl).elim fun y Zq38=>Zq38.elim fun my hy=>?_
    exact ⟨y,my,aa (.two ix hy) (ch ad)⟩
   have m3:Val cf (iu s0 s1 s2 cs w d (.v (.int i)) .unset) (mdE (vv 4) (ii 3)) (.int (i.fmod 3)):=aa (.two ix ix) (bO (by decide))
   refine bQ (av (.and (ae m3 ix oP) fun _=>.and (ae (x:=.int d) ix ix (t:=decide ((d:Int) < 4)) rfl) fun _=>.and (ae (x:=text s0) ix ix (jn fun c q=>sk.lowA q)) fun _=>.one (ae (x:=text s1) ix ix (jn fun c q=>sk.lowB q)))) (fun q=>?_) fun q=>?_
   ·obtain ⟨_,q⟩:=zA2 q
    obtain ⟨q1,q⟩:=zA2 q
    obtain ⟨q2,q3⟩:=zA2 q
    have hd4:d < 4:=Int.ofNat_lt.mp (of_decide_eq_true q1)
    refine (pk (k:=0) ix (dW q2) sk.la).elim fun y Zq39=>Zq39.elim fun my hy=>?_
    exact af hy (af (v:=.int ((d:Int)+1)) ix (aD (nx _ ⟨is,w++[y],d+1,_,rfl,v5 gw my hd4,hd4,fun _=>dW q3,lw2 y,rfl⟩)))
   ·refine bQ (av (.and (ae m3 ix oP) fun _=>.one (ae (x:=.int d) ix ix (t:=decide (0 < (d:Int))) rfl))) (fun q=>?_) fun q=>?_
    ·obtain ⟨_,q⟩:=zA2 q
     cases d with
     | zero=>exact absurd (of_decide_eq_true q) (by decide)
     | succ d=>
      obtain ⟨y,my,hy⟩:=pk (k:=1) ix (hs nofun) sk.lb
      exact af hy (af (v:=.int (((d+1:Nat):Int) - 1)) ix (aD (nx _ ⟨is,w++[y],d,_,rfl,tF gw my,Nat.le_of_succ_le hd,fun _=>hs nofun,lw2 y,by rw [show ((d+1:Nat):Int) - 1=d from Int.add_sub_cancel (d:Int) 1]; rfl⟩)))
    ·refine bQ (ae (x:=text s2) ix ix (jn fun c q=>sk.lowC q)) (fun q=>?_) fun q=>aD (nx _ ⟨is,w,d,_,rfl,gw,hd,hs,lw1,rfl⟩)
     obtain ⟨y,my,hy⟩:=pk (k:=2) ix (dW q) sk.lc
     exact af hy (aD (nx _ ⟨is,w++[y],d,_,rfl,v4 gw my,hd,hs,lw2 y,rfl⟩))
def S27 (cf:aj):Prop:=∀ s0 s1 s2 R st en ws K,ah s0 s1 s2 R st en ws→(∀ st' en' r,Held st en (ws.map W.v) st' en' r→K (bg (sg s0 s1 s2) R st' en' r))→cf 27 [aQ (sg s0 s1 s2) R st en ws] K
theorem lO (h:l.length≤5000):opN .listOf [.list l]=some (.list l):=by
 refine (?_:(dI l l).map _=_)
 rw [show dI l l=some l from if_pos (cw h)]; rfl
theorem p27 (cf:aj) (h14:S14 cf):S27 (step cf):=fun s0 s1 s2 R st en ws K g h=>by
 refine run (fn:=f27) rfl rfl rfl ?_
 have ln:∀ {α:Type} {f:α→V} {l:List α} {n:Nat},l.length≤n→n≤5000→(l.map f).length≤5000:=fun h h'=>by rw [zA4]; exact zB1 h h'
 have hv:fG cf [.v (aQ (sg s0 s1 s2) R st en ws)] [sbE (vv 0) (ii 0),sbE (vv 0) (ii 1),.nd .listOf [(sbE (vv 0) (ii 2))],.nd .listOf [(sbE (vv 0) (ii 3))],.nd .listOf [(sbE (vv 0) (ii 4))]] [sg s0 s1 s2,.int R,aB st,aB en,bC ws]:=
  .cons ix (.cons ix (.cons (aa (.one ix) (lO (ln g.st.len (by decide)))) (.two (aa (.one ix) (lO (ln g.en.len (by decide)))) (aa (.one ix) (lO (ln (Nat.le_of_lt g.len) (by decide)))))))
 exact hv (fun xs=>cf 14 xs fun y=>noX y=true∧noX y=true∧K y) (h14 s0 s1 s2 R st en ws _ g fun st' en' r hd=>⟨rfl,rfl,h st' en' r hd⟩)
def B9 (cf:aj):Prop:=∀ K:V→Prop,K (.bool true)→cf 22 [gz 2,.int 1] K
theorem Cg (cf:aj):B9 (step cf):=fun K=>c22 ix ix ix ix
def S32 (cf:aj):Prop:=∀ s0 s1 s2 R st en ws x K,MOk s0 s1 s2 R ws→st.length≤40→(∀ i∈st,In R i)→en.length≤40→vOk x=true→iwV s0 s1 s2 x=false→K (.bool true)→cf 32 [bg (sg s0 s1 s2) R st en (ws.map W.v),x] K
theorem p32 (cf:aj) (h9:S9 cf) (h22:B9 cf):S32 (step cf):=fun s0 s1 s2 R st en ws x K m ls is le hx hw h=>by
 refine run (fn:=f32) rfl rfl rfl (yH (.two ix ix) (h9 s0 s1 s2 R st en ws x _ m ls is le hx (fun t e hi=>?_) fun _=>⟨rfl,?_⟩))
 ·subst e
  exact nomatch hi.symm.trans hw
 ·exact az (v:=.bool true) (ar (vs:=[gz 2,.int 1]) (.two ix ix) fun K h=>h22 K h) ⟨rfl,h⟩
theorem AD {w u:W} (h:w.v=u.v):w=u:=by
 have h:w.l=u.l:=PyData.tuple.inj h
 have ne1:kOn≠aR:=by decide
 have ne2:kOn≠aH:=by decide
 have ne3:aR≠aH:=by decide
 have tx:∀ {a b:Nat},text [a]=text [b]→a=b:=fun e=>(zA5 (congrArg (fun s:Str=>s.cps.toList) (PyData.str.inj e))).1
 cases w <;> cases u <;> (first | (injection h with h0 h; exact absurd (PyData.str.inj h0) (by first | exact ne1 | exact ne2 | exact ne3 | exact ne1.symm | exact ne2.symm | exact ne3.symm)) | skip)
 ·injection h with h0 h; injection h with h1 h; injection h with h2 h; injection h with h3 h
  rw [PyData.int.inj h1,tx h2,PyData.int.inj h3]
 ·injection h with h0 h; injection h with h1 h; injection h with h2 h; injection h with h3 h; injection h with h4 h
  rw [PyData.int.inj h1,tx h2,PyData.int.inj h3,PyData.int.inj h4]
 ·injection h with h0 h; injection h with h1 h; injection h with h2 h; injection h with h3 h; injection h with h4 h
  rw [PyData.int.inj h1,PyData.int.inj h2,tx h3,PyData.int.inj h4]
theorem qL {ws:List W}:∀ {r:List V},(∀ y∈r,y∈ws.map W.v)→∃ us:List W,r=us.map W.v∧∀ u∈us,u∈ws
 | [],_=>⟨[],rfl,fun _ q=>nM q⟩
 | y :: r,h=>by
  obtain ⟨us,e,hu⟩:=qL fun z q=>h z (.tail _ q)
  obtain ⟨w,mw,rfl⟩:=zA7 (h y (.head _))
  exact ⟨w :: us,by rw [e]; rfl,zA1 ⟨mw,hu⟩⟩
theorem rL {s0 s1 s2:List Nat} {R:Int} {st en:List Int} {ws:List W} {st' en':List Int} {r:List V} (g:ah s0 s1 s2 R st en ws) (h4:R≤4) (hd:Held st en (ws.map W.v) st' en' r):∃ us:List W,r=us.map W.v∧MOk s0 s1 s2 R us∧∀ w,w∈us ↔ w∈ws:=by
 refine (qL fun y q=>(hd.mem y).mp q).elim fun us Zq4=>Zq4.elim fun e hu=>?_
 have l:=jF hd.nd fun y q=>(hd.mem y).mp q
 rw [e,zA4,zA4] at l
 refine ⟨us,e,⟨g.sk,h4,Nat.lt_of_le_of_lt l g.len,fun w mw=>g.ok w (hu w mw)⟩,fun w=>⟨hu w,fun mw=>?_⟩⟩
 have z:=(hd.mem w.v).mpr (List.mem_map.mpr ⟨w,mw,rfl⟩)
 rw [e] at z
 obtain ⟨u,mu,eu⟩:=zA7 z
 exact AD eu▸mu
noncomputable def rwV (p:List Nat×Nat):V:=.tuple [text p.1,.int p.2]
structure RwOk (s0 s1 s2:List Nat) (n:Nat) (rs:List (List Nat×Nat)):Prop where
 gd:∀ p∈rs,Gd s0 s1 s2 4 p.2 0 p.1∧p.1.length=n∧p.2≤4
theorem iY (h:(a++b).length≤ai):opN (.bin .Add) [.list a,.list b]=some (.list (a++b)):=if_pos h
theorem kE (h:l.length≤ai):bM (.list l)=some l:=if_pos h
theorem lF {K:Option V→Gs→Prop} {r:List S} {t:Bool} {fr:List (List Nat×Nat)} {w:List Nat} {d':Nat} {s:List Nat} (hc:Val cf G c (.bool t)) (h5:Val cf G (vv 5) (.list (fr.map rwV)))
  (he:t=true→Val cf G es (text s)∧(∀ x∈s,Val cf (G.set 8 (.v (text [x]))) ed (rwV (w++[x],d')))∧s.length≤4∧fr.length≤800000)
  (n:∀ fr':List (List Nat×Nat),(∀ p∈fr',p∈fr∨(t=true∧∃ x∈s,p=(w++[x],d')))→fr'.length≤fr.length+4→exs sup cf r (G.set 5 (.v (.list (fr'.map rwV)))) K) (hG:G.set 5 (.v (.list (fr.map rwV)))=G) :
  exs sup cf (.mk .ite [c] [.mk (.assign 5) [adE (vv 5) (.nd (.comp 8) [es,ed])] [] []] [] :: r) G K:=by
 refine bQ hc (fun q=>?_) fun q=>by have z:=n fr (fun p m=>.inl m) (Nat.le_add_right _ _); rw [hG] at z; exact z
 refine (he q).elim fun h1 Zq10=>Zq10.elim fun h2 Zq11=>Zq11.elim fun h3 h4=>?_
 have e:(fr.map rwV++s.map fun x=>rwV (w++[x],d'))=(fr++s.map fun x=>(w++[x],d')).map rwV:=by rw [List.map_append,List.map_map]; rfl
 refine af (v:=.list ((fr++s.map fun x=>(w++[x],d')).map rwV)) (aa (.two h5 (dg (g:=fun x=>text [x]) h1 (eG (zB1 h3 (by decide))) h2)) ?_) (n _ (fun p m=>?_) ?_)
 ·exact e▸iY (by rw [zB5,zA4,zA4]; exact zB1 (Nat.add_le_add h4 h3) (by decide))
 ·rcases List.mem_append.mp m with m | m
  ·exact .inl m
  ·obtain ⟨x,mx,rfl⟩:=zA7 m
   exact .inr ⟨q,x,mx,rfl⟩
 ·rw [zB5,zA4]; exact Nat.add_le_add_left h3 _
def S31 (cf:aj):Prop:=∀ s0 s1 s2 (most:Int) K,SgOk s0 s1 s2→0≤most→most≤4→(∀ fs:List (List Nat),(∀ w∈fs,Gd s0 s1 s2 4 0 0 w∧w.length≤4)→fs.length≤200000→K (.list (fs.map text)))→cf 31 [sg s0 s1 s2,.int most] K
noncomputable def g31 (s0 s1 s2:List Nat) (most:Int) (rows found:Slot) (i:Int) (fr:List (List Nat×Nat)) (w:List Nat) (d:Nat) (s8 s9:Slot):Gs:=[.v (sg s0 s1 s2),.v (.int most),rows,found,.v (.int i),.v (.list (fr.map rwV)),.v (text w),.v (.int d),s8,s9]
theorem ug {s0 s1 s2:List Nat} {most i:Int} {k:Nat} {fr:List (List Nat×Nat)} {w:List Nat} {d:Nat} {K:Option V→Gs→Prop} (sk:SgOk s0 s1 s2) (hm:most≤4) (hi:0≤i) (hk:k≤4) (gw:Gd s0 s1 s2 4 d 0 w∧w.length=k∧d≤4) (of:RwOk s0 s1 s2 (k+1) fr) (lf:fr.length≤700000)
  (n:∀ fr',RwOk s0 s1 s2 (k+1) fr'→fr'.length≤fr.length+12→K none (g31 s0 s1 s2 most rows found i fr' w d s8 s9)) :
  exs sup cf yp (g31 s0 s1 s2 most rows found i fr w d s8 s9) K:=by
 obtain ⟨gw,lw,hd⟩:=gw
 have ad:∀ {y:Nat},(w++[y]).length≤5000:=fun {y}=>len1 (by exact lw.symm▸zB1 (Nat.succ_le_succ hk) (by decide))
 have ln:∀ {y:Nat},(w++[y]).length=k+1:=fun {y}=>by rw [zB5,lw]; rfl
 refine lF (t:=decide (i+1+(d:Int)≤most)) (fr:=fr) (w:=w) (d':=d) (s:=s2) ix ix (fun _=>⟨ix,fun x _=>aa (.two (aa (.two ix ix) (ch ad)) ix) rfl,sk.lc,zB1 lf (by decide)⟩) (fun f1 m1 l1=>?_) rfl
 have o1:RwOk s0 s1 s2 (k+1) f1:=⟨fun p mp=>(m1 p mp).elim (of.gd p) fun Zq1=>Zq1.elim fun _ Zq2=>Zq2.elim fun x Zq3=>Zq3.elim fun mx e=>by subst e; exact ⟨v4 gw mx,ln,hd⟩⟩
 refine lF (t:=decide (i+2+(d:Int)≤most)) (fr:=f1) (w:=w) (d':=d+1) (s:=s0) ix ix (fun _=>⟨ix,fun x _=>aa (.two (aa (.two ix ix) (ch ad)) ix) rfl,sk.la,zB1 l1 (zB1 (Nat.add_le_add_right lf 4) (by decide))⟩) (fun f2 m2 l2=>?_) rfl
 have o2:RwOk s0 s1 s2 (k+1) f2:=⟨fun p mp=>(m2 p mp).elim (o1.gd p) fun Zq4=>Zq4.elim fun q Zq5=>Zq5.elim fun x Zq6=>Zq6.elim fun mx e=>by
  have q:=of_decide_eq_true q
  have hd4:d < 4:=Int.ofNat_lt.mp (Int.lt_of_lt_of_le (Int.lt_add_of_pos_left (d:Int) (Int.add_pos_of_nonneg_of_pos hi (by decide))) (Int.le_trans q hm))
  subst e; exact ⟨v5 gw mx hd4,ln,hd4⟩⟩
 have l2':f2.length≤fr.length+8:=zB1 l2 (Nat.add_le_add_right l1 4)
 refine lF (t:=decide (0 < (d:Int))) (fr:=f2) (w:=w) (d':=d - 1) (s:=s1) ix ix (fun q=>⟨ix,fun x _=>?_,sk.lb,zB1 l2' (zB1 (Nat.add_le_add_right lf 8) (by decide))⟩) (fun f3 m3 l3=>aD (n f3 ⟨fun p mp=>(m3 p mp).elim (o2.gd p) fun ⟨q,x,mx,e⟩=>?_⟩ (zB1 l3 (Nat.add_le_add_right l2' 4)))) rfl
 ·have q:=of_decide_eq_true q
  refine aa (vs:=[text (w++[x]),.int ((d:Int) - 1)]) (.two (aa (.two ix ix) (ch ad)) ix) ?_
  unfold rwV
  rw [show ((d - 1:Nat):Int)=(d:Int) - 1 from Int.ofNat_sub (Int.ofNat_lt.mp q)]; rfl
 ·have q:=of_decide_eq_true q
  subst e
  cases d with
  | zero=>exact absurd q (by decide)
  | succ d=>exact ⟨tF gw mx,ln,Nat.le_of_succ_le hd⟩
noncomputable def mQ (s0 s1 s2:List Nat) (most:Int) (rs:List (List Nat×Nat)) (y3:V) (z4:Slot) (z5:Slot) (z6:Slot) (z7:Slot) (z8:Slot) (z9:Slot):Gs:=[.v (sg s0 s1 s2),.v (.int most),.v (.list (rs.map rwV)),.v y3,z4,z5,z6,z7,z8,z9]
inductive Ip31_1 (s0 s1 s2:List Nat) (most:Int) (xs:List V) (G:Gs):Prop
 | mk (is:List Int) (k:Nat) (rs:List (List Nat×Nat)) (fs:List (List Nat)) (s4 s5 s6 s7:Slot) (e5_:xs=is.map .int) (e6_:(∀ i∈is,0≤i)) (e7_:k+is.length≤5) (e8_:RwOk s0 s1 s2 k rs) (e9_:rs.length≤12 ^ k) (e10_:(∀ w∈fs,Gd s0 s1 s2 4 0 0 w∧w.length≤4)) (e11_:fs.length≤k * 20736) (e12_:G=(mQ s0 s1 s2 most rs (.list (fs.map text)) s4 s5 s6 s7 .unset .unset)):Ip31_1 s0 s1 s2 most xs G
inductive Ip31_2 (rs:List (List Nat×Nat)) (s0 s1 s2:List Nat) (k:Nat) (most:Int) (fs:List (List Nat)) (i:Int) (ys:List V) (G:Gs):Prop
 | mk (ps fr:List (List Nat×Nat)) (s6 s7:Slot) (e2_:ys=ps.map rwV) (e3_:(∀ p∈ps,p∈rs)) (e4_:RwOk s0 s1 s2 (k+1) fr) (e5_:fr.length+12 * ps.length≤12 * rs.length) (e6_:G=(mQ s0 s1 s2 most rs (.list ((fs++(rs.filter fun p=>p.2==0).map Prod.fst).map text)) (.v (.int i)) (.v (.list (fr.map rwV))) s6 s7 .unset .unset)):Ip31_2 rs s0 s1 s2 k most fs i ys G
theorem p31 (cf:aj):S31 (step cf):=fun s0 s1 s2 most K sk m0 m4 h=>by
 refine run (fn:=f31) rfl rfl rfl (af (v:=.list ([(([]:List Nat),0)].map rwV)) ix (af (v:=.list (([]:List (List Nat)).map text)) ix ?_))
 have mn:(most+1).toNat≤5:=Int.toNat_le.mpr (Int.add_le_add_right m4 1)
 refine cZ (P:=Ip31_1 s0 s1 s2 most)
  (br (aa (.two ix ix) rfl) (Int.add_nonneg m0 (by decide)) (Int.le_trans (Int.add_le_add_right m4 1) (by decide))) (bk (Int.le_trans (Int.add_le_add_right m4 1) (by decide)))
  ⟨(List.range (most+1).toNat).map fun i:Nat=>0+(i:Int),0,[([],0)],[],_,_,_,_,by rw [range_eq,List.map_map]; rfl,fun i mi=>by obtain ⟨j,_,rfl⟩:=zA7 mi; exact Int.add_nonneg (by decide) (Int.natCast_nonneg j),by rw [zA4,List.length_range,Nat.zero_add]; exact mn,⟨List.forall_mem_singleton.mpr ⟨rfl,rfl,Nat.zero_le _⟩⟩,Nat.le_refl _,fun _ q=>(nM q),Nat.zero_le _,rfl⟩ (fun G hP=>?_) fun x l G Kt hP nx rt=>?_
 ·obtain ⟨is,k,rs,fs,s4,s5,s6,s7,_,_,lk,_,_,of,lf,rfl⟩:=hP
  exact az (v:=.list (fs.map text)) ix (h fs of (zB1 lf (zB1 (Nat.mul_le_mul_right _ (zB1 (Nat.le_add_right _ _) lk)) (by decide))))
 ·obtain ⟨is,k,rs,fs,s4,s5,s6,s7,e,hi,lk,o,lr,of,lf,rfl⟩:=hP
  cases is with
  | nil=>(injection e; done)
  | cons i is=>
   obtain ⟨rfl,rfl⟩:=zA5 e
   rw [zB4,← Nat.add_assoc] at lk
   have k4:k≤4:=Nat.le_of_succ_le_succ (zB1 (Nat.succ_le_succ (Nat.le_add_right _ _)) lk)
   have r4:rs.length≤20736:=zB1 lr (Nat.pow_le_pow_right (by decide) k4)
   have f4:fs.length≤82944:=zB1 lf (Nat.mul_le_mul_right 20736 k4)
   have i0:=hi i (.head _)
   have sr:bM (.list (rs.map rwV))=some (rs.map rwV):=kE (by rw [zA4]; exact zB1 r4 (by decide))
   have le:(fs++(rs.filter fun p=>p.2==0).map Prod.fst).length≤(k+1) * 20736:=by
    rw [zB5,zA4,Nat.succ_mul]
    exact Nat.add_le_add lf (zB1 (List.length_filter_le _ _) r4)
   refine af (v:=.list ((fs++(rs.filter fun p=>p.2==0).map Prod.fst).map text)) (aa (.two (x:=.list (fs.map text)) ix (kA (g:=rwV) (f:=fun p=>text p.1) (p:=fun p=>p.2==0) (H:=fun p=>(mQ s0 s1 s2 most rs (.list (fs.map text)) (.v (.int i)) s5 s6 s7 (.v (text p.1)) (.v (.int p.2)))) ix sr (fun p _=>rfl) (fun p _=>.one (ae (x:=.int p.2) ix ix ?_)) fun p _ _=>ix)) ?_) ?_
   ·refine congrArg some ?_
    cases p.2 <;> rfl
   ·refine List.map_append.symm▸List.map_map.symm▸?_
    refine iY ?_
    rw [zB5,zA4,zA4]
    exact zB1 (Nat.add_le_add f4 (zB1 (List.length_filter_le _ _) r4)) (by decide)
   ·have of':∀ w∈fs++(rs.filter fun p=>p.2==0).map Prod.fst,Gd s0 s1 s2 4 0 0 w∧w.length≤4:=fun w mw=>by
     refine (List.mem_append.mp mw).elim (fun mw=>?_) fun mw=>?_
     ·exact of w mw
     ·obtain ⟨p,mp,rfl⟩:=zA7 mw
      obtain ⟨mp,q⟩:=List.mem_filter.mp mp
      refine (o.gd p mp).elim fun g1 Zq35=>Zq35.elim fun g2 _=>?_
      rw [eq_of_beq q] at g1
      exact ⟨g1,g2▸k4⟩
    refine af (v:=.list (([]:List (List Nat×Nat)).map rwV)) ix ?_
    refine vc (P:=Ip31_2 rs s0 s1 s2 k most fs i) ix sr ⟨rs,[],_,_,rfl,fun _ m=>m,⟨fun _ q=>nM q⟩,by rw [List.length_nil,Nat.zero_add]; exact Nat.le_refl _,rfl⟩ (fun G hP=>?_) fun y l' G Kt' hP nx' rt'=>?_
    ·obtain ⟨ps,fr,s6,s7,_,_,o',l',rfl⟩:=hP
     refine af (v:=.list (fr.map rwV)) ix (aD (nx _ ⟨is,k+1,fr,fs++(rs.filter fun p=>p.2==0).map Prod.fst,_,_,_,_,rfl,fun j mj=>hi j (.tail _ mj),by rw [Nat.add_right_comm]; exact lk,o',?_,of',le,rfl⟩))
     rw [Nat.pow_succ,Nat.mul_comm]
     exact zB1 (zB1 (Nat.le_add_right _ _) l') (Nat.mul_le_mul_left 12 lr)
    ·obtain ⟨ps,fr,s6,s7,e,mp,o',l',rfl⟩:=hP
     cases ps with
     | nil=>(injection e; done)
     | cons p ps=>
      obtain ⟨rfl,rfl⟩:=zA5 e
      rw [zB4,Nat.mul_succ] at l'
      have lf':fr.length≤700000:=zB1 (zB1 (Nat.le_add_right _ _) l') (zB1 (Nat.mul_le_mul_left 12 r4) (by decide))
      refine al (z:=(mQ s0 s1 s2 most rs (.list ((fs++(rs.filter fun p=>p.2==0).map Prod.fst).map text)) (.v (.int i)) (.v (.list (fr.map rwV))) (.v (text p.1)) (.v (.int p.2)) .unset .unset)) rfl ?_
      refine ug (k:=k) sk m4 i0 k4 (o.gd p (mp p (.head _))) o' lf' fun fr' o'' l''=>nx' _ ⟨ps,fr',_,_,rfl,fun q mq=>mp q (.tail _ mq),o'',?_,rfl⟩
      refine zB1 (Nat.add_le_add_right l'' _) (zB1 (zB2 ?_) l')
      rw [Nat.add_assoc,Nat.add_comm 12]
noncomputable def W.kl:W→List V
 | .on a d _=>[.str kOn,.int a,text [d]]
 | .op a d _ _=>[.str aR,.int a,text [d]]
 | .cl a b d _=>[.str aH,.int a,.int b,text [d]]
noncomputable def W.key (w:W):V:=.tuple w.kl
noncomputable def W.out:W→V
 | .on _ _ b=>.tuple [.int b]
 | .op _ _ b t=>.tuple [.int b,.int t]
 | .cl _ _ _ t=>.int t
theorem tE (sk:SgOk s0 s1 s2) (ok:W.ok s0 s1 s2 R w):∀ x∈w.kl,aL x=true:=fun x mx=>b0 sk ok x (by
 cases w with
 | on a d b=>exact List.mem_of_mem_take (i:=3) mx
 | op a d b t=>exact List.mem_of_mem_take (i:=3) mx
 | cl a b d t=>exact List.mem_of_mem_take (i:=4) mx)
theorem j2 (sk:SgOk s0 s1 s2) (ok:W.ok s0 s1 s2 R w):dp w.key=true:=List.all_eq_true.mpr fun x mx=>by
 have h:=tE sk ok x mx
 cases x with
 | int i=>rfl
 | str s=>exact h
 | _=>(injection h; done)
theorem eqv_key (sk:SgOk s0 s1 s2) (ok:W.ok s0 s1 s2 R w) (ou:W.ok s0 s1 s2 R u) (h:PyData.eqv w.key u.key=true):w.key=u.key:=congrArg PyData.tuple (je (tE sk ok) (tE sk ou) h)
def Det (ws:List W):Prop:=∀ w∈ws,∀ u∈ws,w.key=u.key→w.out=u.out
structure POk (kvs:List (V×V)) (zs:List W):Prop where
 is:∀ p∈kvs,∃ u∈zs,p=(u.key,u.out)
 has:∀ w∈zs,∃ p∈kvs,p.1=w.key
 len:kvs.length≤zs.length
section
variable {s0 s1 s2:List Nat} {R:Int} {ws zs:List W} {kvs:List (V×V)} {w:W} (m:MOk s0 s1 s2 R ws) (hz:∀ u∈zs,u∈ws)
include m hz
theorem uB (dt:Det ws) (o:POk kvs zs) (mw:w∈zs):kj kvs w.key=some w.out:=by
 unfold kj
 cases hf:kvs.find? fun p=>PyData.eqv p.1 w.key with
 | none=>
  obtain ⟨p,mp,e⟩:=o.has w mw
  have z:=List.find?_eq_none.mp hf p mp
  replace z:=e▸z
  exact absurd (PySem.SeqAt.eqv_refl w.key (fu (n:=0) fun x mx=>dQ (tE m.sk (m.ok w (hz w mw)) x mx)).1) z
 | some p=>
  obtain ⟨u,mu,e⟩:=o.is p (List.mem_of_find?_eq_some hf)
  have z:=List.find?_some hf
  subst e
  have z:=eqv_key m.sk (m.ok u (hz u mu)) (m.ok w (hz w mw)) z
  exact congrArg some (dt u (hz u mu) w (hz w mw) z)
theorem wG (o:POk kvs zs) (mw:w∈ws):POk (lM kvs w.key w.out) (zs++[w]):=by
 unfold lM
 by_cases q:(kvs.any fun p=>PyData.eqv p.1 w.key)=true
 ·rw [if_pos q]
  refine ⟨fun p mp=>?_,fun u mu=>?_,?_⟩
  ·obtain ⟨p,mq,rfl⟩:=zA7 mp
   obtain ⟨u,mu,e⟩:=o.is p mq
   by_cases z:PyData.eqv p.1 w.key=true
   ·rw [if_pos z]
    subst e
    exact ⟨w,List.mem_append_right _ (.head _),by rw [eqv_key m.sk (m.ok u (hz u mu)) (m.ok w mw) z]⟩
   ·rw [if_neg z]; exact ⟨u,List.mem_append_left _ mu,e⟩
  ·have up:∀ p∈kvs,∃ p'∈kvs.map (fun p=>if PyData.eqv p.1 w.key=true then (p.1,w.out) else p),p'.1=p.1:=fun p mp=>⟨_,List.mem_map.mpr ⟨p,mp,rfl⟩,by split <;> rfl⟩
   rcases List.mem_append.mp mu with mu | mu
   ·refine (o.has u mu).elim fun p Zq6=>Zq6.elim fun mp e=>?_
    refine (up p mp).elim fun p' Zq7=>Zq7.elim fun mp' e'=>?_
    exact ⟨p',mp',e'.trans e⟩
   ·obtain rfl:=zA6 mu
    obtain ⟨p,mp,z⟩:=List.any_eq_true.mp q
    obtain ⟨p',mp',e'⟩:=up p mp
    obtain ⟨v,mv,e⟩:=o.is p mp
    subst e
    exact ⟨p',mp',e'.trans (eqv_key m.sk (m.ok v (hz v mv)) (m.ok u mw) z)⟩
  ·rw [zA4,zB5]; exact zB1 o.len (Nat.le_add_right _ _)
 ·rw [if_neg q]
  refine ⟨fun p mp=>?_,fun u mu=>?_,by rw [zB5,zB5]; exact Nat.add_le_add_right o.len _⟩
  ·rcases List.mem_append.mp mp with mp | mp
   ·refine (o.is p mp).elim fun u Zq11=>Zq11.elim fun mu e=>?_
    exact ⟨u,List.mem_append_left _ mu,e⟩
   ·obtain rfl:=zA6 mp; exact ⟨w,List.mem_append_right _ (.head _),rfl⟩
  ·rcases List.mem_append.mp mu with mu | mu
   ·refine (o.has u mu).elim fun p Zq12=>Zq12.elim fun mp e=>?_
    exact ⟨p,List.mem_append_left _ mp,e⟩
   ·obtain rfl:=zA6 mu; exact ⟨_,List.mem_append_right _ (.head _),rfl⟩
end
def S34 (cf:aj):Prop:=∀ s0 s1 s2 R st en ws K,MOk s0 s1 s2 R ws→(∀ kvs,POk kvs ws→K (.dict kvs))→cf 34 [aQ (sg s0 s1 s2) R st en ws] K
theorem ri (o:POk kvs zs):noX (.dict kvs)=true:=by
 cases kvs with
 | nil=>rfl
 | cons p r=>
  obtain ⟨u,_,e⟩:=o.is p (.head _)
  subst e
  rfl
inductive Ip34_1 (ws:List W) (s0 s1 s2:List Nat) (R:Int) (st en:List Int) (xs:List V) (G:Gs):Prop
 | mk (zs ys:List W) (kvs:List (V×V)) (x2:Slot) (e3_:xs=ys.map W.v) (e4_:ws=zs++ys) (e5_:POk kvs zs) (e6_:G=[.v (aQ (sg s0 s1 s2) R st en ws),.ownD kvs,x2]):Ip34_1 ws s0 s1 s2 R st en xs G
theorem p34 (cf:aj):S34 (step cf):=fun s0 s1 s2 R st en ws K m h=>by
 refine run (fn:=f34) rfl rfl rfl (jO ?_)
 refine cZ (P:=Ip34_1 ws s0 s1 s2 R st en) (v:=bC ws) ix (jW m) ⟨[],ws,[],_,rfl,rfl,⟨fun _ q=>(nM q),fun _ q=>(nM q),Nat.le_refl _⟩,rfl⟩ (fun G hP=>?_) fun y l G Kt hP nx rt=>?_
 ·obtain ⟨zs,ys,kvs,x2,e,ew,o,rfl⟩:=hP
  obtain rfl:=List.map_eq_nil_iff.mp e.symm
  rw [List.append_nil] at ew
  subst ew
  exact c7 (l:=kvs) rfl (az ix (h kvs o) (ri o))
 ·obtain ⟨zs,ys,kvs,x2,e,ew,o,rfl⟩:=hP
  cases ys with
  | nil=>(injection e; done)
  | cons w ys=>
   obtain ⟨rfl,rfl⟩:=zA5 e
   have mw:w∈ws:=by rw [ew]; exact List.mem_append_right _ (.head _)
   have hz:∀ u∈zs,u∈ws:=fun u mu=>by rw [ew]; exact List.mem_append_left _ mu
   have ok:=m.ok w mw
   have lk:kvs.length < ai:=Nat.lt_of_le_of_lt (zB1 o.len (by have q:=congrArg List.length ew; rw [zB5] at q; rw [q] at *; exact Nat.le_add_right _ _)) (Nat.lt_of_lt_of_le m.len (by decide))
   have fin:=nx [.v (aQ (sg s0 s1 s2) R st en ws),.ownD (lM kvs w.key w.out),.v w.v] ⟨zs++[w],ys,_,_,rfl,by rw [ew,List.append_assoc]; rfl,wG m hz o mw,rfl⟩
   cases w with
   | on a d b=>exact bQ (ae (t:=false) (x:=.str kOn) ix ix ((bK ok_on ok_close).trans (congrArg some (by rfl)))) (fun q=>nB q) fun _=>fK (l:=kvs) rfl (v:=W.out (.on a d b)) ix (x:=W.key (.on a d b)) ix (j2 m.sk ok) lk (aD fin)
   | op a d b t=>exact bQ (ae (t:=false) (x:=.str aR) ix ix ((bK ok_open ok_close).trans (congrArg some (by rfl)))) (fun q=>nB q) fun _=>fK (l:=kvs) rfl (v:=W.out (.op a d b t)) ix (x:=W.key (.op a d b t)) ix (j2 m.sk ok) lk (aD fin)
   | cl a b d t=>exact bq (ae (x:=.str aH) ix ix ((bK ok_close ok_close).trans (congrArg some (by rfl)))) (fK (l:=kvs) rfl (v:=W.out (.cl a b d t)) ix (x:=W.key (.cl a b d t)) ix (j2 m.sk ok) lk (aD fin))
noncomputable def Sg1 (q:Int) (p:List Int):Rel:=fun q' p'=>q'=q∧p'=p
section
variable {s0 s1 s2:List Nat} {R:Int} {ws:List W} {c:Nat} {q x:Int} {p:List Int} (m:MOk s0 s1 s2 R ws) (dt:Det ws)
include m dt
theorem AH (hc:c∈s2) (h:W.on q c x∈ws):nx ws c (Sg1 q p)=Sg1 x p:=by
 funext q' p'
 refine propext ⟨fun z=>?_,fun ⟨e1,e2⟩=>by subst e1 e2; exact .on q ⟨rfl,rfl⟩ h⟩
 rcases z with ⟨q0,⟨rfl,rfl⟩,w⟩ | ⟨q0,t,p0,_,_,w⟩ | ⟨q0,t,_,w⟩
 ·have e:=dt _ w _ h rfl
  injection e with e; injection e with e; injection e with e
  exact ⟨e,rfl⟩
 ·exact absurd (tz m w) (m.sk.inC hc).1
 ·exact absurd (tB m w) (m.sk.inC hc).2
theorem AG (hc:c∈s0) (h:W.op q c x t∈ws):nx ws c (Sg1 q p)=Sg1 x (t :: p):=by
 funext q' p'
 refine propext ⟨fun z=>?_,fun ⟨e1,e2⟩=>by subst e1 e2; exact .op q t p rfl ⟨rfl,rfl⟩ h⟩
 rcases z with ⟨q0,_,w⟩ | ⟨q0,t',p0,rfl,⟨rfl,rfl⟩,w⟩ | ⟨q0,t',_,w⟩
 ·exact absurd hc (m.sk.inC (tA m w)).1
 ·have e:=dt _ w _ h rfl
  injection e with e; injection e with e1 e; injection e with e2 e
  injection e1 with e1; injection e2 with e2
  exact ⟨e1,by rw [e2]⟩
 ·exact absurd hc (m.sk.inB (tB m w))
theorem AI (hc:c∈s1) (h:W.cl q t c x∈ws):nx ws c (Sg1 q (t :: p))=Sg1 x p:=by
 funext q' p'
 refine propext ⟨fun z=>?_,fun ⟨e1,e2⟩=>by subst e1 e2; exact .cl q t ⟨rfl,rfl⟩ h⟩
 rcases z with ⟨q0,_,w⟩ | ⟨q0,t',p0,_,_,w⟩ | ⟨q0,t',⟨rfl,e⟩,w⟩
 ·exact absurd hc (m.sk.inC (tA m w)).2
 ·exact absurd (tz m w) (m.sk.inB hc)
 ·injection e with e1 e2
  subst e1 e2
  have e:=dt _ w _ h rfl
  injection e with e
  exact ⟨e,rfl⟩
end
structure Tot (s0 s1 s2:List Nat) (R:Int) (ws:List W):Prop where
 on:∀ q c,In R q→c∈s2→∃ b,W.on q c b∈ws
 op:∀ q c,In R q→c∈s0→∃ b t,W.op q c b t∈ws
 cl:∀ q t c,In R q→In R t→c∈s1→∃ b,W.cl q t c b∈ws
theorem jg {c:Nat} {s:List Nat} (h:c∉s):s.elem c=false:=Bool.eq_false_iff.mpr fun z=>h (List.elem_iff.mp z)
theorem lJ (m:MOk s0 s1 s2 R ws) (dt:Det ws) (o:POk kvs ws) (mw:w∈ws):g8 (.dict kvs) w.key=some w.out:=
 (if_pos (zA3 ⟨List.all_eq_true.mpr fun p mp=>by
  refine (o.is p mp).elim fun u Zq6=>Zq6.elim fun mu e=>?_
  exact e.symm▸j2 m.sk (m.ok u mu),j2 m.sk (m.ok w mw)⟩)).trans (uB m (fun _ h=>h) dt o mw)
def S35 (cf:aj):Prop:=∀ s0 s1 s2 R i0 en ws kvs w mx K,MOk s0 s1 s2 R ws→Det ws→Tot s0 s1 s2 R ws→POk kvs ws→In R i0→Gd s0 s1 s2 mx 0 0 w→w.length≤1000→(∀ b,(b=true ↔ Acc ws [i0] en w)→K (.bool b))→cf 35 [aQ (sg s0 s1 s2) R [i0] en ws,.dict kvs,text w] K
inductive Ip35_1 (R:Int) (s0 s1 s2:List Nat) (mx:Nat) (ws:List W) (w:List Nat) (i0:Int) (en:List Int) (kvs:List (V×V)) (xs:List V) (G:Gs):Prop
 | mk (q:Int) (p:List Int) (u:List Nat) (x5 x6:Slot) (e4_:xs=ba u) (e5_:In R q) (e6_:(∀ t∈p,In R t)) (e7_:Gd s0 s1 s2 mx 0 p.length u) (e8_:p.length+u.length≤1000) (e9_:lL ws u (Sg1 q p)=lL ws w (st0 [i0])) (e10_:G=[.v (aQ (sg s0 s1 s2) R [i0] en ws),.v (.dict kvs),.v (text w),.v (.int q),.ownL (p.reverse.map .int),x5,x6]):Ip35_1 R s0 s1 s2 mx ws w i0 en kvs xs G
theorem p35 (cf:aj):S35 (step cf):=fun s0 s1 s2 R i0 en ws kvs w mx K m dt tt ok hi gw lw h=>by
 refine run (fn:=f35) rfl rfl rfl (af (v:=.int i0) ix (ia ?_))
 have r0:Sg1 i0 []=st0 [i0]:=by
  funext q p
  exact propext ⟨fun ⟨e1,e2⟩=>⟨e1▸.head _,e2⟩,fun Zq2=>Zq2.elim fun e1 e2=>⟨zA6 e1,e2⟩⟩
 refine cZ (xs:=ba w) (v:=text w) (P:=Ip35_1 R s0 s1 s2 mx ws w i0 en kvs)
  ix (eG (zB1 lw (by decide))) ⟨i0,[],w,_,_,rfl,hi,fun _ q=>(nM q),gw,by rw [List.length_nil,Nat.zero_add]; exact lw,by rw [r0],rfl⟩ (fun G hP=>?_) fun y l G Kt hP nx rt=>?_
 ·obtain ⟨q,p,u,x5,x6,e,iq,ip,gu,_,hr,rfl⟩:=hP
  cases u with
  | cons=>(injection e; done)
  | nil=>
   refine az (v:=.bool (decide (q∈en))) (ae (x:=.int q) (y:=aB en) ix ix yA) (h _ ?_)
   unfold Acc
   exact hr▸⟨fun z=>⟨q,p,⟨rfl,rfl⟩,of_decide_eq_true z⟩,fun ⟨q',p',z,hq⟩=>decide_eq_true (z.1▸hq)⟩
 ·obtain ⟨q,p,u,x5,x6,e,iq,ip,gu,lu,hr,rfl⟩:=hP
  cases u with
  | nil=>(injection e; done)
  | cons c u=>
   obtain ⟨rfl,rfl⟩:=zA5 e
   rw [zB4,← Nat.add_assoc] at lu
   have lp:p.length≤1000:=zB1 (Nat.le_add_right _ _) (Nat.le_of_succ_le lu)
   rcases gu with ⟨hc,_,gu⟩ | ⟨hc,d,ed,gu⟩ | ⟨hc,gu⟩
   ·refine (tt.op q c iq hc).elim fun b Zq31=>Zq31.elim fun t hw=>?_
    refine bq (ae (x:=text [c]) (y:=text s0) ix ix (vN.trans (congrArg some (List.elem_iff.mpr hc)))) ?_
    refine ku (v:=(W.op q c b t).out) (aa (vs:=[.dict kvs,(W.op q c b t).key]) (.two ix ix) (lJ m dt ok hw)) (G':=[.v (aQ (sg s0 s1 s2) R [i0] en ws),.v (.dict kvs),.v (text w),.v (.int b),.ownL (p.reverse.map .int),.v (text [c]),.v (.int t)]) rfl ?_
    refine cE (l:=p.reverse.map .int) rfl (v:=.int t) ix (by rw [zA4,List.length_reverse]; exact Nat.lt_of_le_of_lt lp (by decide)) (aD (nx _ ⟨b,t :: p,u,.v (text [c]),.v (.int t),rfl,(m.ok _ hw).2.2.1,zA1 ⟨(m.ok _ hw).2.2.2,ip⟩,gu,?_,?_,?_⟩))
    ·rw [zB4,Nat.succ_add]; exact lu
    ·exact (AG m dt hc hw)▸hr
    ·rw [List.reverse_cons,List.map_append]; rfl
   ·cases p with
    | nil=>(injection ed; done)
    | cons t p=>
     obtain rfl:=Nat.succ.inj ed
     obtain ⟨it,ip⟩:=List.forall_mem_cons.mp ip
     obtain ⟨b,hw⟩:=tt.cl q t c iq it hc
     have hw':(t :: p).reverse.map PyData.int=p.reverse.map PyData.int++[PyData.int t]:=by rw [List.reverse_cons,List.map_append]; rfl
     refine bQ (t:=false) (ae (x:=text [c]) (y:=text s0) ix ix (vN.trans (congrArg some (jg (m.sk.inB hc))))) (fun z=>nB z) fun _=>bq (ae (x:=text [c]) (y:=text s1) ix ix (vN.trans (congrArg some (List.elem_iff.mpr hc)))) ?_
     refine yI (l:=(t :: p).reverse.map .int) (d:=.dict kvs) (x:=.str aH) (y:=.int q) (z:=.int t) (v:=text [c]) (w:=(W.cl q t c b).out) ix ix ix rfl (by rw [zA4,List.length_reverse]; exact zB1 lp (by decide)) (by rw [hw',List.getLast?_append]; rfl) ix (lJ m dt ok hw) (aD (nx _ ⟨b,p,u,.v (text [c]),x6,rfl,(m.ok _ hw).2.2.2,ip,gu,?_,?_,?_⟩))
     ·rw [zB4] at lu
      exact zB1 (Nat.add_le_add_right (Nat.le_succ _) _) (Nat.le_of_succ_le lu)
     ·exact (AI m dt hc hw)▸hr
     ·rw [hw',List.dropLast_concat]; rfl
   ·obtain ⟨b,hw⟩:=tt.on q c iq hc
    refine bQ (t:=false) (ae (x:=text [c]) (y:=text s0) ix ix (vN.trans (congrArg some (jg (m.sk.inC hc).1)))) (fun z=>nB z) fun _=>bQ (t:=false) (ae (x:=text [c]) (y:=text s1) ix ix (vN.trans (congrArg some (jg (m.sk.inC hc).2)))) (fun z=>nB z) fun _=>?_
    refine af (v:=.int b) (aa (vs:=[(W.on q c b).out,.int 0]) (.two (aa (vs:=[.dict kvs,(W.on q c b).key]) (.two ix ix) (lJ m dt ok hw)) ix) (by exact rfl)) (aD (nx _ ⟨b,p,u,_,_,rfl,(m.ok _ hw).2.2,ip,gu,Nat.le_of_succ_le lu,?_,rfl⟩))
    exact (AH m dt hc hw)▸hr
noncomputable abbrev KQ:=Nat×Int×Int×Nat
noncomputable def kq:W→KQ
 | .on a c _=>(0,a,0,c)
 | .op a c _ _=>(1,a,0,c)
 | .cl a b c _=>(2,a,b,c)
noncomputable def rooms (R:Int):List Int:=(List.range R.toNat).map fun i:Nat=>0+(i:Int)
noncomputable def ft (s0 s1 s2:List Nat) (R q:Int):List KQ:=s2.flatMap (fun c=>[(0,q,0,c)])++(s0.flatMap (fun c=>[(1,q,0,c)])++(rooms R).flatMap fun k=>s1.flatMap fun c=>[(2,q,k,c)])
noncomputable def pP (s0 s1 s2:List Nat) (R:Int):List KQ:=(rooms R).flatMap (ft s0 s1 s2 R)
theorem eK {α β:Type} {f:α→List β}:∀ {l:List α},l.length≤m→(∀ x∈l,(f x).length≤n)→(l.flatMap f).length≤m * n:=fun {l} hm h=>by
 refine zB1 (?_:(l.flatMap f).length≤l.length * n) (Nat.mul_le_mul_right n hm)
 clear hm
 induction l with
 | nil=>exact Nat.zero_le _
 | cons x l ih=>
  rw [List.flatMap_cons,zB5,zB4,Nat.succ_mul,Nat.add_comm]
  exact Nat.add_le_add (ih fun y q=>h y (.tail _ q)) (h x (.head _))
theorem kI (h:R≤4):(rooms R).length≤4:=by
 unfold rooms
 rw [zA4,List.length_range]; exact Int.toNat_le.mpr h
theorem fV:q∈rooms R ↔ In R q:=by
 unfold rooms
 rw [List.mem_map]
 constructor
 ·rintro ⟨i,mi,rfl⟩
  rw [Int.zero_add]
  exact ⟨Int.natCast_nonneg i,Int.lt_toNat.mp (List.mem_range.mp mi)⟩
 ·rintro ⟨h0,h1⟩
  exact ⟨q.toNat,List.mem_range.mpr ((Int.toNat_lt_toNat (Int.lt_of_le_of_lt h0 h1)).mpr h1),by rw [Int.zero_add]; exact Int.toNat_of_nonneg h0⟩
theorem oD (sk:SgOk s0 s1 s2) (h:R≤4):(pP s0 s1 s2 R).length≤96:=by
 refine eK (m:=4) (n:=24) (kI h) fun q _=>?_
 unfold ft
 rw [zB5,zB5]
 exact Nat.add_le_add (eK (m:=4) (n:=1) sk.lc fun _ _=>Nat.le_refl _) (Nat.add_le_add (eK (m:=4) (n:=1) sk.la fun _ _=>Nat.le_refl _) (eK (m:=4) (n:=4) (kI h) fun _ _=>eK (m:=4) (n:=1) sk.lb fun _ _=>Nat.le_refl _))
theorem fq_mem:x∈ft s0 s1 s2 R q ↔ (∃ c∈s2,x=(0,q,0,c))∨(∃ c∈s0,x=(1,q,0,c))∨∃ k∈rooms R,∃ c∈s1,x=(2,q,k,c):=by
 unfold ft
 simp only [List.mem_append,List.mem_flatMap,List.mem_singleton]
theorem qq {f:Nat→KQ} {s:List Nat} (hf:∀ a b,f a=f b→a=b) (h:s.Nodup):(s.flatMap fun c=>[f c]).Nodup:=by
 exact List.map_eq_flatMap▸List.Pairwise.map _ (fun a b ne e=>ne (hf a b e)) h
theorem nL (R:Int):(rooms R).Nodup:=List.Pairwise.map _ (fun a b ne e=>ne (by rw [Int.zero_add,Int.zero_add] at e; exact Int.ofNat.inj e)) List.nodup_range
theorem xh (sk:SgOk s0 s1 s2):(pP s0 s1 s2 R).Nodup:=by
 refine (List.nodup_append.mp sk.nodup).elim fun n1 Zq1=>Zq1.elim fun n2 _=>?_
 obtain ⟨n0,n1,_⟩:=List.nodup_append.mp n1
 have two:∀ {q k:Int} {x:KQ},x∈s1.flatMap (fun c=>[((2,q,k,c):KQ)])→x.1=2∧x.2.1=q∧x.2.2.1=k:=fun m=>by
  obtain ⟨c,_,m⟩:=List.mem_flatMap.mp m
  exact (zA6 m).symm▸⟨rfl,rfl,rfl⟩
 have one:∀ {i:Nat} {q:Int} {s:List Nat} {x:KQ},x∈s.flatMap (fun c=>[((i,q,0,c):KQ)])→x.1=i:=fun m=>by
  obtain ⟨c,_,m⟩:=List.mem_flatMap.mp m
  rw [zA6 m]
 have at1:∀ {q:Int} {x:KQ},x∈ft s0 s1 s2 R q→x.2.1=q:=fun m=>by
  rcases fq_mem.mp m with ⟨c,_,e⟩ | ⟨c,_,e⟩ | ⟨k,_,c,_,e⟩ <;> rw [e]
 have inj:∀ {i:Nat} {q k:Int} {a b:Nat},((i,q,k,a):KQ)=(i,q,k,b)→a=b:=fun e=>congrArg (fun x:KQ=>x.2.2.2) e
 have z2:∀ q:Int,((rooms R).flatMap fun k=>s1.flatMap fun c=>[((2,q,k,c):KQ)]).Nodup:=fun q=>List.pairwise_flatMap.mpr ⟨fun k _=>qq (fun a b e=>inj e) n1,(nL R).imp fun ne x mx y my e=>ne (by rw [← (two mx).2.2,e]; exact (two my).2.2)⟩
 refine List.pairwise_flatMap.mpr ⟨fun q _=>List.nodup_append.mpr ⟨qq (fun a b e=>inj e) n2,List.nodup_append.mpr ⟨qq (fun a b e=>inj e) n0,z2 q,fun x mx y my e=>?_⟩,fun x mx y my e=>?_⟩,(nL R).imp fun ne x mx y my e=>ne (by rw [← at1 mx,e]; exact at1 my)⟩
 ·obtain ⟨k,_,my⟩:=List.mem_flatMap.mp my
  exact absurd ((one mx).symm.trans ((congrArg Prod.fst e).trans (two my).1)) (by decide)
 ·have z:=one mx
  rw [e] at z
  rcases List.mem_append.mp my with my | my
  ·exact absurd (z.symm.trans (one my)) (by decide)
  ·obtain ⟨k,_,my⟩:=List.mem_flatMap.mp my
   exact absurd (z.symm.trans (two my).1) (by decide)
theorem zD {α β:Type} {f:α→β} {l:List α} (h:(l.map f).Nodup):∀ x∈l,∀ y∈l,f x=f y→x=y:=by
 induction l with
 | nil=>exact fun _ m=>nM m
 | cons z l ih=>
  intro x mx y my e
  obtain ⟨h1,h2⟩:=List.nodup_cons.mp h
  rcases List.mem_cons.mp mx with rfl | qx
  ·rcases List.mem_cons.mp my with rfl | qy
   ·rfl
   ·exact absurd (List.mem_map.mpr ⟨y,qy,e.symm⟩) h1
  ·rcases List.mem_cons.mp my with rfl | qy
   ·exact absurd (List.mem_map.mpr ⟨x,qx,e⟩) h1
   ·exact ih h2 x qx y qy e
theorem zw (h:w.key=u.key):kq w=kq u:=by
 have h:w.kl=u.kl:=PyData.tuple.inj h
 have ne1:kOn≠aR:=by decide
 have ne2:kOn≠aH:=by decide
 have ne3:aR≠aH:=by decide
 have tx:∀ {a b:Nat},text [a]=text [b]→a=b:=fun e=>(zA5 (congrArg (fun s:Str=>s.cps.toList) (PyData.str.inj e))).1
 cases w <;> cases u <;> (first | (injection h with h0 h; exact absurd (PyData.str.inj h0) (by first | exact ne1 | exact ne2 | exact ne3 | exact ne1.symm | exact ne2.symm | exact ne3.symm)) | skip)
 ·injection h with h0 h; injection h with h1 h; injection h with h2 h
  unfold kq
  rw [PyData.int.inj h1,tx h2]
 ·injection h with h0 h; injection h with h1 h; injection h with h2 h
  unfold kq
  rw [PyData.int.inj h1,tx h2]
 ·injection h with h0 h; injection h with h1 h; injection h with h2 h; injection h with h3 h
  unfold kq
  rw [PyData.int.inj h1,PyData.int.inj h2,tx h3]
theorem uO (sk:SgOk s0 s1 s2) (h:ws.map kq=pP s0 s1 s2 R):Det ws:=fun w mw u mu e=>by rw [zD (h▸xh sk) w mw u mu (zw e)]
theorem uN (h:ws.map kq=pP s0 s1 s2 R):Tot s0 s1 s2 R ws:=by
 have get:∀ {x:KQ} {q:Int},In R q→x∈ft s0 s1 s2 R q→∃ w∈ws,kq w=x:=fun {x q} iq m=>by
  have z:x∈ws.map kq:=by rw [h]; exact List.mem_flatMap.mpr ⟨q,fV.mpr iq,m⟩
  exact zA7 z
 refine ⟨fun q c iq mc=>?_,fun q c iq mc=>?_,fun q t c iq it mc=>?_⟩
 ·obtain ⟨w,mw,e⟩:=get iq (fq_mem.mpr (.inl ⟨c,mc,rfl⟩))
  cases w with
  | on a d b=>injection e with _ e; injection e with e1 e; injection e with _ e2; subst e1 e2; exact ⟨b,mw⟩
  | op a d b t=>injection e with e; exact absurd e (by decide)
  | cl a b d t=>injection e with e; exact absurd e (by decide)
 ·obtain ⟨w,mw,e⟩:=get iq (fq_mem.mpr (.inr (.inl ⟨c,mc,rfl⟩)))
  cases w with
  | on a d b=>injection e with e; exact absurd e (by decide)
  | op a d b t=>injection e with _ e; injection e with e1 e; injection e with _ e2; subst e1 e2; exact ⟨b,t,mw⟩
  | cl a b d t=>injection e with e; exact absurd e (by decide)
 ·obtain ⟨w,mw,e⟩:=get iq (fq_mem.mpr (.inr (.inr ⟨t,fV.mpr it,c,mc,rfl⟩)))
  cases w with
  | on a d b=>injection e with e; exact absurd e (by decide)
  | op a d b t=>injection e with e; exact absurd e (by decide)
  | cl a b d t=>injection e with _ e; injection e with e1 e; injection e with e2 e3; subst e1 e2 e3; exact ⟨_,mw⟩
theorem jP {α:Type} {K:Option V→Gs→Prop} {k:Nat} {body r:List S} {xs:List α} {g:α→V} {J:Gs→List W→Prop} {f:α→List KQ} {ws:List W}
  (hs:Val cf G s v) (hq:bM v=some (xs.map g)) (h0:J G ws) (hl:(ws.map kq++xs.flatMap f).length≤96)
  (turn:∀ x∈xs,∀ G ws Kt,J G ws→(ws.map kq++f x).length≤96→(∀ G' ws',J G' ws'→ws'.map kq=ws.map kq++f x→Kt none G')→exs sup cf body (G.set k (.v (g x))) Kt)
  (n:∀ G ws',J G ws'→ws'.map kq=ws.map kq++xs.flatMap f→exs sup cf r G K):exs sup cf (.mk (.forS k) [s] body [] :: r) G K:=by
 refine cZ (P:=fun l G=>∃ ys us,l=ys.map g∧(∀ y∈ys,y∈xs)∧J G us∧us.map kq++ys.flatMap f=ws.map kq++xs.flatMap f) hs hq ⟨xs,ws,rfl,fun _ m=>m,h0,rfl⟩ (fun G hP=>?_) fun x l G Kt hP nx rt=>?_
 ·obtain ⟨ys,us,e,_,j,h⟩:=hP
  obtain rfl:=List.map_eq_nil_iff.mp e.symm
  rw [List.flatMap_nil,List.append_nil] at h
  exact n G us j h
 ·obtain ⟨ys,us,e,my,j,h⟩:=hP
  cases ys with
  | nil=>(injection e; done)
  | cons y ys=>
   obtain ⟨rfl,rfl⟩:=zA5 e
   rw [List.flatMap_cons,← List.append_assoc] at h
   refine turn y (my y (.head _)) G us Kt j ?_ fun G' us' j' h'=>nx G' ⟨ys,us',rfl,fun z q=>my z (.tail _ q),j',by rw [h',h]⟩
   rw [← h,zB5] at hl
   exact zB1 (Nat.le_add_right _ _) hl
theorem vo {α:Type} {a b c:List α} {n:Nat} (h:(a++(b++c)).length≤n):(a++b).length≤n:=by
 rw [← List.append_assoc,zB5] at h
 exact zB1 (Nat.le_add_right _ _) h
noncomputable def g33 (scr:List Int) (s0 s1 s2:List Nat) (R:Int) (cs:List Int) (ws:List W) (s6 s7 s8:Slot):Gs:=[.v (cL scr),.v (.int 50),.v (sg s0 s1 s2),.v (.int R),.v (.list (cs.map .int)),.ownL (ws.map W.v),s6,s7,s8,.unset,.unset,.unset]
section
variable {cf:aj} {scr:List Int} {s0 s1 s2:List Nat} {R:Int} {cs:List Int} {ws:List W} {s6 s7 s8:Slot}
theorem ql {i:Nat} (he:Val cf G e (.list (cs.map .int))) (hi:Val cf G ei (.int i)) (lc:cs.length=110) (h:i < 110):∃ c,Val cf G (sbE e ei) (.int c):=by
 have hl:i < cs.length:=by rw [lc]; exact h
 refine ⟨cs[i],aa (.two he hi) (dX (by rw [zA4,lc]; decide) (Int.natCast_nonneg i) ?_)⟩
 rw [Int.toNat_natCast,List.getElem?_map,List.getElem?_eq_getElem hl]; rfl
theorem jz (lc:cs.length=110) (h:ws.length≤96):∃ c,Val cf (g33 scr s0 s1 s2 R cs ws s6 s7 s8) (sbE (vv 4) (.nd (.lenL 5) [])) (.int c):=
 ql (cs:=cs) (i:=ws.length) ix (by rw [← List.length_map (f:=W.v) (as:=ws)]; exact tU (l:=ws.map W.v) rfl (by rw [zA4]; exact zB1 h (by decide))) lc (Nat.lt_of_le_of_lt h (by decide))
theorem eC (he:Val cf G e (.int c)) (hr:Val cf G er (.int R)) (h:0 < R):∃ b,In R b∧Val cf G (mdE e er) (.int b):=⟨c.fmod R,⟨aJ c h,be c h⟩,aa (.two he hr) (bO h)⟩
theorem len_of (h:(ws.map kq++l).length≤96):ws.length≤96:=by
 rw [zB5,zA4] at h
 exact zB1 (Nat.le_add_right _ _) h
def AllOk (s0 s1 s2:List Nat) (R:Int) (ws:List W):Prop:=∀ w∈ws,W.ok s0 s1 s2 R w
theorem vT (h:AllOk s0 s1 s2 R ws) (hv:Val cf (g33 scr s0 s1 s2 R cs ws s6 s7 s8) e w.v) (ow:W.ok s0 s1 s2 R w) (hw:kq w=x) (lw:(ws.map kq++l).length≤96)
  (n:∀ ws',AllOk s0 s1 s2 R ws'→ws'.map kq=ws.map kq++[x]→K none (g33 scr s0 s1 s2 R cs ws' s6 s7 s8)):exs sup cf [.mk (.append 5) [e] [] []] (g33 scr s0 s1 s2 R cs ws s6 s7 s8) K:=by
 refine cE (l:=ws.map W.v) rfl hv (by rw [zA4]; exact Nat.lt_of_le_of_lt (len_of lw) (by decide)) (aD ?_)
 have z:=n (ws++[w]) (fun u mu=>?_) (by rw [List.map_append,← hw]; rfl)
 ·unfold g33 at z
  replace z:=List.map_append▸z
  exact z
 ·rcases List.mem_append.mp mu with mu | mu
  ·exact h u mu
  ·obtain rfl:=zA6 mu; exact ow
end
theorem AK {scr:List Int} {s0 s1 s2:List Nat} {R q:Int} {cs:List Int} {ws:List W} {K:Option V→Gs→Prop} (sk:SgOk s0 s1 s2) (r0:0 < R) (r4:R≤4) (lc:cs.length=110) (iq:In R q) (h:AllOk s0 s1 s2 R ws) (lw:(ws.map kq++ft s0 s1 s2 R q).length≤96)
  (n:∀ ws' s7 s8,AllOk s0 s1 s2 R ws'→ws'.map kq=ws.map kq++ft s0 s1 s2 R q→K none (g33 scr s0 s1 s2 R cs ws' (.v (.int q)) s7 s8)):exs sup cf yn (g33 scr s0 s1 s2 R cs ws (.v (.int q)) s7 s8) K:=by
 have sq:∀ {s:List Nat},s.length≤4→bM (text s)=some (s.map fun c=>text [c]):=fun h=>eG (zB1 h (by decide))
 refine jP (J:=fun G ws=>AllOk s0 s1 s2 R ws∧∃ s7,G=g33 scr s0 s1 s2 R cs ws (.v (.int q)) s7 s8) (v:=text s2) (g:=fun c=>text [c]) (f:=fun c=>[(0,q,0,c)]) ix (sq sk.lc) ⟨h,_,rfl⟩ (vo lw) (fun c mc G us Kt j lu nx=>?_) fun G w1 j e1=>?_
 ·obtain ⟨ou,s7,rfl⟩:=j
  obtain ⟨a,ha⟩:=jz (cf:=cf) (scr:=scr) (s0:=s0) (s1:=s1) (s2:=s2) (R:=R) (cs:=cs) (ws:=us) (s6:=.v (.int q)) (s7:=.v (text [c])) (s8:=s8) lc (len_of lu)
  obtain ⟨b,ib,hb⟩:=eC (er:=vv 3) ha ix r0
  exact vT (w:=.on q c b) ou (aa (.cons ix (.cons ix (.two ix hb))) rfl) ⟨iq,mc,ib⟩ rfl lu fun us' o' e'=>nx _ us' ⟨o',_,rfl⟩ e'
 obtain ⟨o1,s7,rfl⟩:=j
 unfold ft at lw
 rw [← List.append_assoc,← e1] at lw
 refine jP (J:=fun G ws=>AllOk s0 s1 s2 R ws∧∃ s7,G=g33 scr s0 s1 s2 R cs ws (.v (.int q)) s7 s8) (v:=text s0) (g:=fun c=>text [c]) (f:=fun c=>[(1,q,0,c)]) ix (sq sk.la) ⟨o1,_,rfl⟩ (vo lw) (fun c mc G us Kt j lu nx=>?_) fun G w2 j e2=>?_
 ·obtain ⟨ou,s7,rfl⟩:=j
  obtain ⟨a,ha⟩:=jz (cf:=cf) (scr:=scr) (s0:=s0) (s1:=s1) (s2:=s2) (R:=R) (cs:=cs) (ws:=us) (s6:=.v (.int q)) (s7:=.v (text [c])) (s8:=s8) lc (len_of lu)
  obtain ⟨b,ib,hb⟩:=eC (er:=vv 3) ha ix r0
  obtain ⟨t,it,ht⟩:=eC (er:=vv 3) (e:=(fdE (sbE (vv 4) (.nd (.lenL 5) [])) (ii 4))) (aa (.two ha ix) (dY (by decide) (by decide))) ix r0
  exact vT (w:=.op q c b t) ou (aa (.cons ix (.cons ix (.cons ix (.two hb ht)))) rfl) ⟨iq,mc,ib,it⟩ rfl lu fun us' o' e'=>nx _ us' ⟨o',_,rfl⟩ e'
 obtain ⟨o2,s7,rfl⟩:=j
 rw [← List.append_assoc,← e2] at lw
 refine jP (J:=fun G ws=>AllOk s0 s1 s2 R ws∧∃ s7 s8,G=g33 scr s0 s1 s2 R cs ws (.v (.int q)) s7 s8) (v:=.list (aU 0 R)) (g:=.int) (xs:=rooms R) (f:=fun k=>s1.flatMap fun c=>[(2,q,k,c)]) (br ix (Int.le_of_lt r0) (Int.le_trans r4 (by decide))) ((bk (Int.le_trans r4 (by decide))).trans (by rw [range_eq]; unfold rooms; rw [List.map_map]; rfl)) ⟨o2,_,_,rfl⟩ lw (fun k mk G us Kt j lu nx=>?_) fun G w3 j e3=>?_
 ·obtain ⟨ou,s7,s8,rfl⟩:=j
  refine jP (J:=fun G ws=>AllOk s0 s1 s2 R ws∧∃ s7,G=g33 scr s0 s1 s2 R cs ws (.v (.int q)) s7 (.v (.int k))) (v:=text s1) (g:=fun c=>text [c]) (f:=fun c=>[(2,q,k,c)]) ix (sq sk.lb) ⟨ou,_,rfl⟩ lu (fun c mc G us Kt j lu nx=>?_) fun G w3 j e3=>?_
  ·obtain ⟨ou,s7,rfl⟩:=j
   obtain ⟨a,ha⟩:=jz (cf:=cf) (scr:=scr) (s0:=s0) (s1:=s1) (s2:=s2) (R:=R) (cs:=cs) (ws:=us) (s6:=.v (.int q)) (s7:=.v (text [c])) (s8:=.v (.int k)) lc (len_of lu)
   refine (eC (er:=vv 3) ha ix r0).elim fun b Zq27=>Zq27.elim fun ib hb=>?_
   exact vT (w:=.cl q k c b) ou (aa (.cons ix (.cons ix (.cons ix (.two ix hb)))) rfl) ⟨iq,fV.mp mk,mc,ib⟩ rfl lu fun us' o' e'=>nx _ us' ⟨o',_,rfl⟩ e'
  ·obtain ⟨o3,s7,rfl⟩:=j
   exact aD (nx _ w3 ⟨o3,_,_,rfl⟩ e3)
 obtain ⟨o3,s7,s8,rfl⟩:=j
 refine aD (n w3 _ _ o3 ?_)
 rw [e3,e2,e1]
 unfold ft
 rw [List.append_assoc,List.append_assoc]
def S33 (cf:aj):Prop:=∀ scr s0 s1 s2 R K,scr.length≤63→SgOk s0 s1 s2→0 < R→R≤4→(∀ i0 en ws,ah s0 s1 s2 R [i0] en ws→Det ws→Tot s0 s1 s2 R ws→K (aQ (sg s0 s1 s2) R [i0] en ws))→cf 33 [cL scr,.int 50,sg s0 s1 s2,.int R] K
theorem p33 (cf:aj) (h20:S20 cf) (h21:S21 cf):S33 (step cf):=fun scr s0 s1 s2 R K hs sk r0 r4 h=>by
 refine run (fn:=f33) rfl rfl rfl ?_
 obtain ⟨cs,lc,hcs⟩:∃ cs:List Int,cs.length=110∧Val cf [.v (cL scr),.v (.int 50),.v (sg s0 s1 s2),.v (.int R),.unset,.unset,.unset,.unset,.unset,.unset,.unset,.unset] (.nd (.comp 10) [.nd .range [ii 110],yo]) (.list (cs.map .int)):=by
  refine ⟨(List.range 110).map fun i:Nat=>rj (a7 scr (50+(0+(i:Int)).fmod 9)) (0+(i:Int)),by rw [zA4,List.length_range],?_⟩
  rw [List.map_map]
  exact dg (g:=fun i:Nat=>.int (0+(i:Int))) (br (n:=110) ix (by decide) (by decide)) ((bk (by decide)).trans (congrArg some (range_eq 110))) fun i _=>ar (.two (ar (.two ix (aa (.two ix (aa (.two ix ix) (bO (by decide)))) rfl)) fun K h=>h20 scr _ K hs (Int.add_nonneg (by decide) (aJ _ (by decide))) h) ix) fun K h=>h21 _ _ K h
 refine af hcs (ia ?_)
 refine jP (J:=fun G ws=>AllOk s0 s1 s2 R ws∧∃ s6 s7 s8,G=g33 scr s0 s1 s2 R cs ws s6 s7 s8) (v:=.list (aU 0 R)) (g:=.int) (xs:=rooms R) (f:=ft s0 s1 s2 R) (ws:=[]) (br ix (Int.le_of_lt r0) (Int.le_trans r4 (by decide))) ((bk (Int.le_trans r4 (by decide))).trans (by rw [range_eq]; unfold rooms; rw [List.map_map]; rfl)) ⟨fun _ q=>(nM q),_,_,_,rfl⟩ (oD sk r4) (fun q mq G us Kt j lu nx=>?_) fun G ws j ew=>?_
 ·obtain ⟨ou,s6,s7,s8,rfl⟩:=j
  exact AK (ws:=us) sk r0 r4 lc (fV.mp mq) ou lu fun ws' s7 s8 o' e'=>nx _ ws' ⟨o',_,_,_,rfl⟩ e'
 obtain ⟨ow,s6,s7,s8,rfl⟩:=j
 have ew:ws.map kq=pP s0 s1 s2 R:=ew
 refine (ql (cf:=cf) (cs:=cs) (G:=g33 scr s0 s1 s2 R cs ws s6 s7 s8) (e:=vv 4) (ei:=ii 109) (i:=109) ix ix lc (by decide)).elim fun c9 h9=>?_
 have h9':∀ i:Nat,Val cf ((g33 scr s0 s1 s2 R cs ws s6 s7 s8).set 10 (.v (.int (0+(i:Int))))) (sbE (vv 4) (ii 109)) (.int c9):=fun i=>h9
 refine af (v:=aB (pickR R.toNat fun i=>(c9.fdiv (0+(i:Int)+3)).fmod 2==0)) (gE ix (Int.le_of_lt r0) r4 (fun i hi=>?_) fun i=>ix) ?_
 ·have d0:0 < 0+(i:Int)+3:=Int.add_pos_of_nonneg_of_pos (Int.add_nonneg (by decide) (Int.natCast_nonneg i)) (by decide)
  have d1:0+(i:Int)+3≤1000000:=by
   rw [Int.zero_add]
   exact Int.le_trans (Int.add_le_add_right (Int.le_of_lt (Int.lt_of_lt_of_le hi r4)) 3) (by decide)
  exact ae (aa (.two (aa (.two (h9' i) (aa (.two ix ix) rfl)) (dY d0 d1)) ix) (bO (by decide))) ix oP
 have lw:ws.length≤96:=by
  rw [← List.length_map (f:=kq),ew]; exact oD sk r4
 refine eB (l:=ws.map W.v) rfl ?_
 refine (ql (cf:=cf) (cs:=cs) (G:=[.v (cL scr),.v (.int 50),.v (sg s0 s1 s2),.v (.int R),.v (.list (cs.map .int)),.v (.list (ws.map W.v)),s6,s7,s8,.v (aB (pickR R.toNat fun i=>(c9.fdiv (0+(i:Int)+3)).fmod 2==0)),.unset,.unset]) (e:=vv 4) (ei:=ii 108) (i:=108) ix ix lc (by decide)).elim fun c8 h8=>?_
 obtain ⟨i0,ii0,hi0⟩:=eC (er:=vv 3) h8 ix r0
 refine az (v:=aQ (sg s0 s1 s2) R [i0] (pickR R.toNat fun i=>(c9.fdiv (0+(i:Int)+3)).fmod 2==0) ws) (aa (.cons ix (.cons ix (.cons (aa (.one hi0) rfl) (.two ix ix)))) rfl) (h i0 _ ws ⟨sk,r0,Int.le_trans r4 (by decide),⟨Nat.le_add_left 1 39,List.pairwise_singleton _ _,List.forall_mem_singleton.mpr ii0⟩,jE r4,Nat.lt_of_le_of_lt lw (by decide),ow⟩ (uO sk ew) (uN ew))
theorem u6 (h:∀ w,w∈us ↔ w∈ws) (h1:st'.Perm st) (h2:en'.Perm en):Acc us st' en' w ↔ Acc ws st en w:=by
 unfold Acc
 rw [nH h,show st0 st'=st0 st from funext fun q=>funext fun p=>propext (and_congr_left fun _=>h1.mem_iff)]
 exact exists_congr fun q=>exists_congr fun p=>and_congr_right fun _=>h2.mem_iff
theorem zG (sk:SgOk s0 s1 s2) (gw:Gd s0 s1 s2 mx e 0 w) (lw:w.length≤1000):vOk (text w)=true:=zA3 ⟨dO (j6 sk gw),decide_eq_true lw⟩
theorem gL (h9:S9 cf) (g:ah s0 s1 s2 R st en ws) (h4:R≤4) (hd:Held st en (ws.map W.v) st' en' r) (gw:Gd s0 s1 s2 mx 0 0 w) (lw:w.length≤1000) (h:∀ b,(b=true ↔ Acc ws st en w)→K (.bool b)):cf 9 [bg (sg s0 s1 s2) R st' en' r,text w] K:=by
 obtain ⟨us,rfl,m,hm⟩:=rL g h4 hd
 refine (jI g hd).elim fun l1 Zq4=>Zq4.elim fun l2 _=>?_
 have hw:iw s0 s1 s2 0 w=true:=by
  have z:=pN m.sk gw []
  rw [List.append_nil] at z
  exact z
 refine h9 s0 s1 s2 R st' en' us (text w) K m l1 (fun i mi=>g.st.rooms i (hd.p1.mem_iff.mp mi)) l2 (zG m.sk gw lw) (fun t e _ b hb=>?_) fun q=>nomatch hw.symm.trans q
 obtain rfl:=PyData.str.inj e
 exact h b (hb.trans (u6 hm hd.p1 hd.p2))
section
variable {cf:aj} {G:Gs} {K:Option V→Gs→Prop} {f g k:Nat} {a b e:E} {es:List E} {vs:List V} {r:List S} {x:V} {u:Bool}
theorem u9 (ha:Val cf G a x) (h:cf g [x] fun y=>noX y=true∧ev cf b G fun z=>cf f [y,z] fun u=>noX u=true∧exs sup cf r (G.set k (.v u)) K):exs sup cf (.mk (.assign k) [.nd (.call f) [.nd (.call g) [a],b]] [] [] :: r) G K:=ha _ h
theorem yK (hv:fG cf G es vs) (hz:vs.length≤ai) (n:exs sup cf r (G.set k (.ownL vs)) K):exs sup cf (.mk (.ownL k) es [] [] :: r) G K:=by
 refine (?_:bY (es.map (ev cf)) G fun xs=>xs.length≤ai∧exs sup cf r (G.set k (.ownL xs)) K)
 rw [evs_map]
 exact hv _ ⟨hz,n⟩
theorem BI:aT .Eq (.bool u) (.bool u)=some true:=by cases u <;> rfl
theorem qN (h:Val cf G a (.bool u)):Val cf G (.nd (.isinst 4) [a]) (.bool true):=aa (.one h) rfl
theorem u8 (h7:Val cf G a (.bool u)) (h:Val cf G e (.bool u)) (n:K (some (.bool true)) G):exs sup cf (.mk .ret [.nd .and [.nd (.isinst 4) [a],eqE a e]] [] [] :: r) G K:=az (av (.go (b:=true) (qN h7) (.one (ae h7 h BI)))) n
end
theorem qF (h:b=true ↔ P) (h':b'=true ↔ P):b'=b:=Bool.eq_iff_iff.mpr (h'.trans h.symm)
noncomputable def bU (c k:Int):Int:=(c.fdiv k).fmod 2
theorem bit_in:In 3 (bU c k):=⟨aJ _ (by decide),Int.lt_trans (be _ (by decide)) (by decide)⟩
theorem bit_in1:In 3 (1+bU c k):=⟨Int.add_nonneg (by decide) (aJ _ (by decide)),Int.add_lt_add_left (be _ (by decide)) 1⟩
theorem iF (h:Val cf G (vv 2) (.int c)) (h0:0 < k) (h1:k≤1000000):Val cf G (mdE (fdE (vv 2) (ii k)) (ii 2)) (.int (bU c k)):=aa (.two (aa (.two h ix) (dY h0 h1)) ix) (bO (by decide))
theorem eE (h:Val cf G (vv 2) (.int c)) (h0:0 < k) (h1:k≤1000000):Val cf G (adE (ii 1) (mdE (fdE (vv 2) (ii k)) (ii 2))) (.int (1+bU c k)):=aa (.two ix (iF h h0 h1)) rfl
def S36 (cf:aj):Prop:=∀ scr s0 s1 s2 K,scr.length≤63→SgOk s0 s1 s2→s0≠[]→s1≠[]→K (.bool true)→cf 36 [cL scr,sg s0 s1 s2] K
set_option maxHeartbeats 4000000 in
theorem p36 (cf:aj) (h9:S9 cf) (h20:S20 cf) (h21:S21 cf) (h27:S27 cf) (h29:S29 cf):S36 (step cf):=fun scr s0 s1 s2 K hs sk n0 n1 h=>by
 refine run (fn:=f36) rfl rfl rfl ?_
 obtain ⟨c,hc⟩:∃ c,Val cf [.v (cL scr),.v (sg s0 s1 s2),.unset,.unset,.unset,.unset,.unset,.unset] (.nd (.call 21) [.nd (.call 20) [vv 0,ii 47],ii 2]) (.int c):=⟨_,ar (.two (ar (.two ix ix) fun K h=>h20 scr 47 K hs (by decide) h) ix) fun K h=>h21 _ _ K h⟩
 refine af hc ?_
 refine (ig (cf:=cf) (G:=[.v (cL scr),.v (sg s0 s1 s2),.v (.int c),.unset,.unset,.unset,.unset,.unset]) (e:=(sbE (vv 1) (ii 0))) (ei:=(fdE (vv 2) (ii 512))) (s:=s0) ix (aa (.two ix ix) (dY (by decide) (by decide))) n0 sk.la).elim fun x Zq5=>Zq5.elim fun mx hx=>?_
 refine af hx ?_
 refine (ig (cf:=cf) (G:=[.v (cL scr),.v (sg s0 s1 s2),.v (.int c),.v (text [x]),.unset,.unset,.unset,.unset]) (e:=(sbE (vv 1) (ii 1))) (ei:=(fdE (vv 2) (ii 512))) (s:=s1) ix (aa (.two ix ix) (dY (by decide) (by decide))) n1 sk.lb).elim fun y Zq6=>Zq6.elim fun my hy=>?_
 refine af hy ?_
 refine yK (vs:=[(W.op 0 x 1 (c.fmod 2)).v,(W.op 0 x 2 (bU c 2)).v]) (.two (aa (.cons ix (.cons ix (.cons ix (.two ix (aa (.two ix ix) (bO (by decide))))))) rfl) (aa (.cons ix (.cons ix (.cons ix (.two ix (iF ix (by decide) (by decide)))))) rfl)) (by exact (by decide:2≤ai)) ?_
 refine cE (l:=[(W.op 0 x 1 (c.fmod 2)).v,(W.op 0 x 2 (bU c 2)).v]) rfl (v:=(W.cl (1+bU c 4) (bU c 8) y (1+bU c 16)).v) (aa (.cons ix (.cons (eE ix (by decide) (by decide)) (.cons (iF ix (by decide) (by decide)) (.two ix (eE ix (by decide) (by decide)))))) rfl) (by exact (by decide:2 < ai)) ?_
 refine cE (l:=[(W.op 0 x 1 (c.fmod 2)).v,(W.op 0 x 2 (bU c 2)).v,(W.cl (1+bU c 4) (bU c 8) y (1+bU c 16)).v]) rfl (v:=(W.cl (1+bU c 32) (bU c 64) y (1+bU c 128)).v) (aa (.cons ix (.cons (eE ix (by decide) (by decide)) (.cons (iF ix (by decide) (by decide)) (.two ix (eE ix (by decide) (by decide)))))) rfl) (by exact (by decide:3 < ai)) ?_
 obtain ⟨ws,ew,lw,ow⟩:∃ ws:List W,([(W.op 0 x 1 (c.fmod 2)).v,(W.op 0 x 2 (bU c 2)).v,(W.cl (1+bU c 4) (bU c 8) y (1+bU c 16)).v]++[(W.cl (1+bU c 32) (bU c 64) y (1+bU c 128)).v])=ws.map W.v∧ws.length < 128∧∀ w∈ws,W.ok s0 s1 s2 3 w:=by
  have i0:In 3 0:=⟨by decide,by decide⟩
  refine ⟨[.op 0 x 1 (c.fmod 2),.op 0 x 2 (bU c 2),.cl (1+bU c 4) (bU c 8) y (1+bU c 16),.cl (1+bU c 32) (bU c 64) y (1+bU c 128)],rfl,(by decide:4 < 128),?_⟩
  exact zA1 ⟨⟨i0,mx,⟨by decide,by decide⟩,⟨aJ _ (by decide),Int.lt_trans (be _ (by decide)) (by decide)⟩⟩,zA1 ⟨⟨i0,mx,⟨by decide,by decide⟩,bit_in⟩,zA1 ⟨⟨bit_in1,bit_in,my,bit_in1⟩,List.forall_mem_singleton.mpr ⟨bit_in1,bit_in,my,bit_in1⟩⟩⟩⟩
 refine ew.symm▸?_
 refine eB (l:=ws.map W.v) rfl ?_
 have rk:∀ {i:Int},In 3 i→RoomsOk 3 [i]:=fun h=>⟨Nat.le_add_left 1 39,List.pairwise_singleton _ _,List.forall_mem_singleton.mpr h⟩
 have g:ah s0 s1 s2 3 [0] [1+bU c 256] ws:=⟨sk,by decide,by decide,rk ⟨by decide,by decide⟩,rk bit_in1,lw,ow⟩
 have gw:Gd s0 s1 s2 4 0 0 [x,y]:=.inl ⟨mx,by decide,.inr (.inl ⟨my,0,rfl,rfl⟩)⟩
 have m:MOk s0 s1 s2 3 ws:=⟨sk,by decide,lw,ow⟩
 refine af (v:=aQ (sg s0 s1 s2) 3 [0] [1+bU c 256] ws) (aa (.cons ix (.cons ix (.cons ix (.two (aa (.one (eE ix (by decide) (by decide))) rfl) ix)))) rfl) ?_
 refine u9 ix (h27 s0 s1 s2 3 [0] _ ws _ g fun st' en' r hd=>⟨rfl,?_⟩)
 have hv:∀ {G:Gs},Val cf G (vv 3) (text [x])→Val cf G (vv 4) (text [y])→Val cf G (adE (vv 3) (vv 4)) (text [x,y]):=fun h1 h2=>aa (.two h1 h2) (ch (l:=[x]) (m:=[y]) (by exact (by decide:2≤5000)))
 refine hv (G:=[.v (cL scr),.v (sg s0 s1 s2),.v (.int c),.v (text [x]),.v (text [y]),.v (.list (ws.map W.v)),.v (aQ (sg s0 s1 s2) 3 [0] [1+bU c 256] ws),.unset]) ix ix _ (gL h9 g (by decide) hd gw (by exact (by decide:2≤1000)) fun b hb=>⟨rfl,?_⟩)
 refine u8 (u:=b) ix (ar (vs:=[aQ (sg s0 s1 s2) 3 [0] [1+bU c 256] ws,text [x,y]]) (.two ix (hv ix ix)) fun K k=>h29 s0 s1 s2 3 [0] _ ws [x,y] K m g.st gw (by exact (by decide:2≤1000)) fun b' hb'=>qF hb hb'▸k) h
def S37 (cf:aj):Prop:=∀ scr s0 s1 s2 K,scr.length≤63→SgOk s0 s1 s2→s0≠[]→s1≠[]→K (.bool true)→cf 37 [cL scr,sg s0 s1 s2] K
theorem gq (h21:S21 cf) (ha:Val cf G a (.int c)) (hb:Val cf G b (.int k)):Val cf G (.nd (.call 21) [a,b]) (.int (rj c k)):=ar (.two ha hb) fun K h=>h21 _ _ K h
theorem lH (hw:Val cf G (vv 3) (text w)) (he:Val cf G e (text s)) (hi:Val cf G ei (.int i)) (hs:s≠[]) (hl:s.length≤4) (lw:w.length≤1000):∃ x∈s,Val cf G (adE (vv 3) (sbE e (mdE ei (lnE e)))) (text (w++[x])):=by
 refine (ig he hi hs hl).elim fun x Zq1=>Zq1.elim fun mx hx=>?_
 exact ⟨x,mx,aa (.two hw hx) (ch (len1 (zB1 (Nat.succ_le_succ lw) (by decide))))⟩
noncomputable def d4 (scr:List Int) (s0 s1 s2:List Nat) (z2:Slot) (z3:Slot) (z4:Slot) (z5:Slot) (z6:Slot):Gs:=[.v (cL scr),.v (sg s0 s1 s2),z2,z3,z4,z5,z6,.unset]
inductive Ip37_1 (s0 s1 s2:List Nat) (n:Nat) (scr:List Int) (R i0:Int) (en:List Int) (ws:List W) (c:Int) (xs:List V) (G:Gs):Prop
 | mk (is:List Nat) (w:List Nat) (d:Nat) (s6:Slot) (e4_:xs=is.map (fun i:Nat=>.int (0+(i:Int)))) (e5_:Gd s0 s1 s2 20 d 0 w) (e6_:d+is.length=n) (e7_:w.length≤2 * d) (e8_:G=(d4 scr s0 s1 s2 (.v (aQ (sg s0 s1 s2) R [i0] en ws)) (.v (text w)) (.v (.int c)) (.v (.int n)) s6)):Ip37_1 s0 s1 s2 n scr R i0 en ws c xs G
inductive Ip37_2 (s0 s1 s2:List Nat) (scr:List Int) (R i0:Int) (en:List Int) (ws:List W) (c:Int) (d:Nat) (xs:List V) (G:Gs):Prop
 | mk (is:List Nat) (w:List Nat) (s6:Slot) (e3_:xs=is.map (fun i:Nat=>.int (0+(i:Int)))) (e4_:Gd s0 s1 s2 20 is.length 0 w) (e5_:w.length+is.length≤60) (e6_:G=(d4 scr s0 s1 s2 (.v (aQ (sg s0 s1 s2) R [i0] en ws)) (.v (text w)) (.v (.int c)) (.v (.int d)) s6)):Ip37_2 s0 s1 s2 scr R i0 en ws c d xs G
theorem p37 (cf:aj) (h9:S9 cf) (h20:S20 cf) (h21:S21 cf) (h27:S27 cf) (h33:S33 cf) (h34:S34 cf) (h35:S35 cf):S37 (step cf):=fun scr s0 s1 s2 K hs sk n0 n1 h=>by
 refine run (fn:=f37) rfl rfl rfl ?_
 have cell:∀ {G:Gs} {b:E} {i:Int},Val cf G (vv 0) (cL scr)→Val cf G b (.int i)→0≤i→Val cf G (.nd (.call 20) [vv 0,b]) (.int (a7 scr i)):=fun ha hb hi=>ar (.two ha hb) fun K h=>h20 scr _ K hs hi h
 obtain ⟨R,r0,r4,hR⟩:∃ R,0 < R∧R≤4∧Val cf (d4 scr s0 s1 s2 .unset .unset .unset .unset .unset) (adE (ii 2) (mdE (.nd (.call 20) [vv 0,ii 49]) (ii 3))) (.int R):=⟨2+(a7 scr 49).fmod 3,Int.add_pos_of_pos_of_nonneg (by decide) (aJ _ (by decide)),Int.add_le_add_left (Int.le_of_lt_add_one (be _ (b:=2+1) (by decide))) 2,aa (.two ix (aa (.two (cell ix ix (by decide)) ix) (bO (by decide)))) rfl⟩
 refine cj (vs:=[cL scr,.int 50,sg s0 s1 s2,.int R]) (.cons ix (.cons ix (.two ix hR))) (h33 scr s0 s1 s2 R _ hs sk r0 r4 fun i0 en ws g dt tt=>⟨rfl,?_⟩)
 refine af (v:=text []) ix ?_
 obtain ⟨c,hc⟩:∃ c,Val cf (d4 scr s0 s1 s2 (.v (aQ (sg s0 s1 s2) R [i0] en ws)) (.v (text [])) .unset .unset .unset) (.nd (.call 21) [.nd (.call 20) [vv 0,ii 48],ii 1]) (.int c):=⟨_,gq h21 (cell ix ix (by decide)) ix⟩
 refine af hc ?_
 obtain ⟨n,nz,hn⟩:∃ n:Nat,n≤20∧Val cf (d4 scr s0 s1 s2 (.v (aQ (sg s0 s1 s2) R [i0] en ws)) (.v (text [])) (.v (.int c)) .unset .unset) (adE (ii 1) (mdE (vv 4) (ii 20))) (.int n):=by
  have l0:=aJ c (b:=20) (by decide)
  have l1:=be c (b:=20) (by decide)
  refine ⟨(1+c.fmod 20).toNat,Int.toNat_le.mpr (Int.add_le_add_left (Int.le_of_lt_add_one (b:=19) l1) 1),?_⟩
  rw [Int.toNat_of_nonneg (Int.add_nonneg (by decide) l0)]
  exact aa (.two ix (aa (.two ix ix) (bO (by decide)))) rfl
 refine af hn ?_
 have nI:(n:Int)≤1000:=Int.le_trans (Int.ofNat_le.mpr nz) (by decide)
 have rg:∀ {G:Gs},Val cf G (vv 5) (.int n)→Val cf G (.nd .range [vv 5]) (.list (aU 0 n)):=fun h=>br h (Int.natCast_nonneg n) nI
 have re:aU 0 (n:Int)=(List.range n).map fun i:Nat=>.int (0+(i:Int)):=range_eq n
 refine cZ (P:=Ip37_1 s0 s1 s2 n scr R i0 en ws c) (rg ix) (bk nI) ⟨List.range n,[],0,_,re,rfl,by rw [List.length_range,Nat.zero_add],Nat.le_refl _,rfl⟩ (fun G hP=>?_) fun y l G Kt hP nx rt=>?_
 ·obtain ⟨is,w,d,s6,e,gw,ed,lw,rfl⟩:=hP
  obtain rfl:=List.map_eq_nil_iff.mp e.symm
  obtain rfl:d=n:=ed
  refine cZ (P:=Ip37_2 s0 s1 s2 scr R i0 en ws c d) (rg ix) (bk nI) ⟨List.range d,w,_,re,by exact List.length_range.symm▸gw,by exact List.length_range.symm▸zB1 (Nat.add_le_add_right lw d) (zB1 (Nat.add_le_add (Nat.mul_le_mul_left 2 nz) nz) (by decide)),rfl⟩ (fun G hP=>?_) fun y l G Kt hP nx rt=>?_
  ·obtain ⟨is,w,s6,e,gw,lw,rfl⟩:=hP
   obtain rfl:=List.map_eq_nil_iff.mp e.symm
   have lw:w.length≤1000:=zB1 lw (by decide)
   refine u9 ix (h27 s0 s1 s2 R [i0] en ws _ g fun st' en' r hd=>⟨rfl,?_⟩)
   refine gL h9 g r4 hd gw lw fun b hb=>⟨rfl,?_⟩
   have m:MOk s0 s1 s2 R ws:=⟨sk,r4,g.len,g.ok⟩
   refine u8 (u:=b) ix (fun K k=>?_) h
   exact h34 s0 s1 s2 R [i0] en ws _ m fun kvs o=>⟨ri o,h35 s0 s1 s2 R i0 en ws kvs w 20 _ m dt tt o (g.st.rooms i0 (.head _)) gw lw fun b' hb'=>⟨rfl,qF hb hb'▸k⟩⟩
  ·obtain ⟨is,w,s6,e,gw,lw,rfl⟩:=hP
   cases is with
   | nil=>(injection e; done)
   | cons i is=>
    obtain ⟨rfl,rfl⟩:=zA5 e
    rw [zB4,← Nat.add_assoc] at lw
    obtain ⟨x,mx,hx⟩:=lH (cf:=cf) (G:=(d4 scr s0 s1 s2 (.v (aQ (sg s0 s1 s2) R [i0] en ws)) (.v (text w)) (.v (.int c)) (.v (.int d)) (.v (.int (0+(i:Int)))))) (e:=(sbE (vv 1) (ii 1))) (ei:=.nd (.call 21) [vv 4,mlE (ii 3) (vv 6)]) (s:=s1) ix ix (gq h21 ix (aa (.two ix ix) (eR (.inr (by decide))))) n1 sk.lb (zB1 (zB1 (Nat.le_add_right _ _) (Nat.le_of_succ_le lw)) (by decide))
    refine af hx (aD (nx _ ⟨is,w++[x],_,rfl,tF gw mx,?_,rfl⟩))
    rw [zB5,List.length_singleton,Nat.add_right_comm]; exact lw
 ·obtain ⟨is,w,d,s6,e,gw,ed,lw,rfl⟩:=hP
  cases is with
  | nil=>(injection e; done)
  | cons i is=>
   obtain ⟨rfl,rfl⟩:=zA5 e
   rw [zB4,← Nat.add_assoc] at ed
   have hd:d < 20:=Nat.lt_of_lt_of_le (Nat.lt_of_lt_of_le (Nat.lt_succ_of_le (Nat.le_add_right d is.length)) (zB2 ed)) nz
   have put:∀ {w:List Nat},Gd s0 s1 s2 20 d 0 w→w.length≤2 * d+1→exs sup cf [.mk (.assign 3) [adE (vv 3) (sbE (sbE (vv 1) (ii 0)) (mdE (.nd (.call 21) [vv 4,mlE (ii 2) (vv 6)]) (lnE (sbE (vv 1) (ii 0)))))] [] []] (d4 scr s0 s1 s2 (.v (aQ (sg s0 s1 s2) R [i0] en ws)) (.v (text w)) (.v (.int c)) (.v (.int n)) (.v (.int (0+(i:Int))))) Kt:=fun {w} gw lw=>by
    refine (lH (cf:=cf) (G:=(d4 scr s0 s1 s2 (.v (aQ (sg s0 s1 s2) R [i0] en ws)) (.v (text w)) (.v (.int c)) (.v (.int n)) (.v (.int (0+(i:Int)))))) (e:=(sbE (vv 1) (ii 0))) (ei:=.nd (.call 21) [vv 4,mlE (ii 2) (vv 6)]) (s:=s0) ix ix (gq h21 ix (aa (.two ix ix) (eR (.inr (by decide))))) n0 sk.la (zB1 lw (zB1 (Nat.succ_le_succ (Nat.mul_le_mul_left 2 (Nat.le_of_lt hd))) (by decide)))).elim fun x Zq35=>Zq35.elim fun mx hx=>?_
    exact af hx (aD (nx _ ⟨is,w++[x],d+1,_,rfl,v5 gw mx hd,by rw [Nat.add_right_comm]; exact ed,len1 (Nat.succ_le_succ lw),rfl⟩))
   refine bQ (av (.and (ae (aa (.two (aa (.two ix ix) (dY (a:=c) (b:=20) (by decide) (by decide))) ix) (bO (by decide))) ix oP) fun _=>.one (ae (x:=text s2) ix ix (jn fun c q=>sk.lowC q)))) (fun q=>?_) fun _=>put gw (Nat.le_succ_of_le lw)
   refine (lH (cf:=cf) (G:=(d4 scr s0 s1 s2 (.v (aQ (sg s0 s1 s2) R [i0] en ws)) (.v (text w)) (.v (.int c)) (.v (.int n)) (.v (.int (0+(i:Int)))))) (e:=(sbE (vv 1) (ii 2))) (ei:=.nd (.call 21) [vv 4,vv 6]) (s:=s2) ix ix (gq h21 ix ix) (dW (zA2 q).2) sk.lc (zB1 lw (zB1 (Nat.mul_le_mul_left 2 (Nat.le_of_lt hd)) (by decide)))).elim fun x Zq36=>Zq36.elim fun mx hx=>?_
   exact af hx (put (v4 gw mx) (len1 (Nat.succ_le_succ lw)))
theorem BH (h:dD x=true):aT .Eq x x=some true:=(if_pos (by rw [h]; rfl)).trans (congrArg some (PySem.SeqAt.eqv_refl x (zA2 h).1))
theorem zh (hs:scr.length≤63) (h0:0≤i) (h:i≤j) (hj:j≤i+15):∃ cs:List Int,cs.length≤20∧opN (.slice true true) [cL scr,.int i,.int j]=some (.list (cs.map .int)):=by
 have e:∀ {d n:Nat} {i:Int},0≤i→oI d n (some (.int i))=some (min i.toNat n):=fun h=>by
  refine (?_:some _=_)
  rw [if_pos h]
 refine ⟨(scr.drop (min i.toNat (scr.map PyData.int).length)).take (min j.toNat (scr.map PyData.int).length - min i.toNat (scr.map PyData.int).length),zB1 (List.length_take_le _ _) ?_,?_⟩
 ·have q:j.toNat≤i.toNat+15:=Int.toNat_le.mpr (by rw [Int.natCast_add,Int.toNat_of_nonneg h0]; exact hj)
  refine Nat.sub_le_of_le_add ?_
  rcases Nat.le_total (scr.map PyData.int).length i.toNat with z | z
  ·rw [Nat.min_eq_right z]; exact zB1 (Nat.min_le_right _ _) (Nat.le_add_left _ _)
  ·rw [Nat.min_eq_left z,Nat.add_comm]; exact zB1 (Nat.min_le_left _ _) (zB1 q (Nat.add_le_add_left (by decide) _))
 ·rw [List.map_take,List.map_drop]
  exact qB (l:=scr.map .int) (f:=.list) (by rw [zA4]; exact zB1 hs (by decide)) (e h0) (e (Int.le_trans h0 h)) (Nat.le_min.mpr ⟨zB1 (Nat.min_le_left _ _) (Int.toNat_le_toNat h),Nat.min_le_right _ _⟩)
structure All (cf:aj):Prop where
 me:MethOk cf
 h9:S9 cf
 h20:S20 cf
 h21:S21 cf
 h24:SgS 24 cf
 h26:S26 cf
 h27:S27 cf
 h29:S29 cf
 h30:S30 cf
 h31:S31 cf
 h32:S32 cf
 h36:S36 cf
 h37:S37 cf
section
variable {cf:aj} {G:Gs} {K:Option V→Gs→Prop} {f k:Nat} {a:E} {es:List E} {vs l:List V} {r:List S} {x:V} {P:V→Prop}
theorem su (hl:bE G k=some l) (hv:fG cf G es vs) (h:cf f vs fun y=>noX y=true∧l.length < ai∧exs sup cf r (G.set k (.ownL (l++[y]))) K):exs sup cf (.mk (.append k) [.nd (.call f) es] [] [] :: r) G K:=al hl (hv _ h)
theorem xA (hx:Val cf G a x) (hv:fG cf G es vs) (h:cf f vs fun y=>noX y=true∧okK (opN (.bin .Add) [x,y]) fun z=>ev cf a G fun x'=>okK (opN (.bin .Add) [z,x']) P):ev cf (adE (adE a (.nd (.call f) es)) a) G P:=hx _ (hv _ h)
end
noncomputable def g38 (scr:List Int) (s0 s1 s2:List Nat) (R:Int) (st en:List Int) (ws:List W) (mv:V) (s4 s5 s6 s7 s8 s9 s10 s11:Slot):Gs:=[.v (cL scr),.v (sg s0 s1 s2),.v (aQ (sg s0 s1 s2) R st en ws),.v mv,s4,s5,s6,s7,s8,s9,s10,s11,.unset,.unset]
section
variable {cf:aj} {scr:List Int} {s0 s1 s2:List Nat} {R:Int} {st en st' en':List Int} {ws:List W} {r:List V} {s5 s6 s7 s8 s9 s10 s11:Slot}
def qg (s0 s1 s2:List Nat) (w:List Nat):Prop:=Gd s0 s1 s2 4 0 0 w∧w.length≤40
theorem zx (sk:SgOk s0 s1 s2) (gw:qg s0 s1 s2 w) (v:List Nat):iw s0 s1 s2 0 (w++v)=iw s0 s1 s2 0 v:=pN sk gw.1 v
theorem ye (sk:SgOk s0 s1 s2) (h:low x=false):iw s0 s1 s2 0 [x]=false:=by
 have no:∀ {s:List Nat},(∀ c∈s,low c=true)→s.elem x=false:=fun hs=>jg fun m=>nomatch h.symm.trans (hs x m)
 rw [iw_cons,no fun c q=>sk.lowA q,no fun c q=>sk.lowB q,no fun c q=>sk.lowC q]; rfl
structure Odd (s0 s1 s2:List Nat) (x:V):Prop where
 ok:vOk x=true
 no:iwV s0 s1 s2 x=false
theorem nU (h1:∀ c∈w,c < 0x110000) (h2:w.length≤1000) (h:iw s0 s1 s2 0 w=false):Odd s0 s1 s2 (text w):=⟨zA3 ⟨by rw [du]; exact List.all_eq_true.mpr fun c m=>decide_eq_true (h1 c m),decide_eq_true h2⟩,h⟩
theorem lN (sk:SgOk s0 s1 s2) (gw:qg s0 s1 s2 w) (hx:x < 0x110000) (h:iw s0 s1 s2 0 [x]=false):Odd s0 s1 s2 (text (w++[x])):=nU (fun c m=>by
 rcases List.mem_append.mp m with m | m
 ·exact jZ (j6 sk gw.1 c m)
 ·rw [zA6 m]; exact hx) (len1 (zB1 (Nat.succ_le_succ gw.2) (by decide))) (by rw [zx sk gw]; exact h)
theorem qm (A:All cf) (g:ah s0 s1 s2 R st en ws) (h4:R≤4) (hd:Held st en (ws.map W.v) st' en' r) (ha:Val cf G a (bg (sg s0 s1 s2) R st' en' r)) (hb:Val cf G b x) (o:Odd s0 s1 s2 x):Val cf G (.nd (.call 32) [a,b]) (.bool true):=by
 obtain ⟨us,rfl,m,hm⟩:=rL g h4 hd
 refine (jI g hd).elim fun l1 Zq4=>Zq4.elim fun l2 _=>?_
 exact ar (.two ha hb) fun K k=>A.h32 s0 s1 s2 R st' en' us x K m l1 (fun i mi=>g.st.rooms i (hd.p1.mem_iff.mp mi)) l2 o.ok o.no k
theorem BB (A:All cf) (hs:scr.length≤63) (g:ah s0 s1 s2 R st en ws) (h4:R≤4) (lw:ws.length < 64) (hd:Held st en (ws.map W.v) st' en' r) (g0:qg s0 s1 s2 w0) (g1:qg s0 s1 s2 w1) (g2:qg s0 s1 s2 w2) {K:V→Prop} (h:K (.bool true)) :
  exs sup cf (f38.body.drop 8) (g38 scr s0 s1 s2 R st en ws (bg (sg s0 s1 s2) R st' en' r) (.v (.list [text w0,text w1,text w2])) s5 s6 s7 s8 s9 s10 s11) fun fl _=>K (fl.getD .none):=by
 have cell:∀ {G:Gs} {b:E} {i:Int},Val cf G (vv 0) (cL scr)→Val cf G b (.int i)→0≤i→Val cf G (.nd (.call 20) [vv 0,b]) (.int (a7 scr i)):=fun ha hb hi=>ar (.two ha hb) fun K h=>A.h20 scr _ K hs hi h
 have sk:=g.sk
 refine bQ (t:=false) ?_ (fun q=>nomatch q) fun _=>?_
 ·refine av ?_
  have t0:=ae (cf:=cf) (G:=g38 scr s0 s1 s2 R st en ws (bg (sg s0 s1 s2) R st' en' r) (.v (.list [text w0,text w1,text w2])) s5 s6 s7 s8 s9 s10 s11) (a:=(sbE (vv 1) (ii 0))) (b:=ss k0) (x:=text s0) ix ix (jn fun c q=>sk.lowA q)
  have t1:=ae (cf:=cf) (G:=g38 scr s0 s1 s2 R st en ws (bg (sg s0 s1 s2) R st' en' r) (.v (.list [text w0,text w1,text w2])) s5 s6 s7 s8 s9 s10 s11) (a:=(sbE (vv 1) (ii 1))) (b:=ss k0) (x:=text s1) ix ix (jn fun c q=>sk.lowB q)
  have z:=a8.and t0 fun q0=>a8.and t1 fun q1=>a8.one (ay (av (.go (b:=true) (ar (vs:=[cL scr,sg s0 s1 s2]) (.two (a:=vv 0) (b:=vv 1) ix ix) fun K k=>A.h37 scr s0 s1 s2 K hs sk (dW q0) (dW q1) k) (.one (ar (vs:=[cL scr,sg s0 s1 s2]) (.two (a:=vv 0) (b:=vv 1) ix ix) fun K k=>A.h36 scr s0 s1 s2 K hs sk (dW q0) (dW q1) k)))))
  rw [Bool.not_true,Bool.and_false,Bool.and_false] at z
  exact z
 have ad:∀ {w:List Nat} {x:Nat},qg s0 s1 s2 w→opN (.bin .Add) [text w,text [x]]=some (text (w++[x])):=fun gw=>ch (len1 (zB1 (Nat.succ_le_succ gw.2) (by decide)))
 obtain ⟨x,ox,hx⟩:∃ x,Odd s0 s1 s2 x∧opN .sub [.list [text (w0++[65]),.none,.int 5,.list [.str ⟨#[97]⟩],text (w1++[32]),.tuple [text w2],.bool true,.dict []],.int ((a7 scr 1).fmod 8)]=some x:=by
  have lt:((a7 scr 1).fmod 8).toNat < 8:=iR (n:=8) (by decide)
  refine ⟨_,?_,dX (by exact (by decide:8≤5000)) (aJ _ (by decide)) (List.getElem?_eq_getElem lt)⟩
  have ot:∀ {x:V},vOk x=true→iwV s0 s1 s2 x=false→Odd s0 s1 s2 x:=fun a b=>⟨a,b⟩
  have all:∀ x∈[text (w0++[65]),.none,.int 5,.list [.str ⟨#[97]⟩],text (w1++[32]),.tuple [text w2],.bool true,.dict []],Odd s0 s1 s2 x:=zA1 ⟨lN sk g0 (by decide) (ye sk rfl),zA1 ⟨ot rfl rfl,zA1 ⟨ot rfl rfl,zA1 ⟨ot rfl rfl,zA1 ⟨lN sk g1 (by decide) (ye sk rfl),zA1 ⟨ot rfl rfl,zA1 ⟨ot rfl rfl,List.forall_mem_singleton.mpr (ot rfl rfl)⟩⟩⟩⟩⟩⟩⟩
  exact all _ (List.getElem_mem lt)
 refine af (v:=x) (aa (.two (aa (.cons (aa (.two ix ix) (ad g0)) (.cons ix (.cons ix (.cons ix (.cons (aa (.two ix ix) (ad g1)) (.cons ix (.two ix ix))))))) rfl) (aa (.two (cell (i:=1) ix ix (by decide)) ix) (bO (by decide)))) hx) ?_
 have tail:∀ {s11:Slot},exs sup cf (f38.body.drop 11) (g38 scr s0 s1 s2 R st en ws (bg (sg s0 s1 s2) R st' en' r) (.v (.list [text w0,text w1,text w2])) s5 s6 s7 s8 s9 (.v x) s11) fun fl _=>K (fl.getD .none):=fun {s11}=>by
  refine bQ (t:=false) ?_ (fun q=>nomatch q) fun _=>?_
  ·have t1:=ae (cf:=cf) (G:=g38 scr s0 s1 s2 R st en ws (bg (sg s0 s1 s2) R st' en' r) (.v (.list [text w0,text w1,text w2])) s5 s6 s7 s8 s9 (.v x) s11) (a:=(sbE (vv 1) (ii 1))) (b:=ss k0) (x:=text s1) ix ix (jn fun c q=>sk.lowB q)
   have z:=a8.and t1 (es:=[.nd .not [.nd (.call 32) [vv 3,adE (sbE (sbE (vv 1) (ii 1)) (ii 0)) (sbE (vv 4) (ii 2))]]]) (u:=false) fun q1=>.one (ay (t:=true) ?_)
   ·rw [Bool.and_false] at z
    exact av z
   ·cases s1 with
    | nil=>(injection q1; done)
    | cons y s1=>
     have my:y∈y :: s1:=.head _
     refine qm A g h4 hd ix (x:=text ([y]++w2)) (aa (vs:=[text [y],text w2]) (.two (aa (vs:=[text (y :: s1),.int 0]) (.two ix ix) (qr (zB1 sk.lb (by decide)) (by decide) rfl)) ix) (ch (by rw [zB5]; exact zB1 (Nat.add_le_add_left g2.2 1) (by decide)))) (nU (fun c m=>?_) (by rw [zB5]; exact zB1 (Nat.add_le_add_left g2.2 1) (by decide)) ?_)
     ·rcases List.mem_append.mp m with m | m
      ·rw [zA6 m]; exact jZ (sk.lowB my)
      ·exact jZ (j6 sk g2.1 c m)
     ·rw [List.singleton_append,iw_cons,if_neg fun z=>sk.inB my (List.elem_iff.mp z),if_pos (List.elem_iff.mpr my)]; rfl
  obtain ⟨_,_,lr⟩:=jI g hd
  have fr:dD (.list r)=true:=dR (n:=2) (dq (ta sk g.ok fun y q=>(hd.mem y).mp q)) (by decide)
  have up:=hd.up (by rw [zA4]; exact lw)
  refine az (v:=.bool true) (av (.go (b:=true) (qm A g h4 hd ix ix ox) (.one (ae (x:=.list r) (y:=.list r) (eD ix rfl (A.me.m13 _ _ _ _ _ · (zB1 lr (by decide)))) (fun K k=>?_) (BH fr))))) h
  refine A.h27 s0 s1 s2 R st en ws _ g fun st'' en'' r' hd'=>⟨rfl,rfl,?_⟩
  obtain rfl:=sJ sk g.ok hd.nd hd.mem up hd'.nd hd'.mem (hd'.up (by rw [zA4]; exact lw))
  exact A.me.m13 _ _ _ _ _ _ (zB1 lr (by decide)) ⟨rfl,k⟩
 refine bQ (ae (x:=text s0) ix ix (jn fun c q=>sk.lowA q)) (fun q=>?_) fun _=>tail
 obtain ⟨y,my,hy⟩:=ig (cf:=cf) (G:=g38 scr s0 s1 s2 R st en ws (bg (sg s0 s1 s2) R st' en' r) (.v (.list [text w0,text w1,text w2])) s5 s6 s7 s8 s9 (.v x) s11) (e:=(sbE (vv 1) (ii 0))) (ei:=(fdE (.nd (.call 20) [vv 0,ii 1]) (ii 8))) (s:=s0) ix (aa (.two (cell (i:=1) ix ix (by decide)) ix) (dY (by decide) (by decide))) (dW q) sk.la
 refine af hy (bQ (t:=false) (ay (t:=true) (qm A g h4 hd ix (x:=text (w1++[y])) (aa (vs:=[text w1,text [y]]) (.two ix ix) (ad g1)) (lN sk g1 (jZ (sk.lowA my)) ?_))) (fun q=>nomatch q) fun _=>tail)
 rw [iw_cons,if_pos (List.elem_iff.mpr my)]; rfl
end
theorem wR:∀ n,n < 13→0≤([4,4,4,4,3,2,2,2,2,2,2,2,2]:List Int).getD n 0∧([4,4,4,4,3,2,2,2,2,2,2,2,2]:List Int).getD n 0≤4:=by decide
theorem AE {us:List (List Nat)} (h:us.length=3):∃ w0 w1 w2,us=[w0,w1,w2]:=by
 rcases us with _ | ⟨a,_ | ⟨b,_ | ⟨c,_ | ⟨d,us⟩⟩⟩⟩
 ·exact absurd h (by decide)
 ·exact absurd h (by exact (by decide:¬ 1=3))
 ·exact absurd h (by exact (by decide:¬ 2=3))
 ·exact ⟨a,b,c,rfl⟩
 ·exact absurd (Nat.succ.inj (Nat.succ.inj (Nat.succ.inj h))) (Nat.succ_ne_zero _)
inductive Ip38_1 (s0 s1 s2:List Nat) (scr:List Int) (R:Int) (st en:List Int) (ws:List W) (st' en':List Int) (r:List V) (xs:List V) (G:Gs):Prop
 | mk (ks:List Nat) (us:List (List Nat)) (s5 s6:Slot) (e3_:xs=ks.map (fun i:Nat=>.int (0+(i:Int)))) (e4_:(∀ k∈ks,k < 3)) (e5_:us.length+ks.length=3) (e6_:(∀ w∈us,qg s0 s1 s2 w)) (e7_:G=g38 scr s0 s1 s2 R st en ws (bg (sg s0 s1 s2) R st' en' r) (.ownL (us.map text)) s5 s6 .unset .unset .unset .unset .unset):Ip38_1 s0 s1 s2 scr R st en ws st' en' r xs G
inductive Ip38_2 (s0 s1 s2:List Nat) (scr:List Int) (R:Int) (st en:List Int) (ws:List W) (st' en':List Int) (r:List V) (us:List (List Nat)) (s5 s6:Slot) (most:Int) (xs:List V) (G:Gs):Prop
 | mk (ys:List (List Nat)) (s8 s9:Slot) (e2_:xs=ys.map text) (e3_:(∀ w∈ys,qg s0 s1 s2 w)) (e4_:G=g38 scr s0 s1 s2 R st en ws (bg (sg s0 s1 s2) R st' en' r) (.v (.list (us.map text))) s5 s6 (.v (.int most)) s8 s9 .unset .unset):Ip38_2 s0 s1 s2 scr R st en ws st' en' r us s5 s6 most xs G
theorem p38 (cf:aj) (A:All cf) (scr:List Int) (hs:scr.length≤63) (K:V→Prop) (h:K (.bool true)):step cf 38 [cL scr] K:=by
 have cell:∀ {G:Gs} {b:E} {i:Int},Val cf G (vv 0) (cL scr)→Val cf G b (.int i)→0≤i→Val cf G (.nd (.call 20) [vv 0,b]) (.int (a7 scr i)):=fun ha hb hi=>ar (.two ha hb) fun K h=>A.h20 scr _ K hs hi h
 refine (A.h24 (a7 scr 0)).elim fun s0 Zq1=>Zq1.elim fun s1 Zq2=>Zq2.elim fun s2 Zq3=>Zq3.elim fun sk hsg=>?_
 refine run (fn:=f38) rfl rfl rfl (af (v:=sg s0 s1 s2) (ar (vs:=[.int (a7 scr 0)]) (.one (cell ix ix (by decide))) hsg) ?_)
 refine cj (vs:=[cL scr,.int 2,sg s0 s1 s2,.int 4]) (.cons ix (.cons ix (.two ix ix))) (A.h26 scr s0 s1 s2 _ hs sk fun R st en ws po=>⟨rfl,?_⟩)
 have g:ah s0 s1 s2 R st en ws:=⟨sk,po.r1,Int.le_trans po.r4 (by decide),po.st,po.en,Nat.lt_of_le_of_lt po.len (by decide),po.ok⟩
 refine cj (vs:=[aQ (sg s0 s1 s2) R st en ws]) (.one ix) (A.h27 s0 s1 s2 R st en ws _ g fun st' en' r hd=>⟨rfl,ia ?_⟩)
 have m:MOk s0 s1 s2 R ws:=⟨sk,po.r4,g.len,po.ok⟩
 refine cZ (P:=Ip38_1 s0 s1 s2 scr R st en ws st' en' r)
  (br (n:=3) ix (by decide) (by decide)) (bk (by decide)) ⟨List.range 3,[],_,_,range_eq 3,fun k mk=>List.mem_range.mp mk,rfl,fun _ q=>(nM q),rfl⟩ (fun G hP=>?_) fun y l G Kt hP nx rt=>?_
 ·obtain ⟨ks,us,s5,s6,e,_,lk,gu,rfl⟩:=hP
  obtain rfl:=List.map_eq_nil_iff.mp e.symm
  have ll:(s0++s1++s2).length≤12:=by
   rw [zB5,zB5]
   exact Nat.add_le_add (Nat.add_le_add sk.la sk.lb) sk.lc
  have l2:(s0++s1).length≤5000:=by
   rw [zB5]
   exact zB1 (Nat.add_le_add sk.la sk.lb) (by decide)
  refine (wR _ (Nat.lt_succ_of_le ll)).elim fun m0 m4=>?_
  have e7:=iS (l:=[4,4,4,4,3,2,2,2,2,2,2,2,2]) (i:=((s0++s1++s2).length:Int)) (Int.natCast_nonneg _) (Int.ofNat_lt.mpr (Nat.lt_succ_of_le ll))
  rw [Int.toNat_natCast] at e7
  generalize ([4,4,4,4,3,2,2,2,2,2,2,2,2]:List Int).getD (s0++s1++s2).length 0=most at e7 m0 m4
  refine af (v:=.int most) (aa (vs:=[.list (([4,4,4,4,3,2,2,2,2,2,2,2,2]:List Int).map .int),.int ((s0++s1++s2).length:Int)]) (.two ix (aa (.one (aa (vs:=[text (s0++s1),text s2]) (.two (aa (vs:=[text s0,text s1]) (.two ix ix) (ch l2)) ix) (ch (zB1 ll (by decide))))) (il (zB1 ll (by decide))))) (dX (by decide) (Int.natCast_nonneg _) (by rw [Int.toNat_natCast]; exact e7))) ?_
  refine eB (l:=us.map text) rfl ?_
  have lu:us.length=3:=lk
  refine yM (xA (x:=.list (us.map text)) (vs:=[sg s0 s1 s2,.int most]) ix (.two ix ix) (A.h31 s0 s1 s2 most _ sk m0 m4 fun fs gf lf=>⟨rfl,?_⟩))
  have lz:((us++fs).map text).length≤ai:=by
   rw [zA4,zB5,lu]
   exact zB1 (Nat.add_le_add_left lf 3) (by decide)
  have lz':((us++fs++us).map text).length≤ai:=by
   rw [zA4,zB5,zB5,lu]
   exact zB1 (Nat.add_le_add_right (Nat.add_le_add_left lf 3) 3) (by decide)
  refine al (z:=.list ((us++fs).map text)) (by rw [List.map_append] at lz ⊢; exact iY lz) ?_
  refine al (z:=.list ((us++fs++us).map text)) (by rw [List.map_append (l₁:=us++fs)] at lz' ⊢; exact iY lz') ?_
  have gv:∀ w∈us++fs++us,qg s0 s1 s2 w:=fun w mw=>by
   refine (List.mem_append.mp mw).elim (fun mw=>?_) fun mw=>?_
   ·refine (List.mem_append.mp mw).elim (fun mw=>?_) fun mw=>?_
    ·exact gu w mw
    ·exact ⟨(gf w mw).1,zB1 (gf w mw).2 (by decide)⟩
   ·exact gu w mw
  generalize us++fs++us=vs at gv lz'
  refine cZ (P:=Ip38_2 s0 s1 s2 scr R st en ws st' en' r us s5 s6 most) ix (kE lz') ⟨vs,_,_,rfl,gv,rfl⟩ (fun G hP=>?_) fun y l G Kt hP nx rt=>?_
  ·obtain ⟨_,s8,s9,_,_,rfl⟩:=hP
   obtain ⟨w0,w1,w2,rfl⟩:=AE lu
   exact BB A hs g po.r4 (Nat.lt_of_le_of_lt po.len (by decide)) hd (gu w0 (.head _)) (gu w1 (.tail _ (.head _))) (gu w2 (.tail _ (.tail _ (.head _)))) h
  ·obtain ⟨ys,s8,s9,e,gy,rfl⟩:=hP
   cases ys with
   | nil=>(injection e; done)
   | cons w ys=>
    obtain ⟨rfl,rfl⟩:=zA5 e
    obtain ⟨gw,lw⟩:=gy w (.head _)
    have lw:w.length≤1000:=zB1 lw (by decide)
    refine cj (vs:=[bg (sg s0 s1 s2) R st' en' r,text w]) (.two ix ix) (gL A.h9 g po.r4 hd gw lw fun b hb=>⟨rfl,?_⟩)
    refine aG (bw (.go (b:=false) (ay (t:=true) (qN (u:=b) ix)) (.one' (ae (x:=.bool b) (y:=.bool b) ix (ar (vs:=[aQ (sg s0 s1 s2) R st en ws,text w]) (.two ix ix) fun K k=>A.h29 s0 s1 s2 R st en ws w K m po.st gw lw fun b' hb'=>qF hb hb'▸k) (BG (by cases b <;> rfl)))))) (aD (nx _ ⟨ys,_,_,rfl,fun v mv=>gy v (.tail _ mv),rfl⟩))
 ·obtain ⟨ks,us,s5,s6,e,hk,lk,gu,rfl⟩:=hP
  cases ks with
  | nil=>(injection e; done)
  | cons k ks=>
   obtain ⟨rfl,rfl⟩:=zA5 e
   have k3:∀ k:Nat,k < 3→0≤(15+10 * (0+(k:Int)))∧15+10 * (0+(k:Int))≤25+10 * (0+(k:Int))+5 * (0+(k:Int)).fdiv 2∧25+10 * (0+(k:Int))+5 * (0+(k:Int)).fdiv 2≤15+10 * (0+(k:Int))+15:=by decide
   refine (k3 k (hk k (.head _))).elim fun z0 Zq37=>Zq37.elim fun z1 z2=>?_
   obtain ⟨cs,lc,hc⟩:=zh hs z0 z1 z2
   refine af (v:=.list ((cs.map fun c=>rj c (0+(k:Int))).map .int)) ?_ ?_
   ·rw [List.map_map]
    exact dg (g:=.int) (aa (vs:=[cL scr,.int (15+10 * (0+(k:Int))),.int (25+10 * (0+(k:Int))+5 * (0+(k:Int)).fdiv 2)]) (.cons ix (.two (aa (.two ix (aa (.two ix ix) (eR (.inr (by decide))))) rfl) (aa (.two (aa (.two ix (aa (.two ix ix) (eR (.inr (by decide))))) rfl) (aa (.two ix (aa (.two ix ix) (dY (by decide) (by decide)))) (eR (.inr (by decide))))) rfl))) hc) (bn (by rw [zA4]; exact zB1 lc (by decide))) fun c _=>gq A.h21 ix ix
   ·refine su (l:=us.map text) (vs:=[sg s0 s1 s2,.list ((cs.map fun c=>rj c (0+(k:Int))).map .int)]) rfl (.two ix ix) (A.h30 s0 s1 s2 _ _ sk (by rw [zA4]; exact lc) fun w gw lw=>⟨rfl,?_,aD (nx _ ⟨ks,us++[w],.v (.int (0+(k:Int))),.v (.list ((cs.map fun c=>rj c (0+(k:Int))).map .int)),rfl,fun j mj=>hk j (.tail _ mj),?_,fun v mv=>?_,?_⟩)⟩)
    ·rw [zA4]
     exact Nat.lt_of_le_of_lt (zB1 (Nat.le_add_right _ _) (zB2 lk)) (by decide)
    ·rw [zB5,List.length_singleton,Nat.add_assoc,Nat.add_comm 1]; exact lk
    ·rcases List.mem_append.mp mv with mv | mv
     ·exact gu v mv
     ·exact (zA6 mv).symm▸⟨gw,lw⟩
    ·rw [List.map_append]; rfl
theorem meths (cf:aj):MethOk (step cf):=⟨fun _ _ _ _ _ _=>p15,fun _ _ _ _ _ _=>p16,fun _ _ _ _ _ _=>p17,fun _ _ _ _ _ _=>p18,fun _ _ _ _ _ _=>p19⟩
theorem Ab (scr:List Int) (hs:scr.length≤63):am prog 8 38 [.list (scr.map .int)] fun y=>y=.bool true:=by
 have b:∀ n,S14 (am prog (n+4)):=fun n=>p14 _ (p2 _ (p1 _ (p0 (am prog n)))) (p10 (am prog (n+2))) (p11 _ (p10 (am prog (n+1)))) (p13 _ (p12 _ (p3 (am prog n)) (p10 (am prog n))))
 have l:∀ n,S9 (am prog (n+4)):=fun n=>p9 _ (p3 (am prog (n+2))) (p5 _ (p4 _ (p3 (am prog n)))) (p6 (am prog (n+2))) (p7 (am prog (n+2))) (p8 (am prog (n+2))) (meths (am prog (n+2)))
 have c:∀ n,S29 (am prog (n+2)):=fun n=>p29 _ (p28 (am prog n))
 have A:All (am prog 7):={
  me:=meths (am prog 6)
  h9:=l 3
  h20:=p20 (am prog 6)
  h21:=p21 (am prog 6)
  h24:=p24 _ (p23 (am prog 5))
  h26:=p26 _ (p20 (am prog 5)) (p21 (am prog 5)) (p25 (am prog 5))
  h27:=p27 _ (b 2)
  h29:=c 5
  h30:=p30 (am prog 6)
  h31:=p31 (am prog 6)
  h32:=p32 _ (l 2) (Cg (am prog 5))
  h36:=p36 _ (l 2) (p20 (am prog 5)) (p21 (am prog 5)) (p27 _ (b 1)) (c 4)
  h37:=p37 _ (l 2) (p20 (am prog 5)) (p21 (am prog 5)) (p27 _ (b 1)) (p33 _ (p20 (am prog 4)) (p21 (am prog 4))) (p34 (am prog 5)) (p35 (am prog 5)) }
 exact p38 _ A scr hs _ rfl
end Mine.L03
end
noncomputable section
open PySem PySem.W PyProof.Rows
namespace Mine.L03
theorem said:PySem.Challenge.rw_uf010006_03.wellSaid=true:=by kernel_rfl
theorem law03:PySem.Challenge.rw_uf010006_03.Holds:=by
 w_on
 refine holds_law said fun said=>?_
 refine holds_open (q:=vw) (loose:=[]) (Xt:=vwX) (XP:=XL vw []) (Yf:=Hook.obs pL) (Ya:=Hook.val pL) (YP:=Hook.says pL) (N:=6468) zr (Hook.of pL) (Hook.keeps pL) (fun s e=>xl_of s (Bool.and_eq_true_iff.mp e).1) XL.keeps (by rfl) (by rfl) (by rfl) (fun s e=>recFacts_of (Bool.and_eq_true_iff.mp e).2) (by rfl) said (by decide +kernel) ⟨rfl,rfl,rfl,rfl,rfl,by decide +kernel⟩ ?hw ?hc
 case hw=>w_witness2
 intro w s₀ s₁ mg mb G Y fa o pm cd doc dV kV ho hd hcd hD hmg hg args vals as hpre hlay hrd hwl hlo
 obtain ⟨K,KX,e,hbd⟩:=Y
 have c:=xF (g:=⟨PySem.Challenge.rw_uf010006_03.row.prog,w,s₁.heap,mg,mb,fun f=>fnA.getD f 0,mchA,K,fldN,s₁.os,prog,fun c=>clsA.getD c 0,8,safe,newf,fnN,clsN,conN⟩) KX e hbd rfl rfl rfl rfl rfl rfl rfl rfl rfl rfl rfl G.T.g G.T.b G.T.nolimit G.T.builtins (fun o ho=>let ⟨C,O,_⟩:=G.T.own o ho; ⟨C,O⟩) (by decide +kernel) 8
 have hm:some (Value.ref fa)=some (Value.ref 384):=hmg.symm.trans (c.1.fns "law" 38 rfl)
 cases hm
 exact uE (l:=PySem.Challenge.rw_uf010006_03) rfl rfl c.2 rfl rfl rfl hg (f:=38) (by decide) hpre hwl (fun scr hs=>Ab scr hs)
end Mine.L03
theorem PySem.Challenge.cw_uf010006_03_holds : PySem.Challenge.rw_uf010006_03.Holds :=
 Mine.L03.law03
end

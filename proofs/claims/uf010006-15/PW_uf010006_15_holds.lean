import PyProof.Rows.All
import PySem.SetTable
import PyProof.WalkLemmas
import PyProof.CallStr
import PyProof.CollectWalk
import PyProof.Conv_int_bool
import PyProof.TupleKey
import PyProof.DictRoadsH
import PyProof.EqAt
import PyProof.IsRules
import PyProof.EqKinds
import PyProof.ExcAttrAll.ValueError
import PyProof.ListNew
import PyProof.ListMulAny
import PyProof.WalkInts
import PyProof.SetKind
import PyProof.StrCalls2
import PyProof.SeqI3
import PyProof.StrLawsTight
import PyProof.Rows.SortRunsK
import PyProof.SetRoads
import PyProof.SetNew
import PyProof.Rows.SetFrom
import OpenK.KDescr
import OpenK.KCls
import Open.Line
import OpenK.KWalk
import OpenK.KMore
import KE.KIntText
import Wide.FinOn
import Wide.All
import Lean
import PySem.Challenge.RW_uf010006_15
set_option Elab.async false
set_option linter.all false
set_option genSizeOf false
set_option tactic.hygienic false
set_option genSizeOfSpec false
set_option genInjectivity false
set_option maxRecDepth 100000
set_option linter.unusedVariables false
set_option maxHeartbeats 4000000
set_option maxHeartbeats 8000000
set_option linter.unusedSectionVars false
noncomputable section
namespace Mine
open PySem
theorem zA1 {α:Type} {p:α→Prop} {a:α} {l:List α} (h:p a∧∀ x∈l,p x):∀ x∈a::l,p x:=List.forall_mem_cons.mpr h
theorem zA2 {a b:Bool} (h:(a&&b)=true):a=true∧b=true:=(Bool.and_eq_true _ _).mp h
theorem zA3 {a b:Bool} (h:a=true∧b=true):(a&&b)=true:=(Bool.and_eq_true _ _).mpr h
theorem zA4 {α β:Type} {f:α→β} {l:List α}:(l.map f).length=l.length:=List.length_map _
theorem zA5 {α:Type} {a b:α} {l m:List α} (h:a::l=b::m):a=b∧l=m:=List.cons.inj h
theorem zA6 {α:Type} {a b:α} (h:a∈[b]):a=b:=List.mem_singleton.mp h
theorem zB1 {n m k:Nat} (a:n≤m) (b:m≤k):n≤k:=Nat.le_trans a b
theorem zB2 {n m:Nat} (a:n=m):n≤m:=Nat.le_of_eq a
theorem zB3 {α:Type} {a:Array α}:a.toList.length=a.size:=Array.length_toList
theorem zB4 {α:Type} {a:α} {l:List α}:(a::l).length=l.length+1:=rfl
theorem zB5 {α:Type} {l m:List α}:(l++m).length=l.length+m.length:=List.length_append
theorem zC1 {α β:Type} {M:Model} {A:Around} {m:Sem α} {f:α→Sem β} {Q:β→Shared→Prop} {E:Value→Shared→Prop} {s:Shared} (h:wpAny M A m (fun a s'=>wpAny M A (f a) Q E s') E s):wpAny M A (m>>=f) Q E s:=wpAny_bind h
theorem zC2 {α:Type} {M:Model} {A:Around} {a:α} {Q:α→Shared→Prop} {E:Value→Shared→Prop} {s:Shared} (h:Q a s):wpAny M A (pure a) Q E s:=wpAny_pure h
theorem zA7 {α β:Type} {f:α→β} {b:β} {l:List α} (h:b∈l.map f):∃ a,a∈l∧f a=b:=List.mem_map.mp h
theorem av {G:Prop} (h:∀ P:Prop,(G→P)→P):G:=h G id
theorem fy {α:Type} {M:Model} {A:Around} {c:Prop} [Decidable c] {t e:Sem α} {Q:α→Shared→Prop} {E:Value→Shared→Prop} {s:Shared} (h:¬ c) (x:wpAny M A e Q E s):wpAny M A (if c then t else e) Q E s:=if_neg h▸x
theorem dp {α:Type} {M:Model} {A:Around} {c:Prop} [Decidable c] {t e:Sem α} {Q:α→Shared→Prop} {E:Value→Shared→Prop} {s:Shared} (h:c) (x:wpAny M A t Q E s):wpAny M A (if c then t else e) Q E s:=if_pos h▸x
noncomputable abbrev V:=PyData
noncomputable abbrev Sc:=Int ⊕ Str
inductive Slot where
 | unset
 | v (x:V)
 | ownL (l:List V)
 | ownI (l:List V)
 | junk
noncomputable abbrev Gs:=List Slot
inductive Op where
 | lit (x:V)
 | var (k:Nat)
 | own (k:Nat)
 | bin (o:Operator)
 | cmp (o:CmpOp)
 | chain (lt:Bool)
 | and | or | not | neg | ite
 | tuple | list | sub
 | slice (lo hi:Bool)
 | call (f:Nat)
 | meth (f:Nat)
 | attr (j:Nat)
 | isinst (t:Nat)
 | len | listOf | sorted | sortedSet | sortedSetI | lenSet
 | join | count | split
 | index (ts:List Str)
 | strOf | intOf | max
 | isExc (c:Nat) (tb:List Bool)
 | edict | tupleOf
 | comp (k:Nat)
 | range | zip
inductive E where
 | nd (o:Op) (es:List E)
inductive SOp where
 | assign (k:Nat)
 | assignM (ks:List Nat)
 | ownL (k:Nat)
 | append (k:Nat)
 | setAttr (k j:Nat)
 | setAttrN (k j:Nat)
 | call (f:Nat)
 | ret
 | try2 (f c c':Nat)
 | tryCC (g f c k:Nat)
 | ite
 | forS (k:Nat)
 | forM (ks:List Nat)
 | freeze (k:Nat)
 | raise (c:Nat)
inductive S where
 | mk (o:SOp) (es:List E) (a b:List S)
section
variable {α:Type}
noncomputable def az:Nat:=2 ^ 20
noncomputable def bO (l:List α) (z:β):Option β:=if l.length≤az then some z else none
noncomputable def text (l:List Nat):V:=.str ⟨l.toArray⟩
noncomputable def da (v:V):Bool:=v.canLay0&&decide (v.depth≤64)
noncomputable def cS (x:V) (f:Bool→Option α):Option α:=match x with
 | .bool b=>f b
 | _=>none
noncomputable def mn (x:V) (f:Int→Option α):Option α:=match x with
 | .int i=>f i
 | _=>none
noncomputable def pA (x:V) (f:List Nat→Option α):Option α:=match x with
 | .str s=>f s.cps.toList
 | _=>none
noncomputable def dW (x:V) (f:List V→Option α):Option α:=match x with
 | .list l=>f l
 | _=>none
noncomputable def Bl (x:V) (f:List V→Option α):Option α:=match x with
 | .tuple l=>f l
 | _=>none
noncomputable def oR (x y:V) (f:Int→Int→Option α):Option α:=mn x fun a=>mn y (f a)
end
noncomputable def BI (x y:V):Option V:=match x with
 | .int a=>mn y fun b=>some (.int (a+b))
 | .str a=>pA y fun b=>bO (a.cps.toList++b) (text (a.cps.toList++b))
 | .list a=>dW y fun b=>bO (a++b) (.list (a++b))
 | .tuple a=>Bl y fun b=>bO (a++b) (.tuple (a++b))
 | _=>none
noncomputable def t7 (o:Operator) (x y:V):Option V:=match o with
 | .Add=>BI x y
 | .Sub=>oR x y fun a b=>some (.int (a - b))
 | .Mult=>match x with
  | .str s=>mn y fun n=>if n=0 then some (text []) else if n=1∧s.cps.toList.length≤16 then some (text s.cps.toList) else none
  | x=>oR x y fun a b=>if b.natAbs≤1000000∨a.natAbs≤1000000 then some (.int (a * b)) else none
 | .FloorDiv=>oR x y fun a b=>if b=0∨1000000 < b.natAbs then none else some (.int (a.fdiv b))
 | .Mod=>oR x y fun a b=>if b=0 then none else some (.int (a.fmod b))
 | _=>none
noncomputable def eqO (a b:V):Option Bool:=if (da a&&da b)=true then some (PyData.eqv a b) else none
noncomputable def isNone:V→Bool
 | .none=>true
 | _=>false
noncomputable def inO (a b:V):Option Bool:=match b with
 | .str t=>pA a fun s=>match s with | [c]=>some (t.cps.toList.elem c) | _=>none
 | .list l=>if (da a&&da (.list l))=true then some (l.any fun x=>PyData.eqv x a) else none
 | .tuple l=>if (da a&&da (.tuple l))=true then some (l.any fun x=>PyData.eqv x a) else none
 | _=>none
noncomputable def aS (o:CmpOp) (x y:V):Option Bool:=match o with
 | .Eq=>eqO x y
 | .NotEq=>(eqO x y).map (!·)
 | .Lt=>oR x y fun a b=>some (decide (a < b))
 | .LtE=>oR x y fun a b=>some (decide (a≤b))
 | .Gt=>oR x y fun a b=>some (decide (b < a))
 | .GtE=>oR x y fun a b=>some (decide (b≤a))
 | .Is=>if isNone y=true then some (isNone x) else none
 | .IsNot=>if isNone y=true then some (!isNone x) else none
 | .In=>inO x y
 | .NotIn=>(inO x y).map (!·)
noncomputable def br (s:List Nat):List V:=s.map fun c=>text [c]
noncomputable def a9 (a b:Int):List V:=(List.range (b - a).toNat).map fun (i:Nat)=>.int (a+i)
noncomputable def rOk (i:Int):Bool:=Nat.ble i.natAbs 4611686018427387903
noncomputable def mX (a b:Int):Option V:=if rOk a=true∧rOk b=true then bO (a9 a b) (.list (a9 a b)) else none
noncomputable def pU (l:List α) (f:α→V) (y:V):Option V:=mn y fun i=>if l.length≤az then (if 0≤i then l[i.toNat]? else if 0≤i+l.length then l[(i+l.length).toNat]? else none).map f else none
noncomputable def tV (x y:V):Option V:=match x with
 | .list l=>pU l id y
 | .tuple l=>pU l id y
 | .str s=>pU s.cps.toList (fun c=>text [c]) y
 | _=>none
noncomputable def sM (d n:Nat) (y:Option V):Option Nat:=match y with
 | none=>some d
 | some x=>mn x fun i=>some (if 0≤i then min i.toNat n else (i+n).toNat)
noncomputable def qq (f:List α→V) (l:List α) (lo hi:Option V):Option V:=
 if l.length≤az then (sM 0 l.length lo).bind fun i=>(sM l.length l.length hi).bind fun j=>if i≤j then some (f ((l.drop i).take (j - i))) else none else none
noncomputable def d9 (a:V) (lo hi:Option V):Option V:=match a with
 | .list l=>qq .list l lo hi
 | .tuple l=>qq .tuple l lo hi
 | .str s=>qq text s.cps.toList lo hi
 | _=>none
noncomputable def iU:List String:=["str", "tuple", "list", "int", "bool"]
noncomputable def isT (x:V) (t:Nat):Option Bool:=match x with
 | .none=>some false
 | .bool _=>some (t==4||t==3)
 | .int _=>some (t==3)
 | .str _=>some (t==0)
 | .list _=>some (t==2)
 | .tuple _=>some (t==1)
 | .dict kvs=>if kvs.isEmpty=true then some false else none
noncomputable def bM (x:V):Option (List V):=match x with
 | .list l=>bO l l
 | .tuple l=>bO l l
 | .str s=>bO s.cps.toList (br s.cps.toList)
 | _=>none
noncomputable def dR (l:List V):Option (List (List Nat)):=l.mapM fun x=>pA x some
noncomputable def bZ (l:List V):Option (List Int):=l.mapM fun x=>mn x some
noncomputable def aM (sep:List Nat):List (List Nat)→List Nat
 | []=>[]
 | [x]=>x
 | x :: r=>x++sep++aM sep r
noncomputable def af (c:Nat):List Nat→List (List Nat)
 | []=>[[]]
 | x :: r=>if x=c then [] :: af c r else (af c r).modifyHead (x :: ·)
noncomputable def y7 (x y:V):Option V:=pA x fun s=>pA y fun t=>match t with
 | [c]=>if s.length < az then some (.list ((af c s).map text)) else none
 | _=>none
noncomputable def figs (n:Nat):List Nat:=if n < 10 then [48+n] else [48+n / 10,48+n % 10]
noncomputable def qE (x:V):Option V:=match x with
 | .str s=>some (.str s)
 | .int i=>if 0≤i∧i < 100 then some (text (figs i.toNat)) else none
 | _=>none
noncomputable def bf (c:Nat):Bool:=Nat.ble 48 c&&Nat.ble c 57
noncomputable def nA (x:V):Option V:=match x with
 | .bool b=>some (.int (if b=true then 1 else 0))
 | .str s=>match s.cps.toList with
  | [a]=>if bf a=true then some (.int ((a - 48:Nat):Int)) else none
  | [a,b]=>if bf a=true∧bf b=true then some (.int (((a - 48) * 10+(b - 48):Nat):Int)) else none
  | _=>none
 | _=>none
noncomputable def qQ (ts:List Str) (x:V):Option V:=match x with
 | .str s=>(ts.findIdx? fun t=>decide (t=s)).map fun (i:Nat)=>.int i
 | _=>none
noncomputable def yl (is:List Int):Option Int:=match is with
 | []=>none
 | a :: r=>some (r.foldl max a)
noncomputable def okK {α:Type} (o:Option α) (K:α→Prop):Prop:=match o with
 | some z=>K z
 | none=>False
noncomputable abbrev D:=Gs→(V→Prop)→Prop
noncomputable abbrev B:=Gs→(Option V→Gs→Prop)→Prop
noncomputable abbrev ad:=Nat→List V→(V→Prop)→Prop
noncomputable def getSlot (G:Gs) (k:Nat):Slot:=G.getD k .unset
noncomputable def x4 (G:Gs) (k:Nat):Option V:=match getSlot G k with
 | .v x=>some x
 | _=>none
noncomputable def eF (G:Gs) (k:Nat):Option (List V):=match getSlot G k with
 | .ownL l=>some l
 | _=>none
noncomputable def dB (G:Gs) (k:Nat):Option (List V):=match getSlot G k with
 | .ownI l=>some l
 | _=>none
noncomputable def bY (ds:List D) (G:Gs):(List V→Prop)→Prop:=
 List.rec (motive:=fun _=>(List V→Prop)→Prop) (fun f=>f []) (fun d _ ih f=>d G fun x=>ih fun xs=>f (x :: xs)) ds
noncomputable def iI (ds:List D) (G:Gs) (f:V→Prop):Prop:=match ds with
 | [d]=>d G f
 | _=>False
noncomputable def cw (b:Bool) (ds:List D) (G:Gs):(Bool→Prop)→Prop:=
 List.rec (motive:=fun _=>(Bool→Prop)→Prop) (fun f=>f b) (fun d _ ih f=>d G fun x=>okK (cS x some) fun c=>if c=b then ih f else f c) ds
noncomputable def B0 (ds:List D) (G:Gs) (K:V→Prop):Prop:=match ds with
 | [c,a,b]=>c G fun x=>okK (cS x some) fun t=>if t=true then a G K else b G K
 | _=>False
noncomputable def z9 (lt:Bool) (ds:List D) (G:Gs) (K:V→Prop):Prop:=match ds with
 | [a,b,c]=>a G fun x=>b G fun y=>okK (aS .LtE x y) fun t=>if t=true then c G fun z=>okK (aS (if lt=true then .Lt else .LtE) y z) fun u=>K (.bool u) else K (.bool false)
 | _=>False
noncomputable def iB (k:Nat) (G:Gs) (x:V):Option Gs:=some (G.set k (.v x))
noncomputable def cj (ks:List Nat) (G:Gs) (x:V):Option Gs:=match x with
 | .tuple xs=>if xs.length=ks.length then some ((ks.zip xs).foldl (fun G p=>G.set p.1 (.v p.2)) G) else none
 | _=>none
noncomputable def jC (e:D) (ts:List D) (b:Gs→V→Option Gs) (G:Gs) (xs:List V):(List V→Prop)→Prop:=
 List.rec (motive:=fun _=>(List V→Prop)→Prop) (fun f=>f [])
  (fun x _ ih f=>okK (b G x) fun G'=>cw true ts G' fun c=>if c=true then e G' fun y=>ih fun ys=>f (y :: ys) else ih f) xs
noncomputable def wz (b:Gs→V→Option Gs) (ds:List D) (G:Gs) (K:V→Prop):Prop:=match ds with
 | s :: e :: ts=>s G fun x=>okK (bM x) fun xs=>jC e ts b G xs fun ys=>K (.list ys)
 | _=>False
noncomputable def one {α:Type} (xs:List V) (f:V→Option α):Option α:=match xs with
 | [x]=>f x
 | _=>none
noncomputable def two {α:Type} (xs:List V) (f:V→V→Option α):Option α:=match xs with
 | [x,y]=>f x y
 | _=>none
noncomputable def y8 (lo hi:Bool) (xs:List V):Option V:=match xs,lo,hi with
 | [x],false,false=>d9 x none none
 | [x,y],true,false=>d9 x (some y) none
 | [x,y],false,true=>d9 x none (some y)
 | [x,y,z],true,true=>d9 x (some y) (some z)
 | _,_,_=>none
noncomputable def pn (l r:List V):List V:=List.zipWith (fun a b=>.tuple [a,b]) l r
noncomputable def gw (x:V):Option (List V):=match x with
 | .list l=>bO l l
 | .tuple l=>bO l l
 | _=>none
noncomputable def a8 (x:V):Bool:=match x with
 | .int _=>true
 | .str s=>PyData.strOk s
 | _=>false
noncomputable def kOf (x:V):Sc:=match x with
 | .int i=>.inl i
 | .str t=>.inr t
 | _=>.inl 0
noncomputable def j9 (x:V):Bool:=match x with
 | .tuple (.str s :: l)=>(a8 (.str s)&&l.all a8)
 | _=>false
noncomputable def aQ (x:V):List Sc:=match x with
 | .tuple l=>l.map kOf
 | _=>[]
noncomputable def ltK:List Sc→List Sc→Bool
 | k :: ks,m :: ms=>if k=m then ltK ks ms else k.isLeft==m.isLeft
 | _,_=>true
noncomputable def ig:Sc→Sc→Bool
 | .inl a,.inl b=>decide (a < b)
 | .inr x,.inr y=>decide (x.cps.toList < y.cps.toList)
 | .inl _,.inr _=>true
 | .inr _,.inl _=>false
noncomputable def bG:List Sc→List Sc→Bool
 | k :: ks,m :: ms=>if k=m then bG ks ms else ig k m
 | [],_ :: _=>true
 | _,[]=>false
theorem lex_cc (k m:Sc) (ks ms:List Sc):bG (k :: ks) (m :: ms)=if k=m then bG ks ms else ig k m:=rfl
theorem zw (k m:Sc) (ks ms:List Sc):ltK (k :: ks) (m :: ms)=if k=m then ltK ks ms else k.isLeft==m.isLeft:=rfl
noncomputable def gD (r:List V):Prop:=r.Pairwise fun x y=>bG (aQ y) (aQ x)=false
noncomputable def ded {α:Type} [DecidableEq α] (l:List α):List α:=l.foldl (fun a x=>if x∈a then a else a++[x]) []
noncomputable def fC (x:V):Option Nat:=match x with
 | .str s=>if s.cps.size < 4000 then some (ded s.cps.toList).length else none
 | .list l=>(bZ l).bind fun is=>if is.length < 4000 then some (ded is).length else none
 | _=>none
noncomputable def su (kvs:List (V×V)):Bool:=match kvs with
 | (.none,_) :: _=>true
 | _=>false
noncomputable def eP (c:Nat):V:=.dict [(.int c,.none)]
noncomputable def jv (x:V):Option Nat:=match x with
 | .dict [(.int c,.none)]=>some c.toNat
 | _=>none
noncomputable def noX (x:V):Bool:=(jv x).isNone
noncomputable def opN (o:Op) (xs:List V):Option V:=match o with
 | .bin o=>two xs (t7 o)
 | .neg=>one xs fun x=>mn x fun i=>some (.int (-i))
 | .tuple=>bO xs (.tuple xs)
 | .list=>bO xs (.list xs)
 | .sub=>two xs tV
 | .slice lo hi=>y8 lo hi xs
 | .attr j=>one xs fun x=>match x with | .dict kvs=>if su kvs=true then (kvs[j]?).map (·.2) else none | _=>none
 | .isinst t=>one xs fun x=>(isT x t).map .bool
 | .len=>one xs fun x=>(bM x).map fun l=>.int l.length
 | .listOf=>one xs fun x=>(gw x).map .list
 | .isExc _ tb=>one xs fun x=>((jv x).bind fun e=>tb[e]?).map .bool
 | .edict=>match xs with | []=>some (.dict []) | _=>none
 | .tupleOf=>one xs fun x=>(gw x).map .tuple
 | .strOf=>one xs qE
 | .intOf=>one xs nA
 | .max=>one xs fun x=>dW x fun l=>(bZ l).bind fun is=>if is.length < 4000 then (yl is).map .int else none
 | .split=>two xs y7
 | .index ts=>one xs (qQ ts)
 | .lenSet=>one xs fun x=>(fC x).map fun (n:Nat)=>PyData.int n
 | .join=>two xs fun x y=>pA x fun sep=>dW y fun l=>(dR l).bind fun ss=>if (ss.map List.length).sum+ss.length * sep.length≤az then some (text (aM sep ss)) else none
 | .count=>two xs fun x y=>dW x fun l=>if (da y&&da (.list l))=true then some (.int (l.countP fun z=>PyData.eqv z y)) else none
 | .range=>match xs with
  | [x]=>mn x fun b=>mX 0 b
  | [x,y]=>oR x y mX
  | _=>none
 | .zip=>two xs fun x y=>(gw x).bind fun l=>(gw y).map fun r=>.list (pn l r)
 | _=>none
noncomputable def isStr (x:V):Bool:=match x with
 | .str _=>true
 | _=>false
noncomputable def kq (x:V):Bool:=match x with
 | .list _=>true
 | _=>false
noncomputable def Ao (ok:V→Bool) (ds:List D) (G:Gs) (f:V→V→Prop):Prop:=match ds with
 | [a,b]=>a G fun x=>ok x=true∧b G fun y=>f x y
 | _=>False
noncomputable def kI (l:List V):V:=.dict (l.map fun x=>(.none,x))
noncomputable def nz (x:V):Bool:=match x with
 | .dict kvs=>su kvs
 | _=>false
noncomputable def bp (cf:ad) (o:Op) (ds:List D) (G:Gs) (K:V→Prop):Prop:=match o with
 | .lit x=>K x
 | .var k=>okK (x4 G k) K
 | .own k=>okK (eF G k) fun l=>K (.list l)
 | .cmp o=>bY ds G fun xs=>okK (two xs (aS o)) fun b=>K (.bool b)
 | .not=>iI ds G fun x=>okK (cS x some) fun b=>K (.bool (!b))
 | .chain lt=>z9 lt ds G K
 | .and=>cw true ds G fun b=>K (.bool b)
 | .or=>cw false ds G fun b=>K (.bool b)
 | .ite=>B0 ds G K
 | .call f=>bY ds G fun xs=>cf f xs fun y=>noX y=true∧K y
 | .meth f=>iI ds G fun x=>nz x=true∧cf f [x] fun y=>noX y=true∧K y
 | .sorted=>iI ds G fun x=>okK (dW x bZ) fun is=>is.length < 64∧∀ r:List Int,r.Perm is→r.Pairwise (·≤·)→K (.list (r.map .int))
 | .sortedSet=>iI ds G fun x=>okK (dW x some) fun l=>(l.all j9&&decide (l.length≤az))=true∧(∀ x∈l,∀ y∈l,ltK (aQ x) (aQ y)=true)∧(∃ m:List V,m.length < 64∧∀ x∈l,x∈m)∧∀ r:List V,r.Nodup→(∀ y,y∈r ↔ y∈l)→gD r→K (.list r)
 | .sortedSetI=>iI ds G fun x=>okK (dW x bZ) fun is=>is.length < 64∧∀ r:List Int,r.Nodup→(∀ i,i∈r ↔ i∈is)→r.Pairwise (·≤·)→K (.list (r.map .int))
 | .comp k=>wz (iB k) ds G K
 | .join=>Ao isStr ds G fun x y=>okK (opN .join [x,y]) K
 | .count=>Ao kq ds G fun x y=>okK (opN .count [x,y]) K
 | .split=>Ao isStr ds G fun x y=>okK (opN .split [x,y]) K
 | o=>bY ds G fun xs=>okK (opN o xs) K
noncomputable def ev (cf:ad) (e:E):D:=
 E.rec (motive_1:=fun _=>D) (motive_2:=fun _=>List D) (fun o _ ih=>bp cf o ih) [] (fun _ _ i is=>i :: is) e
noncomputable def qd (b:Gs→V→Option Gs) (A:B) (xs:List V):B:=
 List.rec (motive:=fun _=>B) (fun G K=>K none G)
  (fun x _ ih G K=>okK (b G x) fun G'=>A G' fun fl G''=>match fl with | none=>ih G'' K | some y=>noX y=true∧K (some y) G'') xs
noncomputable def gM (sup:Nat→Nat→Bool) (cf:ad) (o:SOp) (ds:List D) (X Y:B) (G:Gs) (K:Option V→Gs→Prop):Prop:=match o with
 | .assign k=>iI ds G fun x=>K none (G.set k (.v x))
 | .assignM ks=>iI ds G fun x=>okK (cj ks G x) (K none)
 | .ownL k=>bY ds G fun xs=>xs.length≤az∧K none (G.set k (.ownL xs))
 | .append k=>okK (eF G k) fun l=>iI ds G fun x=>l.length < az∧K none (G.set k (.ownL (l++[x])))
 | .setAttr k j=>iI ds G fun x=>kq x=false∧okK (dB G k) fun l=>l.length=j∧K none (G.set k (.ownI (l++[x])))
 | .setAttrN k j=>iI ds G fun x=>okK (dB G k) fun l=>l.length=j∧K none (G.set k (.ownI (l++[x])))
 | .call f=>bY ds G fun xs=>cf f xs fun y=>if noX y=true then isNone y=true∧K none G else K (some y) G
 | .ret=>iI ds G fun x=>noX x=true∧K (some x) G
 | .try2 f c c'=>bY ds G fun xs=>cf f xs fun y=>match jv y with
  | none=>K (some y) G
  | some d=>(sup d c||sup d c')=true∧K (some .none) G
 | .tryCC g f c k=>bY ds G fun xs=>cf f xs fun y=>match jv y with
  | none=>cf g [y] fun z=>noX z=true∧K (some z) G
  | some d=>sup d c=true∧X (G.set k (.v y)) fun fl G'=>(match fl with | some x=>noX x=true | none=>False)∧K fl (G'.set k .unset)
 | .ite=>iI ds G fun x=>okK (cS x some) fun t=>if t=true then X G K else Y G K
 | .forS k=>iI ds G fun x=>okK (bM x) fun xs=>qd (iB k) X xs G K
 | .forM ks=>iI ds G fun x=>okK (bM x) fun xs=>qd (cj ks) X xs G K
 | .freeze k=>okK (eF G k) fun l=>K none (G.set k (.v (.list l)))
 | .raise c=>K (some (eP c)) G
noncomputable def ex (sup:Nat→Nat→Bool) (cf:ad) (s:S):B:=
 S.rec (motive_1:=fun _=>B) (motive_2:=fun _=>B) (fun o es _ _ x y=>gM sup cf o (es.map (ev cf)) x y) (fun G K=>K none G)
  (fun _ _ i is G K=>i G fun fl G'=>match fl with | none=>is G' K | some x=>K (some x) G') s
noncomputable def exs (sup:Nat→Nat→Bool) (cf:ad) (l:List S):B:=
 List.rec (motive:=fun _=>B) (fun G K=>K none G) (fun s _ is G K=>ex sup cf s G fun fl G'=>match fl with | none=>is G' K | some x=>K (some x) G') l
structure Fn where
 npar:Nat
 nslots:Nat
 init:Bool
 body:List S
structure Prog where
 fns:List Fn
 sup:Nat→Nat→Bool
noncomputable def dc (fn:Fn) (args:List V):Gs:=(if fn.init=true then [.ownI []] else [])++args.map .v++List.replicate (fn.nslots - fn.npar) .unset
noncomputable def aq (P:Prog) (d:Nat):ad:=
 Nat.rec (motive:=fun _=>ad) (fun _ _ _=>False)
  (fun _ cf f args K=>okK (P.fns[f]?) fun fn=>args.length+(if fn.init=true then 1 else 0)=fn.npar∧exs P.sup cf fn.body (dc fn args) fun fl G=>
   if fn.init=true then (match fl with | none=>okK (dB G 0) fun l=>l.length=5∧K (kI l) | some y=>noX y=false∧K y) else K (fl.getD .none)) d
end Mine
end
noncomputable section
namespace Mine
open PySem PySem.Calls PyProof.Rows PySem.W
noncomputable def qO (a:List Nat):List Nat→Bool:=List.rec (motive:=fun _=>List Nat→Bool) (fun b=>match b with | []=>true | _=>false) (fun x _ ih b=>match b with | []=>false | y :: r=>Nat.beq x y&&ih r) a
theorem listEq_iff:∀ a b:List Nat,qO a b=true ↔ a=b
 | [],[]=>⟨fun _=>rfl,fun _=>rfl⟩
 | [],_ :: _=>⟨fun h=>(nomatch h),fun h=>(nomatch h)⟩
 | _ :: _,[]=>⟨fun h=>(nomatch h),fun h=>(nomatch h)⟩
 | x :: a,y :: b=>by
  refine (?_:(Nat.beq x y&&qO a b)=true ↔ _)
  rw [Bool.and_eq_true,listEq_iff a b,Nat.beq_eq,List.cons.injEq]
set_option warn.classDefReducibility false in
noncomputable def mB:BEq Str:=⟨fun a b=>qO a.cps.toList b.cps.toList⟩
theorem sH:mB=instBEqOfDecidableEq:=congrArg BEq.mk (funext fun a=>funext fun b=>by
 rw [Bool.eq_iff_iff,listEq_iff,decide_eq_true_iff]
 exact ⟨fun h=>by cases a; cases b; exact congrArg Str.mk (Array.toList_inj.mp h),fun h=>by rw [h]⟩)
noncomputable def qH [BEq Str]:List Str→Bool
 | []=>true
 | x :: r=>!r.elem x&&qH r
theorem oH:∀ {l:List Str},qH l=true→l.Nodup
 | [],_=>List.nodup_nil
 | x :: r,h=>by
  have h:=zA2 h
  exact List.nodup_cons.mpr ⟨fun m=>by rw [List.elem_iff.mpr m] at h; exact (nomatch h.1),oH h.2⟩
noncomputable def bX [BEq Str] (x:Str):Bool:=!(x==("__debug__" : Str))&&!(x==("__classdict__" : Str))
noncomputable def bu:List (Str×Value):=[("len",.builtin "len"),("isinstance",.builtin "isinstance"),("str",.type "str"),("int",.type "int"),("bool",.type "bool"),("list",.type "list"),("tuple",.type "tuple"),
 ("set",.type "set"),("range",.type "range"),("zip",.type "zip"),("max",.builtin "max"),("sorted",.builtin "sorted"),("ValueError",.type "ValueError")]
noncomputable def bJ (e:Expr):Bool:=e.ctorIdx != 7
noncomputable def ao (e:Expr):Bool:=e.ctorIdx != 22
noncomputable def aZ [BEq Str] (sc:List (Str×NameKind)) (x:Str):Bool:=(sc.lookup x==some .globalImplicit)&&bX x
noncomputable def sP (c:Const) (x:V):Bool:=match x with
 | .none=>c==.none
 | .bool b=>c==.bool b
 | .int i=>c==.int i
 | .str t=>c==.str t
 | _=>false
noncomputable def bV (e:Expr):Bool:=e.ctorIdx==19||e.ctorIdx==23
noncomputable def dw (e:Expr):Bool:=!(Nat.ble 8 e.ctorIdx&&Nat.ble e.ctorIdx 10)
noncomputable def qJ (e:Expr):Bool:=dw e&&e.ctorIdx != 25
noncomputable def iu [BEq Str] (sc names:List (Str×NameKind)):List (Str×NameKind):=names.map fun (n,k)=>if k==.free&&sc.lookup n==some .cell then (n,.cell) else (n,k)
structure Sx where
 sc:List (Str×NameKind)
 ρ:List (Str×Nat)
 nf:Nat
 ns:Nat
 hm:Bool
 nw:Bool
inductive Pz where
 | val
 | test
 | new
 | src (st:Bool) (T:Expr)
 | asg (y:Str) (py sp:Pos)
noncomputable abbrev Kid:=Sx×Pz×Expr
structure Zx where
 fns:List (Str×Nat)
 cons:List (Str×V)
 flds:List Str
 meths:List (Str×Nat)
 clss:List (Str×Nat)
 nc:Nat
 sup:Nat→Nat→Bool
 safe:Nat→Bool
 newf:Nat→Bool
 cf:Nat
noncomputable def cF (xs:List Expr):Bool:=xs.all ao
noncomputable def bQ (x:Expr):Option (Str×Pos):=if h:x.ctorIdx=23 then some (Expr.Name.elim (motive_1:=fun _=>Str×Pos) x h fun n p=>(n,p)) else none
noncomputable def ri (x:Expr):Option (List Expr×Nat×Pos):=if h:x.ctorIdx=25 then some (Expr.Tuple.elim (motive_1:=fun _=>List Expr×Nat×Pos) x h fun xs k p=>(xs,k,p)) else none
noncomputable def wJ (x:Expr):Option (List Expr×Pos):=if h:x.ctorIdx=24 then some (Expr.List.elim (motive_1:=fun _=>List Expr×Pos) x h fun xs p=>(xs,p)) else none
noncomputable def wI (x:Expr):Option (Expr×Expr×Pos):=if h:x.ctorIdx=21 then some (Expr.Subscript.elim (motive_1:=fun _=>Expr×Expr×Pos) x h fun v s p=>(v,s,p)) else none
noncomputable def x6 (x:Expr):Option (Option Expr×Option Expr×Option Expr×Pos):=if h:x.ctorIdx=26 then some (Expr.Slice.elim (motive_1:=fun _=>Option Expr×Option Expr×Option Expr×Pos) x h fun l u st p=>(l,u,st,p)) else none
noncomputable def kD (x:Expr):Option (Expr×List Expr×List Keyword×Pos):=if h:x.ctorIdx=16 then some (Expr.Call.elim (motive_1:=fun _=>Expr×List Expr×List Keyword×Pos) x h fun u xs ks p=>(u,xs,ks,p)) else none
noncomputable def kE (x:Expr):Option (Expr×Str×Pos):=if h:x.ctorIdx=20 then some (Expr.Attribute.elim (motive_1:=fun _=>Expr×Str×Pos) x h fun o n q=>(o,n,q)) else none
noncomputable def tT (x:Expr):Option (List (Option Expr)×List Expr×Pos):=if h:x.ctorIdx=6 then some (Expr.Dict.elim (motive_1:=fun _=>List (Option Expr)×List Expr×Pos) x h fun ks vs p=>(ks,vs,p)) else none
noncomputable def iH {α:Type}:List α→Option α
 | [y]=>some y
 | _=>none
noncomputable def two? {α:Type}:List α→Option (α×α)
 | [y,z]=>some (y,z)
 | _=>none
noncomputable def qC:List V→List V→Bool
 | [],m=>m.isEmpty
 | x :: l,m=>match m with | []=>false | y :: m=>(match x with | .str s=>(match y with | .str t=>s==t | _=>false) | _=>false)&&qC l m
noncomputable def yo (x y:V):Bool:=match x with
 | .tuple l=>(match y with | .tuple m=>qC l m | _=>false)
 | .int i=>(match y with | .int j=>i==j | _=>false)
 | .str s=>(match y with | .str t=>s==t | _=>false)
 | _=>false
noncomputable def fZ (x:Expr):Option (Const×Nat×Pos):=if h:x.ctorIdx=19 then some (Expr.Constant.elim (motive_1:=fun _=>Const×Nat×Pos) x h fun c k p=>(c,k,p)) else none
noncomputable def x8 (x:Expr):Option (Expr×Operator×Expr×Pos):=if h:x.ctorIdx=2 then some (Expr.BinOp.elim (motive_1:=fun _=>Expr×Operator×Expr×Pos) x h fun l o r p=>(l,o,r,p)) else none
noncomputable def wM (x:Expr):Option (Expr×List CmpOp×List Expr×Pos):=if h:x.ctorIdx=15 then some (Expr.Compare.elim (motive_1:=fun _=>Expr×List CmpOp×List Expr×Pos) x h fun l o r p=>(l,o,r,p)) else none
noncomputable def pp (x:Expr):Option (BoolOp×List Expr×Pos):=if h:x.ctorIdx=0 then some (Expr.BoolOp.elim (motive_1:=fun _=>BoolOp×List Expr×Pos) x h fun o xs p=>(o,xs,p)) else none
noncomputable def vUn (x:Expr):Option (UnaryOp×Expr×Pos):=if h:x.ctorIdx=3 then some (Expr.UnaryOp.elim (motive_1:=fun _=>UnaryOp×Expr×Pos) x h fun o y p=>(o,y,p)) else none
noncomputable def vIf (x:Expr):Option (Expr×Expr×Expr×Pos):=if h:x.ctorIdx=5 then some (Expr.IfExp.elim (motive_1:=fun _=>Expr×Expr×Expr×Pos) x h fun t y z p=>(t,y,z,p)) else none
noncomputable def tU (x:Expr):Option (Expr×List Comprehension×Scope×Pos):=if h:x.ctorIdx=8 then some (Expr.ListComp.elim (motive_1:=fun _=>Expr×List Comprehension×Scope×Pos) x h fun y gs sc p=>(y,gs,sc,p)) else none
@[irreducible] def nCall [BEq Str] (X:Sx) (nm:Str) (x:Expr) (f:List Expr→Bool):Bool:=(kD x).any fun c=>(bQ c.1).any fun n=>n.1==nm&&(aZ X.sc nm&&(c.2.2.1.isEmpty&&f c.2.1))
noncomputable def cu [BEq Str] (X:Sx) (nm:Str) (x:Expr) (f:Expr→Bool):Bool:=nCall X nm x fun xs=>(iH xs).any f
@[irreducible] def mCall (x:Expr) (f:Expr→Str→List Expr→Bool):Bool:=(kD x).any fun c=>(kE c.1).any fun a=>c.2.2.1.isEmpty&&(a.2.2.endLine==c.2.2.2.line&&f a.1 a.2.1 c.2.1)
noncomputable def nq [BEq Str] (X:Sx) (k:List Kid→Bool) (nm:Str) (x:Expr):Bool:=mCall x fun y n xs=>n==nm&&(bV y&&(iH xs).any fun e=>ao e&&k [(X,.val,y),(X,.val,e)])
noncomputable def mH [BEq Str] (X:Sx) (scope:Scope) (x x':Str):Bool:=scope.kind==.function&&(scope.names.lookup x==some .local&&(scope.names.lookup x'==some .local&&(scope.names.all (fun p=>p.2 != .cell)&&(scope.names.all (fun p=>p.2 != .local||scope.names.lookup p.1==some .local)&&(scope.names.all (fun p=>p.2 != .free||((X.sc.lookup p.1==some .cell||X.sc.lookup p.1==some .free)&&(X.ρ.lookup p.1).isSome))&&decide (X.nf+2≤X.ns))))))
noncomputable def Sx.comp [BEq Str] (X:Sx) (scope:Scope) (x x':Str):Sx:=⟨iu X.sc scope.names,(x,X.nf) :: (x',X.nf+1) :: X.ρ.filter (fun p=>scope.names.lookup p.1==some .free),X.nf+2,X.ns,X.hm,X.nw⟩
@[irreducible] def cCall [BEq Str] (Z:Zx) (X:Sx) (f:Nat) (x:Expr) (k:List Expr→Bool):Bool:=(kD x).any fun c=>(bQ c.1).any fun n=>Z.fns.lookup n.1==some f&&(aZ X.sc n.1&&((!X.hm||Z.safe f)&&(c.2.2.1.isEmpty&&k c.2.1)))
noncomputable def AP:Pz→Bool
 | .val=>true
 | _=>false
noncomputable def isComp (o:Op):Bool:=o.ctorIdx==(Op.comp 0).ctorIdx
noncomputable def lW:List Expr→List Str→Bool
 | [],ts=>ts.isEmpty
 | e :: r,ts=>match ts with | []=>false | t :: q=>(fZ e).any (fun c=>c.1==.str t)&&lW r q
section
variable [BEq Str] (Z:Zx) (o:Op) (k:List Kid→Bool) (X:Sx)
noncomputable def mK (p:Pz) (x:Expr):Bool:=match o with
 | .lit v=>(fZ x).any (fun q=>sP q.1 v&&k [])||(bQ x).any fun m=>aZ X.sc m.1&&((Z.cons.lookup m.1).any (yo v)&&k [])
 | .var j=>(bQ x).any fun m=>X.ρ.lookup m.1==some j&&(bX m.1&&k [])
 | .bin op=>(x8 x).any fun q=>decide (op=q.2.1)&&k [(X,.val,q.1),(X,.val,q.2.2.1)]
 | .cmp c=>(wM x).any fun q=>(iH q.2.1).any fun c'=>decide (c=c')&&(iH q.2.2.1).any fun r=>bJ r&&k [(X,.val,q.1),(X,.val,r)]
 | .chain lt=>(wM x).any fun q=>(two? q.2.1).any fun c=>decide (.LtE=c.1)&&(decide ((if lt=true then CmpOp.Lt else .LtE)=c.2)&&(two? q.2.2.1).any fun r=>bJ r.2&&k [(X,.val,q.1),(X,.val,r.1),(X,.val,r.2)])
 | .and=>(pp x).any fun q=>decide (.And=q.1)&&(!q.2.1.isEmpty&&k (q.2.1.map fun x=>(X,p,x)))
 | .or=>(pp x).any fun q=>decide (.Or=q.1)&&(!q.2.1.isEmpty&&k (q.2.1.map fun x=>(X,p,x)))
 | .not=>(vUn x).any fun q=>decide (.Not=q.1)&&k [(X,p,q.2.1)]
 | .neg=>(vUn x).any fun q=>decide (.USub=q.1)&&(AP p&&k [(X,.val,q.2.1)])
 | .ite=>(vIf x).any fun q=>k [(X,.test,q.1),(X,p,q.2.1),(X,p,q.2.2.1)]
 | .tuple=>(ri x).any fun q=>cF q.1&&k (q.1.map fun x=>(X,.val,x))
 | .list=>(wJ x).any fun q=>cF q.1&&k (q.1.map fun x=>(X,.val,x))
 | .sub=>(wI x).any fun q=>k [(X,.val,q.1),(X,.val,q.2.1)]
 | .slice bl bh=>(wI x).any fun v=>(x6 v.2.1).any fun q=>q.2.2.1.isNone&&(q.1.isSome==bl&&(q.2.1.isSome==bh&&k ((X,.val,v.1) :: (q.1.toList++q.2.1.toList).map fun x=>(X,.val,x))))
 | .attr j=>(kE x).any fun q=>bV q.1&&(Z.flds[j]?==some q.2.1&&k [(X,.val,q.1)])
 | .comp j=>!X.hm&&(tU x).any fun q=>(iH q.2.1).any fun c=>c.is_async==0&&(bQ c.target).any fun n=>mH X q.2.2.1 n.1 n.1&&(j==X.nf&&(bJ c.iter&&k ((X,.src false (.Name n.1 n.2),c.iter) :: (X.comp q.2.2.1 n.1 n.1,.val,q.1) :: c.ifs.map fun x=>(X.comp q.2.2.1 n.1 n.1,.test,x))))
 | .isinst t=>nCall X "isinstance" x fun xs=>(two? xs).any fun y=>ao y.1&&(bQ y.2).any fun T=>aZ X.sc T.1&&((iU[t]?).any (fun T'=>T.1==Str.ofString T')&&k [(X,.val,y.1)])
 | .len=>cu X "len" x fun y=>ao y&&k [(X,.val,y)]
 | .lenSet=>!X.hm&&cu X "len" x fun y=>cu X "set" y fun z=>ao z&&k [(X,.val,z)]
 | .listOf=>cu X "list" x fun y=>ao y&&k [(X,.val,y)]
 | .sorted=>cu X "sorted" x fun y=>ao y&&k [(X,.val,y)]
 | .sortedSetI=>!X.hm&&cu X "sorted" x fun y=>cu X "set" y fun z=>ao z&&k [(X,.val,z)]
 | .sortedSet=>!X.hm&&cu X "sorted" x fun y=>cu X "set" y fun z=>ao z&&k [(X,.val,z)]
 | .call f=>cCall Z X f x fun xs=>cF xs&&k (xs.map fun x=>(X,.val,x))
 | .join=>nq X k "join" x
 | .count=>nq X k "count" x
 | .split=>nq X k "split" x
 | .index ts=>mCall x fun y n xs=>n==("index" : Str)&&((ri y).any (fun q=>Nat.ble ts.length 9&&lW q.1 ts)&&(iH xs).any fun e=>ao e&&k [(X,.val,e)])
 | .strOf=>cu X "str" x fun y=>ao y&&k [(X,.val,y)]
 | .intOf=>cu X "int" x fun y=>ao y&&k [(X,.val,y)]
 | .max=>!X.hm&&cu X "max" x fun y=>ao y&&k [(X,.val,y)]
 | .meth f=>mCall x fun y nm xs=>bV y&&(xs.isEmpty&&((!X.hm||Z.safe f)&&(Z.meths.lookup nm==some f&&k [(X,.val,y)])))
 | .isExc c tb=>nCall X "isinstance" x fun xs=>(two? xs).any fun y=>ao y.1&&(bQ y.2).any fun T=>aZ X.sc T.1&&((Z.clss.lookup T.1==some c||(T.1==("ValueError" : Str)&&c==Z.nc))&&((List.range Z.nc).all (fun e=>tb[e]?==some (Z.sup e c))&&k [(X,.val,y.1)]))
 | .edict=>(tT x).any fun q=>q.1.isEmpty&&(q.2.1.isEmpty&&k [])
 | .tupleOf=>nCall X "tuple" x fun xs=>cF xs&&k (xs.map fun x=>(X,.val,x))
 | _=>false
noncomputable def Av (f:Str) (x:Expr):Bool:=nCall X f x fun xs=>cF xs&&k (xs.map fun x=>(X,.val,x))
noncomputable def yM (x:Expr):Bool:=dw x&&mK Z o k X .val x||isComp o&&mK Z o k X .val x
noncomputable def Bp:Bool:=match o with
 | .tuple=>true
 | .listOf=>true
 | .sorted=>true
 | .sortedSet=>true
 | .call f=>Z.newf f
 | .meth f=>Z.newf f
 | _=>false
noncomputable def yL (p:Pz) (x:Expr):Bool:=match p with
 | .val=>mK Z o k X .val x
 | .test=>mK Z o k X .test x
 | .new=>Bp Z o&&mK Z o k X .val x
 | .src st T=>!X.hm&&(match o with
  | .own j=>!st&&(bQ x).any fun m=>X.ρ.lookup m.1==some j&&(bX m.1&&k [])
  | .range=>Av k X "range" x
  | .zip=>(ri T).any fun _=>Av k X "zip" x
  | _=>mK Z o k X .val x)
 | .asg _ _ _=>yM Z o k X x
end
noncomputable abbrev Ck:=Kid→Bool
noncomputable def pS (cs:List Ck):List Kid→Bool:=
 List.rec (motive:=fun _=>List Kid→Bool) (fun ts=>ts.isEmpty) (fun c _ ih ts=>match ts with | []=>false | t :: r=>c t&&ih r) cs
noncomputable def x0 [BEq Str] (Z:Zx) (e:E):Ck:=
 E.rec (motive_1:=fun _=>Ck) (motive_2:=fun _=>List Ck) (fun o _ ih t=>yL Z o (pS ih) t.1 t.2.1 t.2.2) [] (fun _ _ i is=>i :: is) e
noncomputable def pw [BEq Str] (X:Sx) (m:Str) (j:Nat):Bool:=X.ρ.lookup m==some j&&!(X.sc.lookup m==some .free)
noncomputable def mS [BEq Str] (X:Sx):List Expr→List Nat→Bool
 | [],js=>js.isEmpty
 | t :: r,js=>(bQ t).any fun m=>match js with | []=>false | j :: q=>pw X m.1 j&&mS X r q
noncomputable def rj (x:Stmt) (f:Expr→Expr→Pos→Bool):Bool:=if h:x.ctorIdx=5 then Stmt.Assign.elim (motive_2:=fun _=>Bool) x h fun ts v p=>(iH ts).any fun t=>f t v p else false
noncomputable def wL (x:Stmt) (f:Expr→Bool):Bool:=if h:x.ctorIdx=24 then Stmt.Expr.elim (motive_2:=fun _=>Bool) x h fun e _=>f e else false
noncomputable def t9 (x:Stmt) (f:Expr→Bool):Bool:=if h:x.ctorIdx=3 then Stmt.Return.elim (motive_2:=fun _=>Bool) x h fun e _=>e.any f else false
noncomputable def x7 (x:Stmt) (f:Expr→List Stmt→List Stmt→Bool):Bool:=if h:x.ctorIdx=12 then Stmt.If.elim (motive_2:=fun _=>Bool) x h fun c a b _=>f c a b else false
noncomputable def wK (x:Stmt) (f:Expr→Expr→List Stmt→Bool):Bool:=if h:x.ctorIdx=9 then Stmt.For.elim (motive_2:=fun _=>Bool) x h fun T it body el _=>el.isEmpty&&f T it body else false
noncomputable def vRs (x:Stmt) (f:Expr→Bool):Bool:=if h:x.ctorIdx=16 then Stmt.Raise.elim (motive_2:=fun _=>Bool) x h fun e c _=>c.isNone&&e.any f else false
noncomputable def x5 (x:Stmt) (f:Stmt→Option Expr→Option Str→List Stmt→Bool):Bool:=if h:x.ctorIdx=17 then Stmt.Try.elim (motive_2:=fun _=>Bool) x h fun bd hs el fi _=>el.isEmpty&&(fi.isEmpty&&(iH bd).any fun b=>(iH hs).any fun hd=>match hd with | .ExceptHandler t n hb _=>f b t n hb) else false
noncomputable def wW (l:List Stmt):Bool:=(iH l).any fun b=>t9 b fun e=>(fZ e).any fun c=>c.1==.none
noncomputable def vHd (h:ExceptHandler) (f:Str→Bool):Bool:=match h with | .ExceptHandler t n hb _=>n.isNone&&(wW hb&&t.any fun t=>(bQ t).any fun C=>f C.1)
noncomputable def tS (x:Stmt) (f:Stmt→Str→Str→Bool):Bool:=if h:x.ctorIdx=17 then Stmt.Try.elim (motive_2:=fun _=>Bool) x h fun bd hs el fi _=>el.isEmpty&&(fi.isEmpty&&(iH bd).any fun b=>(two? hs).any fun q=>vHd q.1 fun C=>vHd q.2 fun C'=>f b C C') else false
noncomputable abbrev CkS:=Sx→List Stmt→Bool
noncomputable abbrev CkM:=Sx→List Stmt→(List Stmt→Bool)→Bool
noncomputable def Bo (c:Stmt→Bool) (rest:List Stmt→Bool):List Stmt→Bool
 | []=>false
 | x :: r=>c x&&rest r
section
variable [BEq Str] (Z:Zx) (o:SOp) (k:List Kid→Bool) (ca cb:CkS) (X:Sx)
noncomputable def wB (x:Stmt):Bool:=match o with
 | .assign j=>rj x fun t v p=>(bQ t).any fun m=>pw X m.1 j&&k [(X,.asg m.1 m.2 p,v)]
 | .assignM js=>!X.hm&&rj x fun t v p=>(ri t).any fun q=>mS X q.1 js&&(qJ v&&k [(X,.val,v)])
 | .ownL j=>rj x fun t v p=>(bQ t).any fun m=>pw X m.1 j&&(wJ v).any fun q=>cF q.1&&k (q.1.map fun x=>(X,.val,x))
 | .setAttr i j=>rj x fun t v p=>(kE t).any fun u=>(bQ u.1).any fun m=>X.ρ.lookup m.1==some i&&(bX m.1&&(Z.flds[j]?==some u.2.1&&(dw v&&k [(X,.val,v)])))
 | .setAttrN i j=>rj x fun t v p=>(kE t).any fun u=>(bQ u.1).any fun m=>X.ρ.lookup m.1==some i&&(bX m.1&&(Z.flds[j]?==some u.2.1&&(dw v&&k [(X,.new,v)])))
 | .call f=>wL x fun e=>cCall Z X f e fun xs=>cF xs&&k (xs.map fun x=>(X,.val,x))
 | .append j=>wL x fun e=>mCall e fun y nm xs=>nm==("append" : Str)&&((iH xs).any (fun e=>ao e&&k [(X,.val,e)])&&(bQ y).any fun m=>X.ρ.lookup m.1==some j&&bX m.1)
 | .ret=>t9 x fun e=>if X.nw then k [(X,.new,e)] else k [(X,.val,e)]
 | .tryCC f' f c j=>x5 x fun b t n hb=>!X.hm&&(t.any fun t=>(bQ t).any fun C=>aZ X.sc C.1&&(Z.clss.lookup C.1==some c&&n.any fun n=>X.ρ.lookup n==some j&&(X.sc.lookup n==some .local&&(!hb.isEmpty&&(ca { X with hm:=true } hb&&t9 b fun e=>!X.nw&&cCall Z X f' e fun xs=>(iH xs).any fun e=>ao e&&cCall Z X f e fun xs=>cF xs&&k (xs.map fun x=>(X,.val,x)))))))
 | .try2 f c c'=>tS x fun b C C'=>!X.hm&&(aZ X.sc C&&(Z.clss.lookup C==some c&&(aZ X.sc C'&&(Z.clss.lookup C'==some c'&&t9 b fun e=>!X.nw&&cCall Z X f e fun xs=>cF xs&&k (xs.map fun x=>(X,.val,x))))))
 | .ite=>x7 x fun c a b=>k [(X,.test,c)]&&(ca X a&&cb X b)
 | .forS j=>!X.hm&&wK x fun T it body=>bJ it&&(ca X body&&(bQ T).any fun m=>pw X m.1 j&&k [(X,.src true (.Name m.1 m.2),it)])
 | .forM js=>!X.hm&&wK x fun T it body=>bJ it&&(ca X body&&(ri T).any fun q=>mS X q.1 js&&k [(X,.src true (.Tuple q.1 q.2.1 q.2.2),it)])
 | .raise c=>!X.hm&&vRs x fun e=>(kD e).any fun u=>(bQ u.1).any fun n=>aZ X.sc n.1&&(Z.clss.lookup n.1==some c&&(u.2.2.1.isEmpty&&(iH u.2.1).any fun z=>(fZ z).any fun q=>match q.1 with | .str _=>true | _=>false))
 | _=>false
noncomputable def wC (sts:List Stmt) (rest:List Stmt→Bool):Bool:=match o with
 | .freeze _=>rest sts
 | _=>Bo (wB Z o k ca cb X) rest sts
end
noncomputable def Au [BEq Str] (Z:Zx) (s:S):CkM:=
 S.rec (motive_1:=fun _=>CkM) (motive_2:=fun _=>CkS) (fun o es _ _ a b X sts rest=>wC Z o (pS (es.map (x0 Z))) a b X sts rest) (fun _ sts=>sts.isEmpty) (fun _ _ i is X sts=>i X sts (is X)) s
noncomputable def chkSs [BEq Str] (Z:Zx) (l:List S):CkS:=List.rec (motive:=fun _=>CkS) (fun _ sts=>sts.isEmpty) (fun s _ is X sts=>Au Z s X sts (is X)) l
noncomputable def mI [BEq Str] (K:Frag) (cd:Value) (q:Str):Bool:=match cd with
 | .ref c=>(match K.lookup c with
  | some ⟨_,_,.fields vs,_⟩=>(match (vs[1]?:Option Value) with | some (.str q' _)=>q'==q | _=>false)
  | _=>false)
 | _=>false
noncomputable def AJ:Value→Bool
 | .none=>true
 | _=>false
noncomputable abbrev gG:=List Stmt×Scope×Arguments
noncomputable def fG (K:Frag) (a:Addr):Option gG:=match K.lookup a with
 | some ⟨_,_,.func fd,_⟩=>(match fd.body with
  | .stmts body=>some (body,fd.scope,fd.params)
  | _=>none)
 | _=>none
noncomputable def qS [BEq Str] (K:Frag) (a:Addr):Bool:=match K.lookup a with
 | some ⟨_,_,.func fd,_⟩=>mI K fd.code fd.qualname&&(fd.globals==mainGlobals&&(fd.builtins==builtinsNs&&(fd.closure.isEmpty&&AJ fd.defaults)))
 | _=>false
noncomputable def jH [BEq Str] (Z:Zx) (fn:Fn) (nms:List Str) (safe nw:Bool) (b:Option gG):Bool:=match b with
 | some (body,scope,params)=>!scope.isCoroutine&&(!scope.isGenerator&&(scope.kind==.function&&(params.posonlyargs.isEmpty&&((params.args.map (·.arg))==nms.take fn.npar&&(params.kwonlyargs.isEmpty&&(params.vararg.isNone&&(params.kwarg.isNone &&
    (qH nms&&(decide (fn.npar≤nms.length)&&(decide (nms.length≤fn.nslots)&&(nms.all (fun x=>scope.names.lookup x==some .local||scope.names.lookup x==some .cell) &&
    (chkSs Z fn.body ⟨scope.names,nms.zipIdx,nms.length,fn.nslots,false,nw⟩ body&&(!safe||chkSs Z fn.body ⟨scope.names,nms.zipIdx,nms.length,fn.nslots,true,nw⟩ body)))))))))))))
 | none=>false
noncomputable def mU:List Value→List V→Bool
 | [],l=>l.isEmpty
 | u :: us,l=>match l with | []=>false | v :: l=>(match v with | .str t=>Value.isStrOf t u | _=>false)&&mU us l
noncomputable def o9 (K:Frag) (u:Value) (v:V):Bool:=match v with
 | .tuple l=>(match u with | .ref a=>(match K.lookup a with | some ⟨c,_,.seq vs _,_⟩=>c==.type "tuple"&&mU vs.toList l | _=>false) | _=>false)
 | .int j=>Value.isInt j u
 | .str l=>Value.isStrOf l u
 | _=>false
noncomputable def nsF [BEq Str] (K:Frag) (ns:Addr) (name:Str):Option (Option Value):=match K.lookup ns with
 | some ⟨_,_,.dict es _,_⟩=>(match es.toList.find? (fun e=>match e.key with | .str s _=>s==name | _=>false) with
   | some e=>some (some e.val)
   | none=>if es.toList.any (·.refKey) then none else some none)
 | _=>none
set_option tactic.hygienic true in
theorem vO (K:Frag) (ns:Addr) (name:Str):nsF K ns name=nsIn K ns name:=by
 unfold nsF nsIn
 split
 ·rename_i c d es n sl h
  have e:(fun e:DictEntry=>match e.key with | .str s _=>s==name | _=>false)=fun e=>e.key.isStr name:=funext fun e=>by cases e.key <;> rfl
  rw [h,e]; rfl
 ·rename_i h
  split
  ·rename_i c d es n sl h'
   exact (h c d es n sl h').elim
  ·rfl
noncomputable def qV [BEq Str] (K:Frag) (p:Str×V):Bool:=match nsF K mainGlobals p.1 with | some (some u)=>o9 K u p.2 | _=>false
noncomputable def qX (K:Frag) (C:Addr) (flds:List Str):Bool:=
 findIn K (.ref C) "__getattribute__"==some (some (.builtin "object.__getattribute__"))&&(findIn K (.ref C) "__getattr__"==some none&&(findIn K (.ref C) "__setattr__"==some (some (.builtin "object.__setattr__"))&&(plainOver K C&&((clsIn K C).any (·.hasDict) &&
 (flds.all (fun x=>findIn K (.ref C) x==some none)&&(makesIn K C&&(decide flds.Nodup&&decide (flds.length≤1000))))))))
noncomputable def vX [BEq Str] (K:Frag) (C:Addr) (flds:List Str) (fn:Nat→Addr) (p:Str×Nat):Bool:=!flds.elem p.1&&(findIn K (.ref C) p.1==some (some (.ref (fn p.2)))&&(typeIn K (.ref (fn p.2))==some (.type "function")&&keepIn K (.ref (fn p.2))))
noncomputable def lQ (K:Frag) (sup:Nat→Nat→Bool) (nc:Nat) (clsA:Nat→Addr) (c:Nat):Bool:=
 findIn K (.ref (clsA c)) "__getattribute__"==some (some (.builtin "BaseException.__getattribute__"))&&(findIn K (.ref (clsA c)) "__getattr__"==some none&&(hasDictIn K (clsA c)&&(findIn K (.ref (clsA c)) "__class__"==some (some (.builtin "object.__class__"))&&(mroIn K (clsA c) (.type "object")==some true&&(mroIn K (clsA c) (.type "BaseException")==some true &&
 (typeIn K (.ref (clsA c))==some (.type "type")&&(mroIn K (clsA c) (.type "ValueError")==some (sup c nc)&&(sup c c &&
 (List.range nc).all fun c'=>mroIn K (clsA c) (.ref (clsA c'))==some (sup c c')))))))))
end Mine
end
noncomputable section
namespace Mine.L15
open PySem
noncomputable def abc:Str:=⟨#[97,98,99,100,101,102,103,104,105,106,107,108,109,110,111,112,113,114,115,116,117,118,119,120,121,122]⟩
noncomputable def kOpen:Str:=⟨#[111,112,101,110]⟩
noncomputable def kClose:Str:=⟨#[99,108,111,115,101]⟩
noncomputable def kOn:Str:=⟨#[111,110]⟩
noncomputable def k0:Str:=⟨#[]⟩
noncomputable def cW:List V:=[.str (⟨#[111,112,101,110,105,110,103]⟩),.str (⟨#[99,108,111,115,105,110,103]⟩),.str (⟨#[112,108,97,105,110]⟩),.str (⟨#[114,111,111,109,115]⟩),.str (⟨#[115,116,97,114,116,115]⟩),.str (⟨#[101,110,100,115]⟩)]
noncomputable def ii (i:Int):E:=.nd (.lit (.int i)) []
noncomputable def ss (t:Str):E:=.nd (.lit (.str t)) []
noncomputable def bb (b:Bool):E:=.nd (.lit (.bool b)) []
noncomputable def nn:E:=.nd (.lit .none) []
noncomputable def vv (k:Nat):E:=.nd (.var k) []
noncomputable def sup (e c:Nat):Bool:=c==e||c==0||c==8
noncomputable def xx (c:Nat) (x:E):E:=.nd (.isExc c [sup 0 c,sup 1 c,sup 2 c,sup 3 c,sup 4 c,sup 5 c,sup 6 c,sup 7 c]) [x]
noncomputable def Cb:List S:=[.mk .ite [.nd (.cmp .NotIn) [vv 1,ss abc]] [.mk .ret [bb false] [] []] []]
noncomputable def f0:Fn:=⟨1,2,false,[.mk .ite [.nd .or [.nd .not [.nd (.isinst 0) [vv 0]],.nd (.cmp .Gt) [.nd .len [vv 0],ii 4]]] [.mk .ret [bb false] [] []] [],
  .mk (.forS 1) [vv 0] Cb [],
  .mk .ret [bb true] [] []]⟩
noncomputable def n0:List Str:=["thing", "sign"]
noncomputable def Ca:List S:=[.mk .ite [.nd .not [.nd (.call 0) [vv 1]]] [.mk .ret [bb false] [] []] []]
noncomputable def f1:Fn:=⟨1,3,false,[.mk .ite [.nd .or [.nd .not [.nd (.isinst 1) [vv 0]],.nd (.cmp .NotEq) [.nd .len [vv 0],ii 3]]] [.mk .ret [bb false] [] []] [],
  .mk (.forS 1) [vv 0] Ca [],
  .mk (.assign 2) [.nd (.bin .Add) [.nd (.bin .Add) [.nd .sub [vv 0,ii 0],.nd .sub [vv 0,ii 1]],.nd .sub [vv 0,ii 2]]] [] [],
  .mk .ret [.nd (.cmp .Eq) [.nd .lenSet [vv 2],.nd .len [vv 2]]] [] []]⟩
noncomputable def n1:List Str:=["thing", "text", "whole"]
noncomputable def f2:Fn:=⟨1,1,false,[.mk .ite [.nd .not [.nd (.call 1) [vv 0]]] [.mk (.raise 1) [] [] []] []]⟩
noncomputable def n2:List Str:=["signs"]
noncomputable def BC:List S:=[.mk .ite [.nd (.cmp .In) [vv 1,vv 2]] [.mk .ret [vv 3] [] []] []]
noncomputable def f3:Fn:=⟨2,4,false,[.mk .ite [.nd .or [.nd .not [.nd (.isinst 0) [vv 1]],.nd (.cmp .NotEq) [.nd .len [vv 1],ii 1]]] [.mk .ret [ss k0] [] []] [],
  .mk (.forM [2,3]) [.nd .zip [vv 0,.nd .list [ss kOpen,ss kClose,ss kOn]]] BC [],
  .mk .ret [ss k0] [] []]⟩
noncomputable def n3:List Str:=["signs", "thing", "text", "kind"]
noncomputable def f4:Fn:=⟨2,2,false,[.mk .ret [.nd .and [.nd (.isinst 3) [vv 0],.nd .not [.nd (.isinst 4) [vv 0]],.nd (.chain true) [ii 0,vv 0,vv 1]]] [] []]⟩
noncomputable def n4:List Str:=["thing", "rooms"]
noncomputable def B9:List S:=[.mk .ite [.nd .not [.nd (.call 4) [vv 2,vv 1]]] [.mk .ret [bb false] [] []] []]
noncomputable def f5:Fn:=⟨2,3,false,[.mk .ite [.nd .not [.nd (.isinst 2) [vv 0]]] [.mk .ret [bb false] [] []] [],
  .mk (.forS 2) [vv 0] B9 [],
  .mk .ret [.nd (.cmp .Eq) [.nd .lenSet [vv 0],.nd .len [vv 0]]] [] []]⟩
noncomputable def n5:List Str:=["thing", "rooms", "room"]
noncomputable def B8:List S:=[.mk .ret [.nd .and [.nd (.cmp .Eq) [.nd .len [vv 0],ii 4],.nd (.cmp .Eq) [.nd (.call 3) [vv 1,.nd .sub [vv 0,ii 2]],ss kOn],.nd (.call 4) [.nd .sub [vv 0,ii 3],vv 2]]] [] []]
noncomputable def f6:Fn:=⟨3,3,false,[.mk .ite [.nd .or [.nd .not [.nd (.isinst 1) [vv 0]],.nd (.cmp .Lt) [.nd .len [vv 0],ii 4],.nd .not [.nd (.call 4) [.nd .sub [vv 0,ii 1],vv 2]]]] [.mk .ret [bb false] [] []] [],
  .mk .ite [.nd .not [.nd (.isinst 0) [.nd .sub [vv 0,ii 0]]]] [.mk .ret [bb false] [] []] [],
  .mk .ite [.nd (.cmp .Eq) [.nd .sub [vv 0,ii 0],ss kOn]] B8 [],
  .mk .ite [.nd .or [.nd (.cmp .NotEq) [.nd .len [vv 0],ii 5],.nd .not [.nd (.call 4) [.nd .sub [vv 0,ii 4],vv 2]]]] [.mk .ret [bb false] [] []] [],
  .mk .ite [.nd (.cmp .Eq) [.nd .sub [vv 0,ii 0],ss kOpen]] [.mk .ret [.nd .and [.nd (.cmp .Eq) [.nd (.call 3) [vv 1,.nd .sub [vv 0,ii 2]],ss kOpen],.nd (.call 4) [.nd .sub [vv 0,ii 3],vv 2]]] [] []] [],
  .mk .ret [.nd .and [.nd (.cmp .Eq) [.nd .sub [vv 0,ii 0],ss kClose],.nd (.call 4) [.nd .sub [vv 0,ii 2],vv 2],.nd (.cmp .Eq) [.nd (.call 3) [vv 1,.nd .sub [vv 0,ii 3]],ss kClose]]] [] []]⟩
noncomputable def n6:List Str:=["thing", "signs", "rooms"]
noncomputable def B7:List S:=[.mk .ite [.nd .not [.nd (.call 6) [vv 3,vv 1,vv 2]]] [.mk .ret [bb false] [] []] []]
noncomputable def f7:Fn:=⟨3,4,false,[.mk .ite [.nd .or [.nd .not [.nd (.isinst 2) [vv 0]],.nd (.cmp .Gt) [.nd .len [vv 0],ii 4000]]] [.mk .ret [bb false] [] []] [],
  .mk (.forS 3) [vv 0] B7 [],
  .mk .ret [bb true] [] []]⟩
noncomputable def n7:List Str:=["thing", "signs", "rooms", "way"]
noncomputable def f8:Fn:=⟨6,6,true,[.mk (.call 2) [vv 1] [] [],
  .mk .ite [.nd .or [.nd .not [.nd (.call 4) [vv 2,.nd (.bin .Add) [ii 40,ii 1]]],.nd (.cmp .Lt) [vv 2,ii 1]]] [.mk (.raise 3) [] [] []] [],
  .mk .ite [.nd .or [.nd .not [.nd (.call 5) [vv 3,vv 2]],.nd .not [.nd (.call 5) [vv 4,vv 2]],.nd .not [.nd (.call 7) [vv 5,vv 1,vv 2]]]] [.mk (.raise 3) [] [] []] [],
  .mk (.setAttr 0 0) [vv 1] [] [],
  .mk (.setAttr 0 1) [vv 2] [] [],
  .mk (.setAttrN 0 2) [.nd .sorted [vv 3]] [] [],
  .mk (.setAttrN 0 3) [.nd .sorted [vv 4]] [] [],
  .mk (.setAttrN 0 4) [.nd .sortedSet [vv 5]] [] []]⟩
noncomputable def n8:List Str:=["self", "signs", "rooms", "starts", "ends", "ways"]
noncomputable def f9:Fn:=⟨1,1,false,[.mk .ret [.nd (.attr 0) [vv 0]] [] []]⟩
noncomputable def n9:List Str:=["self"]
noncomputable def f10:Fn:=⟨1,1,false,[.mk .ret [.nd (.attr 1) [vv 0]] [] []]⟩
noncomputable def n10:List Str:=["self"]
noncomputable def f11:Fn:=⟨1,1,false,[.mk .ret [.nd .listOf [.nd (.attr 2) [vv 0]]] [] []]⟩
noncomputable def n11:List Str:=["self"]
noncomputable def f12:Fn:=⟨1,1,false,[.mk .ret [.nd .listOf [.nd (.attr 3) [vv 0]]] [] []]⟩
noncomputable def n12:List Str:=["self"]
noncomputable def f13:Fn:=⟨1,1,false,[.mk .ret [.nd .listOf [.nd (.attr 4) [vv 0]]] [] []]⟩
noncomputable def n13:List Str:=["self"]
noncomputable def f14c0:E:=(.nd .strOf [vv 1])
noncomputable def f14:Fn:=⟨1,3,false,[.mk .ret [.nd .join [ss (⟨#[32]⟩),.nd (.comp 1) [vv 0,f14c0,.nd (.cmp .NotEq) [vv 1,ss k0]]]] [] []]⟩
noncomputable def n14:List Str:=["parts"]
noncomputable def A9:List S:=[.mk (.append 4) [.nd (.call 14) [.nd .listOf [vv 5]]] [] []]
noncomputable def f15:Fn:=⟨1,6,false,[.mk (.assignM [1,2,3]) [.nd (.meth 9) [vv 0]] [] [],
  .mk (.ownL 4) [.nd (.call 14) [.nd .list [ss (⟨#[111,112,101,110,105,110,103]⟩),vv 1]],.nd (.call 14) [.nd .list [ss (⟨#[99,108,111,115,105,110,103]⟩),vv 2]],.nd (.call 14) [.nd .list [ss (⟨#[112,108,97,105,110]⟩),vv 3]]] [] [],
  .mk (.append 4) [.nd (.call 14) [.nd .list [ss (⟨#[114,111,111,109,115]⟩),.nd (.meth 10) [vv 0]]]] [] [],
  .mk (.append 4) [.nd (.call 14) [.nd (.bin .Add) [.nd .list [ss (⟨#[115,116,97,114,116,115]⟩)],.nd (.meth 11) [vv 0]]]] [] [],
  .mk (.append 4) [.nd (.call 14) [.nd (.bin .Add) [.nd .list [ss (⟨#[101,110,100,115]⟩)],.nd (.meth 12) [vv 0]]]] [] [],
  .mk (.forS 5) [.nd (.meth 13) [vv 0]] A9 [],
  .mk (.freeze 4) [] [] [],
  .mk .ret [.nd .join [ss (⟨#[10]⟩),vv 4]] [] []]⟩
noncomputable def n15:List Str:=["machine", "opening", "closing", "others", "rows", "way"]
noncomputable def A8:List S:=[.mk .ite [.nd (.cmp .NotIn) [vv 1,ss (⟨#[48,49,50,51,52,53,54,55,56,57]⟩)]] [.mk .ret [.nd .neg [ii 1]] [] []] []]
noncomputable def f16:Fn:=⟨1,2,false,[.mk .ite [.nd .not [.nd (.chain false) [ii 1,.nd .len [vv 0],ii 2]]] [.mk .ret [.nd .neg [ii 1]] [] []] [],
  .mk (.forS 1) [vv 0] A8 [],
  .mk .ret [.nd .intOf [vv 0]] [] []]⟩
noncomputable def n16:List Str:=["word", "sign"]
noncomputable def f17:Fn:=⟨1,1,false,[.mk .ite [.nd (.cmp .GtE) [.nd (.call 16) [vv 0],ii 0]] [.mk .ret [.nd (.call 16) [vv 0]] [] []] [],
  .mk .ret [vv 0] [] []]⟩
noncomputable def n17:List Str:=["word"]
noncomputable def yJ:E:=(.nd .split [vv 9,ss (⟨#[32]⟩)])
noncomputable def A7:List S:=[.mk .ite [.nd (.cmp .NotEq) [.nd .sub [vv 3,ii 0],vv 2]] [.mk .ret [nn] [] []] []]
noncomputable def yI:E:=(.nd .join [ss k0,.nd (.slice true false) [vv 9,ii 1]])
noncomputable def A6:E:=(.nd (.call 16) [vv 9])
noncomputable def A5:E:=(.nd (.call 16) [vv 9])
noncomputable def A4:E:=(.nd (.call 17) [vv 11])
noncomputable def A3:E:=(.nd .tupleOf [.nd (.comp 11) [vv 9,A4]])
noncomputable def f18:Fn:=⟨1,13,false,[.mk (.assign 1) [.nd (.comp 9) [vv 0,yJ]] [] [],
  .mk (.forM [2,3]) [.nd .zip [.nd (.lit (.tuple cW)) [],vv 1]] A7 [],
  .mk (.assign 4) [.nd .tupleOf [.nd (.comp 9) [.nd (.slice false true) [vv 1,ii 3],yI]]] [] [],
  .mk (.assign 5) [.nd (.call 16) [.nd .join [ss k0,.nd (.slice true false) [.nd .sub [vv 1,ii 3],ii 1]]]] [] [],
  .mk (.assign 6) [.nd (.comp 9) [.nd (.slice true false) [.nd .sub [vv 1,ii 4],ii 1],A6]] [] [],
  .mk (.assign 7) [.nd (.comp 9) [.nd (.slice true false) [.nd .sub [vv 1,ii 5],ii 1],A5]] [] [],
  .mk (.assign 8) [.nd (.comp 9) [.nd (.slice true false) [vv 1,ii 6],A3]] [] [],
  .mk (.try2 8 1 3) [vv 4,vv 5,vv 6,vv 7,vv 8] [] []]⟩
noncomputable def n18:List Str:=["rows", "parts", "word", "row", "signs", "rooms", "starts", "ends", "ways"]
noncomputable def f19:Fn:=⟨1,3,false,[.mk .ite [.nd .not [.nd (.isinst 0) [vv 0]]] [.mk (.raise 7) [] [] []] [],
  .mk (.assign 1) [.nd .split [vv 0,ss (⟨#[10]⟩)]] [] [],
  .mk (.assign 2) [nn] [] [],
  .mk .ite [.nd (.cmp .GtE) [.nd .len [vv 1],.nd .len [.nd (.lit (.tuple cW)) []]]] [.mk (.assign 2) [.nd (.call 18) [vv 1]] [] []] [],
  .mk .ite [.nd .or [.nd (.cmp .Is) [vv 2,nn],.nd (.cmp .NotEq) [.nd (.call 15) [vv 2],vv 0]]] [.mk (.raise 7) [] [] []] [],
  .mk .ret [vv 2] [] []]⟩
noncomputable def n19:List Str:=["text", "rows", "machine"]
noncomputable def f20:Fn:=⟨2,2,false,[.mk .ite [.nd (.cmp .Lt) [vv 1,.nd .len [vv 0]]] [.mk .ret [.nd .sub [vv 0,vv 1]] [] []] [],
  .mk .ret [ii 0] [] []]⟩
noncomputable def n20:List Str:=["_law_script", "_law_k"]
noncomputable def f21:Fn:=⟨2,2,false,[.mk .ret [.nd (.bin .Mod) [.nd (.bin .Add) [.nd (.bin .Mult) [vv 0,ii 48271],.nd (.bin .Mult) [ii 7919,vv 1]],ii 1000003]] [] []]⟩
noncomputable def n21:List Str:=["_law_cell", "_law_k"]
noncomputable def f22:Fn:=⟨2,3,false,[.mk (.assign 2) [.nd .list [xx 1 (vv 0),xx 2 (vv 0),xx 3 (vv 0),xx 4 (vv 0)]] [] [],
  .mk (.assign 2) [.nd (.bin .Add) [vv 2,.nd .list [xx 5 (vv 0),xx 6 (vv 0),xx 7 (vv 0)]]] [] [],
  .mk .ret [.nd .and [.nd (.cmp .Eq) [.nd .count [vv 2,bb true],ii 1],.nd .sub [vv 2,vv 1],xx 0 (vv 0),xx 8 (vv 0)]] [] []]⟩
noncomputable def n22:List Str:=["_law_e", "_law_own", "_law_some"]
noncomputable def ww:E:=(.nd .sub [vv 1,.nd (.bin .Mod) [.nd (.bin .Add) [vv 0,.nd (.bin .Mult) [vv 2,vv 6]],ii 26]])
noncomputable def f23:Fn:=⟨1,8,false,[.mk (.assign 1) [ss abc] [] [],
  .mk (.assign 2) [.nd (.bin .Add) [ii 1,.nd (.bin .Mult) [ii 2,.nd (.bin .Mod) [.nd (.bin .FloorDiv) [vv 0,ii 26],ii 5]]]] [] [],
  .mk (.assign 3) [.nd .join [ss k0,.nd (.comp 6) [.nd .range [ii 6],ww]]] [] [],
  .mk (.assign 4) [.nd .sub [.nd .list [ii 1,ii 1,ii 2,ii 0],.nd (.bin .Mod) [.nd (.bin .FloorDiv) [vv 0,ii 130],ii 4]]] [] [],
  .mk (.assign 5) [.nd (.bin .Add) [vv 4,.nd .sub [.nd .list [ii 1,ii 2,ii 1,ii 1,ii 0],.nd (.bin .Mod) [.nd (.bin .FloorDiv) [vv 0,ii 520],ii 5]]]] [] [],
  .mk .ret [.nd .tuple [.nd (.slice false true) [vv 3,vv 4],.nd (.slice true true) [vv 3,vv 4,vv 5],.nd (.slice true true) [vv 3,vv 5,.nd (.bin .Add) [vv 5,.nd (.bin .Mod) [.nd (.bin .FloorDiv) [vv 0,ii 2600],ii 3]]]]] [] []]⟩
noncomputable def n23:List Str:=["_law_cell", "_law_letters", "_law_step", "_law_row", "_law_one", "_law_other"]
noncomputable def A2:E:=(.nd .sub [vv 1,.nd (.bin .Mod) [.nd (.bin .Add) [vv 0,.nd (.bin .Mult) [vv 2,vv 6]],ii 26]])
noncomputable def f24:Fn:=⟨1,8,false,[.mk .ite [.nd (.cmp .NotEq) [.nd (.bin .Mod) [.nd (.bin .FloorDiv) [vv 0,ii 7800],ii 8],ii 3]] [.mk .ret [.nd (.call 23) [vv 0]] [] []] [],
  .mk (.assign 1) [ss abc] [] [],
  .mk (.assign 2) [.nd (.bin .Add) [ii 1,.nd (.bin .Mult) [ii 2,.nd (.bin .Mod) [.nd (.bin .FloorDiv) [vv 0,ii 26],ii 5]]]] [] [],
  .mk (.assign 3) [.nd .join [ss k0,.nd (.comp 6) [.nd .range [ii 12],A2]]] [] [],
  .mk (.assign 4) [.nd (.bin .Add) [ii 1,.nd (.bin .Mod) [.nd (.bin .FloorDiv) [vv 0,ii 130],ii 4]]] [] [],
  .mk (.assign 5) [.nd (.bin .Add) [.nd (.bin .Add) [vv 4,ii 1],.nd (.bin .Mod) [.nd (.bin .FloorDiv) [vv 0,ii 520],ii 4]]] [] [],
  .mk .ret [.nd .tuple [.nd (.slice false true) [vv 3,vv 4],.nd (.slice true true) [vv 3,vv 4,vv 5],.nd (.slice true true) [vv 3,vv 5,.nd (.bin .Add) [.nd (.bin .Add) [vv 5,ii 1],.nd (.bin .Mod) [.nd (.bin .FloorDiv) [vv 0,ii 2600],ii 4]]]]] [] []]⟩
noncomputable def n24:List Str:=["_law_cell", "_law_letters", "_law_step", "_law_row", "_law_one", "_law_other"]
noncomputable def A1:List S:=[.mk .ret [.nd .tuple [ss kOpen,.nd (.bin .Sub) [.nd (.bin .Sub) [vv 2,ii 1],.nd .sub [.nd .sub [vv 3,ii 0],ii 1]],.nd .sub [.nd .sub [vv 3,ii 0],ii 2],vv 6,vv 7]] [] []]
noncomputable def yH:List S:=[.mk .ite [.nd .and [.nd (.cmp .NotEq) [vv 3,.nd .list []],.nd (.cmp .Eq) [.nd (.bin .Mod) [.nd (.bin .FloorDiv) [vv 0,ii 1024],ii 3],ii 0]]] [.mk .ret [.nd (.bin .Add) [.nd (.slice false true) [.nd .sub [vv 3,ii 0],ii 3],.nd .tuple [vv 6,vv 7]]] [] []] [],
  .mk .ite [.nd .and [.nd (.cmp .NotEq) [vv 3,.nd .list []],.nd (.cmp .Eq) [.nd (.bin .Mod) [.nd (.bin .FloorDiv) [vv 0,ii 1024],ii 3],ii 1]]] A1 [],
  .mk .ret [.nd .tuple [ss kOpen,vv 5,.nd .sub [.nd .sub [vv 1,ii 0],.nd (.bin .Mod) [.nd (.bin .FloorDiv) [vv 0,ii 256],.nd .len [.nd .sub [vv 1,ii 0]]]],vv 6,vv 7]] [] []]
noncomputable def yG:List S:=[.mk .ite [.nd .and [.nd (.cmp .NotEq) [vv 3,.nd .list []],.nd (.cmp .Gt) [.nd (.bin .Mod) [.nd (.bin .FloorDiv) [vv 0,ii 1024],ii 4],ii 0]]] [.mk (.assignM [5,6]) [.nd (.slice true false) [.nd .sub [vv 3,.nd (.bin .Mod) [.nd (.bin .FloorDiv) [vv 0,ii 16],.nd .len [vv 3]]],ii 3]] [] []] [],
  .mk .ret [.nd .tuple [ss kClose,vv 5,vv 6,.nd .sub [.nd .sub [vv 1,ii 1],.nd (.bin .Mod) [.nd (.bin .FloorDiv) [vv 0,ii 256],.nd .len [.nd .sub [vv 1,ii 1]]]],vv 7]] [] []]
noncomputable def A0:List S:=[.mk .ret [.nd .tuple [ss kOn,vv 5,.nd .sub [.nd .sub [vv 1,ii 2],.nd (.bin .Mod) [.nd (.bin .FloorDiv) [vv 0,ii 256],.nd .len [.nd .sub [vv 1,ii 2]]]],vv 6]] [] []]
noncomputable def f25:Fn:=⟨5,8,false,[.mk (.assign 5) [.nd (.bin .Mod) [.nd (.bin .FloorDiv) [vv 0,ii 4],vv 2]] [] [],
  .mk (.assign 6) [.nd (.bin .Mod) [.nd (.bin .FloorDiv) [vv 0,ii 16],vv 2]] [] [],
  .mk (.assign 7) [.nd (.bin .Mod) [.nd (.bin .FloorDiv) [vv 0,ii 64],vv 2]] [] [],
  .mk .ite [.nd .and [.nd (.cmp .Eq) [.nd (.bin .Mod) [vv 0,ii 4],ii 0],.nd (.cmp .Lt) [.nd .len [vv 3],vv 4],.nd (.cmp .NotEq) [.nd .sub [vv 1,ii 0],ss k0]]] yH [],
  .mk .ite [.nd .and [.nd (.cmp .Lt) [.nd (.bin .Mod) [vv 0,ii 4],ii 2],.nd (.cmp .NotEq) [.nd .sub [vv 1,ii 1],ss k0]]] yG [],
  .mk .ite [.nd (.cmp .NotEq) [.nd .sub [vv 1,ii 2],ss k0]] A0 [],
  .mk .ret [nn] [] []]⟩
noncomputable def n25:List Str:=["_law_cell", "_law_signs", "_law_rooms", "_law_opens", "_law_most", "_law_one", "_law_other", "_law_third"]
noncomputable def f26c0:E:=(vv 12)
noncomputable def f26c1:E:=(vv 12)
noncomputable def f26c2:E:=(vv 12)
noncomputable def AZ:List S:=[.mk (.assign 10) [.nd (.comp 12) [.nd (.own 8) [],f26c2,.nd (.cmp .Eq) [.nd .sub [vv 12,ii 0],ss kOpen]]] [] [],
  .mk (.assign 11) [.nd (.call 25) [.nd (.call 21) [.nd (.call 20) [vv 0,.nd (.bin .Add) [.nd (.bin .Add) [vv 1,ii 2],vv 9]],vv 9],vv 2,vv 4,vv 10,vv 5]] [] [],
  .mk .ite [.nd (.cmp .IsNot) [vv 11,nn]] [.mk (.append 8) [vv 11] [] []] []]
noncomputable def f26:Fn:=⟨4,14,false,[.mk (.assign 4) [.nd (.bin .Add) [ii 1,.nd (.bin .Mod) [.nd (.call 20) [vv 0,vv 1],vv 3]]] [] [],
  .mk (.assign 5) [.nd .sub [.nd .list [ii 4,ii 2,ii 1,ii 1],.nd (.bin .Sub) [vv 4,ii 1]]] [] [],
  .mk (.assign 6) [.nd (.comp 12) [.nd .range [vv 4],f26c0,.nd (.cmp .Gt) [.nd (.bin .Mod) [.nd (.bin .FloorDiv) [.nd (.call 20) [vv 0,.nd (.bin .Add) [vv 1,ii 1]],.nd (.bin .Add) [.nd (.bin .Mult) [ii 4,vv 12],ii 1]],ii 3],ii 0]]] [] [],
  .mk (.assign 7) [.nd (.comp 12) [.nd .range [vv 4],f26c1,.nd (.cmp .Eq) [.nd (.bin .Mod) [.nd (.bin .FloorDiv) [.nd (.call 20) [vv 0,.nd (.bin .Add) [vv 1,ii 1]],.nd (.bin .Add) [.nd (.bin .Mult) [ii 5,vv 12],ii 7]],ii 2],ii 0]]] [] [],
  .mk (.ownL 8) [] [] [],
  .mk (.forS 9) [.nd .range [.nd (.bin .Add) [ii 2,.nd (.bin .Mod) [.nd (.bin .FloorDiv) [.nd (.call 20) [vv 0,vv 1],ii 4],ii 9]]]] AZ [],
  .mk (.freeze 8) [] [] [],
  .mk .ret [.nd .tuple [vv 2,vv 4,vv 6,vv 7,vv 8]] [] []]⟩
noncomputable def n26:List Str:=["_law_script", "_law_at", "_law_signs", "_law_most", "_law_rooms", "_law_many", "_law_starts", "_law_ends", "_law_ways", "_law_k", "_law_opens", "_law_way"]
noncomputable def f27:Fn:=⟨1,1,false,[.mk .ret [.nd (.call 8) [.nd .sub [vv 0,ii 0],.nd .sub [vv 0,ii 1],.nd .listOf [.nd .sub [vv 0,ii 2]],.nd .listOf [.nd .sub [vv 0,ii 3]],.nd .listOf [.nd .sub [vv 0,ii 4]]]] [] []]⟩
noncomputable def n27:List Str:=["_law_parts"]
noncomputable def f28:Fn:=⟨1,1,false,[.mk .ret [.nd .tuple [.nd (.meth 9) [vv 0],.nd (.meth 10) [vv 0],.nd (.meth 11) [vv 0],.nd (.meth 12) [vv 0],.nd (.meth 13) [vv 0]]] [] []]⟩
noncomputable def n28:List Str:=["_law_machine"]
noncomputable def AY:List S:=[.mk (.append 1) [.nd (.bin .Add) [.nd (.bin .Add) [vv 2,.nd (.bin .Mult) [ss (⟨#[32]⟩),.nd .intOf [.nd (.cmp .NotEq) [vv 3,ss k0]]]],vv 3]] [] []]
noncomputable def AX:E:=(.nd .strOf [vv 5])
noncomputable def AW:List S:=[.mk (.append 1) [.nd .join [ss (⟨#[32]⟩),.nd (.bin .Add) [.nd .list [vv 2],.nd (.comp 5) [vv 4,AX]]]] [] []]
noncomputable def yF:E:=(.nd .strOf [vv 7])
noncomputable def wv:E:=(.nd .join [ss (⟨#[32]⟩),.nd (.comp 7) [vv 5,yF]])
noncomputable def f29:Fn:=⟨1,9,false,[.mk (.ownL 1) [] [] [],
  .mk (.forM [2,3]) [.nd .zip [.nd .tuple [ss (⟨#[111,112,101,110,105,110,103]⟩),ss (⟨#[99,108,111,115,105,110,103]⟩),ss (⟨#[112,108,97,105,110]⟩)],.nd .sub [vv 0,ii 0]]] AY [],
  .mk (.append 1) [.nd (.bin .Add) [ss (⟨#[114,111,111,109,115,32]⟩),.nd .strOf [.nd .sub [vv 0,ii 1]]]] [] [],
  .mk (.forM [2,4]) [.nd .zip [.nd .tuple [ss (⟨#[115,116,97,114,116,115]⟩),ss (⟨#[101,110,100,115]⟩)],.nd .tuple [.nd .sub [vv 0,ii 2],.nd .sub [vv 0,ii 3]]]] AW [],
  .mk (.freeze 1) [] [] [],
  .mk .ret [.nd .join [ss (⟨#[10]⟩),.nd (.bin .Add) [vv 1,.nd (.comp 5) [.nd .sub [vv 0,ii 4],wv]]]] [] []]⟩
noncomputable def n29:List Str:=["_law_parts", "_law_rows", "_law_head", "_law_part", "_law_some"]
noncomputable def AV:List S:=[.mk (.assign 5) [.nd (.bin .Mod) [.nd (.bin .FloorDiv) [vv 1,ii 8],.nd .len [vv 4]]] [] [],
  .mk .ret [.nd .join [ss (⟨#[10]⟩),.nd (.bin .Add) [.nd (.bin .Add) [.nd (.slice false true) [vv 4,vv 5],.nd (.slice true false) [vv 4,.nd (.bin .Add) [vv 5,ii 1]]],.nd (.slice true true) [vv 4,vv 5,.nd (.bin .Add) [vv 5,ii 1]]]]] [] []]
noncomputable def AU:List S:=[.mk (.assign 5) [.nd (.bin .Mod) [.nd (.bin .FloorDiv) [vv 1,ii 8],.nd .len [vv 4]]] [] [],
  .mk .ret [.nd .join [ss (⟨#[10]⟩),.nd (.bin .Add) [.nd (.slice false true) [vv 4,.nd (.bin .Add) [vv 5,ii 1]],.nd (.slice true false) [vv 4,vv 5]]]] [] []]
noncomputable def f30:Fn:=⟨2,6,false,[.mk (.assign 2) [.nd (.bin .Mod) [.nd (.bin .FloorDiv) [vv 1,ii 8],.nd (.bin .Add) [.nd .len [vv 0],ii 1]]] [] [],
  .mk (.assign 3) [.nd .sub [ss (⟨#[97,98,121,122,48,49,56,57,32,10,9,65,45,111,110,111,112]⟩),.nd (.bin .Mod) [.nd (.bin .FloorDiv) [vv 1,ii 3000],ii 17]]] [] [],
  .mk (.assign 4) [.nd .split [vv 0,ss (⟨#[10]⟩)]] [] [],
  .mk .ite [.nd (.cmp .Lt) [.nd (.bin .Mod) [vv 1,ii 8],ii 3]] [.mk .ret [.nd (.bin .Add) [.nd (.bin .Add) [.nd (.slice false true) [vv 0,vv 2],vv 3],.nd (.slice true false) [vv 0,vv 2]]] [] []] [],
  .mk .ite [.nd (.cmp .Eq) [.nd (.bin .Mod) [vv 1,ii 8],ii 3]] [.mk .ret [.nd (.bin .Add) [.nd (.slice false true) [vv 0,vv 2],.nd (.slice true false) [vv 0,.nd (.bin .Add) [vv 2,ii 1]]]] [] []] [],
  .mk .ite [.nd (.cmp .Eq) [.nd (.bin .Mod) [vv 1,ii 8],ii 4]] [.mk .ret [.nd (.bin .Add) [.nd (.bin .Add) [.nd (.slice false true) [vv 0,vv 2],vv 3],.nd (.slice true false) [vv 0,.nd (.bin .Add) [vv 2,ii 1]]]] [] []] [],
  .mk .ite [.nd (.cmp .Eq) [.nd (.bin .Mod) [vv 1,ii 8],ii 5]] AV [],
  .mk .ite [.nd (.cmp .Eq) [.nd (.bin .Mod) [vv 1,ii 8],ii 6]] AU [],
  .mk .ret [.nd .sub [.nd .list [nn,ii 5,bb true,.nd .list [vv 0],.nd .tuple [vv 0],ss k0,.nd (.bin .Add) [vv 0,ss (⟨#[10]⟩)],.nd .edict []],.nd (.bin .Mod) [.nd (.bin .FloorDiv) [vv 1,ii 8],ii 8]]] [] []]⟩
noncomputable def n30:List Str:=["_law_text_here", "_law_cell", "_law_at", "_law_sign", "_law_rows", "_law_one"]
noncomputable def wu:E:=(.nd .strOf [vv 1])
noncomputable def f31:Fn:=⟨1,3,false,[.mk .ite [.nd (.cmp .In) [vv 0,.nd (.comp 1) [.nd .range [ii 100],wu]]] [.mk .ret [.nd .intOf [vv 0]] [] []] [],
  .mk .ret [.nd .neg [ii 1]] [] []]⟩
noncomputable def n31:List Str:=["_law_word"]
noncomputable def f32c0:E:=(.nd (.call 31) [.nd .sub [vv 0,vv 6]])
noncomputable def f32c1:E:=(vv 6)
noncomputable def yE:E:=(.nd .ite [.nd (.cmp .In) [vv 6,.nd .tuple [ii 0,vv 3]],.nd .sub [vv 0,vv 6],.nd (.call 31) [.nd .sub [vv 0,vv 6]]])
noncomputable def f32:Fn:=⟨3,8,false,[.mk .ite [.nd (.cmp .NotIn) [.nd .sub [vv 0,ii 0],.nd .tuple [ss kOn,ss kOpen,ss kClose]]] [.mk .ret [nn] [] []] [],
  .mk .ite [.nd (.cmp .NotEq) [.nd .len [vv 0],.nd .sub [.nd .list [ii 4,ii 5,ii 5],.nd (.index [kOn,kOpen,kClose]) [.nd .sub [vv 0,ii 0]]]]] [.mk .ret [nn] [] []] [],
  .mk (.assign 3) [.nd .ite [.nd (.cmp .Eq) [.nd .sub [vv 0,ii 0],ss kClose],ii 3,ii 2]] [] [],
  .mk (.assign 4) [.nd .sub [vv 1,.nd (.index [kOpen,kClose,kOn]) [.nd .sub [vv 0,ii 0]]]] [] [],
  .mk .ite [.nd .or [.nd (.cmp .NotEq) [.nd .len [.nd .sub [vv 0,vv 3]],ii 1],.nd (.cmp .NotIn) [.nd .sub [vv 0,vv 3],vv 4]]] [.mk .ret [nn] [] []] [],
  .mk (.assign 5) [.nd (.comp 6) [.nd .range [ii 1,.nd .len [vv 0]],f32c0,.nd (.cmp .NotEq) [vv 6,vv 3]]] [] [],
  .mk .ite [.nd (.cmp .NotEq) [.nd (.comp 6) [vv 5,f32c1,.nd .not [.nd (.chain true) [ii 0,vv 6,vv 2]]],.nd .list []]] [.mk .ret [nn] [] []] [],
  .mk .ret [.nd .tupleOf [.nd (.comp 6) [.nd .range [.nd .len [vv 0]],yE]]] [] []]⟩
noncomputable def n32:List Str:=["_law_words", "_law_signs", "_law_rooms", "_law_at", "_law_part", "_law_numbers"]
noncomputable def yD:E:=(.nd .split [vv 9,ss (⟨#[32]⟩)])
noncomputable def wt:E:=(.nd .sub [vv 9,ii 0])
noncomputable def wq:E:=(.nd .len [vv 9])
noncomputable def yC:E:=(.nd .join [ss k0,.nd (.slice true false) [vv 9,ii 1]])
noncomputable def f33c4:E:=(vv 9)
noncomputable def wn:E:=(.nd .len [vv 9])
noncomputable def f33c6:E:=(vv 9)
noncomputable def AT:E:=(.nd (.call 31) [vv 11])
noncomputable def AS:E:=(.nd (.comp 11) [.nd (.slice true false) [vv 9,ii 1],AT])
noncomputable def f33c9:E:=(vv 9)
noncomputable def zM:List S:=[.mk .ite [.nd .or [.nd (.cmp .NotEq) [vv 7,.nd .sortedSetI [vv 7]],.nd (.cmp .NotEq) [.nd (.comp 9) [vv 7,f33c9,.nd .not [.nd (.chain true) [ii 0,vv 9,vv 6]]],.nd .list []]]] [.mk .ret [nn] [] []] []]
noncomputable def zL:E:=(.nd (.call 32) [vv 9,vv 3,vv 6])
noncomputable def f33:Fn:=⟨1,13,false,[.mk .ite [.nd .not [.nd (.isinst 0) [vv 0]]] [.mk .ret [nn] [] []] [],
  .mk (.assign 1) [.nd (.comp 9) [.nd .split [vv 0,ss (⟨#[10]⟩)],yD]] [] [],
  .mk (.assign 2) [.nd .list [ss (⟨#[111,112,101,110,105,110,103]⟩),ss (⟨#[99,108,111,115,105,110,103]⟩),ss (⟨#[112,108,97,105,110]⟩),ss (⟨#[114,111,111,109,115]⟩),ss (⟨#[115,116,97,114,116,115]⟩),ss (⟨#[101,110,100,115]⟩)]] [] [],
  .mk .ite [.nd .or [.nd (.cmp .Lt) [.nd .len [vv 1],ii 6],.nd (.cmp .NotEq) [.nd (.comp 9) [.nd (.slice false true) [vv 1,ii 6],wt],vv 2]]] [.mk .ret [nn] [] []] [],
  .mk .ite [.nd .or [.nd (.cmp .Gt) [.nd .max [.nd (.comp 9) [.nd (.slice false true) [vv 1,ii 3],wq]],ii 2],.nd (.cmp .NotEq) [.nd .len [.nd .sub [vv 1,ii 3]],ii 2]]] [.mk .ret [nn] [] []] [],
  .mk .ite [.nd .not [.nd (.chain false) [ii 1,.nd (.call 31) [.nd .sub [.nd .sub [vv 1,ii 3],ii 1]],ii 40]]] [.mk .ret [nn] [] []] [],
  .mk (.assign 3) [.nd .tupleOf [.nd (.comp 9) [.nd (.slice false true) [vv 1,ii 3],yC]]] [] [],
  .mk (.assign 4) [.nd (.bin .Add) [.nd (.bin .Add) [.nd .sub [vv 3,ii 0],.nd .sub [vv 3,ii 1]],.nd .sub [vv 3,ii 2]]] [] [],
  .mk .ite [.nd .or [.nd (.cmp .NotEq) [.nd (.comp 9) [.nd (.slice false true) [vv 1,ii 3],f33c4,.nd (.cmp .Eq) [.nd (.slice true false) [vv 9,ii 1],.nd .list [ss k0]]],.nd .list []],.nd (.cmp .NotEq) [.nd .lenSet [vv 4],.nd .len [vv 4]]]] [.mk .ret [nn] [] []] [],
  .mk .ite [.nd (.cmp .Gt) [.nd .max [.nd (.comp 9) [vv 3,wn]],ii 4]] [.mk .ret [nn] [] []] [],
  .mk .ite [.nd (.cmp .NotEq) [.nd (.comp 9) [vv 4,f33c6,.nd (.cmp .NotIn) [vv 9,ss abc]],.nd .list []]] [.mk .ret [nn] [] []] [],
  .mk (.assign 5) [.nd (.comp 9) [.nd (.slice true true) [vv 1,ii 4,ii 6],AS]] [] [],
  .mk (.assign 6) [.nd (.call 31) [.nd .sub [.nd .sub [vv 1,ii 3],ii 1]]] [] [],
  .mk (.forS 7) [vv 5] zM [],
  .mk (.assign 8) [.nd (.comp 9) [.nd (.slice true false) [vv 1,ii 6],zL]] [] [],
  .mk .ite [.nd .or [.nd (.cmp .In) [nn,vv 8],.nd (.cmp .NotEq) [vv 8,.nd .sortedSet [vv 8]]]] [.mk .ret [nn] [] []] [],
  .mk .ret [.nd .tuple [vv 3,vv 6,.nd .sub [vv 5,ii 0],.nd .sub [vv 5,ii 1],vv 8]] [] []]⟩
noncomputable def n33:List Str:=["_law_text_here", "_law_rows", "_law_heads", "_law_signs", "_law_every", "_law_some", "_law_rooms", "_law_row", "_law_ways"]
noncomputable def f34:Fn:=⟨1,2,false,[.mk (.tryCC 28 19 0 1) [vv 0] [.mk .ret [.nd .tuple [ss (⟨#[114,101,102,117,115,101,100]⟩),.nd (.call 22) [vv 1,ii 6]]] [] []] []]⟩
noncomputable def n34:List Str:=["_law_text_here", "_law_e"]
noncomputable def AR:List S:=[.mk (.assign 2) [.nd .tuple [vv 1,.nd (.bin .Add) [ii 38,.nd (.bin .Mod) [.nd (.bin .FloorDiv) [.nd (.call 20) [vv 0,ii 1],ii 32],ii 3]],.nd (.bin .Add) [.nd .sub [vv 2,ii 2],.nd .list [ii 37]],.nd .sub [vv 2,ii 3],.nd .sub [vv 2,ii 4]]] [] []]
noncomputable def f35:Fn:=⟨1,7,false,[.mk (.assign 1) [.nd (.call 24) [.nd (.call 20) [vv 0,ii 0]]] [] [],
  .mk (.assign 2) [.nd (.call 26) [vv 0,ii 3,vv 1,ii 4]] [] [],
  .mk .ite [.nd (.cmp .Eq) [.nd (.bin .Mod) [.nd (.bin .FloorDiv) [.nd (.call 20) [vv 0,ii 1],ii 4],ii 8],ii 1]] AR [],
  .mk (.assign 3) [.nd (.call 27) [vv 2]] [] [],
  .mk (.assign 4) [.nd (.call 28) [vv 3]] [] [],
  .mk (.assign 5) [.nd (.call 29) [vv 4]] [] [],
  .mk .ite [.nd .or [.nd (.cmp .NotEq) [.nd (.call 15) [vv 3],vv 5],.nd .not [.nd (.isinst 0) [.nd (.call 15) [vv 3]]],.nd (.cmp .NotEq) [.nd (.call 34) [vv 5],vv 4]]] [.mk .ret [bb false] [] []] [],
  .mk .ite [.nd (.cmp .Eq) [.nd (.bin .Mod) [.nd (.call 20) [vv 0,ii 1],ii 3],ii 0]] [.mk .ret [.nd (.cmp .Eq) [.nd (.call 28) [vv 3],vv 4]] [] []] [],
  .mk (.assign 6) [.nd (.call 30) [vv 5,.nd (.call 21) [.nd (.call 20) [vv 0,ii 2],ii 1]]] [] [],
  .mk (.assign 2) [.nd (.call 33) [vv 6]] [] [],
  .mk .ite [.nd (.cmp .Is) [vv 2,nn]] [.mk .ret [.nd (.cmp .Eq) [.nd (.call 34) [vv 6],.nd .tuple [ss (⟨#[114,101,102,117,115,101,100]⟩),bb true]]] [] []] [],
  .mk .ret [.nd (.cmp .Eq) [.nd (.call 34) [vv 6],vv 2]] [] []]⟩
noncomputable def n35:List Str:=["_law_script", "_law_signs", "_law_parts", "_law_machine", "_law_due", "_law_text_here", "_law_bent_here"]
noncomputable def fns:List Fn:=[f0,f1,f2,f3,f4,f5,f6,f7,f8,f9,f10,f11,f12,f13,f14,f15,f16,f17,f18,f19,f20,f21,f22,f23,f24,f25,f26,f27,f28,f29,f30,f31,f32,f33,f34,f35]
noncomputable def prog:Prog:=⟨fns,sup⟩
noncomputable def clsN:List (Str×Nat):=[("NestError",0),("BadSigns",1),("BadWord",2),("BadMachine",3),("TooMany",4),("NotPlain",5),("Unlike",6),("NoNote",7)]
noncomputable def safe (f:Nat):Bool:=f==22
noncomputable def newf (f:Nat):Bool:=f==8||f==11||f==12||f==13
noncomputable def cfn:Nat:=8
noncomputable def fnN:List (Str×Nat):=[("are_letters",0),("are_signs",1),("need_signs",2),("kind_of",3),("is_room",4),("are_rooms",5),("is_way",6),("are_ways",7),("Machine",8),("row_of",14),("shown",15),("number_of",16),("part_of",17),("made_of",18),("read",19),("_law_cell_at",20),("_law_mixed",21),("_law_alone",22),("_law_signs_by",23),("_law_any_signs_by",24),("_law_way_by",25),("_law_parts_by",26),("_law_made",27),("_law_of",28),("_law_text",29),("_law_bent",30),("_law_number",31),("_law_way_of",32),("_law_parts_of",33),("_law_told",34),("law",35)]
noncomputable def metN:List (Str×Nat):=[("signs",9),("rooms",10),("starts",11),("ends",12),("ways",13)]
noncomputable def fldN:List Str:=["marks", "many", "first", "last", "told"]
noncomputable def conN:List (Str×V):=[("LETTERS",.str abc),("MOST_SIGNS",.int 4),("MOST_ROOMS",.int 40),("MOST_WAYS",.int 4000),("FIGURES",.str (⟨#[48,49,50,51,52,53,54,55,56,57]⟩)),("WORDS",.tuple cW)]
end Mine.L15
end
noncomputable section
namespace Mine.L15
open PySem PySem.Calls PyProof.Rows PySem.W
noncomputable def Z:Zx:=⟨fnN,conN,fldN,metN,clsN,8,sup,safe,newf,cfn⟩
noncomputable def mchA:Addr:=219
noncomputable def clsA:List Addr:=[24,37,49,61,73,85,97,109]
noncomputable def fnA:List Addr:=[118,125,132,139,146,153,160,167,219,188,195,202,209,216,229,236,243,250,255,262,269,276,283,288,293,300,305,312,319,324,331,336,341,346,353,360]
noncomputable def fnB:List Addr:=[118,125,132,139,146,153,160,167,181,188,195,202,209,216,229,236,243,250,255,262,269,276,283,288,293,300,305,312,319,324,331,336,341,346,353,360]
noncomputable def Aw:List Addr:=[3,1,219,218,224,24,37,49,61,73,85,97,109,23,36,48,60,72,84,96,108]++fnB++[117,124,131,138,145,152,159,166,180,187,194,201,208,215,228,235,242,249,254,261,268,275,282,287,292,299,304,311,318,323,330,335,340,345,352,359]
noncomputable def nms:List (List Str):=[n0,n1,n2,n3,n4,n5,n6,n7,n8,n9,n10,n11,n12,n13,n14,n15,n16,n17,n18,n19,n20,n21,n22,n23,n24,n25,n26,n27,n28,n29,n30,n31,n32,n33,n34,n35]
noncomputable def txt (s:Stmt):Option gG:=if h:s.ctorIdx=0 then Stmt.FunctionDef.elim (motive_2:=fun _=>Option gG) s h fun _ args body _ _ _ scope _ _ _=>some (body,scope,args) else none
noncomputable def xZ (s:Stmt):List Stmt:=if h:s.ctorIdx=2 then Stmt.ClassDef.elim (motive_2:=fun _=>List Stmt) s h fun _ _ _ body _ _ _ _ _ _ _=>body else []
noncomputable def cB (i:Nat):Option gG:=(PySem.Challenge.rw_uf010006_15.row.prog.main.body[i]?).bind txt
noncomputable def vW (i:Nat):Option gG:=((PySem.Challenge.rw_uf010006_15.row.prog.main.body[23]?).bind fun c=>(xZ c)[i]?).bind txt
noncomputable def wH:List (Option gG):=[cB 12,cB 13,cB 14,cB 15,cB 19,cB 20,cB 21,cB 22,vW 0,vW 1,vW 2,vW 3,vW 4,vW 5,cB 27,cB 28,cB 29,cB 30,cB 31,cB 32,cB 34,cB 35,cB 36,cB 37,cB 38,cB 39,cB 40,cB 41,cB 42,cB 43,cB 44,cB 45,cB 46,cB 47,cB 48,cB 49]
noncomputable def jI [BEq Str]:Nat→List Fn→List (List Str)→List (Option gG)→Bool
 | _,[],_,_=>true
 | i,fn :: r,n :: m,a :: b=>jH Z fn n (safe i) (newf i&&!fn.init) a&&jI (i+1) r m b
 | _,_,_,_=>false
noncomputable def mJ (K:Frag):Nat→Bool
 | 0=>true
 | c+1=>lQ K sup 8 (fun c=>clsA.getD c 0) c&&mJ K c
noncomputable def chk [BEq Str] (K:Frag):Bool:=
 (K.lookup sysModules).isSome&&(qX K mchA fldN&&(fnN.all (fun p=>nsF K mainGlobals p.1==some (some (.ref (fnA.getD p.2 0))))&&(conN.all (qV K)&&(bu.all (fun p=>nsF K mainGlobals p.1==some none)&&(fnN.all (fun p=>keepIn K (.ref (fnA.getD p.2 0))) &&
 (metN.all (vX K mchA fldN fun f=>fnA.getD f 0)&&(findIn K (.ref mchA) "__init__"==some (some (.ref 181))&&(typeIn K (.ref 181)==some (.type "function")&&(fnB.all (qS K) &&
 (clsN.all (fun p=>decide (p.2 < 8)&&nsF K mainGlobals p.1==some (some (.ref (clsA.getD p.2 0))))&&(specialIn K (.builtin "object.__class__") "__get__"==some (some (.builtin "getset_descriptor.__get__"))&&(takesIn K (.builtin "object.__class__")==some true&&mJ K 8))))))))))))
noncomputable def dK (h:Heap):List Addr→Frag
 | []=>[]
 | a :: r=>match h.get? a with
  | some o=>(a,o) :: dK h r
  | none=>dK h r
theorem hO (h:Heap):∀ as:List Addr,Frag.In (dK h as) h
 | [],a,o,e=>nomatch e
 | b :: r,a,o,e=>by
  unfold dK at e
  cases hb:h.get? b with
  | none=>rw [hb] at e; exact hO h r a o e
  | some p=>
   rw [hb] at e
   by_cases q:a=b
   ·subst q
    have:List.lookup a ((a,p) :: dK h r)=some p:=List.lookup_cons_self
    rw [hb]; exact this.symm.trans e
   ·have:List.lookup a ((b,p) :: dK h r)=List.lookup a (dK h r):=by rw [List.lookup_cons,beq_false_of_ne q]
    exact hO h r a o (this.symm.trans e)
noncomputable def ua:Hook:=⟨Bool×List (Option gG),fun s=>(@chk mB (dK s.heap Aw),fnB.map (fG (dK s.heap Aw))),fun _=>(true,wH),fun _ h=>∃ K:Frag,K.In h∧chk K=true∧fnB.map (fG K)=wH,fun _ s e=>⟨dK s.heap Aw,hO _ _,sH▸congrArg Prod.fst e,congrArg Prod.snd e⟩,fun _ _ _ y k=>y.elim fun K x=>⟨K,fun a o e=>k a o (x.1 a o e),x.2⟩⟩
end Mine.L15
end
noncomputable section
open PySem PySem.W PyProof.Rows
namespace Mine.L15
noncomputable def vw:Program:=view PySem.Challenge.rw_uf010006_15.row.toRowW.prog [1,2,3,4,5,6,7,8,10,11,12,13,14,15,17,18,19,20,21,22,23,25,26,27,28,29,30,31,32,34,35,36,37,38,39,40,41,42,43,44,45,46,47,48,49]
noncomputable def vwX (s:Shared):Bool:=xlAt vw [] s&&recOk (RowW.records PySem.Challenge.rw_uf010006_15.row.toRowW) s
theorem zA:LeftO PySem.Challenge.rw_uf010006_15.row.toRowW.prog vw [] vwX (Hook.obs ua) (Hook.val ua) 6238:=fun w=>by kernel_rfl
end Mine.L15
end
noncomputable section
namespace Mine
open PySem PySem.Calls PyProof.Rows PySem.W
noncomputable def aH (h h':Heap):Prop:=∀ b o,h.get? b=some o→h'.get? b=some o
noncomputable def iK (o:Obj):Prop:=o.cls≠.type "frame"
noncomputable def bA (h':Heap) (b:Addr) (o:Obj):Prop:=∃ sl,h'.get? b=some { o with slots:=sl }∧(iK o→sl=o.slots)
noncomputable def aD (h h':Heap):Prop:=∀ b o,h.get? b=some o→bA h' b o
noncomputable def aW (h:Heap) (a:Addr):Prop:=∃ o,h.get? a=some o
theorem bA.of {h':Heap} {b:Addr} {o:Obj} (e:h'.get? b=some o):bA h' b o:=⟨o.slots,e,fun _=>rfl⟩
theorem bA.get {h':Heap} {b:Addr} {o:Obj} (x:bA h' b o) (n:iK o):h'.get? b=some o:=by
 obtain ⟨sl,e',q⟩:=x
 rw [e',q n]
theorem bA.live {h':Heap} {b:Addr} {o:Obj} (x:bA h' b o):aW h' b:=x.elim fun _ q=>⟨_,q.1⟩
theorem bA.step {h₂ h₃:Heap} {b:Addr} {o:Obj} (x:bA h₂ b o) (y:∀ o',h₂.get? b=some o'→bA h₃ b o'):bA h₃ b o:=by
 obtain ⟨sl,e₁,q₁⟩:=x
 obtain ⟨sl',e₂,q₂⟩:=y _ e₁
 exact ⟨sl',e₂,fun n=>(q₂ n).trans (q₁ n)⟩
theorem aH.keeps {h h':Heap} (x:aH h h'):aD h h':=fun b o e=>⟨o.slots,x b o e,fun _=>rfl⟩
theorem aD.get {h h':Heap} (x:aD h h') {b:Addr} {o:Obj} (e:h.get? b=some o) (n:iK o):h'.get? b=some o:=(x b o e).get n
theorem aD.refl (h:Heap):aD h h:=aH.keeps fun _ _ e=>e
theorem aD.trans {h₁ h₂ h₃:Heap} (x:aD h₁ h₂) (y:aD h₂ h₃):aD h₁ h₃:=fun b o e=>(x b o e).step (y b)
theorem aD.live {h h':Heap} (x:aD h h') {a:Addr}:aW h a→aW h' a:=fun ⟨o,e⟩=>(x a o e).live
theorem aH.trans {h₁ h₂ h₃:Heap} (x:aH h₁ h₂) (y:aH h₂ h₃):aH h₁ h₃:=fun b o e=>y b o (x b o e)
theorem aH.live {h h':Heap} (x:aH h h') {a:Addr}:aW h a→aW h' a:=x.keeps.live
theorem w8 {o:Obj} {n:String} (h:o.cls=.type n) (q:n≠"frame"):iK o:=fun e=>q (Value.type.inj (h.symm.trans e))
noncomputable def d4 (h:Heap) (a:Addr):Prop:=∃ o,h.get? a=some o∧iK o
theorem d4.live {h:Heap} {a:Addr} (x:d4 h a):aW h a:=x.elim fun o q=>⟨o,q.1⟩
theorem d4.nf {h:Heap} {a:Addr} {o:Obj} (x:d4 h a) (e:h.get? a=some o):iK o:=by obtain ⟨o',e',n⟩:=x; rw [e] at e'; (injection e' with e'; subst e'); exact n
noncomputable def kB (h:Heap) (v:Value):Prop:=∀ a b,v=.ref a→aW h b→b < a
theorem kB.le {h h':Heap} {v:Value} (x:kB h' v) (k:∀ b,aW h b→aW h' b):kB h v:=fun a b e l=>x a b e (k b l)
theorem fj {h:Heap} {n:Nat} (q:h.objs.size≤n):kB h (.ref n):=fun a b e ⟨o,l⟩=>by (injection e with e; subst e); exact Nat.lt_of_lt_of_le (Heap.lt_size l) q
theorem ar (h:Heap):h.get? h.objs.size=none:=by
 cases e:h.get? h.objs.size with
 | none=>rfl
 | some o=>exact absurd (Heap.lt_size e) (Nat.lt_irrefl _)
theorem aK {h h':Heap} {a:Addr} (l:aW h a→aW h' a) (e:h'.get? a=none):h.get? a=none:=by
 cases q:h.get? a with
 | none=>rfl
 | some o=>obtain ⟨o',e'⟩:=l ⟨o,q⟩; rw [e] at e'; (injection e'; done)
theorem aA (h:Heap) (o:Obj):aH h (h.push o):=fun _ _ e=>Heap.get?_push_of_some _ e
theorem dX (h:Heap) (o:Obj):aD h (h.push o):=(aA h o).keeps
structure Gl where
 prog:Program
 w:World
 h0:Heap
 mg:Str→Option Value
 mb:Str→Option Value
 fn:Nat→Addr
 C:Addr
 K:Frag
 flds:List Str
 os:OsState
 P:Prog
 cls:Nat→Addr
 nc:Nat
 safe:Nat→Bool
 newf:Nat→Bool
 fns:List (Str×Nat)
 clss:List (Str×Nat)
 cons:List (Str×V)
structure Base (g:Gl) (s:Shared):Prop where
 stays:aH g.h0 s.heap
 os:s.os=g.os
 gens:s.gens=#[]
noncomputable def eO (g:Gl) (o:Obj) (ws:List Value):Prop:=o.ExactDict∧∃ es n,o.data=.dict es n∧es.toList.map (·.val)=ws∧∀ (j:Nat) e,es[j]?=some e→∃ x t,g.flds[j]?=some x∧e.key=.str x t
noncomputable def ub (a:Addr) (ws:List Value) (l:List V):Prop:=∀ (j:Nat) b m,ws[j]?=some (.ref b)→l[j]?=some (.list m)→a < b
mutual
inductive Rp (g:Gl) (bad:Addr→Prop) (h:Heap):Value→V→Prop
 | none:Rp g bad h .none .none
 | bool (b:Bool):Rp g bad h (.bool b) (.bool b)
 | int (i:Int) (t:Tok):Rp g bad h (.int i t) (.int i)
 | str (x:Str) (t:Tok):Rp g bad h (.str x t) (.str x)
 | list {a:Addr} {o:Obj} {vs:Array Value} {n:Nat} {l:List V}:¬ bad a→h.get? a=some o→o.cls=.type "list"∧o.dict=none→o.data=.seq vs n→RpAll g bad h vs.toList l→Rp g bad h (.ref a) (.list l)
 | tuple {a:Addr} {o:Obj} {vs:Array Value} {n:Nat} {l:List V}:¬ bad a→h.get? a=some o→o.cls=.type "tuple"→o.data=.seq vs n→RpAll g bad h vs.toList l→Rp g bad h (.ref a) (.tuple l)
 | inst {a d:Addr} {o:Obj} {ws:List Value} {kvs:List (V×V)} {l:List V}:¬ bad a→¬ bad d→h.get? a=some (instObj g.C d)→h.get? d=some o→eO g o ws→ub a ws l→su kvs=true→kvs.map (·.2)=l→RpAll g bad h ws l→Rp g bad h (.ref a) (.dict kvs)
 | exc {a:Addr} {o:Obj} {c:Nat} {vs:Array Value}:c < g.nc→¬ bad a→h.get? a=some o→o.cls=.ref (g.cls c)∧o.dict=none→o.data=.fields vs→Rp g bad h (.ref a) (.dict [(.int c,.none)])
 | dict {a:Addr} {o:Obj} {n:Nat}:¬ bad a→h.get? a=some o→o.ExactDict→o.data=.dict #[] n→Rp g bad h (.ref a) (.dict [])
inductive RpAll (g:Gl) (bad:Addr→Prop) (h:Heap):List Value→List V→Prop
 | nil:RpAll g bad h [] []
 | cons {v:Value} {vs:List Value} {x:V} {l:List V}:Rp g bad h v x→RpAll g bad h vs l→RpAll g bad h (v :: vs) (x :: l)
end
section
variable {g:Gl} {bad bad':Addr→Prop} {h h':Heap} {v:Value} {x:V} {vs ws:List Value} {l m:List V}
noncomputable def eQ (bad bad':Addr→Prop) (h h':Heap):Prop:=∀ a o,h.get? a=some o→iK o→¬ bad a→¬ bad' a∧h'.get? a=some o
theorem Rp.ind {C:Value→V→Prop} {D:List Value→List V→Prop} (none:C .none .none) (bool:∀ b,C (.bool b) (.bool b)) (int:∀ i t,C (.int i t) (.int i)) (str:∀ x t,C (.str x t) (.str x))
  (list:∀ a (o:Obj) vs n l,¬ bad a→h.get? a=some o→o.cls=.type "list"∧o.dict=.none→o.data=.seq vs n→RpAll g bad h vs.toList l→D vs.toList l→C (.ref a) (.list l))
  (tuple:∀ a (o:Obj) vs n l,¬ bad a→h.get? a=some o→o.cls=.type "tuple"→o.data=.seq vs n→RpAll g bad h vs.toList l→D vs.toList l→C (.ref a) (.tuple l))
  (inst:∀ a d o ws kvs,¬ bad a→¬ bad d→h.get? a=some (instObj g.C d)→h.get? d=some o→eO g o ws→ub a ws (kvs.map (·.2))→su kvs=true→RpAll g bad h ws (kvs.map (·.2))→D ws (kvs.map (·.2))→C (.ref a) (.dict kvs))
  (exc:∀ a (o:Obj) c vs,c < g.nc→¬ bad a→h.get? a=some o→o.cls=.ref (g.cls c)∧o.dict=.none→o.data=.fields vs→C (.ref a) (.dict [(.int c,.none)]))
  (dict:∀ a (o:Obj) n,¬ bad a→h.get? a=some o→o.ExactDict→o.data=.dict #[] n→C (.ref a) (.dict []))
  (nil:D [] []) (cons:∀ v vs x l,Rp g bad h v x→RpAll g bad h vs l→C v x→D vs l→D (v :: vs) (x :: l)):(Rp g bad h v x→C v x)∧(RpAll g bad h vs l→D vs l):=by
 constructor
 ·exact fun r=>Rp.rec (motive_1:=fun v x _=>C v x) (motive_2:=fun vs l _=>D vs l) none bool int str (fun a b c d e i=>list _ _ _ _ _ a b c d e i) (fun a b c d e i=>tuple _ _ _ _ _ a b c d e i) (fun a b c d e f k q r i=>by subst q; exact inst _ _ _ _ _ a b c d e f k r i) (exc _ _ _ _) (dict _ _ _) nil (fun a b c d=>cons _ _ _ _ a b c d) r
 ·exact fun r=>RpAll.rec (motive_1:=fun v x _=>C v x) (motive_2:=fun vs l _=>D vs l) none bool int str (fun a b c d e i=>list _ _ _ _ _ a b c d e i) (fun a b c d e i=>tuple _ _ _ _ _ a b c d e i) (fun a b c d e f k q r i=>by subst q; exact inst _ _ _ _ _ a b c d e f k r i) (exc _ _ _ _) (dict _ _ _) nil (fun a b c d=>cons _ _ _ _ a b c d) r
theorem fE {C d:Addr}:iK (instObj C d):=nofun
theorem zq {o:Obj} {c:Addr} (h:o.cls=.ref c):iK o:=fun e=>nomatch h.symm.trans e
theorem aU {o:Obj} {n:String} (h:o.cls=.type n) (q:n≠"frame":=by decide):iK o:=w8 h q
theorem vL (k:eQ bad bad' h h'):(Rp g bad h v x→Rp g bad' h' v x)∧(RpAll g bad h vs l→RpAll g bad' h' vs l):=
 Rp.ind .none .bool .int .str (fun a o vs n l hb ha hc hd _ ih=>let q:=k a o ha (aU hc.1) hb; .list q.1 q.2 hc hd ih) (fun a o vs n l hb ha hc hd _ ih=>let q:=k a o ha (aU hc) hb; .tuple q.1 q.2 hc hd ih)
  (fun a d o ws kvs hb hb' ha hd hf hn hi r ih=>let q:=k a _ ha fE hb; let q':=k d o hd (aU hf.1.1) hb'; .inst q.1 q'.1 q.2 q'.2 hf hn hi rfl ih)
  (fun a o c vs hn hb ha hc hd=>let q:=k a o ha (zq hc.1) hb; .exc hn q.1 q.2 hc hd) (fun a o n hb ha hc hd=>let q:=k a o ha (aU hc.1) hb; .dict q.1 q.2 hc hd) .nil fun _ _ _ _ _ _ i j=>.cons i j
theorem Rp.map (r:Rp g bad h v x) (k:eQ bad bad' h h'):Rp g bad' h' v x:=(vL (vs:=[]) (l:=[]) k).1 r
theorem RpAll.map (r:RpAll g bad h vs l) (k:eQ bad bad' h h'):RpAll g bad' h' vs l:=(vL (v:=.none) (x:=.none) k).2 r
theorem aD.mapK (k:aD h h'):eQ bad bad h h':=fun a o e q n=>⟨n,k.get e q⟩
theorem Rp.keep (r:Rp g bad h v x) (k:aD h h'):Rp g bad h' v x:=r.map k.mapK
theorem RpAll.keep (r:RpAll g bad h vs l) (k:aD h h'):RpAll g bad h' vs l:=r.map k.mapK
theorem RpAll.ind {D:List Value→List V→Prop} (r:RpAll g bad h vs l) (n:D [] []) (c:∀ v vs x l,Rp g bad h v x→RpAll g bad h vs l→D vs l→D (v :: vs) (x :: l)):D vs l:=
 (Rp.ind (v:=.none) (x:=.none) (C:=fun _ _=>True) trivial (fun _=>trivial) (fun _ _=>trivial) (fun _ _=>trivial) (fun _ _ _ _ _ _ _ _ _ _ _=>trivial) (fun _ _ _ _ _ _ _ _ _ _ _=>trivial) (fun _ _ _ _ _ _ _ _ _ _ _ _ _ _=>trivial) (fun _ _ _ _ _ _ _ _ _=>trivial) (fun _ _ _ _ _ _ _=>trivial) n fun v vs x l r rs _ i=>c v vs x l r rs i).2 r
theorem RpAll.length (r:RpAll g bad h vs l):vs.length=l.length:=r.ind (D:=fun vs l=>vs.length=l.length) rfl fun _ _ _ _ _ _ i=>congrArg (· + 1) i
theorem RpAll.get {i:Nat} {x:V} (r:RpAll g bad h vs l):l[i]?=some x→∃ v,vs[i]?=some v∧Rp g bad h v x:=by
 refine r.ind (D:=fun vs l=>∀ i,l[i]?=some x→∃ v,vs[i]?=some v∧Rp g bad h v x) (fun i e=>absurd (List.getElem?_nil (i:=i)▸e) nofun) (fun v vs y l r _ ih i e=>?_) i
 cases i with
 | zero=>(injection e with e; subst e); exact ⟨_,rfl,r⟩
 | succ i=>exact ih i e
theorem RpAll.append (r:RpAll g bad h vs l) (q:RpAll g bad h ws m):RpAll g bad h (vs++ws) (l++m):=r.ind (D:=fun vs l=>RpAll g bad h (vs++ws) (l++m)) q fun _ _ _ _ r _ i=>.cons r i
theorem RpAll.take (n:Nat) (r:RpAll g bad h vs l):RpAll g bad h (vs.take n) (l.take n):=by
 refine r.ind (D:=fun vs l=>∀ n,RpAll g bad h (vs.take n) (l.take n)) (fun n=>?_) (fun v vs x l r _ ih n=>?_) n
 ·rw [List.take_nil,List.take_nil]; exact .nil
 ·cases n with
  | zero=>exact .nil
  | succ n=>exact .cons r (ih n)
theorem RpAll.drop (n:Nat) (r:RpAll g bad h vs l):RpAll g bad h (vs.drop n) (l.drop n):=by
 refine r.ind (D:=fun vs l=>∀ n,RpAll g bad h (vs.drop n) (l.drop n)) (fun n=>?_) (fun v vs x l r rs ih n=>?_) n
 ·rw [List.drop_nil,List.drop_nil]; exact .nil
 ·cases n with
  | zero=>exact .cons r rs
  | succ n=>exact ih n
theorem oq:(Rp g bad h v x→x.canLay0=true→∃ as,Reads h v x as)∧(RpAll g bad h vs l→PyData.canLayAll0 l=true→∃ as,ReadsAll h vs l as):=
 Rp.ind (C:=fun v x=>x.canLay0=true→∃ as,Reads h v x as) (D:=fun vs l=>PyData.canLayAll0 l=true→∃ as,ReadsAll h vs l as) (fun _=>⟨_,.none⟩) (fun b _=>⟨_,.bool b⟩) (fun i t _=>⟨_,.int i t⟩) (fun x t _=>⟨_,.str x t⟩)
  (fun a o vs n l hb ha hc hd _ ih q=>(ih q).elim fun _ r=>⟨_,.list ha hc.1 hd r⟩) (fun a o vs n l hb ha hc hd _ ih q=>(ih q).elim fun _ r=>⟨_,.tuple ha hc hd r⟩) (fun _ _ _ _ _ _ _ _ _ _ _ _ _ _ q=>nomatch q) (fun _ _ _ _ _ _ _ _ _ q=>nomatch q) (fun _ _ _ _ _ _ _ q=>nomatch q) (fun _=>⟨_,.nil⟩)
  fun v vs x l _ _ i j q=>by
   have q:=zA2 q
   obtain ⟨as,r⟩:=i q.1
   obtain ⟨bs,rs⟩:=j q.2
   exact ⟨_,.cons r rs⟩
theorem Rp.reads (r:Rp g bad h v x) (q:x.canLay0=true):∃ as,Reads h v x as:=(oq (vs:=[]) (l:=[])).1 r q
@[elab_as_elim] theorem Rp.none_elim {C:Value→Prop} (r:Rp g bad h v .none) (k:C .none):C v:=by cases r; exact k
@[elab_as_elim] theorem Rp.bool_elim {C:Value→Prop} {b:Bool} (r:Rp g bad h v (.bool b)) (k:C (.bool b)):C v:=by cases r; exact k
@[elab_as_elim] theorem Rp.int_elim {C:Value→Prop} {i:Int} (r:Rp g bad h v (.int i)) (k:∀ t,C (.int i t)):C v:=by cases r; exact k _
@[elab_as_elim] theorem Rp.str_elim {C:Value→Prop} {x:Str} (r:Rp g bad h v (.str x)) (k:∀ t,C (.str x t)):C v:=by cases r with | str _ t=>exact k t
@[elab_as_elim] theorem Rp.list_elim {C:Value→Prop} (r:Rp g bad h v (.list l)) (k:∀ a (o:Obj) vs n,¬ bad a→h.get? a=some o→o.cls=.type "list"∧o.dict=Option.none→o.data=.seq vs n→RpAll g bad h vs.toList l→C (.ref a)):C v:=by
 cases r with | list hb ha hc hd hl=>exact k _ _ _ _ hb ha hc hd hl
@[elab_as_elim] theorem Rp.tuple_elim {C:Value→Prop} (r:Rp g bad h v (.tuple l)) (k:∀ a (o:Obj) vs n,¬ bad a→h.get? a=some o→o.cls=.type "tuple"→o.data=.seq vs n→RpAll g bad h vs.toList l→C (.ref a)):C v:=by
 cases r with | tuple hb ha hc hd hl=>exact k _ _ _ _ hb ha hc hd hl
@[elab_as_elim] theorem Rp.inst_elim {C:Value→Prop} {kvs:List (V×V)} (r:Rp g bad h v (.dict kvs)) (q:su kvs=true) (k:∀ a d o ws,¬ bad a→¬ bad d→h.get? a=some (instObj g.C d)→h.get? d=some o→eO g o ws→ub a ws (kvs.map (·.2))→RpAll g bad h ws (kvs.map (·.2))→C (.ref a)):C v:=by
 cases r with
 | inst hb hb' ha hd hf hn _ e hl=>subst e; exact k _ _ _ _ hb hb' ha hd hf hn hl
 | exc=>(injection q; done)
 | dict=>(injection q; done)
@[elab_as_elim] theorem Rp.edict_elim {C:Value→Prop} (r:Rp g bad h v (.dict [])) (k:∀ a (o:Obj) n,¬ bad a→h.get? a=some o→o.ExactDict→o.data=.dict #[] n→C (.ref a)):C v:=by
 cases r with
 | inst _ _ _ _ _ _ q=>(injection q; done)
 | dict hb ha hc hd=>exact k _ _ _ hb ha hc hd
end
end Mine
end
noncomputable section
namespace Mine
open PySem
noncomputable def wT:Sc→Value→Bool
 | .inl i,v=>Value.isInt i v
 | .inr x,v=>Value.isStrOf x v
theorem bv {k:Sc} {v:Value} {C:Sc→Value→Prop} (h:wT k v=true) (hi:∀ i t,C (.inl i) (.int i t)) (hs:∀ x t,C (.inr x) (.str x t)):C k v:=by
 cases k with
 | inl i=>obtain ⟨t,rfl⟩:=Value.isInt_shape h; exact hi i t
 | inr x=>obtain ⟨t,rfl⟩:=Value.isStrOf_shape h; exact hs x t
noncomputable def aB (prog:Program) (w:World):KeyKind prog w Sc where
 is:=wT
 hash:=fun k=>match k with | .inl i=>hashInt i | .inr x=>hashStr w x
 inj:=fun v a b ha hb=>bv (C:=fun a v=>wT b v=true→a=b) ha (fun i t hb=>by cases b with | inl j=>exact congrArg _ (Value.isInt_inj (.int i t) i j (by simp [Value.isInt]) hb) | inr y=>(injection hb; done))
  (fun x t hb=>by cases b with | inl j=>(injection hb; done) | inr y=>exact congrArg _ (Value.isStrOf_inj (.str x t) x y (by simp [Value.isStrOf]) hb)) hb
 byValue:=fun k v h=>bv (C:=fun _ v=>carriedByValue v=true) h (fun _ _=>rfl) fun _ _=>rfl
 pyHash:=fun {A E s k v Q} h hq=>bv (C:=fun k v=>Q (match k with | .inl i=>hashInt i | .inr x=>hashStr w x) { s with toks:=s.toks+1 }→wpAny (model prog w) A (PySem.pyHash v) Q E s) h (fun _ _ hq=>wpAny_pyHash_int hq) (fun _ _ hq=>wpAny_pyHash_str hq) hq
 eqBool:=fun {A E s a b u v Q} hu hv hq=>bv (C:=fun a u=>Q (decide (a=b)) s→wpAny (model prog w) A (PySem.eqBool u v) Q E s) hu
  (fun i t hq=>bv (C:=fun b v=>Q (decide (Sum.inl i=b)) s→wpAny (model prog w) A (PySem.eqBool (.int i t) v) Q E s) hv (fun j u hq=>wpAny_eqBool_int (by rw [show (i==j)=decide ((Sum.inl i:Sc)=.inl j) by by_cases e:i=j <;> simp [e]]; exact hq)) (fun y u hq=>SeqAt.EqAt.int_str i t y u _ _ _ _ (by simpa using hq)) hq)
  (fun x t hq=>bv (C:=fun b v=>Q (decide (Sum.inr x=b)) s→wpAny (model prog w) A (PySem.eqBool (.str x t) v) Q E s) hv (fun j u hq=>SeqAt.EqAt.str_int x t j u _ _ _ _ (by simpa using hq)) (fun y u hq=>wpAny_eqBool_str (by rw [show decide (x=y)=decide ((Sum.inr x:Sc)=.inr y) by by_cases e:x=y <;> simp [e]]; exact hq)) hq) hq
 «strs»:=fun k x t v h=>by
  cases k with
  | inl i=>(injection h; done)
  | inr y=>exact (strKind prog w).«strs» y x t v h
end Mine
end
noncomputable section
namespace Mine
open PySem PySem.Calls PyProof.Rows PySem.W
inductive Pl where
 | ns (a:Addr) (x:Str)
 | cell (c:Addr)
 | off
noncomputable def Pl.addr:Pl→Option Addr
 | .ns a _=>some a
 | .cell c=>some c
 | .off=>none
noncomputable def be (h:Heap):Pl→Option Value→Prop
 | .ns a x,v=>∃ m,h.Ns a m∧m x=v
 | .cell c,v=>h.IsCell c v
 | .off,v=>v=none
structure Fx where
 g:Gl
 A:Around
 env:Env
 ρ:List (Str×Nat)
 pl:Nat→Pl
 Mo:Addr→Prop
 nf:Nat
 ns:Nat
 d:Nat
 hm:Bool
 nw:Bool
structure Ct where
 fx:Fx
 oa:Nat→Option Addr
 G:Gs
noncomputable def Ct.own (Φ:Ct) (a:Addr):Prop:=(∃ k,(Φ.fx.pl k).addr=some a)∨∃ k,Φ.oa k=some a
noncomputable def Ct.bad (Φ:Ct) (a:Addr):Prop:=Φ.fx.Mo a∨Φ.own a
noncomputable def gF (g:Gl) (bad:Addr→Prop) (h:Heap) (a:Addr) (u:Value):Slot→Prop
 | .ownL l=>u=.ref a∧∃ o vs n,h.get? a=some o∧(o.cls=.type "list"∧o.dict=none)∧o.data=.seq vs n∧RpAll g bad h vs.toList l
 | .ownI l=>∃ b o ws,u=.ref b∧b=a+1∧¬ bad b∧h.get? b=some (instObj g.C a)∧h.get? a=some o∧eO g o ws∧ub b ws l∧RpAll g bad h ws l
 | _=>False
noncomputable def eM (g:Gl) (bad:Addr→Prop) (h:Heap) (oak:Option Addr) (v:Option Value):Slot→Prop
 | .unset=>oak=none∧v=none
 | .v x=>oak=none∧∃ u,v=some u∧Rp g bad h u x
 | .junk=>oak=none
 | sl=>∃ a u,oak=some a∧v=some u∧gF g bad h a u sl
noncomputable def gQ (h0 h:Heap) (l:List Env):Prop:=∀ env∈l,env.scope.kind≠.module∧∃ L o,env.frame=some L∧h0.get? L=none∧h.get? L=some o∧o.cls=.type "frame"∧∀ vs,o.data≠.fields vs
noncomputable def fS (g:Gl) (A:Around) (h:Heap):Prop:=∃ l,A.frames=some l∧gQ g.h0 h l
inductive ExcAt (h:Heap) (lo:Heap) (e:Addr) (cls fl:Value):Prop
 | mk (oe:Obj) (vs:Array Value):h.get? e=some oe→oe.cls=cls→oe.dict=none→oe.data=.fields vs→lo.get? e=none→1 < vs.size →
  (vs[1]?=some .none∨∃ T oT ts,vs[1]?=some (.ref T)∧T≠e∧lo.get? T=none∧h.get? T=some oT∧oT.data=.fields ts∧ts[3]?=some fl)→ExcAt h lo e cls fl
theorem fS.of {g:Gl} {A:Around} {h:Heap} {l:List Env} (x:fS g A h) (e:A.frames=some l):gQ g.h0 h l:=x.elim fun _ q=>Option.some.inj (q.1.symm.trans e)▸q.2
theorem ExcAt.el {h lo:Heap} {e:Addr} {cls fl:Value} {Z:Prop} (x:ExcAt h lo e cls fl) (k:∀ oe vs,h.get? e=some oe→oe.cls=cls→oe.dict=none→oe.data=.fields vs→lo.get? e=none→Z):Z:=by
 cases x with | mk oe vs a b c d e=>exact k oe vs a b c d e
inductive CallX (g:Gl) (s:Shared) (K:V→Prop) (x:Value) (s':Shared):Prop
 | mk:Base g s'→aD s.heap s'.heap→∀ c e,x=.ref e→c < g.nc→K (eP c)→ExcAt s'.heap s.heap e (.ref (g.cls c)) .none→CallX g s K x s'
inductive CallP (g:Gl) (bad:Addr→Prop) (f:Nat) (s:Shared) (K:V→Prop) (v:Value) (s':Shared):Prop
 | mk:Base g s'→aD s.heap s'.heap→∀ y,K y→noX y=true→Rp g bad s'.heap v y→(g.newf f=true→kB s.heap v)→CallP g bad f s K v s'
noncomputable def nE (hm:Bool) (A:Around):Prop:=hm=false→A.handled=none
noncomputable def fK (g:Gl) (cf:ad) (d:Nat):Prop:=∀ hm f args K A s bad vals,cf f args K→nE hm A→(hm=true→g.safe f=true)→A.depth+2 * d < 990→A.units+4 * d+100 < cLine→Base g s→fS g A s.heap→(∀ a,bad a→aW s.heap a)→(∀ a,bad a→g.h0.get? a=none)→RpAll g bad s.heap vals args →
 wpAny (model g.prog g.w) A (call (.ref (g.fn f)) vals) (CallP g bad f s K) (CallX g s K) s
structure ClsOk (g:Gl):Prop where
 hga:findIn g.K (.ref g.C) "__getattribute__"=some (some (.builtin "object.__getattribute__"))
 hgk:findIn g.K (.ref g.C) "__getattr__"=some none
 hsa:findIn g.K (.ref g.C) "__setattr__"=some (some (.builtin "object.__setattr__"))
 over:plainOver g.K g.C=true
 hdict:(clsIn g.K g.C).any (·.hasDict)=true
 flds:∀ x∈g.flds,findIn g.K (.ref g.C) x=some none
 makes:makesIn g.K g.C=true
 nodup:g.flds.Nodup
 few:g.flds.length≤1000
noncomputable def jL (g:Gl) (c:Nat):Prop:=∃ (nm q:Str) (N:Addr) (bs bm bmB:List Value) (hdct:Bool) (sn:List Str) (sub:List Value) (ab:Bool) (col:Option Bool) (dd:Option Addr) (k0 k1 k2 k3 k5:Option Value) (B newId initId:String) (mN:Str→Option Value),
 ExcBaseFacts B newId initId bmB∧bm.contains (.type "BaseException")=true∧mN "__init__"=none∧g.h0.get? (g.cls c)=some (excClassObj nm q (g.cls c) N bs bm hdct sn sub ab col dd k0 k1 k2 k3 k5 newId)∧g.h0.Ns N mN∧OwnTail g.h0 bmB bm
noncomputable def jN (g:Gl) (c c':Nat) (b:Bool):Prop:=∀ (A:Around) (E:Value→Shared→Prop) (Q:Bool→Shared→Prop) (s:Shared) (e:Addr) (o:Obj),aH g.h0 s.heap→s.heap.get? e=some o→o.cls=.ref (g.cls c)→Q b s →
 wpAny (model g.prog g.w) A (excMatches (.ref e) (.ref (g.cls c'))) Q E s
noncomputable def yR (g:Gl) (c:Nat) (cv:Value) (b:Bool):Prop:=∀ (A:Around) (E:Value→Shared→Prop) (Q:Value→Shared→Prop) (s:Shared) (e:Addr) (o:Obj),aH g.h0 s.heap→s.heap.get? e=some o→o.cls=.ref (g.cls c)→o.dict=none→(∃ vs,o.data=.fields vs) →
 (∀ n,Q (.bool b) { s with toks:=n })→wpAny (model g.prog g.w) A (call (.builtin "isinstance") [.ref e,cv]) Q E s
noncomputable def iF (g:Gl) (c:Nat):Value:=if c=g.nc then .type "ValueError" else .ref (g.cls c)
structure Ground (g:Gl):Prop where
 main:g.h0.Ns mainGlobals g.mg
 blt:g.h0.Ns builtinsNs g.mb
 nolim:g.h0.NoLimit
 sysm:aW g.h0 sysModules
 frag:g.K.In g.h0
 cls:ClsOk g
 fns:∀ x f,g.fns.lookup x=some f→g.mg x=some (.ref (g.fn f))
 cons:∀ x v,g.cons.lookup x=some v→∃ u,g.mg x=some u∧∀ (bad:Addr→Prop) h,aH g.h0 h→(∀ a,bad a→g.h0.get? a=none)→Rp g bad h u v
 blts:∀ x v,bu.lookup x=some v→g.mg x=none∧g.mb x=some v
 clss:∀ x c,g.clss.lookup x=some c→c < g.nc∧g.mg x=some (.ref (g.cls c))
 raises:∀ c,c < g.nc→jL g c
 catches:∀ c c',c < g.nc→c' < g.nc→jN g c c' (g.P.sup c c')
 isi:∀ c c',c < g.nc→c'≤g.nc→yR g c (iF g c') (g.P.sup c c')
class Hm (fx:Fx):Prop where
 no:fx.hm=false
structure FxOk (fx:Fx):Prop where
 gr:Ground fx.g
 hand:nE fx.hm fx.A
 kind:fx.env.scope.kind=.function
 globals:fx.env.globals=mainGlobals
 builtins:fx.env.builtins=builtinsNs
 vis:∀ x k,fx.ρ.lookup x=some k→(fx.env.kindOf x=some .local∧fx.pl k=.ns fx.env.locals x)∨((fx.env.kindOf x=some .cell∨fx.env.kindOf x=some .free)∧∃ c,fx.env.cells.lookup x=some c∧fx.pl k=.cell c)
 inj:∀ k j,fx.pl k=fx.pl j→fx.pl k≠.off→k=j
 apart:∀ k j a x c,fx.pl k=.ns a x→fx.pl j=.cell c→a≠c
 offs:∀ k,fx.nf≤k→fx.pl k=.off
 nfs:fx.nf≤fx.ns
 room:fx.A.depth+2 * fx.d < 990
 units:fx.A.units+4 * fx.d+100 < cLine
 call:fK fx.g (aq fx.g.P fx.d) fx.d
 mo0:∀ a,fx.Mo a→fx.g.h0.get? a=none
structure Inv (Φ:Ct) (s:Shared):Prop where
 ok:FxOk Φ.fx
 base:Base Φ.fx.g s
 slot:∀ k,∃ v,be s.heap (Φ.fx.pl k) v∧eM Φ.fx.g Φ.bad s.heap (Φ.oa k) v (getSlot Φ.G k)
 new:∀ a,Φ.own a→aW s.heap a∧Φ.fx.g.h0.get? a=none∧¬ Φ.fx.Mo a
 inj:∀ k j a,Φ.oa k=some a→Φ.oa j=some a→k=j
 off:∀ k a,Φ.oa k=some a→∀ j,(Φ.fx.pl j).addr≠some a
 gl:Φ.G.length=Φ.fx.ns
 mo:∀ a,Φ.fx.Mo a→aW s.heap a
 fr:fS Φ.fx.g Φ.fx.A s.heap
section
variable {g:Gl} {Φ:Ct} {s s' s₁:Shared} {h h':Heap} {bad bad':Addr→Prop} {α β γ δ:Type}
theorem uL {a:Addr} {m:Str→Option Value} (k:aD h h') (r:h.Ns a m):h'.Ns a m:=by
 obtain ⟨o,es,n,ho,q⟩:=r
 obtain ⟨sl,e,_⟩:=k a o ho
 exact ⟨_,es,n,e,q⟩
theorem be.keep {p:Pl} {v:Option Value} (k:aD h h') (r:be h p v):be h' p v:=by
 cases p with
 | ns a x=>obtain ⟨m,hn,hv⟩:=r; exact ⟨m,uL k hn,hv⟩
 | cell c=>obtain ⟨o,ho,hd⟩:=r; obtain ⟨sl,e,_⟩:=k c o ho; exact ⟨_,e,hd⟩
 | off=>exact r
theorem gQ.keep {h0:Heap} {l:List Env} (f:gQ h0 h l) (k:aD h h'):gQ h0 h' l:=fun env m=>by
 obtain ⟨hk,L,o,hf,hn,ho,hc,hd⟩:=f env m
 obtain ⟨sl,e,_⟩:=k L o ho
 exact ⟨hk,L,_,hf,hn,e,hc,hd⟩
theorem fS.keep {A:Around} (f:fS g A h) (k:aD h h'):fS g A h':=f.elim fun l q=>⟨l,q.1,q.2.keep k⟩
theorem gF.map {a:Addr} {u:Value} {sl:Slot} (r:gF g bad h a u sl) (k:eQ bad bad' h h') (t:∀ o,h.get? a=some o→iK o→h'.get? a=some o):gF g bad' h' a u sl:=by
 cases sl with
 | ownL l=>obtain ⟨e,o,vs,n,ho,hc,hd,hl⟩:=r; exact ⟨e,o,vs,n,t o ho (aU hc.1),hc,hd,hl.map k⟩
 | ownI l=>obtain ⟨b,o,ws,e,eb,nb,hb,ho,hf,hn,hl⟩:=r; exact ⟨b,o,ws,e,eb,(k _ _ hb fE nb).1,(k _ _ hb fE nb).2,t o ho (aU hf.1.1),hf,hn,hl.map k⟩
 | _=>exact r
theorem eM.map {oak:Option Addr} {v:Option Value} {sl:Slot} (r:eM g bad h oak v sl) (k:eQ bad bad' h h') (t:∀ a,oak=some a→∀ o,h.get? a=some o→iK o→h'.get? a=some o):eM g bad' h' oak v sl:=by
 cases sl with
 | unset=>exact r
 | v x=>obtain ⟨e,u,q,rp⟩:=r; exact ⟨e,u,q,rp.map k⟩
 | junk=>exact r
 | _=>obtain ⟨a,u,e,q,rp⟩:=r; exact ⟨a,u,e,q,rp.map k (t a e)⟩
theorem Inv.keep (I:Inv Φ s) (B:Base Φ.fx.g s') (k:aD s.heap s'.heap):Inv Φ s' where
 ok:=I.ok
 base:=B
 slot:=fun j=>let ⟨v,r,x⟩:=I.slot j; ⟨v,r.keep k,x.map k.mapK fun a _ o e n=>k.get e n⟩
 new:=fun a q=>let ⟨x,y⟩:=I.new a q; ⟨k.live x,y⟩
 inj:=I.inj
 off:=I.off
 gl:=I.gl
 mo:=fun a q=>k.live (I.mo a q)
 fr:=I.fr.keep k
theorem Inv.bad0 (I:Inv Φ s) {a:Addr} (b:Φ.bad a):Φ.fx.g.h0.get? a=none:=b.elim (I.ok.mo0 a) fun b=>(I.new a b).2.1
theorem Inv.badLive (I:Inv Φ s) {a:Addr} (b:Φ.bad a):aW s.heap a:=b.elim (I.mo a) fun b=>(I.new a b).1
noncomputable abbrev Ct.wp (Φ:Ct) (t:Sem α) (Q:α→Shared→Prop) (s:Shared):Prop:=∀ E,wpAny (model Φ.fx.g.prog Φ.fx.g.w) Φ.fx.A t Q E s
inductive Post (Φ:Ct) (R:Heap→α→β→Prop) (s:Shared) (K:β→Prop) (a:α) (s':Shared):Prop
 | mk:Base Φ.fx.g s'→aD s.heap s'.heap→∀ y,K y→R s'.heap a y→Post Φ R s K a s'
noncomputable def EvR (Φ:Ct) (R:Heap→α→β→Prop) (t:Sem α) (d:(β→Prop)→Prop):Prop:=∀ K s,d K→Inv Φ s→Φ.wp t (Post Φ R s K) s
noncomputable abbrev Ct.rp (Φ:Ct):Heap→Value→V→Prop:=Rp Φ.fx.g Φ.bad
noncomputable abbrev Ct.rps (Φ:Ct):Heap→List Value→List V→Prop:=RpAll Φ.fx.g Φ.bad
noncomputable abbrev Ev (Φ:Ct) (t:Sem Value) (d:(V→Prop)→Prop):Prop:=EvR Φ Φ.rp t d
noncomputable abbrev EvT (Φ:Ct) (t:Sem Bool) (d:(Bool→Prop)→Prop):Prop:=EvR Φ (fun _=>Eq) t d
noncomputable abbrev EvL (Φ:Ct) (t:Sem (List Value)) (d:(List V→Prop)→Prop):Prop:=EvR Φ Φ.rps t d
noncomputable def gE (Φ:Ct) (s:Shared) (K:V→Prop) (v:Value) (s':Shared):Prop:=Post Φ (Rp Φ.fx.g Φ.bad) s K v s'∧kB s.heap v
noncomputable def EvN (Φ:Ct) (t:Sem Value) (d:(V→Prop)→Prop):Prop:=∀ K s,d K→Inv Φ s→Φ.wp t (gE Φ s K) s
theorem Post.lift {R:Heap→α→β→Prop} {K:β→Prop} {a:α} (p:Post Φ R s₁ K a s') (k:aD s.heap s₁.heap):Post Φ R s K a s':=by
 cases p with | mk B k' y ky r=>exact ⟨B,k.trans k',y,ky,r⟩
theorem gE.lift {K:V→Prop} {v:Value} (p:gE Φ s₁ K v s') (k:aD s.heap s₁.heap):gE Φ s K v s':=⟨p.1.lift k,p.2.le fun _=>k.live⟩
noncomputable def jM (Φ:Ct) (n:Bool) (s:Shared) (K:V→Prop) (v:Value) (s':Shared):Prop:=Post Φ (Rp Φ.fx.g Φ.bad) s K v s'∧(n=true→kB s.heap v)
noncomputable def EvC (Φ:Ct) (n:Bool) (t:Sem Value) (d:(V→Prop)→Prop):Prop:=∀ K s,d K→Inv Φ s→Φ.wp t (jM Φ n s K) s
theorem jM.lift {K:V→Prop} {n:Bool} {v:Value} (p:jM Φ n s₁ K v s') (k:aD s.heap s₁.heap):jM Φ n s K v s':=⟨p.1.lift k,fun q=>(p.2 q).le fun _=>k.live⟩
theorem EvC.ev {n:Bool} {t:Sem Value} {d:(V→Prop)→Prop} (x:EvC Φ n t d):Ev Φ t d:=fun K s hd I E=>wpAny_mono (x K s hd I E) (fun _ _ p=>p.1) fun _ _ z=>z
theorem EvC.evN {n:Bool} {t:Sem Value} {d:(V→Prop)→Prop} (x:EvC Φ n t d) (h:n=true):EvN Φ t d:=fun K s hd I E=>wpAny_mono (x K s hd I E) (fun _ _ p=>⟨p.1,p.2 h⟩) fun _ _ z=>z
theorem EvN.ev {t:Sem Value} {d:(V→Prop)→Prop} (x:EvN Φ t d):Ev Φ t d:=fun K s hd I E=>wpAny_mono (x K s hd I E) (fun _ _ p=>p.1) fun _ _ z=>z
theorem EvR.bind {R:Heap→α→β→Prop} {R':Heap→γ→δ→Prop} {t:Sem α} {f:α→Sem γ} {d:(β→Prop)→Prop} {K₁:β→Prop} {K:δ→Prop} (x:EvR Φ R t d) (hd:d K₁) (I:Inv Φ s)
  (y:∀ a b s₁,Inv Φ s₁→aD s.heap s₁.heap→K₁ b→R s₁.heap a b→Φ.wp (f a) (Post Φ R' s₁ K) s₁):Φ.wp (t >>= f) (Post Φ R' s K) s:=fun E=>
 zC1 (wpAny_mono (x K₁ s hd I E) (fun a s₁ ⟨B,k,b,kb,r⟩=>wpAny_mono (y a b s₁ (I.keep B k) k kb r E) (fun _ _ p=>p.lift k) fun _ _ z=>z) fun _ _ z=>z)
theorem EvR.bindC {R:Heap→α→β→Prop} {t:Sem α} {f:α→Sem Value} {d:(β→Prop)→Prop} {K₁:β→Prop} {K:V→Prop} {n:Bool} (x:EvR Φ R t d) (hd:d K₁) (I:Inv Φ s)
  (y:∀ a b s₁,Inv Φ s₁→aD s.heap s₁.heap→K₁ b→R s₁.heap a b→Φ.wp (f a) (jM Φ n s₁ K) s₁):Φ.wp (t >>= f) (jM Φ n s K) s:=fun E=>
 zC1 (wpAny_mono (x K₁ s hd I E) (fun a s₁ ⟨B,k,b,kb,r⟩=>wpAny_mono (y a b s₁ (I.keep B k) k kb r E) (fun _ _ p=>p.lift k) fun _ _ z=>z) fun _ _ z=>z)
theorem EvR.holding {R:Heap→α→β→Prop} {t:Sem α} {d:(β→Prop)→Prop} {vs:List Value} (x:EvR Φ R t d):EvR Φ R (holding vs t) d:=fun K s hd I E=>wpAny_holding (x K s hd I E)
theorem EvR.pure {R:Heap→α→β→Prop} {K:β→Prop} {a:α} {b:β} (I:Inv Φ s) (k:K b) (r:R s.heap a b):Φ.wp (pure a) (Post Φ R s K) s:=fun E=>zC2 ⟨I.base,.refl _,b,k,r⟩
theorem ba {p:Pos} {t:Unit→Sem α} {Q:α→Shared→Prop} (x:Φ.wp (t ()) Q s):Φ.wp (standAt p >>= t) Q s:=fun E=>zC1 (wpAny_standAt (x E))
structure Grown (s s':Shared):Prop where
 stays:aH s.heap s'.heap
 os:s'.os=s.os
 gens:s'.gens=s.gens
theorem Grown.keeps {s s':Shared} (x:Grown s s'):aD s.heap s'.heap:=x.stays.keeps
theorem Grown.refl (s:Shared):Grown s s:=⟨fun _ _ e=>e,rfl,rfl⟩
theorem Grown.trans {s₁ s₂ s₃:Shared} (x:Grown s₁ s₂) (y:Grown s₂ s₃):Grown s₁ s₃:=⟨x.stays.trans y.stays,y.os.trans x.os,y.gens.trans x.gens⟩
theorem Grown.toks (s:Shared) (n:Nat):Grown s { s with toks:=n }:=⟨fun _ _ e=>e,rfl,rfl⟩
theorem Grown.push (s:Shared) (o:Obj) (n:Nat):Grown s { s with heap:=s.heap.push o,toks:=n }:=⟨aA _ _,rfl,rfl⟩
theorem Base.grown (B:Base g s) (x:Grown s s'):Base g s':=⟨B.stays.trans x.stays,x.os.trans B.os,x.gens.trans B.gens⟩
noncomputable abbrev Ct.Gives (Φ:Ct) (s:Shared) (z:V) (v:Value) (s':Shared):Prop:=Grown s s'∧Φ.rp s'.heap v z
theorem step {R:Heap→α→β→Prop} {K:β→Prop} {t:Sem α} {z:β} (I:Inv Φ s) (kz:K z) (h:Φ.wp t (fun a s'=>Grown s s'∧R s'.heap a z) s):Φ.wp t (Post Φ R s K) s:=fun E=>
 wpAny_mono (h E) (fun a s' p=>⟨I.base.grown p.1,p.1.keeps,z,kz,p.2⟩) fun _ _ z=>z
theorem aj {o:Option α} {K:α→Prop} {C:Prop} (h:okK o K) (k:∀ z,o=some z→K z→C):C:=by
 cases o with
 | none=>exact h.elim
 | some z=>exact k z rfl h
theorem fz {M:Model} {A:Around} {E:Value→Shared→Prop} {s:Shared} {vs keep:List Value} {Q:Unit→Shared→Prop} (h:Q () s):wpAny M A (release vs keep) Q E s:=by
 unfold release
 generalize (vs.filter fun | .ref _=>true | _=>false)=l
 induction l with
 | nil=>exact wpAny_pure h
 | cons x r ih=>
  cases r with
  | nil=>exact wpAny_pure h
  | cons y r=>
   unfold release.go
   exact zC1 (wpAny_holding (wpAny_point ih))
theorem dQ {vs:List Value} {t:Sem Value} {Q:Value→Shared→Prop} (x:Φ.wp t Q s):Φ.wp (operate vs t) Q s:=fun E=>by
 unfold PySem.operate
 exact zC1 (wpAny_holding (wpAny_mono (x E) (fun a s' p=>zC1 (fz (wpAny_pure p))) fun _ _ z=>z))
end
section
variable {Φ:Ct} {s:Shared}
theorem fk {x:Str} {k:Nat} {pos:Pos} {v:Value} {Q:Value→Shared→Prop} (ok:FxOk Φ.fx) (hx:Φ.fx.ρ.lookup x=some k) (hn:bX x=true) (r:be s.heap (Φ.fx.pl k) (some v)) (h:Q v s):Φ.wp (eval (.Name x pos) Φ.fx.env) Q s:=fun E=>by
 have hn:=zA2 hn
 have h1:=Bool.not_eq_true' _▸hn.1
 rcases ok.vis x k hx with ⟨hl,hp⟩ | ⟨hl,c,hc,hp⟩
 ·rw [hp] at r
  obtain ⟨m,hns,hv⟩:=r
  exact wpAny_Name (wpAny_loadName_local ok.kind hl hns hv h) h1
 ·rw [hp] at r
  rcases hl with hl | hl
  ·exact wpAny_Name (wpAny_loadName_cell ok.kind hl hc r h) h1
  ·exact wpAny_Name (wpAny_loadName_free ok.kind hl hc r h (Bool.not_eq_true' _▸hn.2)) h1
theorem ug {G:Gs} {k:Nat} {x:V} (e:x4 G k=some x):getSlot G k=.v x:=by
 unfold x4 at e
 revert e
 cases getSlot G k with
 | v m=>exact fun e=>congrArg Slot.v (Option.some.inj e)
 | _=>exact fun e=>nomatch e
theorem zQ {x:Str} {k:Nat} {pos:Pos} (hx:Φ.fx.ρ.lookup x=some k) (hn:bX x=true):Ev Φ (eval (.Name x pos) Φ.fx.env) (okK (x4 Φ.G k)):=fun K s hd I=>aj hd fun y e ky=>by
 obtain ⟨v,pr,so⟩:=I.slot k
 rw [ug e] at so
 obtain ⟨_,u,rfl,rp⟩:=so
 exact fk I.ok hx hn pr ⟨I.base,.refl _,y,ky,rp⟩
theorem uH {x:Str} {k:Nat} {pos:Pos} {Q:Value→Shared→Prop} {C:Value→Prop} (hx:Φ.fx.ρ.lookup x=some k) (hn:bX x=true) (I:Inv Φ s) {sl:Slot} (e:getSlot Φ.G k=sl) (ho:∀ {oak v},eM Φ.fx.g Φ.bad s.heap oak v sl→∃ a u,oak=some a∧v=some u∧gF Φ.fx.g Φ.bad s.heap a u sl)
  (h:∀ a u,Φ.oa k=some a→gF Φ.fx.g Φ.bad s.heap a u sl→Q u s):Φ.wp (eval (.Name x pos) Φ.fx.env) Q s:=by
 obtain ⟨v,pr,so⟩:=I.slot k
 rw [e] at so
 obtain ⟨a,u,ha,rfl,oa⟩:=ho so
 exact fk I.ok hx hn pr (h a u ha oa)
end
end Mine
end
noncomputable section
namespace Mine
open PySem PySem.Calls PyProof.Rows PySem.W
section
variable {α:Type} {C:V→Prop} {x:V} {z:α}
theorem bx {f:Int→Option α} (e:mn x f=some z) (k:∀ i,f i=some z→C (.int i)):C x:=by
 cases x <;> first | exact k _ e | (injection e; done)
theorem cE {f:List Nat→Option α} (e:pA x f=some z) (k:∀ t:Str,f t.cps.toList=some z→C (.str t)):C x:=by
 cases x <;> first | exact k _ e | (injection e; done)
theorem bF {f:List V→Option α} (e:dW x f=some z) (k:∀ l,f l=some z→C (.list l)):C x:=by
 cases x <;> first | exact k _ e | (injection e; done)
theorem s6 {f:List V→Option α} (e:Bl x f=some z) (k:∀ l,f l=some z→C (.tuple l)):C x:=by
 cases x <;> first | exact k _ e | (injection e; done)
theorem fR {f:Bool→Option α} (e:cS x f=some z) (k:∀ b,f b=some z→C (.bool b)):C x:=by
 cases x <;> first | exact k _ e | (injection e; done)
end
section
variable {α β:Type}
@[elab_as_elim] theorem some_elim {C:α→Prop} {a b:α} (e:some a=some b) (k:C a):C b:=Option.some.inj e▸k
@[elab_as_elim] theorem if_elim {C:α→Prop} {p:Prop} [Decidable p] {a z:α} (e:(if p then some a else none)=some z) (k:p→C a):C z:=by
 by_cases h:p
 ·rw [if_pos h] at e; exact some_elim e (k h)
 ·rw [if_neg h] at e; (injection e; done)
@[elab_as_elim] theorem ifn_elim {C:α→Prop} {p:Prop} [Decidable p] {a z:α} (e:(if p then none else some a)=some z) (k:¬ p→C a):C z:=by
 by_cases h:p
 ·rw [if_pos h] at e; (injection e; done)
 ·rw [if_neg h] at e; exact some_elim e (k h)
theorem cr {C:Prop} {p:Prop} [Decidable p] {a:Option α} {z:α} (e:(if p then a else none)=some z) (k:p→a=some z→C):C:=by
 by_cases h:p
 ·rw [if_pos h] at e; exact k h e
 ·rw [if_neg h] at e; (injection e; done)
@[elab_as_elim] theorem map_elim {C:β→Prop} {f:α→β} {o:Option α} {z:β} (e:o.map f=some z) (k:∀ a,o=some a→C (f a)):C z:=by
 cases o with
 | none=>(injection e; done)
 | some a=>exact some_elim e (k a rfl)
@[elab_as_elim] theorem fit_elim {C:β→Prop} {l:List α} {a z:β} (e:bO l a=some z) (k:l.length≤az→C a):C z:=if_elim e k
end
theorem cK {n:Nat} (h:n≤az):n≤sizeLine:=zB1 h (by decide)
section
variable {Φ:Ct} {s:Shared} {v u:Value} {x y z:V}
theorem Inv.fresh (I:Inv Φ s):¬ Φ.bad s.heap.objs.size:=fun q=>by obtain ⟨o,e⟩:=I.badLive q; rw [ar] at e; (injection e; done)
theorem Inv.room (I:Inv Φ s):Φ.fx.A.units+100 < cLine:=by exact Nat.lt_of_le_of_lt (Nat.add_le_add_right (Nat.le_add_right _ _) _) I.ok.units
theorem fm {vs:List Value} {l:List V} {n tk:Nat} (I:Inv Φ s) (r:Φ.rps s.heap vs l):Φ.Gives s (.list l) (.ref s.heap.objs.size) { s with heap:=s.heap.push { cls:=.type "list",data:=.seq vs.toArray n },toks:=tk }:=
 ⟨Grown.push _ _ _,.list I.fresh (Heap.get?_push_size _ rfl) ⟨rfl,rfl⟩ rfl (r.keep (dX _ _))⟩
theorem fP {vs:List Value} {l:List V} {n tk:Nat} (I:Inv Φ s) (r:Φ.rps s.heap vs l):Φ.Gives s (.tuple l) (.ref s.heap.objs.size) { s with heap:=s.heap.push { cls:=.type "tuple",data:=.seq vs.toArray n },toks:=tk }:=
 ⟨Grown.push _ _ _,.tuple I.fresh (Heap.get?_push_size _ rfl) rfl rfl (r.keep (dX _ _))⟩
theorem Ar {b:Int} (h:b.natAbs≤1000000):b < 2 ^ 64:=Int.lt_of_le_of_lt Int.le_natAbs (Int.lt_of_le_of_lt (Int.ofNat_le.mpr h) (by decide))
theorem BB {b:Int} (h:b.natAbs≤1000000):-2 ^ 64 < b:=Int.neg_lt_of_neg_lt (Ar ((Int.natAbs_neg b).symm▸h))
theorem ty {a b:Int} (h:b.natAbs≤1000000∨a.natAbs≤1000000):IntMulOk a b:=by
 rcases h with h | h
 ·exact .of_right (intBits_le_64 (BB h) (Ar h))
 ·exact .of_left (intBits_le_64 (BB h) (Ar h))
theorem d7 (x:Str):(⟨x.cps.toList.toArray⟩:Str)=x:=by cases x; simp
theorem Rp.text {g:Gl} {bad:Addr→Prop} {h:Heap} {x:Str} {l:List Nat} {t:Tok} (e:x.cps.toList=l):Rp g bad h (.str x t) (text l):=by
 subst e; unfold Mine.text; rw [d7]; exact .str x t
theorem qw {a b:Str} {t t':Tok} (hz:(a.cps.toList++b.cps.toList).length≤az):Φ.wp (binaryOp .Add (.str a t) (.str b t')) (Φ.Gives s (text (a.cps.toList++b.cps.toList))) s:=fun E=>by
 refine P.add_str ?_
 split
 ·rename_i h0
  have:a.cps.toList=[]:=List.length_eq_zero_iff.mp (Array.length_toList.trans (eq_of_beq h0))
  exact ⟨.refl _,.text (by rw [this]; rfl)⟩
 ·split
  ·rename_i h0
   have:b.cps.toList=[]:=List.length_eq_zero_iff.mp (Array.length_toList.trans (eq_of_beq h0))
   exact ⟨.refl _,.text (by rw [this,List.append_nil])⟩
  ·refine ⟨?_,.toks _ _,.text Array.toList_append⟩
   refine (?_:(_++_:Array Nat).size≤sizeLine)
   rw [zB5,zB3,zB3] at hz
   rw [Array.size_append]; exact cK hz
theorem nT {l m:List V} (I:Inv Φ s) (hz:(l++m).length≤az) (r1:Φ.rp s.heap v (.list l)) (r2:Φ.rp s.heap u (.list m)):Φ.wp (binaryOp .Add v u) (Φ.Gives s (.list (l++m))) s:=fun E=>by
 refine r1.list_elim fun a1 o1 vs1 n1 _ ha1 hc1 hd1 hl1=>r2.list_elim fun a2 o2 vs2 n2 _ ha2 hc2 hd2 hl2=>?_
 obtain ⟨cls,dd,data,sl⟩:=o1
 obtain ⟨cls2,dd2,data2,sl2⟩:=o2
 obtain ⟨rfl,rfl⟩:=hc1
 obtain ⟨rfl,rfl⟩:=hc2
 subst hd1
 subst hd2
 refine concat_meets ⟨_,ha1,rfl⟩ ⟨_,ha2,rfl⟩ noFill_list_add seq_list_add PySem.F.slot_list_add PySem.F.entry_list_add (PySem.F.args_list_add_2 _ _) (list_addW a1 a2 vs1 vs2 n1 n2 _ _ sl sl2 ?_) ⟨ha1,ha2,?_⟩
 ·have:=(hl1.append hl2).length
  rw [zB5,zB3,zB3] at this
  rw [this]; exact cK hz
 ·have q:=fm (n:=0) (tk:=s.toks) I (hl1.append hl2)
  rw [show (vs1.toList++vs2.toList).toArray=vs1++vs2 by simp] at q
  exact q
theorem lP {l m:List V} (I:Inv Φ s) (hz:(l++m).length≤az) (r1:Φ.rp s.heap v (.tuple l)) (r2:Φ.rp s.heap u (.tuple m)):Φ.wp (binaryOp .Add v u) (Φ.Gives s (.tuple (l++m))) s:=fun E=>by
 refine Rp.tuple_elim (C:=fun v=>Φ.rp s.heap v (.tuple l)→wpAny (model Φ.fx.g.prog Φ.fx.g.w) Φ.fx.A (binaryOp .Add v u) (Φ.Gives s (.tuple (l++m))) E s) r1 (fun a1 o1 vs1 n1 _ ha1 hc1 hd1 hl1 r1=>?_) r1
 refine Rp.tuple_elim (C:=fun u=>Φ.rp s.heap u (.tuple m)→wpAny (model Φ.fx.g.prog Φ.fx.g.w) Φ.fx.A (binaryOp .Add (.ref a1) u) (Φ.Gives s (.tuple (l++m))) E s) r2 (fun a2 o2 vs2 n2 _ ha2 hc2 hd2 hl2 r2=>?_) r2
 obtain ⟨cls,dd,data,sl⟩:=o1
 obtain ⟨cls2,dd2,data2,sl2⟩:=o2
 subst hc1
 subst hc2
 subst hd1
 subst hd2
 have len:=(hl1.append hl2).length
 replace len:=Array.length_toList▸Array.length_toList▸List.length_append▸len
 by_cases c0:vs1.isEmpty=true
 ·have:vs1.toList=[]:=by simpa using c0
  have hl:l=[]:=List.length_eq_zero_iff.mp (by rw [← hl1.length,this]; rfl)
  subst hl
  exact concat_meets ⟨_,ha1,rfl⟩ ⟨_,ha2,rfl⟩ noFill_tuple_add seq_tuple_add PySem.F.slot_tuple_add PySem.F.entry_tuple_add (PySem.F.args_tuple_add_2 _ _) (tuple_addW0 a1 a2 vs1 vs2 n1 n2 dd dd2 sl sl2 c0) ⟨ha1,ha2,.refl _,r2⟩
 ·by_cases c1:vs2.isEmpty=true
  ·have:vs2.toList=[]:=by simpa using c1
   have hl:m=[]:=List.length_eq_zero_iff.mp (by rw [← hl2.length,this]; rfl)
   subst hl
   rw [List.append_nil]
   exact concat_meets ⟨_,ha1,rfl⟩ ⟨_,ha2,rfl⟩ noFill_tuple_add seq_tuple_add PySem.F.slot_tuple_add PySem.F.entry_tuple_add (PySem.F.args_tuple_add_2 _ _) (tuple_addW1 a1 a2 vs1 vs2 n1 n2 dd dd2 sl sl2 c0 c1) ⟨ha1,ha2,.refl _,r1⟩
  ·refine concat_meets ⟨_,ha1,rfl⟩ ⟨_,ha2,rfl⟩ noFill_tuple_add seq_tuple_add PySem.F.slot_tuple_add PySem.F.entry_tuple_add (PySem.F.args_tuple_add_2 _ _) (tuple_addW2 a1 a2 vs1 vs2 n1 n2 dd dd2 sl sl2 c0 c1 (by rw [len]; exact cK hz)) ⟨ha1,ha2,?_⟩
   have q:=fP (n:=0) (tk:=s.toks) I (hl1.append hl2)
   rw [show (vs1.toList++vs2.toList).toArray=vs1++vs2 by simp] at q
   exact q
theorem Ah (e:BI x y=some z) (I:Inv Φ s) (r1:Φ.rp s.heap v x) (r2:Φ.rp s.heap u y):Φ.wp (binaryOp .Add v u) (Φ.Gives s z) s:=by
 cases x with
 | int a=>exact bx (C:=fun y=>Φ.rp s.heap u y→Φ.wp (binaryOp .Add v u) (Φ.Gives s z) s) e (fun b e r2=>some_elim e (r1.int_elim fun t=>r2.int_elim fun t' E=>PyProof.Rows.add_int ⟨.toks _ _,.int _ _⟩)) r2
 | str a=>exact cE (f:=fun b=>bO (a.cps.toList++b) (text (a.cps.toList++b))) (C:=fun y=>Φ.rp s.heap u y→Φ.wp (binaryOp .Add v u) (Φ.Gives s z) s) e (fun b e r2=>fit_elim e fun q=>r1.str_elim fun t=>r2.str_elim fun t'=>qw q) r2
 | list l=>exact bF (C:=fun y=>Φ.rp s.heap u y→Φ.wp (binaryOp .Add v u) (Φ.Gives s z) s) e (fun m e r2=>fit_elim e fun q=>nT I q r1 r2) r2
 | tuple l=>exact s6 (C:=fun y=>Φ.rp s.heap u y→Φ.wp (binaryOp .Add v u) (Φ.Gives s z) s) e (fun m e r2=>fit_elim e fun q=>lP I q r1 r2) r2
 | _=>(injection e; done)
theorem cP {α:Type} {f:Int→Int→Option α} {w:α} {C:Value→Value→Prop} (e:oR x y f=some w) (r1:Φ.rp s.heap v x) (r2:Φ.rp s.heap u y) (k:∀ i j t t',f i j=some w→C (.int i t) (.int j t')):C v u:=
 bx (C:=fun x=>Φ.rp s.heap v x→C v u) e (fun i e r1=>bx (C:=fun y=>Φ.rp s.heap u y→C v u) e (fun j e r2=>r1.int_elim fun t=>r2.int_elim fun t'=>k i j t t' e) r2) r1
theorem pL {x:Str} {n:Int} {t t':Tok} (e:(if n=0 then some (text []) else if n=1∧x.cps.toList.length≤16 then some (text x.cps.toList) else none)=some z):Φ.wp (binaryOp .Mult (.str x t) (.int n t')) (Φ.Gives s z) s:=fun E=>by
 by_cases h0:n=0
 ·subst h0
  rw [if_pos rfl] at e
  obtain rfl:=Option.some.inj e
  exact P.mul_str rfl (fun q=>absurd (by decide) q) (fun q=>absurd (by decide) q) ⟨by decide,.toks _ _,.text rfl⟩
 ·rw [if_neg h0] at e
  refine if_elim e fun q=>?_
  obtain ⟨rfl,_⟩:=q
  exact P.mul_str rfl (fun _ q=>by injection q) (fun _ q=>by injection q) ⟨.refl _,.text rfl⟩
theorem Ad {o:Operator} (e:t7 o x y=some z) (I:Inv Φ s) (r1:Φ.rp s.heap v x) (r2:Φ.rp s.heap u y):Φ.wp (binaryOp o v u) (Φ.Gives s z) s:=by
 cases o with
 | Add=>exact Ah e I r1 r2
 | Sub=>exact cP (C:=fun v u=>Φ.wp (binaryOp .Sub v u) (Φ.Gives s z) s) e r1 r2 fun i j t t' q=>some_elim q fun E=>PyProof.Rows.sub_int ⟨.toks _ _,.int _ _⟩
 | Mult=>
  cases x with
  | str a=>exact bx (C:=fun y=>Φ.rp s.heap u y→Φ.wp (binaryOp .Mult v u) (Φ.Gives s z) s) e (fun n e r2=>r1.str_elim fun t=>r2.int_elim fun t'=>pL e) r2
  | int i=>exact cP (x:=.int i) (C:=fun v u=>Φ.wp (binaryOp .Mult v u) (Φ.Gives s z) s) e r1 r2 fun i j t t' q=>if_elim q fun q E=>PyProof.Rows.mul_int ⟨.toks _ _,.int _ _⟩ (ty q)
  | _=>(injection e; done)
 | FloorDiv=>exact cP (C:=fun v u=>Φ.wp (binaryOp .FloorDiv v u) (Φ.Gives s z) s) e r1 r2 fun i j t t' q=>ifn_elim q fun q E=>floordiv_int (fun z=>q (.inl z)) ⟨.toks _ _,.int _ _⟩ (.inl (PyProof.noPylong_small (by omega)))
 | Mod=>exact cP (C:=fun v u=>Φ.wp (binaryOp .Mod v u) (Φ.Gives s z) s) e r1 r2 fun i j t t' q=>ifn_elim q fun q E=>PyProof.Rows.mod_int q ⟨.toks _ _,.int _ _⟩
 | _=>(injection e; done)
theorem okd {x:V} (h:da x=true):x.canLay0=true∧x.depth≤64:=(zA2 h).imp id of_decide_eq_true
theorem iE (I:Inv Φ s) {m n:Nat} (h:n≤64):Φ.fx.A.units+1+min m n < cLine:=by have:=I.room; have:=Nat.min_le_right m n; lia
noncomputable abbrev Is (s:Shared) (c:Bool) (v:Value) (s':Shared):Prop:=s'=s∧v=.bool c
theorem yK (I:Inv Φ s) (q:(da x&&da y)=true) (r1:Φ.rp s.heap v x) (r2:Φ.rp s.heap u y):Φ.wp (compareOp .Eq v u) (Is s (PyData.eqv x y)) s∧Φ.wp (compareOp .NotEq v u) (Is s (!PyData.eqv x y)) s:=
 have q:=zA2 q
 have h1:=okd q.1
 have h2:=okd q.2
 (r1.reads h1.1).elim fun _ p1=>(r2.reads h2.1).elim fun _ p2=>have m:=Nat.lt_of_le_of_lt (by exact Nat.add_le_add_right (Nat.le_add_right _ _) _) (iE I (m:=x.depth) h2.2); ⟨fun E=>SeqAt.compareEq_reads p1 p2 h1.1 h2.1 m ⟨rfl,rfl⟩,fun E=>SeqAt.compareNe_reads p1 p2 h1.1 h2.1 m ⟨rfl,rfl⟩⟩
theorem yy (r:Φ.rp s.heap v x):Φ.wp (compareOp .Is v .none) (Is s (isNone x)) s∧Φ.wp (compareOp .IsNot v .none) (Is s (!isNone x)) s:=by
 cases r with
 | none=>exact ⟨fun E=>is_none_gen ⟨rfl,rfl⟩,fun E=>isnot_none_gen ⟨rfl,rfl⟩⟩
 | _=>exact ⟨fun E=>is_none_ne nofun ⟨rfl,rfl⟩,fun E=>isnot_none_ne nofun ⟨rfl,rfl⟩⟩
theorem tz {a b:Str} {t t':Tok} {c:Nat} (e:a.cps.toList=[c]):Φ.wp (compareOp .In (.str a t) (.str b t')) (Is s (b.cps.toList.elem c)) s∧Φ.wp (compareOp .NotIn (.str a t) (.str b t')) (Is s (!b.cps.toList.elem c)) s:=by
 have f:(!(Builtin.Str.occurrences b a 0 b.length 1).isEmpty)=b.cps.toList.elem c:=by
  rw [← d7 a,e,show (⟨[c].toArray⟩:Str)=⟨#[c]⟩ from rfl,StrLaws.found_one]
  rw [Bool.eq_iff_iff]; simp
 exact ⟨fun E=>P.in_str ⟨rfl,by rw [f]⟩,fun E=>P.notIn_str ⟨rfl,by rw [f]⟩⟩
theorem yz {c:Bool} (I:Inv Φ s) (e:inO x y=some c) (r1:Φ.rp s.heap v x) (r2:Φ.rp s.heap u y):Φ.wp (compareOp .In v u) (Is s c) s∧Φ.wp (compareOp .NotIn v u) (Is s (!c)) s:=by
 cases y with
 | str b=>
  have e:pA x (fun s=>match s with | [c]=>some (b.cps.toList.elem c) | _=>none)=some c:=e
  refine cE (C:=fun x=>Φ.rp s.heap v x→Φ.wp (compareOp .In v u) (Is s c) s∧Φ.wp (compareOp .NotIn v u) (Is s (!c)) s) e (fun a e r1=>?_) r1
  split at e
  ·rename_i d q; exact some_elim e (r1.str_elim fun t=>r2.str_elim fun t'=>tz q)
  ·(injection e; done)
 | list l=>
  refine if_elim e fun q=>?_
  have q:=zA2 q
  have h1:=okd q.1
  have h2:=okd q.2
  obtain ⟨_,p1⟩:=r1.reads h1.1
  obtain ⟨_,p2⟩:=r2.reads h2.1
  exact ⟨fun E=>SeqAt.in_list_reads p2 p1 h2.1 h1.1 (iE I h1.2) ⟨rfl,rfl⟩,fun E=>SeqAt.notIn_list_reads p2 p1 h2.1 h1.1 (iE I h1.2) ⟨rfl,rfl⟩⟩
 | tuple l=>
  refine if_elim e fun q=>?_
  have q:=zA2 q
  have h1:=okd q.1
  have h2:=okd q.2
  obtain ⟨_,p1⟩:=r1.reads h1.1
  obtain ⟨_,p2⟩:=r2.reads h2.1
  exact ⟨fun E=>SeqAt.in_tuple_reads p2 p1 h2.1 h1.1 (iE I h1.2) ⟨rfl,rfl⟩,fun E=>SeqAt.notIn_tuple_reads p2 p1 h2.1 h1.1 (iE I h1.2) ⟨rfl,rfl⟩⟩
 | _=>(injection e; done)
theorem qW {o:CmpOp} {c:Bool} (e:aS o x y=some c) (I:Inv Φ s) (r1:Φ.rp s.heap v x) (r2:Φ.rp s.heap u y):Φ.wp (compareOp o v u) (Is s c) s:=by
 cases o with
 | Eq=>exact if_elim e fun q=>(yK I q r1 r2).1
 | NotEq=>exact map_elim e fun d e=>if_elim (C:=fun d=>Φ.wp (compareOp .NotEq v u) (Is s (!d)) s) e fun q=>(yK I q r1 r2).2
 | Lt=>exact cP (C:=fun v u=>Φ.wp (compareOp .Lt v u) (Is s c) s) e r1 r2 fun i j t t' q=>some_elim q fun E=>P.lt_int ⟨rfl,rfl⟩
 | LtE=>exact cP (C:=fun v u=>Φ.wp (compareOp .LtE v u) (Is s c) s) e r1 r2 fun i j t t' q=>some_elim q fun E=>P.le_int ⟨rfl,rfl⟩
 | Gt=>exact cP (C:=fun v u=>Φ.wp (compareOp .Gt v u) (Is s c) s) e r1 r2 fun i j t t' q=>some_elim q fun E=>P.gt_int ⟨rfl,rfl⟩
 | GtE=>exact cP (C:=fun v u=>Φ.wp (compareOp .GtE v u) (Is s c) s) e r1 r2 fun i j t t' q=>some_elim q fun E=>P.ge_int ⟨rfl,rfl⟩
 | Is=>
  refine if_elim e fun q=>?_
  cases y with
  | none=>exact r2.none_elim (yy r1).1
  | _=>(injection q; done)
 | IsNot=>
  refine if_elim e fun q=>?_
  cases y with
  | none=>exact r2.none_elim (yy r1).2
  | _=>(injection q; done)
 | In=>exact (yz I e r1 r2).1
 | NotIn=>exact map_elim e fun d e=>(yz I e r1 r2).2
end
end Mine
end
noncomputable section
namespace Mine
open PySem PySem.Calls PyProof.Rows PySem.W
noncomputable def fJ (s:Shared) (a:Value):Prop:=∃ T id,s.TypeIs a T∧typeLookup (.type T) "__getitem__"=pure (some (.builtin id))
section
variable {Φ:Ct} {s:Shared} {v u:Value} {x y z:V} {α:Type}
theorem g8 {l:List α} {f:α→V} {C:Value→Prop} (e:pU l f y=some z) (r:Φ.rp s.heap u y) (k:∀ i t j w,-(2 ^ 63)≤i→i < 2 ^ 63→(0≤i∧j=i.toNat∨i < 0∧-(l.length:Int)≤i∧j=(i+l.length).toNat)→j < l.length→l[j]?=some w→f w=z→C (.int i t)):C u:=by
 refine bx (C:=fun y=>Φ.rp s.heap u y→C u) e (fun i e r=>?_) r
 refine cr e fun hz e=>?_
 have hz:l.length≤1048576:=hz
 obtain ⟨w,ew,rfl⟩:=Option.map_eq_some_iff.mp e
 clear e
 refine r.int_elim fun t=>?_
 by_cases h0:0≤i
 ·rw [if_pos h0] at ew
  have hj:=(List.getElem?_eq_some_iff.mp ew).1
  exact k i t i.toNat w (by exact Int.le_trans (by decide) h0) (Int.lt_of_lt_of_le ((Int.toNat_lt h0).mp hj) (Int.le_trans (Int.ofNat_le.mpr hz) (by decide))) (.inl ⟨h0,rfl⟩) hj ew rfl
 ·rw [if_neg h0] at ew
  refine cr ew fun h1 e=>?_
  have hj:=(List.getElem?_eq_some_iff.mp e).1
  exact k i t _ w (by lia) (by lia) (.inr ⟨by exact Int.not_le.mp h0,by omega,rfl⟩) hj e rfl
theorem oS {i:Int} {n j:Nat} (h:0≤i∧j=i.toNat∨i < 0∧-(n:Int)≤i∧j=(i+n).toNat) (hj:j < n):seqIndex? i n=some j:=by
 rcases h with ⟨h0,rfl⟩ | ⟨h0,h1,rfl⟩
 ·unfold seqIndex?
  rw [if_neg (Int.not_lt.mpr h0)]
  exact if_pos (by rw [decide_eq_true h0,decide_eq_true (show i < (n:Int) from (Int.toNat_lt h0).mp hj)]; rfl)
 ·exact seqIndex_neg h0 h1
theorem mA {vs:Array Value} {n:Nat} {v:Value} (h:vs.toList[n]?=some v):vs[n]?=some v:=by rw [Array.getElem?_toList] at h; exact h
theorem y4 (e:tV x y=some z) (r1:Φ.rp s.heap v x) (r2:Φ.rp s.heap u y):fJ s v∧Φ.wp (getItem v u) (Φ.Gives s z) s:=by
 cases x with
 | list l=>
  refine r1.list_elim fun a o vs n _ ha hc hd hl=>?_
  have hL:s.heap.IsList a vs:=⟨_,ha,hc.1,_,hd⟩
  have len:vs.size=l.length:=Array.length_toList▸hl.length
  refine ⟨⟨_,_,hL.typeIs,slot_list_getitem.lookup⟩,g8 (C:=fun u=>Φ.wp (getItem (.ref a) u) (Φ.Gives s z) s) e r2 fun i t j w h1 h2 h3 hj ew ez=>?_⟩
  obtain ⟨q,eq,rq⟩:=hl.get ew
  subst ez
  rcases h3 with ⟨h0,rfl⟩ | ⟨h0,h4,rfl⟩
  ·exact fun E=>wpAny_getItem_list hL h0 h2 (mA eq) ⟨.refl _,rq⟩
  ·exact fun E=>wpAny_getItem_list_neg hL h0 (by rw [len]; exact h4) h1 (by rw [len]; exact mA eq) ⟨.refl _,rq⟩
 | tuple l=>
  refine r1.tuple_elim fun a o vs n _ ha hc hd hl=>?_
  have hL:IsTup s.heap a vs:=⟨_,ha,hc,_,hd⟩
  have len:vs.size=l.length:=Array.length_toList▸hl.length
  refine ⟨⟨_,_,hL.typeIs,slot_tuple_getitem.lookup⟩,g8 (C:=fun u=>Φ.wp (getItem (.ref a) u) (Φ.Gives s z) s) e r2 fun i t j w h1 h2 h3 hj ew ez=>?_⟩
  obtain ⟨q,eq,rq⟩:=hl.get ew
  subst ez
  exact fun E=>getItem_tuple hL h1 h2 (by rw [len]; exact oS h3 hj) (mA eq) ⟨.refl _,rq⟩
 | str a=>
  refine r1.str_elim fun t0=>⟨⟨_,_,typeIs_str _ _ _,PySem.F.slot_str_getitem.lookup⟩,g8 (C:=fun u=>Φ.wp (getItem (.str a t0) u) (Φ.Gives s z) s) e r2 fun i t j w h1 h2 h3 hj ew ez=>?_⟩
  subst ez
  refine fun E=>P.getItem_str (c:=w) ?_ ?_ ⟨.toks _ _,.text rfl⟩
  ·rw [decide_eq_false (Int.not_lt.mpr h1),decide_eq_false (Int.not_le.mpr h2)]; rfl
  ·have hn:a.cps.toList.length=a.length:=Array.length_toList
   rw [show seqIndex? i a.length=some j from hn▸oS h3 hj]
   rw [Array.getElem?_toList] at ew; exact ew
 | _=>(injection e; done)
noncomputable def o8 (d n:Nat):Option Int→Nat
 | none=>d
 | some i=>if 0≤i then min i.toNat n else (i+n).toNat
noncomputable def RpO (Φ:Ct) (h:Heap) (v:Value) (y:Option V):Prop:=match y with
 | none=>v=.none
 | some x=>Φ.rp h v x
theorem dN {d n i:Nat} {y:Option V} {C:Value→Prop} (e:sM d n y=some i) (r:RpO Φ s.heap v y) (k:∀ p:Option (Int×Tok),o8 d n (p.map (·.1))=i→C (partValue p)):C v:=by
 cases y with
 | none=>subst r; (injection e with e; subst e); exact k none rfl
 | some x=>exact bx (C:=fun x=>Φ.rp s.heap v x→C v) e (fun i e r=>r.int_elim fun t=>k (some (i,t)) (Option.some.inj e)) r
theorem part_of (p:Option (Int×Tok)):IsPart (partValue p) (p.map (·.1)):=by
 cases p with
 | none=>exact .none
 | some q=>exact .int _ _
theorem ph {n:Nat} {i:Int} (h:i < 0):i+(n:Int)≤n:=Int.le_trans (Int.add_le_add_right (Int.le_of_lt h) n) (Int.le_of_eq (Int.zero_add _))
theorem jB {d n:Nat} (h:d≤n) (p:Option Int):o8 d n p≤n:=by
 cases p with
 | none=>exact h
 | some i=>
  refine (?_:(if 0≤i then min i.toNat n else (i+n).toNat)≤n)
  by_cases c:0≤i
  ·rw [if_pos c]; exact Nat.min_le_right _ _
  ·rw [if_neg c]; exact Int.toNat_le.mpr (ph (Int.not_le.mp c))
theorem sL {n:Nat} (i:Int):(if i < 0 then max (i+(n:Int)) 0 else min i n)=((o8 0 n (some i):Nat):Int):=by
 refine (?_:_=(((if 0≤i then min i.toNat n else (i+n).toNat):Nat):Int))
 by_cases h:0≤i
 ·rw [if_pos h,if_neg (Int.not_lt.mpr h),Lean.Omega.Int.ofNat_min,Int.toNat_of_nonneg h]
 ·rw [if_neg h,if_pos (Int.not_le.mp h),Int.ofNat_toNat]
theorem wA {n:Nat} (i:Int):max 0 (min (if i < 0 then i+(n:Int) else i) (n:Int))=((o8 0 n (some i):Nat):Int):=by
 rw [← sL]
 by_cases h:i < 0
 ·rw [if_pos h,if_pos h,Int.min_eq_left (ph h),Int.max_comm]
 ·rw [if_neg h,if_neg h,Int.max_eq_right (Int.le_min.mpr ⟨Int.not_lt.mp h,Int.natCast_nonneg n⟩)]
theorem ge {d n:Nat} (h:d≤n):((d:Nat):Int)=max 0 (min (if (d:Int) < 0 then (d:Int)+(n:Int) else (d:Int)) (n:Int)):=by
 rw [if_neg (Int.not_lt.mpr (Int.natCast_nonneg d)),Int.min_eq_left (Int.ofNat_le.mpr h),Int.max_eq_right (Int.natCast_nonneg d)]
theorem mY {a b c d:Int} (h:a=c) (k:b=d):sliceRange a b 1=sliceRange c d 1:=by rw [h,k]
theorem kX {lo hi:Option Int} {n i j:Nat} (h1:o8 0 n lo=i) (h2:o8 n n hi=j) (hle:i≤j):Builtin.Str.strSliceIndices lo hi 1 n=(List.range (j - i)).map (i + ·):=by
 have hj:j≤n:=h2▸jB (Nat.le_refl n) hi
 refine Eq.trans ?_ (StrLaws.strSliceIndices_plain (len:=n) hle hj)
 cases lo with
 | none=>cases hi with
  | none=>have h1:0=i:=h1; subst h1; have h2:n=j:=h2; subst h2; exact mY (ge (d:=0) (n:=n) (Nat.zero_le n)) (ge (Nat.le_refl n))
  | some b=>have h1:0=i:=h1; subst h1; exact mY (ge (d:=0) (n:=n) (Nat.zero_le n)) ((wA b).trans ((congrArg _ h2).trans (ge hj)))
 | some a=>
  have ea:=(wA (n:=n) a).trans ((congrArg _ h1).trans (ge (zB1 hle hj)))
  cases hi with
  | none=>have h2:n=j:=h2; subst h2; exact mY ea (ge (Nat.le_refl n))
  | some b=>exact mY ea ((wA b).trans ((congrArg _ h2).trans (ge hj)))
theorem jV {xs:Array α} {i j:Nat} (hle:i≤j) (hj:j≤xs.size):((List.range (j - i)).map (i + ·)).filterMap (xs[·]?)=(xs.toList.drop i).take (j - i):=by
 rw [← StrLaws.picks xs.toList (j - i) i (by rw [zB3]; exact zB1 (zB2 (Nat.add_sub_cancel' hle)) hj)]
 exact congrArg (List.filterMap · _) (funext fun k=>(Array.getElem?_toList).symm)
theorem j6 {l:List α} {f:List α→V} {lo hi:Option V} {C:V→Prop} (e:qq f l lo hi=some z) (k:∀ i j,l.length≤az→sM 0 l.length lo=some i→sM l.length l.length hi=some j→i≤j→C (f ((l.drop i).take (j - i)))):C z:=
 cr e fun hz e=>(Option.bind_eq_some_iff.mp e).elim fun i ⟨h1,e⟩=>(Option.bind_eq_some_iff.mp e).elim fun j ⟨h2,e⟩=>if_elim e fun hle=>k i j hz h1 h2 hle
theorem ka {l:List V} {lo hi:Option V} {vl vu:Value} {sl:Addr} (I:Inv Φ s) (e:qq PyData.list l lo hi=some z) (r:Φ.rp s.heap v (.list l)) (rl:RpO Φ s.heap vl lo) (ru:RpO Φ s.heap vu hi) (hs:s.heap.IsSliceOf sl vl vu .none) :
  fJ s v∧Φ.wp (getItem v (.ref sl)) (Φ.Gives s z) s:=by
 refine r.list_elim fun a o vs n _ ha hc hd hl=>?_
 have hL:s.heap.IsList a vs:=⟨_,ha,hc.1,_,hd⟩
 have len:vs.size=l.length:=Array.length_toList▸hl.length
 refine ⟨⟨_,_,hL.typeIs,slot_list_getitem.lookup⟩,j6 (C:=fun z=>Φ.wp (getItem (.ref a) (.ref sl)) (Φ.Gives s z) s) e fun i j hz h1 h2 hle=>?_⟩
 refine dN (C:=fun vl=>s.heap.IsSliceOf sl vl vu .none→_) h1 rl (fun p hp hs=>?_) hs
 refine dN (C:=fun vu=>s.heap.IsSliceOf sl (partValue p) vu .none→_) h2 ru (fun q hq hs=>?_) hs
 refine fun E=>wpAny_getItem_list_slice hL hs (part_of p) (part_of q) .none (fun q=>nomatch q) ?_ (by rw [len]; exact cK hz)
 have:slicePick vs (p.map (·.1)) (q.map (·.1)) none=((vs.toList.drop i).take (j - i)).toArray:=by
  refine congrArg List.toArray ?_
  refine (?_:(Builtin.Str.strSliceIndices _ _ 1 vs.size).filterMap (vs[·]?)=_)
  rw [len,kX hp hq hle,jV hle (by rw [len,← hq]; exact jB (Nat.le_refl _) _)]
 rw [this]
 exact fm (tk:=s.toks) I ((hl.drop _).take _)
theorem tO {n i j:Nat} {lo hi:Option Int} (h1:o8 0 n lo=i) (h2:o8 n n hi=j):Builtin.Slice.sliceAdjust lo hi 1 (n:Int)=((i:Int),(j:Int)):=by
 have c:=fun a:Int=>sL (n:=n) a
 unfold Builtin.Slice.sliceAdjust
 cases lo <;> cases hi
 ·subst h1; subst h2; rfl
 ·subst h1; exact Prod.ext rfl ((c _).trans (congrArg _ h2))
 ·subst h2; exact Prod.ext ((c _).trans (congrArg _ h1)) rfl
 ·exact Prod.ext ((c _).trans (congrArg _ h1)) ((c _).trans (congrArg _ h2))
theorem tj {i j:Nat} (h:i≤j):Builtin.Slice.slicePlaces (i:Int) (j:Int) 1=j - i:=by
 unfold Builtin.Slice.slicePlaces
 rw [if_pos (by decide),Int.ediv_one,Int.sub_add_cancel,← Int.ofNat_sub h]
 by_cases c:(i:Int) < j
 ·rw [if_pos c]; rfl
 ·rw [if_neg c,Nat.sub_eq_zero_of_le (Int.ofNat_le.mp (Int.not_lt.mp c))]; rfl
theorem qv {A:Around} {prog:Program} {w:World} {E:Value→Shared→Prop} {sl:Addr} {n i j:Nat} {p q:Option (Int×Tok)} {Q:Int×Int×Nat→Shared→Prop} (hs:s.heap.IsSliceOf sl (partValue p) (partValue q) .none) (h1:o8 0 n (p.map (·.1))=i) (h2:o8 n n (q.map (·.1))=j) (hle:i≤j)
  (h:Q ((i:Int),1,j - i) s):wpAny (model prog w) A (Builtin.Slice.sliceApplied (.ref sl) (pure (n:Int))) Q E s:=by
 obtain ⟨os,hos,hcs,hds⟩:=id hs
 have part:∀ (p:Option (Int×Tok)) {Q:Option Int→Shared→Prop},Q (p.map (·.1)) s→wpAny (model prog w) A (Builtin.Slice.slicePartIndex (partValue p)) Q E s:=fun p Q h=>by
  cases p with
  | none=>exact slicePart_none h
  | some q=>exact slicePart_int h
 unfold Builtin.Slice.sliceApplied Builtin.Slice.sliceFields
 refine zC1 (zC1 (wpAny_field hos hds (x:=partValue p) rfl (zC1 (wpAny_field hos hds (x:=partValue q) rfl (zC1 (wpAny_field hos hds (x:=.none) rfl (zC2 ?_)))))))
 refine zC1 (slicePart_none ?_)
 refine (?_:wpAny _ _ (if ((1:Int)==0)=true then _ else _) _ _ s)
 rw [if_neg (by decide)]
 refine zC1 (part p (zC1 (part q (zC1 (zC2 ?_)))))
 refine (?_:wpAny _ _ (match Builtin.Slice.sliceAdjust (p.map (·.1)) (q.map (·.1)) 1 (n:Int) with | (lo,hi)=>pure (lo,(1:Int),Builtin.Slice.slicePlaces lo hi 1)) _ _ s)
 rw [tO h1 h2]
 refine (?_:wpAny _ _ (pure ((i:Int),(1:Int),Builtin.Slice.slicePlaces (i:Int) (j:Int) 1)) _ _ s)
 rw [tj hle]
 exact wpAny_pure h
theorem iO {l:List V} {lo hi:Option V} {vl vu:Value} {sl:Addr} (I:Inv Φ s) (e:qq PyData.tuple l lo hi=some z) (r:Φ.rp s.heap v (.tuple l)) (rl:RpO Φ s.heap vl lo) (ru:RpO Φ s.heap vu hi) (hs:s.heap.IsSliceOf sl vl vu .none) :
  fJ s v∧Φ.wp (getItem v (.ref sl)) (Φ.Gives s z) s:=by
 refine r.tuple_elim fun a o vs n hb ha hc hd hl=>?_
 have r:Φ.rp s.heap (.ref a) (.tuple l):=.tuple hb ha hc hd hl
 have ht:IsTup s.heap a vs:=⟨_,ha,hc,_,hd⟩
 have len:vs.size=l.length:=Array.length_toList▸hl.length
 refine ⟨⟨_,_,ht.typeIs,slot_tuple_getitem.lookup⟩,j6 (C:=fun z=>Φ.wp (getItem (.ref a) (.ref sl)) (Φ.Gives s z) s) e fun i j hz h1 h2 hle=>?_⟩
 refine dN (C:=fun vl=>s.heap.IsSliceOf sl vl vu .none→_) h1 rl (fun p hp hs=>?_) hs
 refine dN (C:=fun vu=>s.heap.IsSliceOf sl (partValue p) vu .none→_) h2 ru (fun q hq hs=>?_) hs
 intro E
 have hj:j≤vs.size:=by rw [len,← hq]; exact jB (Nat.le_refl _) _
 obtain ⟨os,hos,hcs,hds⟩:=id hs
 have hTs:s.TypeIs (.ref sl) "slice":=⟨os,hos,hcs⟩
 unfold getItem
 refine wpAny_holding ?_
 refine zC1 (wpAny_sequenceKey ht.typeIs (by decide) ?_)
 refine zC1 (wpAny_callSpecial?_slot (name:=Str.ofString "__getitem__") ht.typeIs slot_tuple_getitem (wpAny_call_entry slot_tuple_getitem ht.typeIs entry_tuple_getitem ?_ (args_tuple_getitem _ _)))
 refine (?_:wpAny _ _ (Builtin.Tuple.tupleItemsOf (.ref a) >>= _) _ _ s)
 refine zC1 (tupleItemsOf_ ht ?_)
 refine zC1 (wpAny_typeOf hTs ?_)
 rw [if_pos (by decide)]
 rw [← len] at hp hq
 refine zC1 (qv hs hp hq hle ?_)
 refine (?_:wpAny _ _ (if ((i:Int)==0&&(1:Int)==1&&(j - i)==vs.size)=true then _ else _) _ _ s)
 by_cases c:((i:Int)==0&&(1:Int)==1&&(j - i)==vs.size)=true
 ·rw [if_pos c]
  have c:=zA2 c
  have c1:(i:Int)=0:=eq_of_beq (zA2 c.1).1
  have c2:j - i=vs.size:=eq_of_beq c.2
  have i0:i=0:=by lia
  subst i0
  rw [c2,len,List.drop_zero,List.take_length]
  refine zC1 (zC1 (wpAny_typeOf ht.typeIs (zC2 ?_)))
  exact zC1 (wpAny_rule (zC2 ⟨_,rfl,zC2 ⟨.refl _,r⟩⟩))
 ·rw [if_neg c]
  have ep:(List.range (j - i)).filterMap (fun (k:Nat)=>vs[((i:Int)+(k:Int) * 1).toNat]?)=(vs.toList.drop i).take (j - i):=by
   rw [← jV hle hj,List.filterMap_map]
   exact congrArg (List.filterMap · _) (funext fun k=>by refine (?_:vs[((i:Int)+(k:Int) * 1).toNat]?=vs[i+k]?); rw [Int.mul_one]; rfl)
  refine (?_:wpAny _ _ (Builtin.Tuple.tupleExact ((List.range (j - i)).filterMap (fun (k:Nat)=>vs[((i:Int)+(k:Int) * 1).toNat]?)).toArray >>= _) _ _ _)
  rw [ep]
  refine wpAny_bind (m:=Builtin.Tuple.tupleExact _) (wpAny_newObj_type (zC2 ⟨_,rfl,zC2 (fP (tk:=s.toks) I ((hl.drop _).take _))⟩) ?_)
  refine (?_:(List.toArray _).size≤sizeLine)
  rw [List.size_toArray]
  exact zB1 (List.length_take_le' ..) (zB1 (by rw [List.length_drop]; exact Nat.sub_le ..) (cK (hl.length▸hz)))
theorem lJ {t:Str} {lo hi:Option V} {vl vu:Value} {sl:Addr} (e:qq text t.cps.toList lo hi=some z) (r:Φ.rp s.heap v (.str t)) (rl:RpO Φ s.heap vl lo) (ru:RpO Φ s.heap vu hi) (hs:s.heap.IsSliceOf sl vl vu .none) :
  fJ s v∧Φ.wp (getItem v (.ref sl)) (Φ.Gives s z) s:=by
 refine r.str_elim fun tk=>?_
 refine ⟨⟨_,_,typeIs_str _ _ _,PySem.F.slot_str_getitem.lookup⟩,j6 (C:=fun z=>Φ.wp (getItem (.str t tk) (.ref sl)) (Φ.Gives s z) s) e fun i j hz h1 h2 hle=>?_⟩
 refine dN (C:=fun vl=>s.heap.IsSliceOf sl vl vu .none→_) h1 rl (fun p hp hs=>?_) hs
 refine dN (C:=fun vu=>s.heap.IsSliceOf sl (partValue p) vu .none→_) h2 ru (fun q hq hs=>?_) hs
 rw [zB3] at hp hq
 have hj:j≤t.cps.size:=hq▸jB (Nat.le_refl _) _
 refine fun E=>wpAny_getItem_str_slice (l:=p) (u:=q) (st:=none) hs rfl ?_
 unfold sliceMade
 have e3:slicePicked t p q none=(List.range (j - i)).map (i + ·):=kX hp hq hle
 rw [e3]
 split
 ·rename_i hf
  have hf:=eq_of_beq (zA2 hf).2
  rw [zA4,List.length_range] at hf
  have hf:j - i=t.cps.size:=hf
  refine ⟨.refl _,.text ?_⟩
  rw [hf,show i=0 by grind,List.drop_zero,← zB3,List.take_length]
 ·rw [jV hle hj]
  refine ⟨?_,.toks _ _,.text rfl⟩
  show (List.toArray _).size≤sizeLine
  rw [List.size_toArray]
  exact zB1 (List.length_take_le' ..) (zB1 (by rw [List.length_drop]; exact Nat.sub_le ..) (cK hz))
theorem uw {lo hi:Option V} {vl vu:Value} {sl:Addr} (I:Inv Φ s) (e:d9 x lo hi=some z) (r:Φ.rp s.heap v x) (rl:RpO Φ s.heap vl lo) (ru:RpO Φ s.heap vu hi) (hs:s.heap.IsSliceOf sl vl vu .none) :
  fJ s v∧Φ.wp (getItem v (.ref sl)) (Φ.Gives s z) s:=by
 cases x with
 | list l=>exact ka I e r rl ru hs
 | tuple l=>exact iO I e r rl ru hs
 | str t=>exact lJ e r rl ru hs
 | _=>(injection e; done)
end
end Mine
end
noncomputable section
namespace Mine
open PySem PySem.Calls PyProof.Rows PySem.W
noncomputable abbrev DV:=(V→Prop)→Prop
section
variable {Φ:Ct} {s:Shared} {d d1 d2 d3:DV}
theorem v7 {l:Sem Value} {r:Value→Sem Value} {t:Value→Value→Sem Value} {op:V→V→Option V} (h1:Ev Φ l d1) (h2:∀ v,Ev Φ (r v) d2)
  (st:∀ s v u x y z,Inv Φ s→Φ.rp s.heap v x→Φ.rp s.heap u y→op x y=some z→Φ.wp (t v u) (Φ.Gives s z) s):Ev Φ (do let v ← l; let u ← r v; t v u) (fun K=>d1 fun x=>d2 fun y=>okK (op x y) K):=fun K s hd I=>
 h1.bind hd I fun v x s₁ I₁ k₁ hx r1=>(h2 v).bind hx I₁ fun u y s₂ I₂ k₂ hy r2=>aj hy fun z e kz=>step I₂ kz (st s₂ v u x y z I₂ (r1.keep k₂) r2 e)
theorem zY {o:Operator} {l r:Expr} {pos:Pos} (h1:Ev Φ (eval l Φ.fx.env) d1) (h2:Ev Φ (eval r Φ.fx.env) d2):Ev Φ (eval (.BinOp l o r pos) Φ.fx.env) (fun K=>d1 fun x=>d2 fun y=>okK (t7 o x y) K):=by
 rw [eval_BinOp]
 exact v7 (op:=t7 o) h1 (fun v=>h2.holding) fun s v u x y z I r1 r2 e=>ba (dQ (Ad e I r1 r2))
theorem ja {o:CmpOp} {e:Expr} {t:Sem Value} (h:bJ e=true):markedBehindIn o e t=t:=markedBehindIn_of_false (by cases e <;> first | rfl | exact nomatch h)
theorem v9 {o:CmpOp} {l r:Expr} {pos:Pos} (hs:bJ r=true) (h1:Ev Φ (eval l Φ.fx.env) d1) (h2:Ev Φ (eval r Φ.fx.env) d2):Ev Φ (eval (.Compare l [o] [r] pos) Φ.fx.env) (fun K=>d1 fun x=>d2 fun y=>okK (aS o x y) fun b=>K (.bool b)):=fun K s hd I=>by
 rw [eval_Compare1,ja hs]
 exact h1.bind hd I fun v x s₁ I₁ k₁ hx r1=>h2.holding.bind hx I₁ fun u y s₂ I₂ k₂ hy r2=>aj hy fun c e kc=>ba (dQ fun E=>wpAny_mono (qW e I₂ (r1.keep k₂) r2 E) (fun w s' q=>by obtain ⟨rfl,rfl⟩:=q; exact ⟨I₂.base,.refl _,_,kc,.bool c⟩) fun _ _ z=>z)
theorem gj {v:Value} {y:V} {b:Bool} {Q:Bool→Shared→Prop} (e:cS y some=some b) (r:Φ.rp s.heap v y) (h:Q b s):Φ.wp (truthy v) Q s:=
 fR (C:=fun y=>Φ.rp s.heap v y→Φ.wp (truthy v) Q s) e (fun c e r=>r.bool_elim fun E=>wpAny_truthy_bool (Option.some.inj e▸h)) r
noncomputable abbrev tst (d:DV):(Bool→Prop)→Prop:=fun K=>d fun y=>okK (cS y some) K
theorem xO {x:Expr} (h:Ev Φ (eval x Φ.fx.env) d) (hx:isTrue x Φ.fx.env (eval x Φ.fx.env)=(do let v ← eval x Φ.fx.env; standAt x.pos; holding [v] (truthy v))):EvT Φ (isTrue x Φ.fx.env (eval x Φ.fx.env)) (tst d):=fun K s hd I=>by
 rw [hx]
 exact h.bind hd I fun v y s₁ I₁ k₁ hy r=>aj hy fun b e kb=>ba fun E=>wpAny_holding (gj (Q:=Post Φ (fun _=>Eq) s₁ K) e r ⟨I₁.base,.refl _,b,kb,rfl⟩ E)
theorem ur {o:CmpOp} {l r:Expr} {pos:Pos} {w:Sem Value} (hs:bJ r=true) (h1:Ev Φ (eval l Φ.fx.env) d1) (h2:Ev Φ (eval r Φ.fx.env) d2):EvT Φ (isTrue (.Compare l [o] [r] pos) Φ.fx.env w) (fun K=>d1 fun x=>d2 fun y=>okK (aS o x y) K):=fun K s hd I=>by
 have e:isTrue (.Compare l [o] [r] pos) Φ.fx.env w=(eval (.Compare l [o] [r] pos) Φ.fx.env >>= fun c=>holding [c] (truthy c)):=by
  rw [isTrue_Compare1,eval_Compare1]; simp only [bind_assoc]
 rw [e]
 exact (v9 hs h1 h2).bind (K₁:=fun y=>okK (cS y some) K) hd I fun v y s₁ I₁ k₁ hy r=>aj hy fun b e kb=>fun E=>wpAny_holding (gj (Q:=Post Φ (fun _=>Eq) s₁ K) e r ⟨I₁.base,.refl _,b,kb,rfl⟩ E)
theorem zS {x:Expr} {pos:Pos} (h:Ev Φ (eval x Φ.fx.env) d):Ev Φ (eval (.UnaryOp .Not x pos) Φ.fx.env) (fun K=>d fun y=>okK (cS y some) fun b=>K (.bool (!b))):=fun K s hd I=>by
 rw [arm_eval_UnaryOp]
 refine h.bind hd I fun v y s₁ I₁ k₁ hy r=>ba fun E=>wpAny_holding ?_
 refine (?_:wpAny _ _ (holding [v] (truthy v >>= fun t=>pure (Value.bool (!t)))) _ _ _)
 exact aj hy fun b e kb=>wpAny_holding (zC1 (gj e r (zC2 ⟨I₁.base,.refl _,_,kb,.bool _⟩) E))
theorem um {x:Expr} {pos:Pos} {w:Sem Value} (h:EvT Φ (isTrue x Φ.fx.env (eval x Φ.fx.env)) (tst d)):EvT Φ (isTrue (.UnaryOp .Not x pos) Φ.fx.env w) (fun K=>d fun y=>okK (cS y some) fun b=>K (!b)):=fun K s hd I=>by
 rw [arm_isTrue_UnaryOp]
 exact h.bind (K₁:=fun b=>K (!b)) hd I fun t b s₁ I₁ k₁ hb e=>EvR.pure I₁ hb (e▸rfl)
theorem zT {x:Expr} {pos:Pos} (h:Ev Φ (eval x Φ.fx.env) d):Ev Φ (eval (.UnaryOp .USub x pos) Φ.fx.env) (fun K=>d fun y=>okK (mn y fun i=>some (.int (-i))) K):=fun K s hd I=>by
 rw [arm_eval_UnaryOp]
 refine h.bind hd I fun v y s₁ I₁ k₁ hy r=>ba ?_
 refine aj hy fun z e kz=>step I₁ kz fun E=>wpAny_holding ?_
 exact bx (C:=fun y=>Φ.rp s₁.heap v y→wpAny _ _ _ _ _ s₁) e (fun i e r=>r.int_elim fun t=>neg_int ⟨.toks _ _,Option.some.inj e▸.int _ _⟩) r
theorem zW {c a b:Expr} {pos:Pos} (hc:EvT Φ (isTrue c Φ.fx.env (eval c Φ.fx.env)) (tst d1)) (ha:Ev Φ (eval a Φ.fx.env) d2) (hb:Ev Φ (eval b Φ.fx.env) d3) :
  Ev Φ (eval (.IfExp c a b pos) Φ.fx.env) (fun K=>d1 fun x=>okK (cS x some) fun t=>if t=true then d2 K else d3 K):=fun K s hd I=>by
 rw [arm_eval_IfExp]
 refine hc.bind (K₁:=fun t=>if t=true then d2 K else d3 K) hd I fun t t' s₁ I₁ k₁ hk e=>?_
 subst e
 cases t with
 | true=>exact ha K s₁ hk I₁
 | false=>exact hb K s₁ hk I₁
theorem uq {c a b:Expr} {pos:Pos} {w:Sem Value} (hc:EvT Φ (isTrue c Φ.fx.env (eval c Φ.fx.env)) (tst d1)) (ha:EvT Φ (isTrue a Φ.fx.env (eval a Φ.fx.env)) (tst d2)) (hb:EvT Φ (isTrue b Φ.fx.env (eval b Φ.fx.env)) (tst d3)) :
  EvT Φ (isTrue (.IfExp c a b pos) Φ.fx.env w) (tst fun K=>d1 fun x=>okK (cS x some) fun t=>if t=true then d2 K else d3 K):=fun K s hd I=>by
 rw [arm_isTrue_IfExp]
 refine hc.bind (K₁:=fun t=>if t=true then tst d2 K else tst d3 K) hd I fun t t' s₁ I₁ k₁ hk e=>?_
 subst e
 cases t with
 | true=>exact ha K s₁ hk I₁
 | false=>exact hb K s₁ hk I₁
noncomputable abbrev bop:Bool→BoolOp
 | true=>.And
 | false=>.Or
noncomputable abbrev pg (b:Bool) (ds:List DV):(Bool→Prop)→Prop:=cw b (ds.map fun d _=>d) []
theorem uo {b:Bool}:EvT Φ (allTrue (bop b) [] Φ.fx.env) (pg b []):=fun K s hd I=>by
 rw [arm_allTrue_nil]
 cases b <;> exact EvR.pure I hd rfl
theorem s7 {b:Bool} {x:Expr} {r:List Expr} {ds:List DV} (h:EvT Φ (isTrue x Φ.fx.env (eval x Φ.fx.env)) (tst d)) (hr:EvT Φ (allTrue (bop b) r Φ.fx.env) (pg b ds)):EvT Φ (allTrue (bop b) (x :: r) Φ.fx.env) (pg b (d :: ds)):=fun K s hd I=>by
 rw [arm_allTrue_cons]
 refine h.bind (K₁:=fun c=>if c=b then pg b ds K else K c) hd I fun t c s₁ I₁ k₁ hk e=>?_
 subst e
 cases b <;> cases t
 ·exact hr K s₁ hk I₁
 ·exact EvR.pure I₁ hk rfl
 ·exact EvR.pure I₁ hk rfl
 ·exact hr K s₁ hk I₁
noncomputable abbrev bg (Φ:Ct) (q:Expr×DV):Prop:=Ev Φ (eval q.1 Φ.fx.env) q.2
theorem tL {b:Bool} {v:Value} {y:V} {K:V→Prop} {h:Heap} (hy:okK (cS y some) fun c=>if c=b then K (.bool b) else K (.bool c)) (r:Φ.rp h v y):K y:=
 aj hy fun c e kc=>fR (C:=fun y=>K y) e fun c' e=>by
  cases e
  by_cases q:c=b
  ·rw [if_pos q] at kc; rw [q]; exact kc
  ·rw [if_neg q] at kc; exact kc
theorem oZ {b:Bool} {pos:Pos}:∀ {qs:List (Expr×DV)},(∀ q∈qs,bg Φ q)→qs≠[]→Ev Φ (boolOp pos (bop b) (qs.map fun q=>eval q.1 Φ.fx.env)) (fun K=>pg b (qs.map Prod.snd) fun c=>K (.bool c))
 | [],_,h=>absurd rfl h
 | [q],h,_=>fun K s hd I E=>by
  have e:boolOp pos (bop b) ([q].map fun q=>eval q.1 Φ.fx.env)=eval q.1 Φ.fx.env:=by cases b <;> rfl
  exact e.symm▸wpAny_mono (h q (.head _) (fun y=>okK (cS y some) fun c=>if c=b then K (.bool b) else K (.bool c)) s hd I E) (fun v s' ⟨B,k,y,hy,r⟩=>⟨B,k,y,tL hy r,r⟩) fun _ _ z=>z
 | q :: q' :: r,h,_=>fun K s hd I=>by
  have hr:=oZ (b:=b) (pos:=pos) (qs:=q' :: r) (fun x m=>h x (.tail _ m)) (by simp)
  have go:∀ t u (l:List (Sem Value)),boolOp pos (bop b) (t :: u :: l)=(do let v ← t; standAt pos; let c ← holding [v] (truthy v); if c=b then boolOp pos (bop b) (u :: l) else pure v):=fun t u l=>by
   cases b <;> exact bind_congr fun v=>bind_congr fun _=>bind_congr fun c=>by cases c <;> rfl
  rw [List.map_cons,List.map_cons,go]
  refine (h q (.head _)).bind (K₁:=fun y=>okK (cS y some) fun c=>if c=b then pg b ((q' :: r).map Prod.snd) (fun c=>K (.bool c)) else K (.bool c)) hd I fun v y s₁ I₁ k₁ hy rp=>ba ?_
  refine aj hy fun c e kc E=>zC1 (wpAny_holding (gj e rp ?_ E))
  by_cases qc:c=b
  ·rw [if_pos qc] at kc ⊢
   exact hr K s₁ kc I₁ E
  ·rw [if_neg qc] at kc ⊢
   exact zC2 ⟨I₁.base,.refl _,_,kc,fR (C:=fun y=>Φ.rp s₁.heap v y→Φ.rp s₁.heap v (.bool c)) e (fun c' e r=>by (injection e with e; subst e); exact r) rp⟩
theorem nY {b:Bool}:∀ {qs:List (Expr×DV)},(∀ q∈qs,EvT Φ (isTrue q.1 Φ.fx.env (eval q.1 Φ.fx.env)) (tst q.2))→EvT Φ (allTrue (bop b) (qs.map Prod.fst) Φ.fx.env) (pg b (qs.map Prod.snd))
 | [],_=>uo
 | q :: r,h=>s7 (h q (.head _)) (nY fun x m=>h x (.tail _ m))
noncomputable abbrev bo (ds:List DV):(List V→Prop)→Prop:=bY (ds.map fun d _=>d) []
theorem aO {e:Expr} {r:List Expr} {env:Env} (h:ao e=true):starEach (e :: r) env=(false,eval e env) :: starEach r env:=by
 cases e <;> first | rfl | exact nomatch h
theorem dL {pos:Pos}:∀ {qs:List (Expr×DV)},(∀ q∈qs,ao q.1=true∧bg Φ q)→EvL Φ (spliced (backTo pos (starEach (qs.map Prod.fst) Φ.fx.env))) (bo (qs.map Prod.snd))
 | [],_=>fun K s hd I=>EvR.pure (a:=[]) I hd .nil
 | q :: r,h=>fun K s hd I=>by
  refine List.map_cons.symm▸(aO (h q (.head _)).1).symm▸?_
  have e:spliced (backTo pos ((false,eval q.1 Φ.fx.env) :: starEach (r.map Prod.fst) Φ.fx.env))=(eval q.1 Φ.fx.env >>= fun v=>holding [v] (spliced (backTo pos (starEach (r.map Prod.fst) Φ.fx.env))) >>= fun vs=>pure (v :: vs)):=rfl
  rw [e]
  exact (h q (.head _)).2.bind (K₁:=fun x=>bo (r.map Prod.snd) fun xs=>K (x :: xs)) hd I fun v x s₁ I₁ k₁ hx r1=>(dL fun q m=>h q (.tail _ m)).holding.bind hx I₁ fun vs xs s₂ I₂ k₂ hxs rs=>EvR.pure I₂ hxs (.cons (r1.keep k₂) rs)
theorem u7 {qs:List (Expr×DV)} {k:Nat} {pos:Pos} (h:∀ q∈qs,ao q.1=true∧bg Φ q):EvC Φ true (eval (.Tuple (qs.map Prod.fst) k pos) Φ.fx.env) (fun K=>bo (qs.map Prod.snd) fun xs=>okK (bO xs (.tuple xs)) K):=fun K s hd I=>by
 rw [arm_eval_Tuple]
 refine ba ((dL h).bindC hd I fun vs xs s₁ I₁ k₁ hx rs=>aj hx fun z e kz=>fit_elim (C:=fun z=>K z→Φ.wp _ (jM Φ true s₁ K) s₁) e (fun q kz E=>?_) kz)
 have m:=fP (n:=0) (tk:=s₁.toks) I₁ rs
 exact wpAny_newObj_type ⟨⟨I₁.base.grown m.1,m.1.keeps,_,kz,m.2⟩,fun _=>fj (Nat.le_refl _)⟩ (by refine (?_:vs.toArray.size≤sizeLine); rw [List.size_toArray,rs.length]; exact cK q)
theorem xQ {qs:List (Expr×DV)} {pos:Pos} (h:∀ q∈qs,ao q.1=true∧bg Φ q):Ev Φ (eval (.List (qs.map Prod.fst) pos) Φ.fx.env) (fun K=>bo (qs.map Prod.snd) fun xs=>okK (bO xs (.list xs)) K):=fun K s hd I=>by
 rw [arm_eval_List]
 refine ba ((dL h).bind hd I fun vs xs s₁ I₁ k₁ hx rs=>aj hx fun z e kz=>step I₁ kz ?_)
 exact fit_elim e fun q E=>wpAny_newObj_type (fm (tk:=s₁.toks) I₁ rs) (by refine (?_:vs.toArray.size≤sizeLine); rw [List.size_toArray,rs.length]; exact cK q)
theorem og {value slice:Expr} {pos:Pos} {o i:Value} {z:V} (h:fJ s o∧Φ.wp (getItem o i) (Φ.Gives s z) s):Φ.wp (do standAt pos; let r ← subscripted slice (← getitemInPython o) o i; letTemporaryGo value o r; pure r) (Φ.Gives s z) s:=by
 obtain ⟨⟨T,id,hT,hl⟩,hg⟩:=h
 refine ba fun E=>?_
 rw [getitemInPython_of_ne hT.not_modules]
 refine zC1 (zC1 (wpAny_specialOf hT hl ?_))
 refine zC2 ?_
 have fin:∀ vs,wpAny (model Φ.fx.g.prog Φ.fx.g.w) Φ.fx.A (operate vs (getItem o i) >>= fun r=>letTemporaryGo value o r >>= fun _=>pure r) (Φ.Gives s z) E s:=fun vs=>
  zC1 (wpAny_mono (dQ hg E) (fun a s' p=>zC1 (wpAny_letTemporaryGo (wpAny_pure p))) fun _ _ z=>z)
 cases slice with
 | Slice a b c p=>cases c with
  | none=>exact fin _
  | some=>exact fin _
 | _=>exact fin _
theorem zR {value slice:Expr} {pos:Pos} (h1:Ev Φ (eval value Φ.fx.env) d1) (h2:Ev Φ (eval slice Φ.fx.env) d2):Ev Φ (eval (.Subscript value slice pos) Φ.fx.env) (fun K=>d1 fun x=>d2 fun y=>okK (tV x y) K):=by
 rw [arm_eval_Subscript]
 exact v7 (op:=tV) h1 (fun v=>h2.holding) fun s v u x y z I r1 r2 e=>og (y4 e r1 r2)
noncomputable abbrev EvO (Φ:Ct) (t:Sem Value) (d:(Option V→Prop)→Prop):Prop:=EvR Φ (RpO Φ) t d
theorem jz:EvO Φ (valueOrNone (evalOpt none Φ.fx.env)) (fun K=>K none):=fun K s hd I=>EvR.pure (a:=Value.none) I hd rfl
theorem jy {e:Expr} (h:Ev Φ (eval e Φ.fx.env) d):EvO Φ (valueOrNone (evalOpt (some e) Φ.fx.env)) (fun K=>d fun y=>K (some y)):=fun K s hd I E=>by
 refine (?_:wpAny _ _ (eval e Φ.fx.env) _ _ _)
 exact wpAny_mono (h _ s hd I E) (fun v s' ⟨B,k,y,hy,r⟩=>⟨B,k,some y,hy,r⟩) fun _ _ z=>z
theorem RpO.keep {h h':Heap} {v:Value} {y:Option V} (r:RpO Φ h v y) (k:aD h h'):RpO Φ h' v y:=by
 cases y with
 | none=>exact r
 | some x=>exact Rp.keep r k
theorem gz {value:Expr} {lo hi:Option Expr} {p pos:Pos} {dl dh:(Option V→Prop)→Prop} (h1:Ev Φ (eval value Φ.fx.env) d1) (h2:EvO Φ (valueOrNone (evalOpt lo Φ.fx.env)) dl) (h3:EvO Φ (valueOrNone (evalOpt hi Φ.fx.env)) dh) :
  Ev Φ (eval (.Subscript value (.Slice lo hi none p) pos) Φ.fx.env) (fun K=>d1 fun x=>dl fun l=>dh fun h=>okK (d9 x l h) K):=fun K s hd I=>by
 rw [arm_eval_Subscript]
 refine h1.bind hd I fun v x s₁ I₁ k₁ hx r1=>?_
 have hS:EvR Φ (fun h v (q:Option V×Option V)=>∃ sl vl vu,v=.ref sl∧h.IsSliceOf sl vl vu .none∧RpO Φ h vl q.1∧RpO Φ h vu q.2) (eval (.Slice lo hi none p) Φ.fx.env) (fun K=>dl fun l=>dh fun h=>K (l,h)):=fun K s hd I=>by
  rw [arm_eval_Slice]
  refine h2.bind hd I fun vl l s₁ I₁ k₁ hl rl=>h3.holding.bind hl I₁ fun vu h s₂ I₂ k₂ hh rh=>?_
  refine step (z:=(l,h)) I₂ hh fun E=>zC1 (wpAny_holding (zC2 ?_))
  exact wpAny_newObj_type ⟨Grown.push _ _ s₂.toks,_,vl,vu,rfl,Heap.IsSliceOf.new ..,(rl.keep k₂).keep (dX _ _),rh.keep (dX _ _)⟩
 refine hS.holding.bind (K₁:=fun q=>okK (d9 x q.1 q.2) K) hx I₁ fun u q s₂ I₂ k₂ hq rq=>?_
 obtain ⟨sl,vl,vu,rfl,hs,rl,ru⟩:=rq
 exact aj hq fun z e kz=>step I₂ kz (og (uw I₂ e (r1.keep k₂) rl ru hs))
end
end Mine
end
noncomputable section
namespace Mine
open PySem PySem.Calls PyProof.Rows PySem.W
section
variable {Φ:Ct} {s:Shared} {v u:Value} {x y z:V} {d:DV}
theorem jo {x:Str} (h:aZ Φ.fx.env.scope.names x=true):Φ.fx.env.scope.names.lookup x=some .globalImplicit∧(x==("__debug__" : Str))=false:=by
 have h:=zA2 h
 exact ⟨eq_of_beq h.1,Bool.not_eq_true' _▸(zA2 h.2).1⟩
theorem bw {x:Str} {pos:Pos} {Q:Value→Shared→Prop} (I:Inv Φ s) (hx:aZ Φ.fx.env.scope.names x=true) (hv:Φ.fx.g.mg x=some v) (h:Q v s):Φ.wp (eval (.Name x pos) Φ.fx.env) Q s:=fun E=>
 Name_function_global I.ok.kind (jo hx).1 (loadGlobal_global (by rw [I.ok.globals]; exact I.ok.gr.main.at' (I.base.stays _)) hv h) (jo hx).2
theorem bT {x:Str} {pos:Pos} {Q:Value→Shared→Prop} (I:Inv Φ s) (hx:aZ Φ.fx.env.scope.names x=true) (hv:bu.lookup x=some v) (h:Q v s):Φ.wp (eval (.Name x pos) Φ.fx.env) Q s:=fun E=>
 have q:=I.ok.gr.blts x v hv
 Name_function_global I.ok.kind (jo hx).1 (loadGlobal_builtin (by rw [I.ok.globals]; exact I.ok.gr.main.at' (I.base.stays _)) q.1 (by rw [I.ok.builtins]; exact I.ok.gr.blt.at' (I.base.stays _)) q.2 h) (jo hx).2
theorem vi {n:Str} {pos:Pos} (hx:aZ Φ.fx.env.scope.names n=true) (hv:Φ.fx.g.cons.lookup n=some x):Ev Φ (eval (.Name n pos) Φ.fx.env) (fun K=>K x):=fun K s hd I=>
 (I.ok.gr.cons n x hv).elim fun u q=>bw I hx q.1 ⟨I.base,.refl _,x,hd,q.2 _ _ I.base.stays fun a b=>I.bad0 b⟩
theorem v8 {c:Const} {k:Nat} {pos:Pos} (hc:sP c x=true):Ev Φ (eval (.Constant c k pos) Φ.fx.env) (fun K=>K x):=fun K s hd I E=>by
 refine (?_:wpAny _ _ (constValue Φ.fx.env c) _ _ _)
 cases x with
 | none=>obtain rfl:=eq_of_beq hc; exact zC2 ⟨I.base,.refl _,_,hd,.none⟩
 | bool b=>obtain rfl:=eq_of_beq hc; exact zC2 ⟨I.base,.refl _,_,hd,.bool _⟩
 | int i=>obtain rfl:=eq_of_beq hc; exact wpAny_mkInt ⟨I.base.grown (.toks _ _),.refl _,_,hd,.int _ _⟩
 | str t=>obtain rfl:=eq_of_beq hc; exact wpAny_mkText ⟨I.base.grown (.toks _ _),.refl _,_,hd,.str _ _⟩
 | _=>(injection hc; done)
theorem fb {pos:Pos}:∀ {l:List (Bool×Sem Value)},(∀ q∈l,q.1=false)→(backTo pos l).any (·.1)=false
 | [],_=>rfl
 | [q],h=>by simp [backTo,h q (.head _)]
 | q :: q' :: l,h=>by
  have:=fb (pos:=pos) (l:=q' :: l) fun x m=>h x (.tail _ m)
  simpa [backTo,h q (.head _)] using this
theorem cL {env:Env}:∀ {qs:List (Expr×DV)},(∀ q∈qs,ao q.1=true)→∀ q∈starEach (qs.map Prod.fst) env,q.1=false
 | [],_,_,h=>nomatch h
 | q :: r,h,p,hp=>by
  rw [List.map_cons,aO (h q (.head _))] at hp
  cases hp with
  | head=>rfl
  | tail _ m=>exact cL (fun x m=>h x (.tail _ m)) p m
theorem cT {F:Value} {pos:Pos} {qs:List (Expr×DV)} {K:List V→Prop} {Q:Args→Shared→Prop} {E:Value→Shared→Prop} (hq:∀ q∈qs,ao q.1=true∧bg Φ q) (hd:bo (qs.map Prod.snd) K) (I:Inv Φ s)
  (h:∀ vs xs s₁,Inv Φ s₁→aD s.heap s₁.heap→K xs→Φ.rps s₁.heap vs xs→Q ⟨vs,[]⟩ s₁):wpAny (model Φ.fx.g.prog Φ.fx.g.w) Φ.fx.A (evalArgs F true (backTo pos (starEach (qs.map Prod.fst) Φ.fx.env)) []) Q E s:=by
 have it:=dL (pos:=pos) hq K s hd I E
 cases qs with
 | nil=>exact PySem.evalArgs_none (h [] [] s I (.refl _) hd .nil)
 | cons q r=>
  rw [List.map_cons,aO (hq q (.head _)).1] at it ⊢
  obtain ⟨l,hl⟩:∃ l,backTo pos ((false,eval q.1 Φ.fx.env) :: starEach (r.map Prod.fst) Φ.fx.env)=(false,eval q.1 Φ.fx.env) :: l:=by
   cases starEach (r.map Prod.fst) Φ.fx.env <;> exact ⟨_,rfl⟩
  rw [hl] at it ⊢
  exact Calls.evalArgs_plain (wpAny_mono it (fun vs s₁ ⟨B,k,xs,hx,rs⟩=>h vs xs s₁ (I.keep B k) k hx rs) fun _ _ z=>z)
theorem j4 {F:Value} {f:Str} {fp pos:Pos} {qs:List (Expr×DV)} {op:List V→Option V} (hx:aZ Φ.fx.env.scope.names f=true) (hF:bu.lookup f=some F) (hk:(∃ id,F=.builtin id)∨∃ T,F=.type T) (hq:∀ q∈qs,ao q.1=true∧bg Φ q)
  (st:∀ s vs xs z,Inv Φ s→Φ.rps s.heap vs xs→op xs=some z→Φ.wp (call F vs) (Φ.Gives s z) s):Ev Φ (eval (.Call (.Name f fp) (qs.map Prod.fst) [] pos) Φ.fx.env) (fun K=>bo (qs.map Prod.snd) fun xs=>okK (op xs) K):=fun K s hd I E=>by
 refine (?_:wpAny _ _ (eval (.Name f fp) Φ.fx.env >>= fun F=>callWith pos F [] (backTo pos (starEach (qs.map Prod.fst) Φ.fx.env)) []) _ _ s)
 refine zC1 (bT I hx hF ?_ E)
 have hp:=fb (pos:=pos) (cL (env:=Φ.fx.env) fun q m=>(hq q m).1)
 have main:wpAny (model Φ.fx.g.prog Φ.fx.g.w) Φ.fx.A (evalArgs F true (backTo pos (starEach (qs.map Prod.fst) Φ.fx.env)) []) (fun a s₁=>wpAny (model Φ.fx.g.prog Φ.fx.g.w) Φ.fx.A (call F ([]++a.pos) a.kw) (Post Φ Φ.rp s K) E s₁) E s:=
  cT hq hd I fun vs xs s₁ I₁ k₁ hx rs=>aj hx fun z e kz=>wpAny_mono (step I₁ kz (st s₁ vs xs z I₁ rs e) E) (fun _ _ p=>p.lift k₁) fun _ _ z=>z
 rcases hk with ⟨id,rfl⟩ | ⟨T,rfl⟩
 ·exact callWith_builtin hp main
 ·exact PySem.callWith_type hp main
theorem ck {α:Type} {vs:List Value} {xs:List V} {f:V→Option α} {z:α} {C:List Value→Prop} (e:one xs f=some z) (rs:Φ.rps s.heap vs xs) (k:∀ v x,Φ.rp s.heap v x→f x=some z→C [v]):C vs:=by
 cases rs with
 | nil=>(injection e; done)
 | cons r rs=>cases rs with
  | nil=>exact k _ _ r e
  | cons _ _=>(injection e; done)
theorem uj {α:Type} {vs:List Value} {xs:List V} {f:V→V→Option α} {z:α} {C:List Value→Prop} (e:two xs f=some z) (rs:Φ.rps s.heap vs xs) (k:∀ v u x y,Φ.rp s.heap v x→Φ.rp s.heap u y→f x y=some z→C [v,u]):C vs:=by
 cases rs with
 | nil=>(injection e; done)
 | cons r rs=>cases rs with
  | nil=>(injection e; done)
  | cons r' rs=>cases rs with
   | nil=>exact k _ _ _ _ r r' e
   | cons _ _=>(injection e; done)
theorem Al {n:Nat} (h:n≤az):(n:Int) < 2 ^ 63:=Int.ofNat_lt.mpr (Nat.lt_of_le_of_lt h (by decide))
theorem aY {vs:Array Value} {l:List V} {h:Heap} (r:Φ.rps h vs.toList l):vs.size=l.length:=Array.length_toList▸r.length
theorem kT {C:V→List V→Prop} {l:List V} (e:bM x=some l) (kl:∀ l:List V,l.length≤az→C (.list l) l) (kt:∀ l:List V,l.length≤az→C (.tuple l) l) (ks:∀ t:Str,t.cps.toList.length≤az→C (.str t) (br t.cps.toList)):C x l:=by
 cases x with
 | list m=>exact fit_elim e fun h=>kl m h
 | tuple m=>exact fit_elim e fun h=>kt m h
 | str m=>exact fit_elim e fun h=>ks m h
 | _=>(injection e; done)
theorem zy {l:List V} (e:bM x=some l) (r:Φ.rp s.heap v x):Φ.wp (call (.builtin "len") [v]) (Φ.Gives s (.int l.length)) s:=
 kT (C:=fun x l=>Φ.rp s.heap v x→Φ.wp (call (.builtin "len") [v]) (Φ.Gives s (.int l.length)) s) e
  (fun l hz r=>r.list_elim fun a o vs n _ ha hc hd hl E=>aY hl▸PyProof.Rows.len_list ⟨_,ha,hc.1,_,hd⟩ (by rw [aY hl]; exact Al hz) ⟨.toks _ _,.int _ _⟩)
  (fun l hz r=>r.tuple_elim fun a o vs n _ ha hc hd hl E=>aY hl▸PyProof.Rows.len_tuple ⟨_,ha,hc,_,hd⟩ (by rw [aY hl]; exact Al hz) ⟨.toks _ _,.int _ _⟩)
  (fun t hz r=>r.str_elim fun tk E=>by
   unfold br
   rw [zA4,zB3]
   exact P.len_str (by rw [zB3] at hz; have:=Al hz; unfold Str.length; omega) ⟨.toks _ _,.int _ _⟩) r
theorem zV {fp pos:Pos} {q:Expr×DV} (hx:aZ Φ.fx.env.scope.names "len"=true) (hq:ao q.1=true∧bg Φ q):Ev Φ (eval (.Call (.Name "len" fp) [q.1] [] pos) Φ.fx.env) (fun K=>bo [q.2] fun xs=>okK (opN .len xs) K):=
 j4 (qs:=[q]) (op:=opN .len) hx rfl (.inl ⟨_,rfl⟩) (fun p m=>by obtain rfl:=zA6 m; exact hq) fun s vs xs z I rs e=>ck (C:=fun vs=>Φ.wp (call (.builtin "len") vs) (Φ.Gives s z) s) e rs fun v x r e=>map_elim e fun l e=>zy e r
end
end Mine
end
noncomputable section
namespace Mine
open PySem PySem.Calls PyProof.Rows PySem.W
section
variable {Φ:Ct} {s:Shared} {v u:Value} {x y z:V} {d:DV}
theorem km {kvs:List (V×V)} {t:Nat} {b:Bool} (q:su kvs=true) (e:isT (.dict kvs) t=some b):False:=by
 cases kvs with
 | nil=>(injection q; done)
 | cons=>(injection e; done)
theorem zF {t:Nat} {T:String} {b:Bool} (hT:iU[t]?=some T) (e:isT x t=some b) (r:Φ.rp s.heap v x):Φ.wp (call (.builtin "isinstance") [v,.type T]) (Φ.Gives s (.bool b)) s:=fun E=>by
 have G0:∀ {b},Φ.Gives s (.bool b) (.bool b) s:=⟨.refl _,.bool _⟩
 have G1:∀ {b},Φ.Gives s (.bool b) (.bool b) { s with toks:=s.toks+1 }:=⟨.toks _ _,.bool _⟩
 match t,hT with
 | 0,hT=>
  (injection hT with hT; subst hT)
  cases r with
  | none=>exact some_elim e (IsiPair.NoneType_str G1)
  | bool c=>exact some_elim e (IsiPair.bool_str G1)
  | int i t=>exact some_elim e (IsiPair.int_str G1)
  | str _ t=>exact some_elim e (IsiPair.str_str G0)
  | list _ ha hc=>exact some_elim e (IsiPair.list_str ha hc.1 G1)
  | tuple _ ha hc=>exact some_elim e (IsiPair.tuple_str ha hc G1)
  | inst _ _ _ _ _ _ q=>exact (km q e).elim
  | exc=>(injection e; done)
  | dict _ ha hc=>exact some_elim e (IsiPair.dict_str ha hc.1 G1)
 | 1,hT=>
  (injection hT with hT; subst hT)
  cases r with
  | none=>exact some_elim e (IsiPair.NoneType_tuple G1)
  | bool c=>exact some_elim e (IsiPair.bool_tuple G1)
  | int i t=>exact some_elim e (IsiPair.int_tuple G1)
  | str _ t=>exact some_elim e (IsiPair.str_tuple G1)
  | list _ ha hc=>exact some_elim e (IsiPair.list_tuple ha hc.1 G1)
  | tuple _ ha hc=>exact some_elim e (IsiPair.tuple_tuple ha hc G0)
  | inst _ _ _ _ _ _ q=>exact (km q e).elim
  | exc=>(injection e; done)
  | dict _ ha hc=>exact some_elim e (IsiPair.dict_tuple ha hc.1 G1)
 | 2,hT=>
  (injection hT with hT; subst hT)
  cases r with
  | none=>exact some_elim e (IsiPair.NoneType_list G1)
  | bool c=>exact some_elim e (IsiPair.bool_list G1)
  | int i t=>exact some_elim e (IsiPair.int_list G1)
  | str _ t=>exact some_elim e (IsiPair.str_list G1)
  | list _ ha hc=>exact some_elim e (IsiPair.list_list ha hc.1 G0)
  | tuple _ ha hc=>exact some_elim e (IsiPair.tuple_list ha hc G1)
  | inst _ _ _ _ _ _ q=>exact (km q e).elim
  | exc=>(injection e; done)
  | dict _ ha hc=>exact some_elim e (IsiPair.dict_list ha hc.1 G1)
 | 3,hT=>
  (injection hT with hT; subst hT)
  cases r with
  | none=>exact some_elim e (IsiPair.NoneType_int G1)
  | bool c=>exact some_elim e (IsiPair.bool_int G0)
  | int i t=>exact some_elim e (IsiPair.int_int G0)
  | str _ t=>exact some_elim e (IsiPair.str_int G1)
  | list _ ha hc=>exact some_elim e (IsiPair.list_int ha hc.1 G1)
  | tuple _ ha hc=>exact some_elim e (IsiPair.tuple_int ha hc G1)
  | inst _ _ _ _ _ _ q=>exact (km q e).elim
  | exc=>(injection e; done)
  | dict _ ha hc=>exact some_elim e (IsiPair.dict_int ha hc.1 G1)
 | 4,hT=>
  (injection hT with hT; subst hT)
  cases r with
  | none=>exact some_elim e (IsiPair.NoneType_bool G1)
  | bool c=>exact some_elim e (IsiPair.bool_bool G0)
  | int i t=>exact some_elim e (IsiPair.int_bool G1)
  | str _ t=>exact some_elim e (IsiPair.str_bool G1)
  | list _ ha hc=>exact some_elim e (IsiPair.list_bool ha hc.1 G1)
  | tuple _ ha hc=>exact some_elim e (IsiPair.tuple_bool ha hc G1)
  | inst _ _ _ _ _ _ q=>exact (km q e).elim
  | exc=>(injection e; done)
  | dict _ ha hc=>exact some_elim e (IsiPair.dict_bool ha hc.1 G1)
theorem y0 {t:Nat} {T:String} (hT:iU[t]?=some T):bu.lookup (Str.ofString T)=some (.type T):=by
 match t,hT with
 | 0,hT=>(injection hT with hT; subst hT); decide
 | 1,hT=>(injection hT with hT; subst hT); decide
 | 2,hT=>(injection hT with hT; subst hT); decide
 | 3,hT=>(injection hT with hT; subst hT); decide
 | 4,hT=>(injection hT with hT; subst hT); decide
theorem zX {t:Nat} {T:String} {fp pos pT:Pos} {q:Expr×DV} (hT:iU[t]?=some T) (hx:aZ Φ.fx.env.scope.names "isinstance"=true) (hy:aZ Φ.fx.env.scope.names (Str.ofString T)=true) (hp:ao q.1=true) (h:bg Φ q) :
  Ev Φ (eval (.Call (.Name "isinstance" fp) [q.1,.Name (Str.ofString T) pT] [] pos) Φ.fx.env) (fun K=>q.2 fun x=>okK (isT x t) fun b=>K (.bool b)):=fun K s hd I E=>by
 refine (?_:wpAny _ _ (eval (.Name "isinstance" fp) Φ.fx.env >>= fun F=>callWith pos F [] (backTo pos (starEach [q.1,.Name (Str.ofString T) pT] Φ.fx.env)) []) _ _ s)
 refine zC1 (bT (v:=.builtin "isinstance") I hx rfl ?_ E)
 rw [aO hp]
 refine callWith_builtin rfl (Calls.evalArgs_plain ?_)
 have q':spliced (backTo pos ((false,eval q.1 Φ.fx.env) :: starEach [.Name (Str.ofString T) pT] Φ.fx.env))=(eval q.1 Φ.fx.env >>= fun v=>holding [v] (eval (.Name (Str.ofString T) pT) Φ.fx.env >>= fun u=>holding [u] (pure []) >>= fun vs=>pure (u :: vs)) >>= fun vs=>pure (v :: vs)):=rfl
 refine (?_:wpAny _ _ (spliced (backTo pos ((false,eval q.1 Φ.fx.env) :: starEach [.Name (Str.ofString T) pT] Φ.fx.env))) _ _ _)
 rw [q']
 refine zC1 (wpAny_mono (h _ s hd I E) (fun v s₁ ⟨B,k,x,hx,r⟩=>?_) fun _ _ z=>z)
 have I₁:=I.keep B k
 refine zC1 (wpAny_holding (zC1 (bT I₁ hy (y0 hT) ?_ E)))
 refine zC1 (wpAny_holding (zC2 (zC2 (zC2 ?_))))
 exact aj hx fun b e kb=>wpAny_mono (step I₁ kb (zF hT e r) E) (fun _ _ p=>p.lift k) fun _ _ z=>z
theorem j2 {h':Heap} {tk:Nat} (k:aH s.heap h'):Grown s { s with heap:=h',toks:=tk }:=⟨k,rfl,rfl⟩
theorem gW {C:V→List V→Prop} {l:List V} (e:gw x=some l) (kl:∀ l:List V,l.length≤az→C (.list l) l) (kt:∀ l:List V,l.length≤az→C (.tuple l) l):C x l:=by
 cases x with
 | list m=>exact fit_elim e fun h=>kl m h
 | tuple m=>exact fit_elim e fun h=>kt m h
 | _=>(injection e; done)
theorem r9 {h':Heap} {vs:Array Value} {c tk:Nat} {l:List V} (I:Inv Φ s) (k:aH s.heap h') (hD:h'.get? s.heap.objs.size=some { cls:=.type "list",dict:=none,data:=.seq vs c,slots:=#[] }) (rr:Φ.rps h' vs.toList l) :
  Φ.Gives s (.list l) (.ref s.heap.objs.size) { s with heap:=h',toks:=tk }:=⟨j2 k,.list I.fresh hD ⟨rfl,rfl⟩ rfl rr⟩
theorem xm {l:List V} (I:Inv Φ s) (e:gw x=some l) (r:Φ.rp s.heap v x):Φ.wp (call (.type "list") [v]) (fun w s'=>w=.ref s.heap.objs.size∧Φ.Gives s (.list l) w s') s:=
 gW (C:=fun x l=>Φ.rp s.heap v x→Φ.wp (call (.type "list") [v]) (fun w s'=>w=.ref s.heap.objs.size∧Φ.Gives s (.list l) w s') s) e
  (fun l hz r=>r.list_elim fun a o vs n _ ha hc hd hl E=>call_list_seq (hsz:=by rw [aY hl]; exact cK hz) _ (.inl rfl) ha hc.1 hd fun h' c' hk hD=>⟨rfl,r9 (tk:=s.toks) I hk hD (hl.keep (aH.keeps hk))⟩)
  (fun l hz r=>r.tuple_elim fun a o vs n _ ha hc hd hl E=>call_list_seq (hsz:=by rw [aY hl]; exact cK hz) _ (.inr rfl) ha hc hd fun h' c' hk hD=>⟨rfl,r9 (tk:=s.toks) I hk hD (hl.keep (aH.keeps hk))⟩) r
theorem pz {h:Heap} {vs:List Value} {l:List V} {ss:List (List Nat)} (e:dR l=some ss) (r:Φ.rps h vs l):StrsAre vs (ss.map fun x=>(⟨x.toArray⟩:Str)):=by
 refine r.ind (D:=fun vs l=>∀ ss,dR l=some ss→StrsAre vs (ss.map fun x=>(⟨x.toArray⟩:Str))) (fun ss e=>some_elim e .nil) (fun v vs x l r _ ih ss e=>?_) ss e
 unfold dR at e
 rw [List.mapM_cons] at e
 obtain ⟨a,ha,e⟩:=Option.bind_eq_some_iff.mp e
 obtain ⟨b,hb,e⟩:=Option.bind_eq_some_iff.mp e
 (injection e with e; subst e)
 exact cE (C:=fun x=>Φ.rp h v x→StrsAre (v :: vs) ((a :: b).map fun x=>(⟨x.toArray⟩:Str))) ha (fun t et r=>r.str_elim fun tk=>by (injection et with et; subst et); rw [List.map_cons,d7]; exact .cons _ _ (ih b hb)) r
theorem dZ {h:Heap} {vs:List Value} {l:List V} {ns:List Int} (e:bZ l=some ns) (r:Φ.rps h vs l):IntsAre vs ns:=by
 refine r.ind (D:=fun vs l=>∀ ns,bZ l=some ns→IntsAre vs ns) (fun ss e=>some_elim e .nil) (fun v vs x l r _ ih ss e=>?_) ns e
 unfold bZ at e
 rw [List.mapM_cons] at e
 obtain ⟨a,ha,e⟩:=Option.bind_eq_some_iff.mp e
 obtain ⟨b,hb,e⟩:=Option.bind_eq_some_iff.mp e
 (injection e with e; subst e)
 exact bx (C:=fun x=>Φ.rp h v x→IntsAre (v :: vs) (a :: b)) ha (fun i ei r=>r.int_elim fun tk=>by (injection ei with ei; subst ei); exact .cons _ _ (ih b hb)) r
theorem jg (sep:List Nat):∀ (ss:List (List Nat)) (a:List Nat),((ss.map fun x=>(⟨x.toArray⟩:Str)).foldl (fun acc p=>acc++sep.toArray++p.cps) a.toArray).toList=aM sep (a :: ss)
 | [],a=>rfl
 | x :: r,a=>by
  have:=jg sep r (a++sep++x)
  rw [List.map_cons,List.foldl_cons,show a.toArray++sep.toArray++x.toArray=(a++sep++x).toArray by simp,this]
  cases r <;> simp [aM]
theorem lM (sep:List Nat):∀ ss:List (List Nat),(Builtin.Str.glued ⟨sep.toArray⟩ (ss.map fun x=>(⟨x.toArray⟩:Str))).cps.toList=aM sep ss
 | []=>rfl
 | x :: r=>jg sep r x
theorem xA {sep:Str} {l:List V} {ss:List (List Nat)} (e:dR l=some ss) (hz:(ss.map List.length).sum+ss.length * sep.cps.toList.length≤az) (rs:Φ.rp s.heap u (.str sep)) (r:Φ.rp s.heap v (.list l)) :
  Φ.wp (call (.builtin "str.join") [u,v]) (Φ.Gives s (text (aM sep.cps.toList ss))) s:=by
 refine rs.str_elim fun t=>r.list_elim fun a o vs n _ ha hc hd hl E=>?_
 have q:=lM sep.cps.toList ss
 rw [d7] at q
 refine PyProof.Rows.join_list ⟨_,ha,hc.1,_,hd⟩ (pz e hl) ?_ fun t' k=>⟨.toks _ _,.text q⟩
 have e1:((ss.map fun x=>(⟨x.toArray⟩:Str)).map (·.length))=ss.map List.length:=by simp [Str.length]
 rw [e1,zA4]
 rw [zB3] at hz
 exact zB1 hz (show az≤16777216 by decide)
theorem vq {l:List V} (I:Inv Φ s) (q:(da y&&da (.list l))=true) (r:Φ.rp s.heap v (.list l)) (r2:Φ.rp s.heap u y):Φ.wp (call (.builtin "list.count") [v,u]) (Φ.Gives s (.int (l.countP fun z=>PyData.eqv z y))) s:=fun E=>by
 have q:=zA2 q
 have h1:=okd q.1
 have h2:=okd q.2
 obtain ⟨bs,p2⟩:=r2.reads h1.1
 obtain ⟨as,p1⟩:=r.reads h2.1
 refine r.list_elim fun a o vs n _ ha hc hd hl=>?_
 obtain ⟨cls,dd,data,sl⟩:=o
 obtain ⟨rfl,rfl⟩:=hc
 subst hd
 obtain ⟨as,ra⟩:=(oq (v:=.none) (x:=.none)).2 hl h2.1
 have:=SeqAt.items_eqAt (A:=Φ.fx.A) (vs:=vs) ra p2 h2.1 h1.1 (iE I h1.2)
 refine call_meets PySem.F.slot_list_count ⟨_,ha,rfl⟩ PySem.F.entry_list_count (PySem.F.args_list_count_2 _ _) (SeqAt.list_countAt a vs n none sl u (fun y'=>PyData.eqv (SeqAt.readOf s.heap y') y)) ⟨ha,this,?_⟩
 have e:vs.toList.countP (fun y'=>PyData.eqv (SeqAt.readOf s.heap y') y)=l.countP fun z=>PyData.eqv z y:=by
  rw [← SeqAt.readsAll_map l _ _ h2.1 ra,List.countP_map]; rfl
 rw [e]
 exact ⟨.toks _ _,.int _ _⟩
end
end Mine
end
noncomputable section
namespace Mine
open PySem
section
variable {c:Nat}
theorem gV (l:List Nat):af c l≠[]:=by
 induction l with
 | nil=>exact nofun
 | cons x r ih=>
  unfold af
  by_cases h:x=c
  ·rw [if_pos h]; exact nofun
  ·rw [if_neg h]
   cases e:af c r with
   | nil=>exact absurd e ih
   | cons a b=>exact nofun
theorem splitL_eq (r:List Nat):af c (c :: r)=[] :: af c r:=if_pos rfl
theorem bI {x:Nat} (h:x≠c) (r:List Nat):af c (x :: r)=(af c r).modifyHead (x :: ·):=if_neg h
theorem pD {w:List Nat} (h:c∉w) (r:List Nat):af c (w++c :: r)=w :: af c r:=by
 induction w with
 | nil=>exact splitL_eq r
 | cons x w ih=>
  rw [List.cons_append,bI (List.ne_of_not_mem_cons h).symm,ih fun m=>h (.tail _ m)]; rfl
theorem nH {w:List Nat} (h:c∉w):af c w=[w]:=by
 induction w with
 | nil=>rfl
 | cons x w ih=>rw [bI (List.ne_of_not_mem_cons h).symm,ih fun m=>h (.tail _ m)]; rfl
theorem joinL_cons {s:List Nat} (a b:List Nat) (r:List (List Nat)):aM s (a :: b :: r)=a++s++aM s (b :: r):=rfl
theorem dS {ws:List (List Nat)} (hne:ws≠[]) (h:∀ w∈ws,c∉w):af c (aM [c] ws)=ws:=by
 induction ws with
 | nil=>exact absurd rfl hne
 | cons a r ih=>
  cases r with
  | nil=>exact nH (h a (.head _))
  | cons b r=>rw [joinL_cons,List.append_assoc,List.singleton_append,pD (h a (.head _)),ih nofun fun w m=>h w (.tail _ m)]
theorem nJ {l w:List Nat} (m:w∈af c l):c∉w:=by
 induction l generalizing w with
 | nil=>obtain rfl:=zA6 m; exact nofun
 | cons x r ih=>
  by_cases h:x=c
  ·subst h
   rw [splitL_eq] at m
   exact (List.mem_cons.mp m).elim (fun e=>e▸nofun) ih
  ·rw [bI h] at m
   cases e:af c r with
   | nil=>rw [e] at m; exact nomatch m
   | cons a b=>
    rw [e] at m
    refine (List.mem_cons.mp m).elim (fun q=>?_) fun q=>ih (e▸.tail _ q)
    subst q
    exact fun z=>(List.mem_cons.mp z).elim (fun z=>h z.symm) (ih (e▸.head _))
theorem join_split (l:List Nat):aM [c] (af c l)=l:=by
 induction l with
 | nil=>rfl
 | cons x r ih=>
  by_cases h:x=c
  ·subst h
   rw [splitL_eq]
   cases e:af x r with
   | nil=>exact absurd e (gV r)
   | cons a b=>rw [joinL_cons,← e,ih]; rfl
  ·rw [bI h]
   cases e:af c r with
   | nil=>exact absurd e (gV r)
   | cons a b=>
    rw [e] at ih
    cases b with
    | nil=>exact congrArg (x :: ·) ih
    | cons b q=>exact congrArg (x :: ·) ih
theorem pB (l:List Nat):(af c l).length≤l.length+1:=by
 induction l with
 | nil=>exact Nat.le_refl _
 | cons x r ih=>
  by_cases h:x=c
  ·subst h; rw [splitL_eq]; exact Nat.succ_le_succ ih
  ·rw [bI h,List.length_modifyHead]; exact Nat.le_succ_of_le ih
end
end Mine
end
noncomputable section
namespace Mine
open PySem PySem.Calls PyProof.Rows PySem.W
section
variable {Φ:Ct} {s:Shared} {v u:Value} {x y z:V} {d d1 d2:DV}
noncomputable abbrev Ct.safe (Φ:Ct) (f:Nat):Prop:=Φ.fx.hm=true→Φ.fx.g.safe f=true
theorem fV {K:V→Prop} {f:Nat} {vs:List Value} {xs:List V} {E:Value→Shared→Prop} (hs:Φ.safe f) (I:Inv Φ s) (h:aq Φ.fx.g.P Φ.fx.d f xs fun y=>noX y=true∧K y) (rs:Φ.rps s.heap vs xs) :
  wpAny (model Φ.fx.g.prog Φ.fx.g.w) Φ.fx.A (call (.ref (Φ.fx.g.fn f)) vs) (jM Φ (Φ.fx.g.newf f) s K) E s:=
 wpAny_mono (I.ok.call Φ.fx.hm f xs _ Φ.fx.A s Φ.bad vs h I.ok.hand hs I.ok.room I.ok.units I.base I.fr (fun a b=>I.badLive b) (fun a b=>I.bad0 b) rs) (fun _ _ ⟨B,k,y,hy,_,r,nv⟩=>⟨⟨B,k,y,hy.2,r⟩,nv⟩) fun _ _ ⟨_,_,c,e,_,_,q,_⟩=>nomatch q.1
theorem Inv.frag (I:Inv Φ s):Φ.fx.g.K.In s.heap:=I.ok.gr.frag.keeps I.base.stays
theorem xS {n:Str} {f:Nat} {fp pos:Pos} {qs:List (Expr×DV)} (hx:aZ Φ.fx.env.scope.names n=true) (hf:Φ.fx.g.fns.lookup n=some f) (hfn:keepIn Φ.fx.g.K (.ref (Φ.fx.g.fn f))=true) (hsf:Φ.safe f) (hq:∀ q∈qs,ao q.1=true∧bg Φ q) :
  EvC Φ (Φ.fx.g.newf f) (eval (.Call (.Name n fp) (qs.map Prod.fst) [] pos) Φ.fx.env) (fun K=>bo (qs.map Prod.snd) fun xs=>aq Φ.fx.g.P Φ.fx.d f xs fun y=>noX y=true∧K y):=fun K s hd I E=>by
 refine (?_:wpAny _ _ (eval (.Name n fp) Φ.fx.env >>= fun F=>callWith pos F [] (backTo pos (starEach (qs.map Prod.fst) Φ.fx.env)) []) _ _ s)
 refine zC1 (bw I hx (I.ok.gr.fns n f hf) ?_ E)
 refine callWith_of (by rw [fb (cL fun q m=>(hq q m).1)]; rfl) (keeps_K hfn) (cT hq hd I fun vs xs s₁ I₁ k₁ hx rs=>⟨I₁.frag,?_⟩)
 exact wpAny_mono (fV hsf I₁ hx rs) (fun _ _ p=>p.lift k₁) fun _ _ z=>z
theorem cZ {o:Expr} {name:Str} {env:Env} {t:Sem Value} (h:bV o=true):attributeBase o name env t=t:=by
 cases o <;> first | rfl | exact nomatch h
theorem mE {o e:Expr} {name:Str} {T id:String} {apos pos:Pos} {op:V→V→Option V} (ho:bV o=true) (hp:ao e=true) (hline:(apos.endLine==pos.line)=true)
  (pa:PlainAttrs T) (slot:PySem.Slot T name id) (hty:typeOf (.builtin id)=pure (.type "method_descriptor")) (h1:Ev Φ (eval o Φ.fx.env) d1) (h2:Ev Φ (eval e Φ.fx.env) d2) {ok:V→Bool}
  (hrecv:∀ (s:Shared) v x,ok x=true→Φ.rp s.heap v x→s.TypeIs v T∧∀ a,v=.ref a→∃ ob,s.heap.get? a=some ob∧ob.dict=none)
  (hop:∀ (s:Shared) u v x y z,Inv Φ s→Φ.rp s.heap u x→Φ.rp s.heap v y→op x y=some z→Φ.wp (call (.builtin id) [u,v]) (Φ.Gives s z) s) :
  Ev Φ (eval (.Call (.Attribute o name apos) [e] [] pos) Φ.fx.env) (fun K=>d1 fun x=>ok x=true∧d2 fun y=>okK (op x y) K):=fun K s hd I E=>by
 refine wpAny_Call_method (cZ ho) ?_ hline pa slot hty ?_
 ·rw [aO hp]; rfl
 refine wpAny_mono (h1 _ s hd I E) (fun ov s₁ ⟨B,k,x,⟨hx,hd2⟩,r1⟩=>?_) fun _ _ z=>z
 have I₁:=I.keep B k
 obtain ⟨hT,hdd⟩:=hrecv s₁ ov x hx r1
 refine ⟨hT,hdd,callWith_builtin ?_ ?_⟩
 ·rw [aO hp]; rfl
 refine cT (qs:=[(e,d2)]) (K:=fun ys=>okK (one ys (op x)) K) (fun q m=>by obtain rfl:=zA6 m; exact ⟨hp,h2⟩) hd2 I₁ fun vs ys s₂ I₂ k₂ hy rs=>aj hy fun z e kz=>?_
 refine ck (C:=fun vs=>wpAny _ _ (call (.builtin id) ([ov]++vs) []) _ _ s₂) e rs fun v y r2 e=>?_
 exact wpAny_mono (step I₂ kz (hop s₂ ov v x y z I₂ (r1.keep k₂) r2 e) E) (fun _ _ p=>(p.lift k₂).lift k) fun _ _ z=>z
theorem oz (s:Shared) (v:Value) (x:V) (hx:isStr x=true) (r:Φ.rp s.heap v x):s.TypeIs v "str"∧∀ a,v=.ref a→∃ ob,s.heap.get? a=some ob∧ob.dict=none:=by
 cases x with
 | str t=>exact r.str_elim (C:=fun v=>s.TypeIs v "str"∧∀ a,v=.ref a→∃ o,s.heap.get? a=some o∧o.dict=none) fun tk=>⟨typeIs_str _ _ _,fun _ q=>nomatch q⟩
 | _=>(injection hx; done)
theorem xR {o e:Expr} {apos pos:Pos} (ho:bV o=true) (hp:ao e=true) (hline:(apos.endLine==pos.line)=true) (h1:Ev Φ (eval o Φ.fx.env) d1) (h2:Ev Φ (eval e Φ.fx.env) d2) :
  Ev Φ (eval (.Call (.Attribute o "join" apos) [e] [] pos) Φ.fx.env) (fun K=>d1 fun x=>isStr x=true∧d2 fun y=>okK (opN .join [x,y]) K):=
 mE (op:=fun x y=>opN .join [x,y]) ho hp hline PySem.F.plainAttrs_str PySem.F.slot_str_join PySem.F.type_str_join h1 h2 oz
  fun s u v x y z I ru rv e=>cE (f:=fun sep=>dW y fun l=>(dR l).bind fun ss=>if (ss.map List.length).sum+ss.length * sep.length≤az then some (text (aM sep ss)) else none) (C:=fun x=>Φ.rp s.heap u x→Φ.wp (call (.builtin "str.join") [u,v]) (Φ.Gives s z) s) e
   (fun t e ru=>bF (C:=fun y=>Φ.rp s.heap v y→Φ.wp (call (.builtin "str.join") [u,v]) (Φ.Gives s z) s) e (fun l e rv=>(Option.bind_eq_some_iff.mp e).elim fun ss ⟨h,e⟩=>if_elim e fun hz=>xA h hz ru rv) rv) ru
theorem vh {o e:Expr} {apos pos:Pos} (ho:bV o=true) (hp:ao e=true) (hline:(apos.endLine==pos.line)=true) (h1:Ev Φ (eval o Φ.fx.env) d1) (h2:Ev Φ (eval e Φ.fx.env) d2) :
  Ev Φ (eval (.Call (.Attribute o "count" apos) [e] [] pos) Φ.fx.env) (fun K=>d1 fun x=>kq x=true∧d2 fun y=>okK (opN .count [x,y]) K):=
 mE (op:=fun x y=>opN .count [x,y]) ho hp hline PySem.F.plainAttrs_list PySem.F.slot_list_count PySem.F.type_list_count h1 h2
  (fun s v x hx r=>by
   cases x with
   | list l=>exact r.list_elim (C:=fun v=>s.TypeIs v "list"∧∀ a,v=.ref a→∃ o,s.heap.get? a=some o∧o.dict=none) fun a o vs n hb ha hc hd hl=>⟨⟨_,ha,hc.1⟩,fun a q=>by (injection q with q; subst q); exact ⟨_,ha,hc.2⟩⟩
   | _=>(injection hx; done))
  fun s u v x y z I ru rv e=>bF (f:=fun l=>if (da y&&da (.list l))=true then some (PyData.int (l.countP fun z=>PyData.eqv z y)) else none) (C:=fun x=>Φ.rp s.heap u x→Φ.wp (call (.builtin "list.count") [u,v]) (Φ.Gives s z) s) e (fun l e ru=>if_elim e fun q=>vq I q ru rv) ru
theorem iN (sep:Str) (ws:List Str):(Str.join sep ws).cps.toList=aM sep.cps.toList (ws.map fun w=>w.cps.toList):=by
 induction ws with
 | nil=>rfl
 | cons a r ih=>
  cases r with
  | nil=>rfl
  | cons b r=>
   refine (?_:(a++sep++Str.join sep (b :: r)).cps.toList=_)
   refine Array.toList_append.trans ?_
   rw [ih]
   exact congrArg (·++_) Array.toList_append
theorem nG (x y:Str):Txt.split x y≠[]:=by
 unfold Txt.split
 split
 ·exact nofun
 ·split
  ·exact nofun
  ·exact fun e=>by have:=length_partsBetween x (Builtin.Str.occurrences x y 0 x.length (x.length+1)) y.length; rw [e] at this; exact nomatch this
theorem nW (x:Str) (c:Nat):(Txt.split x ⟨#[c]⟩).map (fun w=>w.cps.toList)=af c x.cps.toList:=by
 have h:=congrArg (fun s:Str=>s.cps.toList) (StrLaws.join_split x ⟨#[c]⟩)
 rw [iN] at h
 have q:=dS (c:=c) (ws:=(Txt.split x ⟨#[c]⟩).map fun w=>w.cps.toList) (fun e=>nG _ _ (List.map_eq_nil_iff.mp e)) fun w m=>by
  obtain ⟨p,m',rfl⟩:=zA7 m
  exact StrLaws.split_free x c p m'
 exact q.symm.trans (congrArg (af c) h)
theorem rL {h:Heap}:∀ l:List (Str×Tok),Φ.rps h (strValues l) ((l.map fun p=>p.1.cps.toList).map text)
 | []=>.nil
 | (x,t) :: r=>.cons (.text rfl) (rL r)
theorem uv {x y:Str} {t t':Tok} {c:Nat} (I:Inv Φ s) (e:y.cps.toList=[c]) (hz:x.cps.toList.length < az):Φ.wp (call (.builtin "str.split") [.str x t,.str y t']) (Φ.Gives s (.list ((af c x.cps.toList).map text))) s:=fun E=>by
 have ey:y=⟨#[c]⟩:=by rw [← d7 y,e]
 subst ey
 have hx:x.length≤sizeLine:=by rw [zB3] at hz; exact cK (Nat.le_of_lt hz)
 have key:∀ (l:List (Str×Tok)) tk,l.map (·.1)=Txt.split x ⟨#[c]⟩→Φ.Gives s (.list ((af c x.cps.toList).map text)) (.ref s.heap.objs.size) { s with heap:=s.heap.push { cls:=.type "list",data:=.seq (strValues l).toArray },toks:=tk }:=fun l tk q=>by
  have m:=fm (n:=0) (tk:=tk) I (rL l)
  rw [show (l.map fun p=>p.1.cps.toList)=af c x.cps.toList by rw [← nW,← q,List.map_map]; rfl] at m
  exact m
 cases h1:(decide (x.length < (⟨#[c]⟩:Str).length)||decide (Builtin.Str.strKind x < Builtin.Str.strKind ⟨#[c]⟩))
 ·cases hf:(Builtin.Str.occurrences x ⟨#[c]⟩ 0 x.length (x.length+1)).isEmpty
  ·have es:Txt.split x ⟨#[c]⟩=Builtin.Str.partsBetween x (Builtin.Str.occurrences x ⟨#[c]⟩ 0 x.length (x.length+1)) (⟨#[c]⟩:Str).length:=(if_neg (ne_true_of_eq_false h1)).trans (if_neg (ne_true_of_eq_false hf))
   have hn:(Builtin.Str.partsBetween x (Builtin.Str.occurrences x ⟨#[c]⟩ 0 x.length (x.length+1)) (⟨#[c]⟩:Str).length).length≤sizeLine:=by
    rw [← es,← List.length_map (f:=fun w:Str=>w.cps.toList),nW]
    exact cK (zB1 (pB _) hz)
   refine call_meets F.slot_str_split (typeIs_str _ _ _) F.entry_str_split (F.args_str_split_2 _ _) (meets_str_split_sep x ⟨#[c]⟩ t t' h1 rfl hf hx hn) ?_
   refine (?_:wants _ E _ { s with toks:=_,heap:=s.heap.push { cls:=.type "list",data:=.seq (strsFrom s.toks (Builtin.Str.partsBetween x (Builtin.Str.occurrences x ⟨#[c]⟩ 0 x.length (x.length+1)) (⟨#[c]⟩:Str).length)).toArray } })
   rw [strsFrom_eq]
   exact key _ _ ((numbered_texts _ _).trans es.symm)
  ·exact call_meets F.slot_str_split (typeIs_str _ _ _) F.entry_str_split (F.args_str_split_2 _ _) (meets_str_split_not_found x ⟨#[c]⟩ t t' h1 rfl hf) (key [(x,t)] s.toks ((if_neg (ne_true_of_eq_false h1)).trans (if_pos hf)).symm)
 ·exact call_meets F.slot_str_split (typeIs_str _ _ _) F.entry_str_split (F.args_str_split_2 _ _) (meets_str_split_cannot_occur x ⟨#[c]⟩ t t' h1) (key [(x,t)] s.toks (if_pos h1).symm)
theorem u9 {o e:Expr} {apos pos:Pos} (ho:bV o=true) (hp:ao e=true) (hline:(apos.endLine==pos.line)=true) (h1:Ev Φ (eval o Φ.fx.env) d1) (h2:Ev Φ (eval e Φ.fx.env) d2) :
  Ev Φ (eval (.Call (.Attribute o "split" apos) [e] [] pos) Φ.fx.env) (fun K=>d1 fun x=>isStr x=true∧d2 fun y=>okK (opN .split [x,y]) K):=
 mE (op:=fun x y=>opN .split [x,y]) ho hp hline PySem.F.plainAttrs_str PySem.F.slot_str_split PySem.F.type_str_split h1 h2 oz
  fun s u v x y z I ru rv e=>cE (f:=fun s=>pA y fun t=>match t with | [c]=>if s.length < az then some (PyData.list ((af c s).map text)) else none | _=>none) (C:=fun x=>Φ.rp s.heap u x→Φ.wp (call (.builtin "str.split") [u,v]) (Φ.Gives s z) s) e
   (fun t e ru=>cE (f:=fun q=>match q with | [c]=>if t.cps.toList.length < az then some (PyData.list ((af c t.cps.toList).map text)) else none | _=>none) (C:=fun y=>Φ.rp s.heap v y→Φ.wp (call (.builtin "str.split") [u,v]) (Φ.Gives s z) s) e (fun q e rv=>by
    split at e
    ·exact if_elim e fun hz=>ru.str_elim fun t=>rv.str_elim fun t'=>uv I (by assumption) hz
    ·(injection e; done)) rv) ru
end
end Mine
end
noncomputable section
namespace Mine
open PySem PySem.Calls PyProof.Rows PySem.W
structure Feed (g:Gl) (A:Around) (T:Expr) (I:Addr) (fp wr:List Addr) (vals:List Value) (l0 l:List V) (St:Nat→Heap→Prop):Prop where
 sub:∀ b∈wr,b∈fp
 frame:∀ i h h',St i h→(∀ b∈fp,∀ o,h.get? b=some o→h'.get? b=some o)→St i h'
 live:∀ i h b,St i h→b∈fp→d4 h b
 item:∀ i x (s:Shared) bad (Q:Value→Shared→Prop) (E:Value→Shared→Prop),l[i]?=some x→St i s.heap→RpAll g bad s.heap vals l0→(∀ a,bad a→aW s.heap a)→(∀ b∈wr,bad b) →
  (∀ v h' tk,St (i+1) h'→(∀ b o,b∉wr→s.heap.get? b=some o→h'.get? b=some o)→Rp g bad h' v x→Q v { s with heap:=h',toks:=tk }) →
  wpAny (model g.prog g.w) A (pyNext (.ref I)) (fun r s₁=>∃ v,r=some v∧wpAny (model g.prog g.w) A (letOwnedTupleGo T (.ref I) v) (fun _ s₂=>Q v s₂) E s₁) E s
 done:∀ (s:Shared) (Q:Shared→Prop) (E:Value→Shared→Prop),St l.length s.heap→(∀ h' tk,(∀ b o,b∉wr→s.heap.get? b=some o→h'.get? b=some o)→Q { s with heap:=h',toks:=tk }) →
  wpAny (model g.prog g.w) A (pyNext (.ref I)) (fun r s₁=>r=none∧Q s₁) E s
 self:∀ i (s:Shared) (Q:Value→Shared→Prop) (E:Value→Shared→Prop),St i s.heap→Q (.ref I) s→wpAny (model g.prog g.w) A (pyIter (.ref I)) Q E s
noncomputable def we (I:Addr) (h:Heap):Prop:=∃ o n vs,h.get? I=some o∧o.cls=.type n∧o.data=.fields vs ∧
 ["enumerate", "zip", "dict_itemiterator", "dict_reverseitemiterator", "odict_iterator", "itertools.zip_longest", "itertools.pairwise"].contains n=false
theorem nP {M:Model} {A:Around} {E:Value→Shared→Prop} {s:Shared} {T:Expr} {I:Addr} {v:Value} {Q:Unit→Shared→Prop} (go:we I s.heap) (h:Q () s):wpAny M A (letOwnedTupleGo T (.ref I) v) Q E s:=by
 have main:∀ es k p,wpAny M A (letOwnedTupleGo (.Tuple es k p) (.ref I) v) Q E s:=fun es k p=>by
  obtain ⟨o,n,vs,ho,hc,hd,hn⟩:=go
  cases v with
  | ref a=>
   refine zC1 (wpAny_load ho ?_)
   rw [hc,hd]
   exact fy (by rw [hn]; exact Bool.false_ne_true) (wpAny_pure h)
  | _=>exact wpAny_pure h
 cases T with
 | Tuple es k p=>exact main es k p
 | List es p=>exact main [] 0 p
 | _=>exact wpAny_pure h
section
variable {g:Gl} {A:Around} {T:Expr} {I:Addr} {fp wr:List Addr} {n:Nat} {P:Nat→Value→Prop} {St:Nat→Heap→Prop} {vals:List Value} {l0 l:List V}
theorem Feed.ofWalks (W:Walks g.prog g.w A I fp wr n P St) (hn:l.length=n) (hlive:∀ i h b,St i h→b∈fp→d4 h b) (hgo:∀ i h,St i h→we I h)
  (hP:∀ i x v h bad,l[i]?=some x→P i v→RpAll g bad h vals l0→Rp g bad h v x):Feed g A T I fp wr vals l0 l St where
 sub:=W.sub
 frame:=W.frame
 live:=hlive
 item:=fun i x s bad Q E hx hst hv hb hw hQ=>W.item i s _ _ (hn▸(List.getElem?_eq_some_iff.mp hx).1) hst fun v h' tk hp hst' hk=>⟨v,rfl,nP (hgo _ _ hst') (hQ v h' tk hst' hk (hP i x v h' bad hx hp (hv.map fun b o e _ nb=>⟨nb,hk b o (fun m=>nb (hw b m)) e⟩)))⟩
 done:=fun s Q E hst hQ=>W.done s _ _ (hn▸hst) fun h' tk hk=>⟨rfl,hQ h' tk hk⟩
 self:=W.self
theorem yn {h:Heap} {a c b:Addr} (ha:d4 h a) (hc:d4 h c) (m:b∈[a,c]):d4 h b:=by
 rcases List.mem_cons.mp m with rfl | m
 ·exact ha
 ·obtain rfl:=zA6 m; exact hc
theorem tE (hh:A.handled=none) (I ax:Addr) (hne:ax≠I) (items:Array Value) (l:List V) (hl:items.size=l.length) :
  Feed g A T I [I,ax] [I] items.toList l l (fun i h=>h.IsListIter I ax i∧h.IsList ax items):=
 Feed.ofWalks (Walks.list hh I ax hne items) hl.symm (fun i h b st=>yn (st.1.elim fun _ q=>⟨_,q.1,aU q.2.1⟩) (st.2.elim fun _ q=>⟨_,q.1,aU q.2.1⟩))
  (fun i h st=>by obtain ⟨o',e',c,d⟩:=st.1; exact ⟨_,_,_,e',c,d,by decide⟩)
  fun i x v h bad hx hv r=>by
   obtain ⟨v',e,rr⟩:=r.get hx
   rw [Array.getElem?_toList,hv] at e
   (injection e with e; subst e); exact rr
theorem qg (hh:A.handled=none) (I ax:Addr) (hne:ax≠I) (items:Array Value) (l:List V) (hl:items.size=l.length) :
  Feed g A T I [I,ax] [I] items.toList l l (fun i h=>h.IsTupleIter I ax i∧h.IsTuple ax items):=
 Feed.ofWalks (Walks.tuple hh I ax hne items) hl.symm (fun i h b st=>yn (st.1.elim fun _ q=>⟨_,q.1,aU q.2.1⟩) (st.2.elim fun _ q=>⟨_,q.1,aU q.2.1⟩))
  (fun i h st=>by obtain ⟨o',e',c,d⟩:=st.1; exact ⟨_,_,_,e',c,d,by decide⟩)
  fun i x v h bad hx hv r=>by
   obtain ⟨v',e,rr⟩:=r.get hx
   rw [Array.getElem?_toList,hv] at e
   (injection e with e; subst e); exact rr
theorem u2 (nm:String) (hnm:nm="str_ascii_iterator"∨nm="str_iterator") (I:Addr) (x:Str) (t:Tok) (W:Walks g.prog g.w A I [I] [I] x.cps.size (SignAt x) (fun i h=>h.IsStrIter I nm x t i)) :
  Feed g A T I [I] [I] [] [] (br x.cps.toList) (fun i h=>h.IsStrIter I nm x t i):=
 Feed.ofWalks W (by unfold br; rw [zA4,zB3])
  (fun i h b st hb=>by obtain rfl:=zA6 hb; exact st.elim fun _ q=>⟨_,q.1,aU q.2.1 (by rcases hnm with rfl | rfl <;> decide)⟩)
  (fun i h st=>by obtain ⟨o',e',c,d⟩:=st; exact ⟨_,_,_,e',c,d,by rcases hnm with rfl | rfl <;> decide⟩)
  fun i y v h bad hx hv r=>by
   obtain ⟨c,u,hc,rfl⟩:=hv
   unfold br at hx
   rw [List.getElem?_map,Array.getElem?_toList,hc] at hx
   (injection hx with hx; subst hx)
   exact .text rfl
theorem qh (hh:A.handled=none) (I:Addr) (a b:Int):Feed g A T I [I] [I] [] [] (a9 a b) (fun i h=>IsRangeIter h I (a+(i:Nat) * 1) (((b - a).toNat:Int) - (i:Nat)) 1):=
 Feed.ofWalks (Walks.range hh I a 1 (b - a).toNat) (by unfold a9; rw [zA4,List.length_range])
  (fun i h b st hb=>by obtain rfl:=zA6 hb; exact ⟨_,st,aU rfl⟩)
  (fun i h st=>⟨_,_,_,st,rfl,rfl,by decide⟩)
  fun i x v h bad hx hv r=>by
   obtain ⟨t,rfl⟩:=hv
   unfold a9 at hx
   rw [List.getElem?_map] at hx
   obtain ⟨j,hj,rfl⟩:=Option.map_eq_some_iff.mp hx
   rw [List.getElem?_range (by have:=(List.getElem?_eq_some_iff.mp hj).1; rwa [List.length_range] at this)] at hj
   (injection hj with hj; subst hj)
   rw [Int.mul_one]
   exact .int _ _
end
inductive FeedAt (Φ:Ct) (T:Expr) (st:Bool) (s₀ s₂:Shared) (it:Value) (l:List V):Prop
 | mk:∀ I fp wr vals l0 St,it=.ref I→Feed Φ.fx.g Φ.fx.A T I fp wr vals l0 l St→St 0 s₂.heap→Φ.rps s₀.heap vals l0→(∀ b∈wr,s₀.heap.get? b=none)→(∀ b∈fp,s₀.heap.get? b=none∨(st=true→¬ Φ.bad b))→l.length≤az→FeedAt Φ T st s₀ s₂ it l
noncomputable def fv (Φ:Ct) (T:Expr) (st:Bool) (iter:Expr) (d:(List V→Prop)→Prop):Prop:=∀ K s,d K→Inv Φ s→∀ (Q:Value→Shared→Prop) (E:Value→Shared→Prop),
 (∀ l s₀ it s₂,K l→Inv Φ s₀→aD s.heap s₀.heap→Grown s₀ s₂→FeedAt Φ T st s₀ s₂ it l→Q it s₂) →
 wpAny (model Φ.fx.g.prog Φ.fx.g.w) Φ.fx.A (eval iter Φ.fx.env) (fun x s₁=>wpAny (model Φ.fx.g.prog Φ.fx.g.w) Φ.fx.A (pyIter x) Q E s₁) E s
section
variable {Φ:Ct} [Hm Φ.fx] {s:Shared} {v:Value} {x:V} {l:List V} {T:Expr} {st:Bool} {d:DV} {E:Value→Shared→Prop}
theorem dx {b:Addr} {o:Obj} (e:s.heap.get? b=some o):b≠s.heap.objs.size:=Nat.ne_of_lt (Heap.lt_size e)
theorem ll {a:Addr} {o:Obj} {vs:Array Value} {n:Nat} (I:Inv Φ s) (hz:l.length≤az) (hb:st=true→¬ Φ.bad a) (ha:s.heap.get? a=some o) (hc:o.cls=.type "list") (hd:o.data=.seq vs n) (hl:Φ.rps s.heap vs.toList l) :
  wpAny (model Φ.fx.g.prog Φ.fx.g.w) Φ.fx.A (pyIter (.ref a)) (fun it s'=>Grown s s'∧FeedAt Φ T st s s' it l) E s:=by
 have hL:s.heap.IsList a vs:=⟨_,ha,hc,_,hd⟩
 refine wpAny_pyIter_list hL ⟨Grown.push s _ s.toks,_,_,_,_,_,_,rfl,tE (I.ok.hand Hm.no) _ a (dx ha) vs l (aY hl),⟨⟨_,Heap.get?_push_size _ rfl,rfl,rfl⟩,hL.push _⟩,hl,fun b q=>?_,fun b q=>?_,hz⟩
 ·obtain rfl:=zA6 q; exact ar _
 ·rcases List.mem_cons.mp q with rfl | q
  ·exact .inl (ar _)
  ·obtain rfl:=zA6 q; exact .inr hb
theorem zD (I:Inv Φ s) (e:bM x=some l) (r:Φ.rp s.heap v x):wpAny (model Φ.fx.g.prog Φ.fx.g.w) Φ.fx.A (pyIter v) (fun it s'=>Grown s s'∧FeedAt Φ T st s s' it l) E s:=by
 refine kT (C:=fun x l=>Φ.rp s.heap v x→wpAny (model Φ.fx.g.prog Φ.fx.g.w) Φ.fx.A (pyIter v) (fun it s'=>Grown s s'∧FeedAt Φ T st s s' it l) E s) e (fun l hz r=>?_) (fun l hz r=>?_) (fun t hz r=>?_) r
 ·exact r.list_elim fun a o vs n hb ha hc hd hl=>ll I hz (fun _=>hb) ha hc.1 hd hl
 ·refine r.tuple_elim fun a o vs n hb ha hc hd hl=>?_
  have hL:s.heap.IsTuple a vs:=⟨_,ha,hc,_,hd⟩
  refine wpAny_pyIter_tuple hL ⟨Grown.push s _ s.toks,_,_,_,_,_,_,rfl,qg (I.ok.hand Hm.no) _ a (dx ha) vs l (aY hl),⟨⟨_,Heap.get?_push_size _ rfl,rfl,rfl⟩,hL.at fun o e=>Heap.get?_push_of_some _ e⟩,hl,fun b q=>?_,fun b q=>?_,hz⟩
  ·obtain rfl:=zA6 q; exact ar _
  ·rcases List.mem_cons.mp q with rfl | q
   ·exact .inl (ar _)
   ·obtain rfl:=zA6 q; exact .inr fun _=>hb
 ·refine r.str_elim fun tk=>?_
  have mk:∀ nm (hnm:nm="str_ascii_iterator"∨nm="str_iterator") (o:Obj),Walks Φ.fx.g.prog Φ.fx.g.w Φ.fx.A s.heap.objs.size [s.heap.objs.size] [s.heap.objs.size] t.cps.size (SignAt t) (fun i h=>h.IsStrIter s.heap.objs.size nm t tk i)→(s.heap.push o).IsStrIter s.heap.objs.size nm t tk 0 →
    Grown s { s with heap:=s.heap.push o }∧FeedAt Φ T st s { s with heap:=s.heap.push o } (.ref s.heap.objs.size) (br t.cps.toList):=fun nm hnm o W st=>
   ⟨Grown.push s _ s.toks,_,_,_,_,_,_,rfl,u2 nm hnm _ t tk W,st,.nil,fun b q=>by obtain rfl:=zA6 q; exact ar _,fun b q=>by obtain rfl:=zA6 q; exact .inl (ar _),by unfold br; rw [zA4]; exact hz⟩
  cases ha:t.cps.all (· < 128)
  ·exact wpAny_pyIter_wide ha (mk _ (.inr rfl) _ (Walks.strWide (I.ok.hand Hm.no) _ t tk) ⟨_,Heap.get?_push_size _ rfl,rfl,rfl⟩)
  ·exact wpAny_pyIter_ascii ha (mk _ (.inl rfl) _ (Walks.strAscii (I.ok.hand Hm.no) _ t tk) ⟨_,Heap.get?_push_size _ rfl,rfl,rfl⟩)
theorem AH {e:Expr} (h:Ev Φ (eval e Φ.fx.env) d):fv Φ T st e (fun K=>d fun x=>okK (bM x) K):=fun K s hd I Q E hQ=>
 wpAny_mono (h _ s hd I E) (fun v s₁ ⟨B,k,x,hx,r⟩=>aj hx fun l e kl=>wpAny_mono (zD (I.keep B k) e r) (fun it s₂ p=>hQ l s₁ it s₂ kl (I.keep B k) k p.1 p.2) fun _ _ z=>z) fun _ _ z=>z
theorem jW {G:Gs} {k:Nat} {l:List V} (e:eF G k=some l):getSlot G k=.ownL l:=by
 unfold eF at e
 revert e
 cases getSlot G k with
 | ownL m=>exact fun e=>congrArg Slot.ownL (Option.some.inj e)
 | _=>exact fun e=>nomatch e
theorem wQ {n:Str} {k:Nat} {pos:Pos} (hx:Φ.fx.ρ.lookup n=some k) (hn:bX n=true):fv Φ T false (.Name n pos) (fun K=>okK (eF Φ.G k) fun l=>okK (bO l l) K):=fun K s hd I Q E hQ=>aj hd fun l e hk=>aj hk fun l' e' kl=>by
 refine fit_elim (C:=fun l'=>K l'→_) e' (fun hz kl=>?_) kl
 refine uH (C:=fun _=>True) (sl:=.ownL l) hx hn I (jW e) id (fun a u ha ow=>?_) E
 obtain ⟨rfl,o,vs,n,ho,hc,hd,hl⟩:=ow
 exact wpAny_mono (ll (st:=false) (T:=T) I hz (fun q=>nomatch q) ho hc.1 hd hl) (fun it s₂ p=>hQ l s it s₂ kl I (.refl _) p.1 p.2) fun _ _ z=>z
theorem rOk_of {i:Int} (h:rOk i=true):-(2 ^ 62)≤i∧i < 2 ^ 62:=by
 have:=Nat.le_of_ble_eq_true h
 omega
theorem jh {a b:Int} {r:Addr} {t u w:Tok} {s₀:Shared} (I:Inv Φ s₀) (h1:rOk a=true∧rOk b=true) (hz:(a9 a b).length≤az) (hr:IsRange s.heap r a b 1 t u w) (gr:Grown s₀ s) :
  wpAny (model Φ.fx.g.prog Φ.fx.g.w) Φ.fx.A (pyIter (.ref r)) (fun it s'=>Grown s₀ s'∧FeedAt Φ T st s₀ s' it (a9 a b)) E s:=by
 have qa:=rOk_of h1.1
 have qb:=rOk_of h1.2
 refine wpAny_pyIter_range hr (small_one qa.1 qa.2 qb.1 qb.2) ?_
 have n0:s₀.heap.get? s.heap.objs.size=none:=aK gr.keeps.live (ar _)
 refine ⟨gr.trans (Grown.push s _ s.toks),_,_,_,_,_,_,rfl,qh (I.ok.hand Hm.no) _ a b,?_,.nil,fun c hc=>by obtain rfl:=zA6 hc; exact n0,fun c hc=>by obtain rfl:=zA6 hc; exact .inl n0,hz⟩
 have e1:a+((0:Nat):Int) * 1=a:=by simp
 have e2:((b - a).toNat:Int) - ((0:Nat):Int)=Builtin.Range.rangeSize a b 1:=by rw [rangeSize_one]; split <;> omega
 refine (?_:IsRangeIter _ _ (a+((0:Nat):Int) * 1) (((b - a).toNat:Int) - ((0:Nat):Int)) 1)
 rw [e1,e2]
 exact Heap.get?_push_size _ rfl
noncomputable abbrev dP (Φ:Ct) (T:Expr) (st:Bool) (s:Shared) (E:Value→Shared→Prop) (F:String) (l:List V) (vs:List Value):Prop:=
 wpAny (model Φ.fx.g.prog Φ.fx.g.w) Φ.fx.A (call (.type F) vs) (fun z s₁=>wpAny (model Φ.fx.g.prog Φ.fx.g.w) Φ.fx.A (pyIter z) (fun it s'=>Grown s s'∧FeedAt Φ T st s s' it l) E s₁) E s
theorem oj {f:Str} {F:String} {fp pos:Pos} {qs:List (Expr×DV)} {op:List V→Option V} (hx:aZ Φ.fx.env.scope.names f=true) (hF:bu.lookup f=some (.type F)) (hq:∀ q∈qs,ao q.1=true∧bg Φ q)
  (hop:∀ s vs xs z l E,Inv Φ s→Φ.rps s.heap vs xs→op xs=some z→bM z=some l→dP Φ T st s E F l vs) :
  fv Φ T st (.Call (.Name f fp) (qs.map Prod.fst) [] pos) (fun K=>bo (qs.map Prod.snd) fun xs=>okK (op xs) fun z=>okK (bM z) K):=fun K s hd I Q E hQ=>by
 refine (?_:wpAny _ _ (eval (.Name f fp) Φ.fx.env >>= fun F=>callWith pos F [] (backTo pos (starEach (qs.map Prod.fst) Φ.fx.env)) []) _ _ s)
 refine zC1 (bT I hx hF ?_ E)
 refine PySem.callWith_type (fb (cL fun q m=>(hq q m).1)) (cT hq hd I fun vs xs s₁ I₁ k₁ hx rs=>aj hx fun z e hz=>aj hz fun l el kl=>?_)
 exact wpAny_mono (hop s₁ vs xs z l E I₁ rs e el) (fun z s₂ p=>wpAny_mono p (fun it s₃ p=>hQ l s₁ it s₃ kl I₁ k₁ p.1 p.2) fun _ _ z=>z) fun _ _ z=>z
theorem ik {a b:Int} {z:V} (e:mX a b=some z) (el:bM z=some l) {C:List V→Prop} (k:rOk a=true∧rOk b=true→(a9 a b).length≤az→C (a9 a b)):C l:=
 cr e fun h1 e=>fit_elim (C:=fun z=>bM z=some l→C l) e (fun hz el=>fit_elim (C:=C) el fun _=>k h1 hz) el
theorem ta {fp pos:Pos} {qs:List (Expr×DV)} (hx:aZ Φ.fx.env.scope.names "range"=true) (hq:∀ q∈qs,ao q.1=true∧bg Φ q) :
  fv Φ T st (.Call (.Name "range" fp) (qs.map Prod.fst) [] pos) (fun K=>bo (qs.map Prod.snd) fun xs=>okK (opN .range xs) fun z=>okK (bM z) K):=by
 refine oj (F:="range") hx rfl hq fun s vs xs z l E I rs e el=>?_
 cases rs with
 | nil=>(injection e; done)
 | cons r rs=>
  cases rs with
  | nil=>exact bx (f:=fun b=>mX 0 b) (C:=fun x=>Φ.rp s.heap _ x→dP Φ T st s E "range" l [_]) e (fun b e r=>r.int_elim (C:=fun v=>dP Φ T st s E "range" l [v]) fun t=>ik (C:=fun l=>dP Φ T st s E "range" l [.int b t]) e el fun h1 hz=>call_range_1 (jh I h1 hz (IsRange.new ..) (Grown.push s _ _))) r
  | cons r' rs=>
   cases rs with
   | nil=>exact cP (C:=fun v u=>dP Φ T st s E "range" l [v,u]) e r r' fun a b t t' e=>ik (C:=fun l=>dP Φ T st s E "range" l [.int a t,.int b t']) e el fun h1 hz=>call_range_2 (jh I h1 hz (IsRange.new ..) (Grown.push s _ _))
   | cons _ _=>(injection e; done)
end
end Mine
end
noncomputable section
namespace Mine
open PySem PySem.Calls PyProof.Rows PySem.W
noncomputable def eC (h:Heap) (k:Bool) (l:Addr) (xs:Array Value):Prop:=match k with
 | true=>h.IsList l xs
 | false=>h.IsTuple l xs
noncomputable def fY (h:Heap) (k:Bool) (it l:Addr) (i:Nat):Prop:=match k with
 | true=>h.IsListIter it l i
 | false=>h.IsTupleIter it l i
theorem eC.at {h h':Heap} {k:Bool} {l:Addr} {xs:Array Value} (x:eC h k l xs) (e:∀ o,h.get? l=some o→h'.get? l=some o):eC h' k l xs:=by
 cases k
 ·exact Heap.IsTuple.at x e
 ·exact Heap.IsList.at x e
theorem fY.at {h h':Heap} {k:Bool} {it l:Addr} {i:Nat} (x:fY h k it l i) (e:∀ o,h.get? it=some o→h'.get? it=some o):fY h' k it l i:=by
 cases k
 ·exact Heap.IsTupleIter.at x e
 ·exact Heap.IsListIter.at x e
theorem fY.lt {h:Heap} {k:Bool} {it l:Addr} {i:Nat} (x:fY h k it l i):d4 h it∧it < h.objs.size:=by
 cases k
 ·obtain ⟨o,e,c,_⟩:=x; exact ⟨⟨o,e,aU c⟩,Heap.lt_size e⟩
 ·obtain ⟨o,e,c,_⟩:=x; exact ⟨⟨o,e,aU c⟩,Heap.lt_size e⟩
theorem eC.liveN {h:Heap} {k:Bool} {l:Addr} {xs:Array Value} (x:eC h k l xs):d4 h l:=by
 cases k
 ·obtain ⟨o,e,c,_⟩:=x; exact ⟨o,e,aU c⟩
 ·obtain ⟨o,e,c,_⟩:=x; exact ⟨o,e,aU c⟩
theorem eC.live {h:Heap} {k:Bool} {l:Addr} {xs:Array Value} (x:eC h k l xs):aW h l:=x.liveN.live
section
variable {prog:Program} {w:World} {A:Around} {E:Value→Shared→Prop} {s:Shared}
theorem il {k:Bool} {it l:Addr} {i:Nat} {items} {x:Value} {Q:Value→Shared→Prop} (hit:fY s.heap k it l i) (hl:eC s.heap k l items) (hx:items[i]?=some x)
  (hQ:∀ h',fY h' k it l (i+1)→Heap.SameBut it s.heap h'→Q x { s with heap:=h' }):wpAny (model prog w) A (Builtin.SmallTypes.nextOf (.ref it)) Q E s:=by
 cases k with
 | true=>exact wpAny_nextOf_list_item hit hl hx hQ
 | false=>
  obtain ⟨o,ho,hc,hd⟩:=id hit
  obtain ⟨ol,hol,_,nl,hdl⟩:=hl
  have hT:s.TypeIs (.ref it) "tuple_iterator":=⟨o,ho,hc⟩
  refine zC1 (wpAny_callSpecial?_slot (name:=Str.ofString "__next__") hT PySem.F.slot_tuple_iterator_next
   (wpAny_call_entry PySem.F.slot_tuple_iterator_next hT PySem.F.entry_tuple_iterator_next ?_ (PySem.F.args_tuple_iterator_next_1 _)))
  refine (?_:wpAny _ _ (field (.ref it) 0 >>= _) _ _ s)
  refine zC1 (wpAny_field ho hd (x:=.ref l) rfl ?_)
  refine wpAny_ite_false (c:=(Value.ref l==Value.none)=true) rfl (zC1 (wpAny_field ho hd (x:=.int i 0) rfl ?_))
  refine (?_:wpAny _ _ (seqItems? (.ref l) >>= _) _ _ s)
  refine zC1 (wpAny_seqItems hol hdl ?_)
  dsimp only
  refine (hx:items[(i:Int).toNat]?=_).symm▸zC1 (wpAny_setField ho hd (by simp) (zC2 ⟨x,rfl,zC2 (hQ _ ?_ (Heap.SameBut.update ..))⟩))
  exact ⟨_,Heap.get?_update_self _ ho (Obj.isFreed_of_fields (Obj.data_mapFields hd _)),(Obj.cls_mapFields ..).trans hc,by rw [Obj.data_mapFields hd]; simp [rawInt]⟩
theorem jb {k:Bool} {it l:Addr} {i:Nat} {items} {Q:Value→Shared→Prop} (hh:A.handled=none) (hit:fY s.heap k it l i) (hl:eC s.heap k l items) (hx:items[i]?=none)
  (hE:∀ h' e,Heap.ExtBut it s.heap h'→(∃ o,h'.get? e=some o∧o.cls=.type "StopIteration")→E (.ref e) { s with heap:=h' }):wpAny (model prog w) A (Builtin.SmallTypes.nextOf (.ref it)) Q E s:=by
 cases k with
 | true=>exact wpAny_nextOf_list_end hh hit hl hx hE
 | false=>
  obtain ⟨o,ho,hc,hd⟩:=id hit
  obtain ⟨ol,hol,_,nl,hdl⟩:=hl
  have hT:s.TypeIs (.ref it) "tuple_iterator":=⟨o,ho,hc⟩
  refine zC1 (wpAny_callSpecial?_slot (name:=Str.ofString "__next__") hT PySem.F.slot_tuple_iterator_next
   (wpAny_call_entry PySem.F.slot_tuple_iterator_next hT PySem.F.entry_tuple_iterator_next ?_ (PySem.F.args_tuple_iterator_next_1 _)))
  refine (?_:wpAny _ _ (field (.ref it) 0 >>= _) _ _ s)
  refine zC1 (wpAny_field ho hd (x:=.ref l) rfl ?_)
  refine wpAny_ite_false (c:=(Value.ref l==Value.none)=true) rfl (zC1 (wpAny_field ho hd (x:=.int i 0) rfl ?_))
  refine (?_:wpAny _ _ (seqItems? (.ref l) >>= _) _ _ s)
  refine zC1 (wpAny_seqItems hol hdl ?_)
  dsimp only
  refine (hx:items[(i:Int).toNat]?=_).symm▸zC1 (wpAny_rule (zC1 (wpAny_setField ho hd (by simp) ?_)))
  refine (?_:wpAny _ _ (newExc (.type "StopIteration") [] >>= _) _ _ _)
  refine zC1 (zC1 (wpAny_newObj_type (zC1 (wpAny_of_eq (a:=Value.none) rfl (wpAny_newObj_type ?_ (by size_fits)))) (by size_fits)))
  refine wpAny_raiseNew_none (hh:A.in1.handled=none) ?_
  exact hE _ _ (((Heap.SameBut.update ..).extBut.push _).push _) ⟨_,Heap.get?_push_size _ rfl,rfl⟩
theorem ym:0 < 5:=by decide
theorem BV:1 < 5:=by decide
theorem q6 {c1 c2:Bool} {z TI TO i1 i2 l1 l2:Addr} {k:Nat} {xs ys:Array Value} {a b:Value} {Q:Fin→Shared→Prop} (hh:A.handled=none) (D:ZipApart z TI TO i1 i2 l1 l2)
  (hz:IsZip s.heap z TI TO .none) (hTI:IsPair s.heap TI (.ref i1) (.ref i2)) (hTO:IsPair s.heap TO a b)
  (h1:fY s.heap c1 i1 l1 k) (h2:fY s.heap c2 i2 l2 k) (hl1:eC s.heap c1 l1 xs) (hl2:eC s.heap c2 l2 ys)
  (hQ:∀ x y h',xs[k]?=some x→ys[k]?=some y→IsZip h' z TI TO (rawInt s.heap.objs.size)→IsPair h' TO x y→fY h' c1 i1 l1 (k+1)→fY h' c2 i2 l2 (k+1)→IsPair h' s.heap.objs.size x y →
   (∀ c o,c≠z→c≠TO→c≠i1→c≠i2→s.heap.get? c=some o→h'.get? c=some o)→Q (.done (.ret (.ref s.heap.objs.size))) { s with heap:=h' })
  (hE:(xs[k]?=none∨ys[k]?=none)→∀ h' e,(∀ c o,c≠z→c≠TO→c≠i1→c≠i2→s.heap.get? c=some o→h'.get? c=some o)→(∃ o,h'.get? e=some o∧o.cls=.type "StopIteration")→E (.ref e) { s with heap:=h' }) :
  wpAny (model prog w) A (Builtin.«zip.__next__» ⟨[.ref z],[]⟩) Q E s:=by
 have hne:∀ {h:Heap} {e:Addr} {oe:Obj},IsZip h z TI TO .ellipsis→h.get? e=some oe→oe.cls=.type "StopIteration"→e≠z:=fun hz₂ hoe hce x=>by
  subst x; (injection hz₂.symm.trans hoe with Xq; subst Xq); exact absurd (show Value.type "zip"=Value.type "StopIteration" from hce) (by decide)
 refine (?_:wpAny _ _ (field (.ref z) 2 >>= _) _ _ _)
 refine zC1 (wpAny_field hz rfl (x:=.bool false) rfl ?_)
 refine (?_:wpAny _ _ (field (.ref z) 3 >>= _) _ _ _)
 refine zC1 (wpAny_field hz rfl (x:=.ref TI) rfl ?_)
 refine zC1 (wpAny_seqItems hTI rfl ?_)
 refine wpAny_bind (m:=Builtin.SmallTypes.ownedTupleIsFree (.ref z)) (zC1 (wpAny_field hz rfl (x:=.none) rfl (zC2 ?_)))
 refine wpAny_ite_true rfl (zC1 (wpAny_rule ?_))
 refine zC1 (wpAny_field hz rfl (x:=.ref TO) rfl ?_)
 refine zC1 (wpAny_setField_rec hz ym fun h₁ hz₁ hs₁=>?_)
 replace hz₁:IsZip h₁ z TI TO .ellipsis:=hz₁
 refine zC1 ?_
 simp only [List.zipIdx_cons,List.zipIdx_nil,List.forIn_cons,List.forIn_nil]
 refine zC1 (zC1 (wpAny_onRaise ?_))
 refine (?_:wpAny _ _ (Builtin.SmallTypes.nextOf (.ref i1) >>= _) _ _ _)
 cases hx:xs[k]? with
 | none=>
  refine zC1 (jb hh (h1.at fun o e=>hs₁.extBut _ o D.i1z e) (hl1.at fun o e=>hs₁.extBut _ o D.l1z e) hx fun h₂ e hs₂ ⟨oe,hoe,hce⟩=>?_)
  have hz₂:IsZip h₂ z TI TO .ellipsis:=hs₂ _ _ D.i1z.symm hz₁
  exact wpAny_setField_rec hz₂ ym fun h₃ _ hs₃=>hE (.inl hx) h₃ e (fun c o c1 _ c3 _ x=>hs₃.extBut _ _ c1 (hs₂ _ _ c3 (hs₁.extBut _ _ c1 x))) ⟨oe,hs₃.extBut _ _ (hne hz₂ hoe hce) hoe,hce⟩
 | some x=>
 refine zC1 (il (h1.at fun o e=>hs₁.extBut _ o D.i1z e) (hl1.at fun o e=>hs₁.extBut _ o D.l1z e) hx fun h₂ h1₂ hs₂=>zC2 ?_)
 have hTO₂:IsPair h₂ TO a b:=hs₂.extBut _ _ D.TOi1 (hs₁.extBut _ _ D.TOz hTO)
 refine zC1 (wpAny_seqItems hTO₂ rfl ?_)
 refine zC1 (wpAny_updateSeq_pair hTO₂ fun h₃ hTO₃ hs₃=>?_)
 replace hTO₃:IsPair h₃ TO x b:=hTO₃
 refine zC1 (wpAny_letGo (zC2 ?_))
 refine zC1 (zC1 (wpAny_onRaise ?_))
 refine (?_:wpAny _ _ (Builtin.SmallTypes.nextOf (.ref i2) >>= _) _ _ _)
 have h2₃:fY h₃ c2 i2 l2 k:=h2.at fun o e=>hs₃.extBut _ o D.TOi2.symm (hs₂.extBut _ o D.i12.symm (hs₁.extBut _ o D.i2z e))
 have hl2₃:eC h₃ c2 l2 ys:=hl2.at fun o e=>hs₃.extBut _ o D.l2TO (hs₂.extBut _ o D.l2i1 (hs₁.extBut _ o D.l2z e))
 have hz₃:IsZip h₃ z TI TO .ellipsis:=hs₃.extBut _ _ D.TOz.symm (hs₂.extBut _ _ D.i1z.symm hz₁)
 have hk₃:∀ c o,c≠z→c≠TO→c≠i1→s.heap.get? c=some o→h₃.get? c=some o:=fun c o c1 c2 c3 e=>hs₃.extBut _ _ c2 (hs₂.extBut _ _ c3 (hs₁.extBut _ _ c1 e))
 cases hy:ys[k]? with
 | none=>
  refine zC1 (jb hh h2₃ hl2₃ hy fun h₄ e hs₄ ⟨oe,hoe,hce⟩=>?_)
  have hz₄:IsZip h₄ z TI TO .ellipsis:=hs₄ _ _ D.i2z.symm hz₃
  exact wpAny_setField_rec hz₄ ym fun h₅ _ hs₅=>hE (.inr hy) h₅ e (fun c o c1 c2 c3 c4 x=>hs₅.extBut _ _ c1 (hs₄ _ _ c4 (hk₃ c o c1 c2 c3 x))) ⟨oe,hs₅.extBut _ _ (hne hz₄ hoe hce) hoe,hce⟩
 | some y=>
 refine zC1 (il h2₃ hl2₃ hy fun h₄ h2₄ hs₄=>zC2 ?_)
 have hTO₄:IsPair h₄ TO x b:=hs₄.extBut _ _ D.TOi2 hTO₃
 refine zC1 (wpAny_seqItems hTO₄ rfl ?_)
 refine zC1 (wpAny_updateSeq_pair hTO₄ fun h₅ hTO₅ hs₅=>?_)
 replace hTO₅:IsPair h₅ TO x y:=hTO₅
 refine zC1 (wpAny_letGo (zC2 (zC2 ?_)))
 refine zC1 (wpAny_seqItems hTO₅ rfl ?_)
 refine zC1 (wpAny_newTuple ?_)
 have hsz:h₅.objs.size=s.heap.objs.size:=hs₅.1.trans (hs₄.1.trans (hs₃.1.trans (hs₂.1.trans hs₁.1)))
 have hz₅:IsZip h₅ z TI TO .ellipsis:=hs₅.extBut _ _ D.TOz.symm (hs₄.extBut _ _ D.i2z.symm hz₃)
 have hn:h₅.objs.size≠z:=Nat.ne_of_gt (Heap.lt_size hz₅)
 refine wpAny_bind (m:=Builtin.SmallTypes.ownedTupleHandOut (.ref z) (.ref h₅.objs.size)) (zC1 (wpAny_setField_rec (Heap.get?_push_of_some _ hz₅) ym fun h₇ hz₇ hs₇=>?_))
 refine wpAny_setField_rec hz₇ BV fun h₈ hz₈ hs₈=>?_
 have up:∀ c o,c≠z→h₅.get? c=some o→h₈.get? c=some o:=fun c o c1 e=>hs₈.extBut _ _ c1 (hs₇.extBut _ _ c1 (Heap.get?_push_of_some _ e))
 refine zC2 ?_
 have fin:=hQ x y h₈ hx hy
 rw [← hsz] at fin
 exact fin hz₈ (up _ _ D.TOz hTO₅) (h1₂.at fun o e=>up _ o D.i1z (hs₅.extBut _ o D.TOi1.symm (hs₄.extBut _ o D.i12 (hs₃.extBut _ o D.TOi1.symm e)))) (h2₄.at fun o e=>up _ o D.i2z (hs₅.extBut _ o D.TOi2.symm e))
  (hs₈.extBut _ _ hn (hs₇.extBut _ _ hn (Heap.get?_push_size _ rfl))) fun c o c1 c2 c3 c4 e=>up c o c1 (hs₅.extBut _ _ c2 (hs₄.extBut _ _ c4 (hk₃ c o c1 c2 c3 e)))
end
theorem mc {P:Addr→Prop} {a:Addr} {l:List Addr} (h:P a) (t:∀ x∈l,P x):∀ x∈a :: l,P x:=zA1 ⟨h,t⟩
theorem Ap {P:Addr→Prop} {a b c d:Addr} (h1:P a) (h2:P b) (h3:P c) (h4:P d):∀ x∈[a,b,c,d],P x:=mc h1 (mc h2 (mc h3 (mc h4 fun _ m=>nomatch m)))
theorem Br {P:Addr→Prop} {a b c d e f g:Addr} (h1:P a) (h2:P b) (h3:P c) (h4:P d) (h5:P e) (h6:P f) (h7:P g):∀ x∈[a,b,c,d,e,f,g],P x:=mc h1 (mc h2 (mc h3 (Ap h4 h5 h6 h7)))
theorem nm4 {x a b c d:Addr} (h:x∉[a,b,c,d]):x≠a∧x≠b∧x≠c∧x≠d:=
 ⟨fun e=>h (e▸.head _),fun e=>h (e▸.tail _ (.head _)),fun e=>h (e▸.tail _ (.tail _ (.head _))),fun e=>h (e▸.tail _ (.tail _ (.tail _ (.head _))))⟩
theorem RpAll.unapp {g:Gl} {bad:Addr→Prop} {h:Heap} {v:List Value} {m:List V} {u:List Value}:∀ {l:List V},u.length=l.length→RpAll g bad h (u++v) (l++m)→RpAll g bad h u l∧RpAll g bad h v m:=by
 induction u with
 | nil=>intro l e x; obtain rfl:=List.length_eq_zero_iff.mp e.symm; exact ⟨.nil,x⟩
 | cons a u ih=>
  intro l e x
  cases l with
  | nil=>exact nomatch e
  | cons b l=>cases x with | cons y x=>exact (ih (Nat.succ.inj e) x).imp_left (.cons y)
structure ZipSt (c1 c2:Bool) (z TI TO i1 i2 l1 l2:Addr) (xs ys:Array Value) (i:Nat) (h:Heap):Prop where
 z:IsZip h z TI TO .none
 ti:IsPair h TI (.ref i1) (.ref i2)
 to:∃ a b,IsPair h TO a b
 h1:fY h c1 i1 l1 i
 h2:fY h c2 i2 l2 i
 hl1:eC h c1 l1 xs
 hl2:eC h c2 l2 ys
theorem uc {l r:List V} {i:Nat} {x:V} (e:(pn l r)[i]?=some x):∃ a b,l[i]?=some a∧r[i]?=some b∧x=.tuple [a,b]:=by
 unfold pn at e
 rw [List.getElem?_zipWith] at e
 revert e
 cases l[i]? with
 | none=>exact fun e=>nomatch e
 | some a=>cases r[i]? with
  | none=>exact fun e=>nomatch e
  | some b=>exact fun e=>⟨_,_,rfl,rfl,(Option.some.inj e).symm⟩
theorem ia (l r:List V):(pn l r).length=min l.length r.length:=List.length_zipWith
theorem u1 {g:Gl} {A:Around} (hh:A.handled=none) {elts:List Expr} {kk:Nat} {pos:Pos} {c1 c2:Bool} {z TI TO i1 i2 l1 l2:Addr} (D:ZipApart z TI TO i1 i2 l1 l2) (xs ys:Array Value) (la lb:List V) (hla:xs.size=la.length) (hlb:ys.size=lb.length) :
  Feed g A (.Tuple elts kk pos) z [z,TI,TO,i1,i2,l1,l2] [z,TO,i1,i2] (xs.toList++ys.toList) (la++lb) (pn la lb) (ZipSt c1 c2 z TI TO i1 i2 l1 l2 xs ys) where
 sub:=Ap (.head _) (.tail _ (.tail _ (.head _))) (.tail _ (.tail _ (.tail _ (.head _)))) (.tail _ (.tail _ (.tail _ (.tail _ (.head _)))))
 frame:=fun i h h' st hk=>st.to.elim fun a ⟨b,e⟩=>
  have m4:TO∈[z,TI,TO,i1,i2,l1,l2]:=.tail _ (.tail _ (.head _))
  have t:∀ x∈[i1,i2,l1,l2],∀ o,h.get? x=some o→h'.get? x=some o:=fun x m=>hk x (.tail _ (.tail _ (.tail _ m)))
  ⟨hk z (.head _) _ st.z,hk TI (.tail _ (.head _)) _ st.ti,⟨a,b,hk TO m4 _ e⟩,st.h1.at (t _ (.head _)),st.h2.at (t _ (.tail _ (.head _))),st.hl1.at (t _ (.tail _ (.tail _ (.head _)))),st.hl2.at (t _ (.tail _ (.tail _ (.tail _ (.head _)))))⟩
 live:=fun i h b st hb=>st.to.elim fun a ⟨b',hto⟩=>Br (P:=d4 h) ⟨_,st.z,aU rfl⟩ ⟨_,st.ti,aU rfl⟩ ⟨_,hto,aU rfl⟩ st.h1.lt.1 st.h2.lt.1 st.hl1.liveN st.hl2.liveN b hb
 item:=fun i x s bad Q E hx st hv hb hw hQ=>by
  obtain ⟨xa,xb,ha,hbb,rfl⟩:=uc hx
  have hv:=RpAll.unapp hla hv
  obtain ⟨va,eva,ra⟩:=hv.1.get ha
  obtain ⟨vb,evb,rb⟩:=hv.2.get hbb
  replace eva:=Array.getElem?_toList.symm.trans eva
  replace evb:=Array.getElem?_toList.symm.trans evb
  obtain ⟨a,b,hto⟩:=st.to
  have hT:s.TypeIs (.ref z) "zip":=⟨_,st.z,rfl⟩
  unfold pyNext
  refine zC1 (wpAny_attempt (wpAny_callSpecial?_slot (name:=Str.ofString "__next__") hT PySem.F.slot_zip_next
   (wpAny_call_entry PySem.F.slot_zip_next hT PySem.F.entry_zip_next
    (q6 hh D st.z st.ti hto st.h1 st.h2 st.hl1 st.hl2 (fun x y h' ex ey a1 a2 a3 a4 a5 hk=>⟨_,rfl,zC2 ?_⟩) fun q=>q.elim (fun q=>nomatch eva.symm.trans q) fun q=>nomatch evb.symm.trans q) (PySem.F.args_zip_next_1 _))))
  (injection eva.symm.trans ex with Xq; subst Xq)
  (injection evb.symm.trans ey with Xq; subst Xq)
  refine ⟨_,rfl,wpAny_letOwnedTupleGo_zip a1 fun h'' hz' hs'=>?_⟩
  have up:∀ c o,c∉[z,TO,i1,i2]→s.heap.get? c=some o→h''.get? c=some o:=fun c o hc e=>
   have hc:=nm4 hc
   hs'.extBut _ _ hc.1 (hk c o hc.1 hc.2.1 hc.2.2.1 hc.2.2.2 e)
  have hnew:s.heap.objs.size≠z:=Nat.ne_of_gt (Heap.lt_size st.z)
  have kb:eQ bad bad s.heap h'':=fun c o e _ nb=>⟨nb,up c o (fun m=>nb (hw c m)) e⟩
  refine hQ _ h'' s.toks ⟨hz',?_,⟨_,_,hs'.extBut _ _ D.TOz a2⟩,a3.at fun o e=>hs'.extBut _ o D.i1z e,a4.at fun o e=>hs'.extBut _ o D.i2z e,?_,?_⟩ up (.tuple (fun q=>by obtain ⟨o,e⟩:=hb _ q; rw [ar] at e; (injection e; done)) (hs'.extBut _ _ hnew a5) rfl rfl ?_)
  ·exact hs'.extBut _ _ D.TIz (hk _ _ D.TIz D.TITO D.TIi1 D.TIi2 st.ti)
  ·exact st.hl1.at fun o e=>hs'.extBut _ o D.l1z (hk _ o D.l1z D.l1TO D.l1i1 D.l1i2 e)
  ·exact st.hl2.at fun o e=>hs'.extBut _ o D.l2z (hk _ o D.l2z D.l2TO D.l2i1 D.l2i2 e)
  ·exact .cons (ra.map kb) (.cons (rb.map kb) .nil)
 done:=fun s Q E st hQ=>by
  obtain ⟨a,b,hto⟩:=st.to
  have hT:s.TypeIs (.ref z) "zip":=⟨_,st.z,rfl⟩
  unfold pyNext
  refine zC1 (wpAny_attempt (wpAny_callSpecial?_slot (name:=Str.ofString "__next__") hT PySem.F.slot_zip_next
   (wpAny_call_entry PySem.F.slot_zip_next hT PySem.F.entry_zip_next (q6 hh D st.z st.ti hto st.h1 st.h2 st.hl1 st.hl2 (fun x y h' ex ey _ _ _ _ _ _=>?_) fun _ h' e hk he=>?_) (PySem.F.args_zip_next_1 _))))
  ·exact absurd (Nat.lt_min.mpr ⟨hla▸(Array.getElem?_eq_some_iff.mp ex).1,hlb▸(Array.getElem?_eq_some_iff.mp ey).1⟩) (Nat.not_lt.mpr (zB2 (ia la lb).symm))
  ·obtain ⟨o,ho,hc⟩:=he
   refine zC1 (wpAny_isInstance (T:="StopIteration") (b:=true) ⟨o,ho,hc⟩ isSubtype_stop ?_)
   refine zC2 ⟨rfl,hQ _ s.toks fun c o hc e=>?_⟩
   have hc:=nm4 hc
   exact hk c o hc.1 hc.2.1 hc.2.2.1 hc.2.2.2 e
 self:=fun i s Q E st hQ=>wpAny_pyIter_zip st.z hQ
section
variable {A:Around} {E:Value→Shared→Prop} {s:Shared}
noncomputable def pV (c:Bool) (l:Addr):Obj:={ cls:=.type (if c then "list_iterator" else "tuple_iterator"),data:=.fields #[.ref l,.int 0 0] }
theorem oQ {h:Heap} {c:Bool} {l i:Addr} (e:h.get? i=some (pV c l)):fY h c i l 0:=by
 cases c
 ·exact ⟨_,e,rfl,rfl⟩
 ·exact ⟨_,e,rfl,rfl⟩
theorem kY {prog:Program} {w:World} {c:Bool} {l:Addr} {xs:Array Value} {Q:Value→Shared→Prop} (h:eC s.heap c l xs) (hQ:Q (.ref s.heap.objs.size) { s with heap:=s.heap.push (pV c l) }):wpAny (model prog w) A (pyIter (.ref l)) Q E s:=by
 cases c
 ·exact wpAny_pyIter_tuple h hQ
 ·exact wpAny_pyIter_list h hQ
noncomputable def zH1 (h:Heap) (c1:Bool) (l1:Addr):Heap:=h.push (pV c1 l1)
noncomputable def zH2 (h:Heap) (c1 c2:Bool) (l1 l2:Addr):Heap:=(zH1 h c1 l1).push (pV c2 l2)
noncomputable def zH3 (h:Heap) (c1 c2:Bool) (l1 l2:Addr):Heap:=(zH2 h c1 c2 l1 l2).push { cls:=.type "tuple",data:=.seq #[.ref h.objs.size,.ref (zH1 h c1 l1).objs.size] }
noncomputable def zH4 (h:Heap) (c1 c2:Bool) (l1 l2:Addr):Heap:=(zH3 h c1 c2 l1 l2).push { cls:=.type "tuple",data:=.seq #[.none,.none] }
noncomputable def zH5 (h:Heap) (c1 c2:Bool) (l1 l2:Addr):Heap:=(zH4 h c1 c2 l1 l2).push { cls:=.type "zip",data:=.fields #[.none,.bool false,.bool false,.ref (zH2 h c1 c2 l1 l2).objs.size,.ref (zH3 h c1 c2 l1 l2).objs.size] }
theorem sW (c1 c2:Bool) (l1 l2:Addr) (xs ys:Array Value) :
  Meets (Builtin.«zip.__new__» ⟨[.type "zip",.ref l1,.ref l2],[]⟩) (fun _ R s=>eC s.heap c1 l1 xs∧eC s.heap c2 l2 ys ∧
   R (.ok (.ret (.ref (zH4 s.heap c1 c2 l1 l2).objs.size))) { s with heap:=zH5 s.heap c1 c2 l1 l2 }):=
 .of_wp fun prog w A R s h=>by
  obtain ⟨hp,g,d,tk,os⟩:=s; obtain ⟨hl1,hl2,h⟩:=h
  have hsub:=sub_zip
  have hL1:eC (Shared.heap ⟨hp,g,d,tk,os⟩) c1 l1 xs:=hl1
  have hL2:eC (Shared.heap ⟨hp.push (pV c1 l1),g,d,tk,os⟩) c2 l2 ys:=hl2.at fun o e=>Heap.get?_push_of_some _ e
  wp_walk using kY hL1,kY hL2
  exact ⟨_,rfl,h⟩
theorem uN {prog:Program} {w:World} {c1 c2:Bool} {l1 l2:Addr} {xs ys:Array Value} {Q:Value→Shared→Prop} (hl1:eC s.heap c1 l1 xs) (hl2:eC s.heap c2 l2 ys)
  (h:∀ h',IsZip h' (s.heap.objs.size+4) (s.heap.objs.size+2) (s.heap.objs.size+3) .none→IsPair h' (s.heap.objs.size+2) (.ref s.heap.objs.size) (.ref (s.heap.objs.size+1)) →
   IsPair h' (s.heap.objs.size+3) .none .none→fY h' c1 s.heap.objs.size l1 0→fY h' c2 (s.heap.objs.size+1) l2 0 →
   (∀ c o,s.heap.get? c=some o→h'.get? c=some o)→Q (.ref (s.heap.objs.size+4)) { s with heap:=h' }) :
  wpAny (model prog w) A (call (.type "zip") [.ref l1,.ref l2]) Q E s:=by
 refine callType_new PySem.F.called_zip (by decide) (PySem.F.typeCall_zip_2 _ _) (PySem.F.newCall_zip_2 _ _) (fun obj=>PySem.F.args_object_init_3 obj _ _) PySem.F.entry_zip_new
  (sW c1 c2 l1 l2 xs ys) ⟨hl1,hl2,?_⟩
 have z1:(zH1 s.heap c1 l1).objs.size=s.heap.objs.size+1:=Heap.size_push ..
 have z2:(zH2 s.heap c1 c2 l1 l2).objs.size=s.heap.objs.size+2:=by unfold zH2; rw [Heap.size_push,z1]
 have z3:(zH3 s.heap c1 c2 l1 l2).objs.size=s.heap.objs.size+3:=by unfold zH3; rw [Heap.size_push,z2]
 have z4:(zH4 s.heap c1 c2 l1 l2).objs.size=s.heap.objs.size+4:=by unfold zH4; rw [Heap.size_push,z3]
 have g5:(zH5 s.heap c1 c2 l1 l2).get? (zH4 s.heap c1 c2 l1 l2).objs.size=some _:=Heap.get?_push_size _ rfl
 have g4:(zH5 s.heap c1 c2 l1 l2).get? (zH3 s.heap c1 c2 l1 l2).objs.size=some _:=Heap.get?_push_of_some _ (Heap.get?_push_size _ rfl)
 have g3:(zH5 s.heap c1 c2 l1 l2).get? (zH2 s.heap c1 c2 l1 l2).objs.size=some _:=Heap.get?_push_of_some _ (Heap.get?_push_of_some _ (Heap.get?_push_size _ rfl))
 have g2:(zH5 s.heap c1 c2 l1 l2).get? (zH1 s.heap c1 l1).objs.size=some _:=Heap.get?_push_of_some _ (Heap.get?_push_of_some _ (Heap.get?_push_of_some _ (Heap.get?_push_size _ rfl)))
 have g1:(zH5 s.heap c1 c2 l1 l2).get? s.heap.objs.size=some _:=Heap.get?_push_of_some _ (Heap.get?_push_of_some _ (Heap.get?_push_of_some _ (Heap.get?_push_of_some _ (Heap.get?_push_size _ rfl))))
 refine (?_:_∧_)
 rw [z2,z3,z4] at g5
 rw [z1,z2] at g3
 rw [z3] at g4
 rw [z1] at g2
 rw [z4]
 exact ⟨⟨_,g5,rfl⟩,h _ g5 g3 g4 (oQ g1) (oQ g2) fun c o x=>
  Heap.get?_push_of_some _ (Heap.get?_push_of_some _ (Heap.get?_push_of_some _ (Heap.get?_push_of_some _ (Heap.get?_push_of_some _ x))))⟩
end
theorem Af (n a b:Nat) (h1:a < n) (h2:b < n):ZipApart (n+4) (n+2) (n+3) n (n+1) a b:=by
 have q:∀ {i j:Nat},i≠j→n+i≠n+j:=fun h e=>h (Nat.add_left_cancel e)
 have p:∀ {i x:Nat},x < n→x≠n+i:=fun h=>Nat.ne_of_lt (Nat.lt_of_lt_of_le h (Nat.le_add_right _ _))
 constructor <;> first | exact p (i:=0) h1 | exact p h1 | exact p (i:=0) h2 | exact p h2 | exact q (by decide) | exact q (i:=0) (by decide) | exact q (j:=0) (by decide)
section
variable {Φ:Ct} [Hm Φ.fx] {E:Value→Shared→Prop} {s:Shared} {st:Bool}
theorem yb {v:Value} {x:V} {l:List V} (e:gw x=some l) (r:Φ.rp s.heap v x):∃ c a xs,v=.ref a∧eC s.heap c a xs∧Φ.rps s.heap xs.toList l∧xs.size=l.length∧¬ Φ.bad a∧l.length≤az:=
 gW (C:=fun x l=>Φ.rp s.heap v x→∃ c a xs,v=.ref a∧eC s.heap c a xs∧Φ.rps s.heap xs.toList l∧xs.size=l.length∧¬ Φ.bad a∧l.length≤az) e
  (fun l hz r=>r.list_elim fun a o vs n hb ha hc hd hl=>⟨true,a,vs,rfl,⟨_,ha,hc.1,_,hd⟩,hl,aY hl,hb,hz⟩) (fun l hz r=>r.tuple_elim fun a o vs n hb ha hc hd hl=>⟨false,a,vs,rfl,⟨_,ha,hc,_,hd⟩,hl,aY hl,hb,hz⟩) r
theorem uS {elts:List Expr} {kk:Nat} {pos:Pos} {v1 v2:Value} {x y:V} {la lb:List V} (I:Inv Φ s) (e1:gw x=some la) (e2:gw y=some lb) (r1:Φ.rp s.heap v1 x) (r2:Φ.rp s.heap v2 y):dP Φ (.Tuple elts kk pos) st s E "zip" (pn la lb) [v1,v2]:=by
 obtain ⟨c1,a1,xs,rfl,h1,rr1,len1,nb1,sz1⟩:=yb e1 r1
 obtain ⟨c2,a2,ys,rfl,h2,rr2,len2,nb2,_⟩:=yb e2 r2
 refine uN h1 h2 fun h' hz hti hto hi1 hi2 hk=>wpAny_pyIter_zip hz ⟨⟨hk,rfl,rfl⟩,?_⟩
 have fresh:∀ k,s.heap.get? (s.heap.objs.size+k)=none:=fun k=>by
  cases e:s.heap.get? (s.heap.objs.size+k) with
  | none=>rfl
  | some o=>exact absurd (Heap.lt_size e) (Nat.not_lt.mpr (Nat.le_add_right _ _))
 have lt1:a1 < s.heap.objs.size:=by obtain ⟨o,e⟩:=h1.live; exact Heap.lt_size e
 have lt2:a2 < s.heap.objs.size:=by obtain ⟨o,e⟩:=h2.live; exact Heap.lt_size e
 have D:ZipApart (s.heap.objs.size+4) (s.heap.objs.size+2) (s.heap.objs.size+3) s.heap.objs.size (s.heap.objs.size+1) a1 a2:=Af _ _ _ lt1 lt2
 refine ⟨_,_,_,_,_,_,rfl,u1 (I.ok.hand Hm.no) (c1:=c1) (c2:=c2) D xs ys la lb len1 len2,⟨hz,hti,⟨_,_,hto⟩,hi1,hi2,h1.at fun o e=>hk _ o e,h2.at fun o e=>hk _ o e⟩,rr1.append rr2,Ap (fresh 4) (fresh 3) (fresh 0) (fresh 1),Br (.inl (fresh 4)) (.inl (fresh 2)) (.inl (fresh 3)) (.inl (fresh 0)) (.inl (fresh 1)) (.inr fun _=>nb1) (.inr fun _=>nb2),ia la lb▸zB1 (Nat.min_le_left _ _) sz1⟩
theorem wP {fp pos:Pos} {qs:List (Expr×DV)} {elts:List Expr} {kk:Nat} {tp:Pos} (hx:aZ Φ.fx.env.scope.names "zip"=true) (hq:∀ q∈qs,ao q.1=true∧bg Φ q) :
  fv Φ (.Tuple elts kk tp) st (.Call (.Name "zip" fp) (qs.map Prod.fst) [] pos) (fun K=>bo (qs.map Prod.snd) fun xs=>okK (opN .zip xs) fun z=>okK (bM z) K):=
 oj (F:="zip") hx rfl hq fun s vs xs z l E I rs e el=>uj (C:=dP Φ (.Tuple elts kk tp) st s E "zip" l) e rs fun v u x y r1 r2 e=>(Option.bind_eq_some_iff.mp e).elim fun la ⟨h1,e⟩=>map_elim (C:=fun z=>bM z=some l→dP Φ (.Tuple elts kk tp) st s E "zip" l [v,u]) e (fun lb h2 el=>fit_elim (C:=fun l=>dP Φ (.Tuple elts kk tp) st s E "zip" l [v,u]) el fun _=>uS I h1 h2 r1 r2) el
end
end Mine
end
noncomputable section
namespace Mine
open PySem PySem.Calls PyProof.Rows PySem.W
theorem ay {α:Type} {x:Option α} {a:α} (h:x=none) (e:x=some a):False:=nomatch h.symm.trans e
theorem nM (name:Str) (h:Int) (k v:Value) (o:Obj):(Obj.putName name h k v o).cls=o.cls:=by
 refine Obj.putName_eq.symm▸?_
 obtain ⟨c,d,dt,sl⟩:=o
 cases dt with
 | dict es n=>
  show (match es.findIdx? (fun e:DictEntry=>e.key.isStr name) with
   | some i=>(⟨c,d,.dict (es.modify i fun e=>{ e with val:=v }) n,sl⟩:Obj)
   | none=>⟨c,d,.dict (es.push ⟨h,k,v⟩) (n+1),sl⟩).cls=c
  split <;> rfl
 | _=>rfl
theorem pq {h:Heap} {a:Addr} {o o':Obj} {f:Obj→Obj} (e:h.get? a=some o) (e':(h.update a f).get? a=some o'):o'=f o:=by
 obtain ⟨e1,_⟩:=Heap.get?_some_iff.mp e
 obtain ⟨e2,_⟩:=Heap.get?_some_iff.mp e'
 cases h
 simp only [Heap.update,Array.getElem?_modify,if_true] at e2
 simp only at e1
 rw [e1] at e2
 simpa using e2.symm
theorem sX {M:Model} {Γ:Ctx} {E:Value→Pos→Shared→Prop} {p:Pos} {s:Shared} {a:Addr} {m} (hn:s.heap.Ns a m) (name:Str) (v:Value) (Q:Unit→Pos→Shared→Prop)
  (hQ:∀ h',h'.Ns a (fun x=>if x=name then some v else m x)→Heap.SameBut a s.heap h'→(∀ o,s.heap.get? a=some o→∃ o',h'.get? a=some o'∧o'.cls=o.cls) →
   Q () p { s with heap:=h',toks:=s.toks+1 }):Sem.wp M Γ (nsSet a name v) Q E p s:=by
 have h1:=Sem.wp_nsSet M Γ E p s hn name v (fun _ _ s'=>s'.heap.Ns a (fun x=>if x=name then some v else m x)) fun h' hn' _=>hn'
 refine av fun Z4 kZ4=>?_
 obtain ⟨o,es,ep,ho,hd,hk,hm⟩:=hn
 refine kZ4 ?_
 simp only [nsSet,strHash,Sem.wp_bind',Sem.wp_cmd_ask,Sem.wp_pure',Sem.wp_cmd_mkText] at h1 ⊢
 rw [Sem.wp_loadPart_of M Γ E p { s with toks:=s.toks+1 } (o:=o) _ ho] at h1 ⊢
 have hany:es.any (·.refKey)=false:=by
  rw [Array.any_eq_false']; intro e he; obtain ⟨n,t,h⟩:=hk e he; simp [DictEntry.refKey,h]
 simp only [hd,aRefKeyMayBeTheName_eq,aRefKeyMayBeTheNameByArray,hany,Bool.and_false,Bool.false_eq_true,if_false,Sem.wp_cmd_updatePart] at h1 ⊢
 obtain ⟨h2,h3⟩:=h1
 refine ⟨h2,hQ _ h3 (Heap.SameBut.update ..) fun o' ho'=>?_⟩
 rw [ho] at ho'
 (injection ho' with ho'; subst ho')
 refine av fun Z6 kZ6=>?_
 obtain ⟨o',_,_,he,hd',_⟩:=h3
 refine kZ6 ?_
 exact ⟨o',he,by rw [pq ho he]; exact nM ..⟩
theorem fT {M:Model} {A:Around} {E:Value→Shared→Prop} {s:Shared} {a:Addr} {m} {name:Str} {v:Value} {Q:Unit→Shared→Prop} (hn:s.heap.Ns a m)
  (h:∀ h',h'.Ns a (fun x=>if x=name then some v else m x)→Heap.SameBut a s.heap h'→(∀ o,s.heap.get? a=some o→∃ o',h'.get? a=some o'∧o'.cls=o.cls)→Q () { s with heap:=h',toks:=s.toks+1 }) :
  wpAny M A (nsSet a name v) Q E s:=fun Γ p _=>sX hn name v _ h
theorem iM {M:Model} {A:Around} {E:Value→Shared→Prop} {s:Shared} {c:Addr} {v₀ v:Option Value} {Q:Unit→Shared→Prop} (hc:s.heap.IsCell c v₀)
  (h:∀ h',h'.IsCell c v→Heap.SameBut c s.heap h'→(∀ o,s.heap.get? c=some o→∃ o',h'.get? c=some o'∧o'.cls=o.cls)→Q () { s with heap:=h' }):wpAny M A (cellSet c v) Q E s:=by
 obtain ⟨o,ho,hd⟩:=hc
 skip
 refine zC1 (wpAny_load ho ?_)
 refine hd.symm▸?_
 have e:=Heap.get?_update_self (fun o:Obj=>{ o with data:=.cell v }) ho rfl
 exact wpAny_update ho (h _ ⟨{ o with data:=.cell v },e,rfl⟩ (Heap.SameBut.update ..) fun o' ho'=>⟨_,e,by replace ho':=ho▸ho'; (injection ho' with ho'; subst ho'); rfl⟩)
noncomputable def x3 (a:Addr) (h h':Heap):Prop:=∀ o,h.get? a=some o→∃ o',h'.get? a=some o'∧o'.cls=o.cls
theorem gQ.but {h0 h h':Heap} {l:List Env} {a:Addr} (f:gQ h0 h l) (hs:Heap.SameBut a h h') (c:(∃ o,h.get? a=some o∧iK o)∨(x3 a h h'∧∀ o,h'.get? a=some o→∀ vs,o.data≠.fields vs)):gQ h0 h' l:=fun env m=>by
 refine av fun Z8 kZ8=>?_
 obtain ⟨hk,L,o,hf,hn,ho,hc,hd⟩:=f env m
 refine kZ8 ?_
 by_cases q:L=a
 ·subst q
  rcases c with ⟨o',e',n⟩ | ⟨c,d⟩
  ·rw [ho] at e'; (injection e' with e'; subst e'); exact absurd hc n
  ·obtain ⟨o',e',q⟩:=c o ho
   exact ⟨hk,L,o',hf,hn,e',q.trans hc,d o' e'⟩
 ·exact ⟨hk,L,o,hf,hn,hs.extBut L o q ho,hc,hd⟩
theorem fS.but {g:Gl} {A:Around} {h h':Heap} {a:Addr} (f:fS g A h) (hs:Heap.SameBut a h h') (c:(∃ o,h.get? a=some o∧iK o)∨(x3 a h h'∧∀ o,h'.get? a=some o→∀ vs,o.data≠.fields vs)):fS g A h':=f.elim fun l q=>⟨l,q.1,q.2.but hs c⟩
noncomputable def iy (h:Heap) (p:Pl) (v:Option Value) (h':Heap):Prop:=match p with
 | .ns a x=>(∃ m,h.Ns a m∧h'.Ns a (fun y=>if y=x then v else m y))∧Heap.SameBut a h h'∧x3 a h h'
 | .cell c=>h'.IsCell c v∧Heap.SameBut c h h'∧x3 c h h'
 | .off=>False
section
variable {Φ Φ':Ct} {s s' s₀:Shared} {h h':Heap}
theorem gm {x:Str} {k:Nat} {v:Value} {Q:Unit→Shared→Prop} (I:Inv Φ s) (hx:Φ.fx.ρ.lookup x=some k) (hnf:Φ.fx.env.kindOf x≠some .free) (h:∀ h' tk,iy s.heap (Φ.fx.pl k) (some v) h'→Q () { s with heap:=h',toks:=tk }):Φ.wp (storeName Φ.fx.env x v) Q s:=fun E=>by
 obtain ⟨u,pr,_⟩:=I.slot k
 rcases I.ok.vis x k hx with ⟨hl,hp⟩ | ⟨hl,c,hc,hp⟩
 ·rw [hp] at pr h
  obtain ⟨m,hns,hv⟩:=pr
  rw [storeName_local hl (by rw [I.ok.kind]; rfl)]
  exact fT hns fun h' hn' hs' hc'=>h h' _ ⟨⟨m,hns,hn'⟩,hs',hc'⟩
 ·rw [hp] at pr h
  rcases hl with hl | hl
  ·unfold storeName
   rw [hl]
   refine fy (c:=(Φ.fx.env.scope.kind==.class&&some NameKind.cell==some .cell)=true) (by rw [I.ok.kind]; decide) ?_
   exact zC1 (wpAny_cellOf hc (iM pr fun h' hc' hs' hk'=>h h' s.toks ⟨hc',hs',hk'⟩))
  ·exact absurd hl hnf
theorem iy.addr {p:Pl} {v:Option Value} (ps:iy h p v h'):∃ a,p.addr=some a∧Heap.SameBut a h h'∧aW h' a∧x3 a h h'∧∀ o,h'.get? a=some o→∀ vs,o.data≠.fields vs:=by
 cases p with
 | ns a x=>
  refine av fun Z13 kZ13=>?_
  obtain ⟨⟨m,_,hn⟩,hs,hc⟩:=ps
  obtain ⟨o,es,ep,ho,hd,_⟩:=hn
  refine kZ13 ?_
  exact ⟨a,rfl,hs,⟨o,ho⟩,hc,fun o' e' vs q=>by replace e':=ho▸e'; (injection e' with e'; subst e'); exact nomatch hd.symm.trans q⟩
 | cell c=>
  refine av fun Z14 kZ14=>?_
  obtain ⟨⟨o,ho,hd⟩,hs,hc⟩:=ps
  refine kZ14 ?_
  exact ⟨c,rfl,hs,⟨o,ho⟩,hc,fun o' e' vs q=>by replace e':=ho▸e'; (injection e' with e'; subst e'); exact nomatch hd.symm.trans q⟩
 | off=>exact ps.elim
theorem iy.self {p:Pl} {v:Option Value} (ps:iy h p v h'):be h' p v:=by
 cases p with
 | ns a x=>obtain ⟨⟨m,_,hn⟩,hs,_⟩:=ps; exact ⟨_,hn,if_pos rfl⟩
 | cell c=>exact ps.1
 | off=>exact ps.elim
theorem iy.other {p q:Pl} {v u:Option Value} (ps:iy h p v h') (hne:q≠p) (ap:∀ a x c,(p=.ns a x∧q=.cell c)∨(q=.ns a x∧p=.cell c)→a≠c) (r:be h q u):be h' q u:=by
 cases p with
 | ns a x=>
  obtain ⟨⟨m,hm,hn⟩,hs,_⟩:=ps
  cases q with
  | ns b y=>
   obtain ⟨m',hm',hu⟩:=r
   by_cases e:b=a
   ·subst e
    refine ⟨_,hn,?_⟩
    rw [if_neg fun q=>hne (by rw [q])]
    refine av fun Z17 kZ17=>?_
    obtain ⟨o,es,ep,ho,hd,_,hf⟩:=hm
    obtain ⟨o',es',ep',ho',hd',_,hf'⟩:=hm'
    refine kZ17 ?_
    replace ho':=ho▸ho'; (injection ho' with ho'; subst ho')
    replace hd':=hd▸hd'; (injection hd' with hd'; subst hd')
    rw [← hf,hf']; exact hu
   ·exact ⟨m',hm'.sameBut hs e,hu⟩
  | cell c=>obtain ⟨o,ho,hd⟩:=r; exact ⟨o,hs.extBut c o (Ne.symm (ap a x c (.inl ⟨rfl,rfl⟩))) ho,hd⟩
  | off=>exact r
 | cell c=>
  obtain ⟨hc,hs,_⟩:=ps
  cases q with
  | ns b y=>obtain ⟨m',hm',hu⟩:=r; exact ⟨m',hm'.sameBut hs (ap b y c (.inr ⟨rfl,rfl⟩)),hu⟩
  | cell d=>obtain ⟨o,ho,hd⟩:=r; exact ⟨o,hs.extBut d o (fun q=>hne (by rw [q])) ho,hd⟩
  | off=>exact r
 | off=>exact ps.elim
noncomputable def isI:Slot→Prop
 | .ownI _=>True
 | _=>False
structure Tr (Φ:Ct) (s:Shared) (Φ':Ct) (s':Shared):Prop where
 fx:Φ'.fx=Φ.fx
 keep:∀ b o,s.heap.get? b=some o→¬ Φ.own b→bA s'.heap b o
 live:∀ b,aW s.heap b→aW s'.heap b
 grow:∀ a,aW s.heap a→Φ'.own a→Φ.own a
 inst:∀ k a,Φ'.oa k=some a→isI (getSlot Φ'.G k)→Φ.oa k=some a∧isI (getSlot Φ.G k)
theorem Tr.refl (Φ:Ct) (s:Shared):Tr Φ s Φ s:=⟨rfl,fun _ _ e _=>.of e,fun _ l=>l,fun _ _ q=>q,fun _ _ e q=>⟨e,q⟩⟩
theorem Tr.trans {Φ₂ Φ₃:Ct} {s₂ s₃:Shared} (x:Tr Φ s Φ₂ s₂) (y:Tr Φ₂ s₂ Φ₃ s₃):Tr Φ s Φ₃ s₃ where
 fx:=y.fx.trans x.fx
 keep:=fun b o e n=>(x.keep b o e n).step fun o' e'=>y.keep b o' e' fun q=>n (x.grow b ⟨o,e⟩ q)
 live:=fun b l=>y.live b (x.live b l)
 grow:=fun a l q=>x.grow a l (y.grow a (x.live a l) q)
 inst:=fun k a e q=>(y.inst k a e q).elim fun e q=>x.inst k a e q
theorem Tr.of_keeps (k:aD s.heap s'.heap):Tr Φ s Φ s':=⟨rfl,fun b o e _=>k b o e,fun _=>k.live,fun _ _ q=>q,fun _ _ e q=>⟨e,q⟩⟩
theorem Tr.mapK (t:Tr Φ s Φ' s'):eQ Φ.bad Φ'.bad s.heap s'.heap:=fun a o e f n=>
 ⟨fun b=>b.elim (fun b=>n (.inl (t.fx▸b))) fun b=>n (.inr (t.grow a ⟨o,e⟩ b)),(t.keep a o e fun q=>n (.inr q)).get f⟩
theorem bN {G:Gs} {k:Nat} {x:Slot} (hk:k < G.length):getSlot (G.set k x) k=x:=by
 unfold getSlot; rw [List.getD_eq_getElem?_getD,List.getElem?_set_self hk]; rfl
theorem cQ {G:Gs} {k j:Nat} {x:Slot} (h:j≠k):getSlot (G.set k x) j=getSlot G j:=by
 unfold getSlot; rw [List.getD_eq_getElem?_getD,List.getD_eq_getElem?_getD,List.getElem?_set_ne (Ne.symm h)]
noncomputable def Ct.put (Φ:Ct) (k:Nat) (oak:Option Addr) (sl:Slot):Ct:=⟨Φ.fx,fun j=>if j=k then oak else Φ.oa j,Φ.G.set k sl⟩
theorem put_own {k:Nat} {oak:Option Addr} {sl:Slot} {a:Addr} (q:(Φ.put k oak sl).own a):oak=some a∨Φ.own a:=by
 rcases q with q | ⟨j,q⟩
 ·exact .inr (.inl q)
 ·by_cases e:j=k
  ·exact .inl ((if_pos e).symm.trans q)
  ·exact .inr (.inr ⟨j,(if_neg e).symm.trans q⟩)
theorem jT {k:Nat} {oak:Option Addr} {sl:Slot} (hon:k < Φ.G.length) (h:isI sl→Φ.oa k=oak∧isI (getSlot Φ.G k)):∀ j a,(Φ.put k oak sl).oa j=some a→isI (getSlot (Φ.put k oak sl).G j)→Φ.oa j=some a∧isI (getSlot Φ.G j):=fun j a e q=>by
 have e:(if j=k then oak else Φ.oa j)=some a:=e
 have q:isI (getSlot (Φ.G.set k sl) j):=q
 by_cases c:j=k
 ·subst c
  rw [bN hon] at q
  rw [if_pos rfl] at e
  exact ⟨(h q).1.trans e,(h q).2⟩
 ·rw [if_neg c] at e
  rw [cQ c] at q
  exact ⟨e,q⟩
theorem Inv.put {k tk:Nat} {v:Option Value} {sl:Slot} {oak:Option Addr} (I:Inv Φ s₀) (B:Base Φ.fx.g s) (k₀:aD s₀.heap s.heap) (ps:iy s.heap (Φ.fx.pl k) v h')
  (so:eM Φ.fx.g (Φ.put k oak sl).bad h' oak v sl) (hnew:∀ a,oak=some a→s₀.heap.get? a=none∧aW h' a) (hni:¬ isI sl):Inv (Φ.put k oak sl) { s with heap:=h',toks:=tk }∧Tr Φ s₀ (Φ.put k oak sl) { s with heap:=h',toks:=tk }:=by
 refine av fun Z20 kZ20=>?_
 obtain ⟨a,ha,hs,hl,hcl,hnd⟩:=ps.addr
 refine kZ20 ?_
 have hon:k < Φ.G.length:=by
  rw [I.gl]
  refine Nat.lt_of_lt_of_le (Nat.lt_of_not_le fun q=>?_) I.ok.nfs
  replace ha:=(I.ok.offs k q)▸ha; (injection ha; done)
 have hown:Φ.own a:=.inl ⟨k,ha⟩
 have kp:∀ b o,b≠a→s₀.heap.get? b=some o→bA h' b o:=fun b o n e=>(k₀ b o e).step fun o' e'=>.of (hs.extBut b o' n e')
 have live:∀ b,aW s₀.heap b→aW h' b:=fun b ⟨o,e⟩=>(Classical.em (b=a)).elim (fun q=>q▸hl) fun n=>(kp b o n e).live
 have nl:∀ b,oak=some b→¬ aW s₀.heap b:=fun b e ⟨o,q⟩=>by replace q:=((hnew b e).1)▸q; (injection q; done)
 have mk:eQ Φ.bad (Φ.put k oak sl).bad s₀.heap h':=fun b o e f n=>by
  refine ⟨fun q=>?_,(kp b o (fun q=>n (.inr (q▸hown))) e).get f⟩
  rcases q with q | q
  ·exact n (.inl q)
  ·exact (put_own q).elim (fun q=>nl b q ⟨o,e⟩) fun q=>n (.inr q)
 have nonew:∀ b,Φ.own b→¬ oak=some b:=fun b q e=>nl b e (I.new b q).1
 refine ⟨⟨I.ok,⟨fun b o e=>hs.extBut b o (fun q=>ay (I.new a hown).2.1 (q▸e)) (B.stays b o e),B.os,B.gens⟩,fun j=>?_,fun b q=>?_,fun i j b e1 e2=>?_,fun j b e i q=>?_,?_,fun b q=>live b (I.mo b q),(I.fr.keep k₀).but hs (.inr ⟨hcl,hnd⟩)⟩,
  ⟨rfl,fun b o e n=>kp b o (fun q=>n (q▸hown)) e,live,fun b l q=>(put_own q).elim (fun q=>absurd l (nl b q)) id,jT hon fun q=>absurd q hni⟩⟩
 ·by_cases e:j=k
  ·subst e
   refine ⟨v,ps.self,?_⟩
   have e1:(Φ.put j oak sl).oa j=oak:=if_pos rfl
   have e2:getSlot (Φ.put j oak sl).G j=sl:=bN hon
   rw [e1,e2]; exact so
  ·obtain ⟨u,pr,sj⟩:=I.slot j
   have e1:(Φ.put k oak sl).oa j=Φ.oa j:=if_neg e
   have e2:getSlot (Φ.put k oak sl).G j=getSlot Φ.G j:=cQ e
   refine e1.symm▸e2.symm▸?_
   refine ⟨u,?_,sj.map mk fun b eb o e f=>(kp b o (fun q=>I.off j b eb k (q▸ha)) e).get f⟩
   by_cases ho:Φ.fx.pl j=.off
   ·refine (?_:be h' (Φ.fx.pl j) u)
    rw [ho] at pr ⊢; exact pr
   ·exact ps.other (fun q=>e (I.ok.inj j k q ho)) (fun a' x c q=>q.elim (fun q=>I.ok.apart k j a' x c q.1 q.2) fun q=>I.ok.apart j k a' x c q.1 q.2) (pr.keep k₀)
 ·rcases put_own q with q | q
  ·exact ⟨(hnew b q).2,aK (fun l=>I.base.stays.live l) (hnew b q).1,fun z=>nl b q (I.mo b z)⟩
  ·obtain ⟨l,n⟩:=I.new b q
   exact ⟨live b l,n⟩
 ·have c1:(if i=k then oak else Φ.oa i)=some b:=e1
  have c2:(if j=k then oak else Φ.oa j)=some b:=e2
  by_cases h1:i=k <;> by_cases h2:j=k
  ·exact h1.trans h2.symm
  ·rw [if_pos h1] at c1; rw [if_neg h2] at c2; exact absurd c1 (nonew b (.inr ⟨j,c2⟩))
  ·rw [if_neg h1] at c1; rw [if_pos h2] at c2; exact absurd c2 (nonew b (.inr ⟨i,c1⟩))
  ·rw [if_neg h1] at c1; rw [if_neg h2] at c2; exact I.inj i j b c1 c2
 ·have c:(if j=k then oak else Φ.oa j)=some b:=e
  by_cases h1:j=k
  ·rw [if_pos h1] at c; exact nonew b (.inl ⟨i,q⟩) c
  ·rw [if_neg h1] at c; exact I.off j b c i q
 ·refine (?_:(Φ.G.set k sl).length=_)
  rw [List.length_set]; exact I.gl
theorem Inv.mutate {k tk:Nat} {a:Addr} {u:Value} {sl:Slot} (I:Inv Φ s) (hk:Φ.oa k=some a) (pr:be s.heap (Φ.fx.pl k) (some u)) (hnf:∃ o,s.heap.get? a=some o∧iK o) (hs:Heap.SameBut a s.heap h') (hl:aW h' a) (ow:gF Φ.fx.g Φ.bad h' a u sl) (hsl:∀ x,sl≠.v x) (hsl':sl≠.unset) (hni:isI sl→isI (getSlot Φ.G k)) :
  Inv (Φ.put k (some a) sl) { s with heap:=h',toks:=tk }∧Tr Φ s (Φ.put k (some a) sl) { s with heap:=h',toks:=tk }:=by
 have kp:∀ b o,b≠a→s.heap.get? b=some o→h'.get? b=some o:=fun b o n e=>hs.extBut b o n e
 have hown:Φ.own a:=.inr ⟨k,hk⟩
 have hon:k < Φ.G.length:=by
  rw [I.gl]
  refine Nat.lt_of_lt_of_le (Nat.lt_of_not_le fun q=>?_) I.ok.nfs
  replace pr:=(I.ok.offs k q)▸pr; (injection pr; done)
 have eo:(Φ.put k (some a) sl).oa=Φ.oa:=funext fun j=>(Classical.em (j=k)).elim (fun e=>(if_pos e).trans (e▸hk.symm)) fun e=>if_neg e
 have eb:(Φ.put k (some a) sl).bad=Φ.bad:=by unfold Ct.bad Ct.own; rw [eo]; rfl
 have ew:(Φ.put k (some a) sl).own=Φ.own:=by unfold Ct.own; rw [eo]; rfl
 have live:∀ b,aW s.heap b→aW h' b:=fun b ⟨o,e⟩=>(Classical.em (b=a)).elim (fun q=>q▸hl) fun n=>⟨o,kp b o n e⟩
 have mk:eQ Φ.bad Φ.bad s.heap h':=fun b o e _ n=>⟨n,kp b o (fun q=>n (.inr (q▸hown))) e⟩
 have plr:∀ j u,be s.heap (Φ.fx.pl j) u→be h' (Φ.fx.pl j) u:=fun j u r=>by
  have na:∀ c,(Φ.fx.pl j).addr=some c→c≠a:=fun c e q=>I.off k a hk j (q▸e)
  generalize Φ.fx.pl j=p at r na
  cases p with
  | ns c x=>obtain ⟨m,hn,hu⟩:=r; exact ⟨m,hn.at' fun o e=>kp c o (na c rfl) e,hu⟩
  | cell c=>obtain ⟨o,ho,hd⟩:=r; exact ⟨o,kp c o (na c rfl) ho,hd⟩
  | off=>exact r
 refine ⟨⟨I.ok,⟨fun b o e=>kp b o (fun q=>ay (I.new a hown).2.1 (q▸e)) (I.base.stays b o e),I.base.os,I.base.gens⟩,fun j=>?_,fun b q=>?_,by exact eo.symm▸I.inj,by exact eo.symm▸I.off,?_,fun b q=>live b (I.mo b q),I.fr.but hs (.inl hnf)⟩,
  ⟨rfl,fun b o e n=>.of (kp b o (fun q=>n (q▸hown)) e),live,fun b l q=>ew▸q,jT hon fun q=>⟨hk,hni q⟩⟩⟩
 ·refine eb.symm▸eo.symm▸?_
  by_cases e:j=k
  ·subst e
   refine ⟨some u,plr j _ pr,?_⟩
   have e2:getSlot (Φ.put j (some a) sl).G j=sl:=bN hon
   refine e2.symm▸?_
   cases sl with
   | unset=>exact absurd rfl hsl'
   | v x=>exact absurd rfl (hsl x)
   | junk=>exact ow.elim
   | _=>exact ⟨a,u,hk,rfl,ow⟩
  ·refine av fun Z23 kZ23=>?_
   obtain ⟨w,r,sj⟩:=I.slot j
   refine kZ23 ?_
   have e2:getSlot (Φ.put k (some a) sl).G j=getSlot Φ.G j:=cQ e
   exact e2.symm▸⟨w,plr j w r,sj.map mk fun b eb o e' _=>kp b o (fun q=>e (I.inj j k a (q▸eb) hk)) e'⟩
 ·rw [ew] at q
  obtain ⟨l,n⟩:=I.new b q
  exact ⟨live b l,n⟩
 ·refine (?_:(Φ.G.set k sl).length=_)
  rw [List.length_set]; exact I.gl
end
end Mine
end
noncomputable section
namespace Mine
open PySem PySem.Calls PyProof.Rows PySem.W
noncomputable abbrev Ct.wi (Φ:Ct) (oa:Nat→Option Addr) (G:Gs):Ct:=⟨Φ.fx,oa,G⟩
section
variable {Φ:Ct} {s s' s₁:Shared} {v:Value} {x:V}
theorem l6 {k tk:Nat} {h':Heap} (I:Inv Φ s) (ps:iy s.heap (Φ.fx.pl k) (some v) h') (r:Φ.rp s.heap v x):Inv (Φ.put k none (.v x)) { s with heap:=h',toks:=tk }∧Tr Φ s (Φ.put k none (.v x)) { s with heap:=h',toks:=tk }:=by
 refine av fun Z1 kZ1=>?_
 obtain ⟨a,ha,hs,_⟩:=ps.addr
 refine kZ1 ?_
 refine Inv.put (oak:=none) (sl:=.v x) I I.base (.refl _) ps ⟨rfl,v,rfl,r.map fun b o e _ n=>⟨fun q=>?_,hs.extBut b o (fun q=>n (.inr (.inl ⟨k,q▸ha⟩))) e⟩⟩ (fun a q=>nomatch q) id
 exact n (q.imp id fun (q:(Φ.put k none (.v x)).own b)=>(put_own q).elim (fun (z:none=some b)=>nomatch z) id)
structure TgtOk (ρ:List (Str×Nat)) (env:Env) (n:Str) (k:Nat):Prop where
 lk:ρ.lookup n=some k
 nf:env.kindOf n≠some .free
theorem x9 {n:Str} {k:Nat} {py:Pos} (hT:TgtOk Φ.fx.ρ Φ.fx.env n k) (I:Inv Φ s) (r:Φ.rp s.heap v x) :
  Φ.wp (assign (.Name n py) Φ.fx.env v) (fun _ s'=>Inv (Φ.put k none (.v x)) s'∧Tr Φ s (Φ.put k none (.v x)) s'∧∀ b o,s.heap.get? b=some o→(Φ.fx.pl k).addr≠some b→s'.heap.get? b=some o) s:=fun E=>by
 rw [arm_assign_Name]
 refine zC1 (wpAny_standAt (wpAny_bindName (gm I hT.lk hT.nf (fun h' tk ps=>?_) E)))
 refine av fun Z2 kZ2=>?_
 obtain ⟨a,ha,hs,_⟩:=ps.addr
 refine kZ2 ?_
 have q:=l6 (tk:=tk) I ps r
 exact ⟨q.1,q.2,fun b o e n=>hs.extBut b o (fun q=>n (q▸ha)) e⟩
noncomputable def vH (ks:List Nat) (xs:List V) (G:Gs):Gs:=(ks.zip xs).foldl (fun G p=>G.set p.1 (.v p.2)) G
inductive TgtsOk (ρ:List (Str×Nat)) (env:Env):List Expr→List Nat→Prop
 | nil:TgtsOk ρ env [] []
 | cons {n:Str} {p:Pos} {k:Nat} {es:List Expr} {ks:List Nat}:TgtOk ρ env n k→TgtsOk ρ env es ks→TgtsOk ρ env (.Name n p :: es) (k :: ks)
noncomputable def offs (ks:List Nat) (oa:Nat→Option Addr):Nat→Option Addr:=ks.foldl (fun oa k j=>if j=k then none else oa j) oa
noncomputable def mM (fx:Fx) (oa:Nat→Option Addr) (G:Gs) (s:Shared) (ks:List Nat) (G':Gs) (s':Shared):Prop:=
 Inv ⟨fx,offs ks oa,G'⟩ s'∧Tr ⟨fx,oa,G⟩ s ⟨fx,offs ks oa,G'⟩ s'∧∀ b o,s.heap.get? b=some o→(∀ k∈ks,(fx.pl k).addr≠some b)→s'.heap.get? b=some o
theorem BN {fx:Fx} {es:List Expr} {ks:List Nat} (hT:TgtsOk fx.ρ fx.env es ks):∀ {oa:Nat→Option Addr} {G:Gs} {vs:List Value} {xs:List V} {s:Shared},xs.length=ks.length→Inv ⟨fx,oa,G⟩ s→(Ct.mk fx oa G).rps s.heap vs xs →
  (Ct.mk fx oa G).wp (assignInOrder ((assignEach es fx.env).map (·.2)) vs) (fun _ s'=>mM fx oa G s ks (vH ks xs G) s') s:=by
 induction hT with
 | nil=>
  intro oa G vs xs s hl I r E
  obtain rfl:=List.length_eq_zero_iff.mp hl
  cases r
  exact zC2 ⟨I,.refl _ _,fun _ _ e _=>e⟩
 | @cons n p k es ks h1 _ ih=>
  intro oa G vs xs s hl I r E
  cases r with
  | nil=>(injection hl; done)
  | @cons v vs x xs r rs=>
   refine (?_:wpAny _ _ (holding vs (assign (.Name n p) fx.env v) >>= fun _=>assignInOrder ((assignEach es fx.env).map (·.2)) vs) _ _ _)
   refine zC1 (wpAny_holding (wpAny_mono (x9 (Φ:=⟨fx,oa,G⟩) h1 I r E) (fun _ s₁ q=>?_) fun _ _ z=>z))
   refine wpAny_mono (ih (Nat.succ.inj hl) q.1 (rs.map q.2.1.mapK) E) (fun _ s₂ z=>?_) fun _ _ z=>z
   exact ⟨z.1,q.2.1.trans z.2.1,fun b o e n=>z.2.2 b o (q.2.2 b o e (n k (.head _))) fun j m=>n j (.tail _ m)⟩
theorem pu {ρ:List (Str×Nat)} {e0 env:Env} {es:List Expr} {ks:List Nat} (hT:TgtsOk ρ e0 es ks):(assignEach es env).length=ks.length∧(assignEach es env).findIdx? (·.1)=none:=by
 induction hT with
 | nil=>exact ⟨rfl,rfl⟩
 | @cons n p k es ks h1 _ ih=>
  have e:assignEach (.Name n p :: es) env=(false,assign (.Name n p) env) :: assignEach es env:=rfl
  rw [e]
  exact ⟨congrArg (· + 1) ih.1,by rw [List.findIdx?_cons,ih.2]; rfl⟩
theorem lK {ks:List Nat} {G G':Gs} (e:cj ks G x=some G') {C:V→Gs→Prop} (k:∀ xs,xs.length=ks.length→C (.tuple xs) (vH ks xs G)):C x G':=by
 cases x with
 | tuple xs=>exact if_elim e fun h=>k xs h
 | _=>(injection e; done)
theorem Bm [Hm Φ.fx] {es:List Expr} {ks:List Nat} {kk:Nat} {p:Pos} {G':Gs} (hT:TgtsOk Φ.fx.ρ Φ.fx.env es ks) (I:Inv Φ s) (e:cj ks Φ.G x=some G') (r:Φ.rp s.heap v x) :
  Φ.wp (assign (.Tuple es kk p) Φ.fx.env v) (fun _ s'=>mM Φ.fx Φ.oa Φ.G s ks G' s') s:=fun E=>
 lK (C:=fun x G'=>Φ.rp s.heap v x→wpAny _ _ (assign (.Tuple es kk p) Φ.fx.env v) (fun _ s'=>mM Φ.fx Φ.oa Φ.G s ks G' s') E s) e (fun xs hl r=>r.tuple_elim fun a o vs n hb ha hc hd hr=>by
  obtain ⟨h1,h2⟩:=pu (env:=Φ.fx.env) hT
  refine wpAny_assign_Tuple (I.ok.hand Hm.no) ⟨_,ha,hc,_,hd⟩ (by exact h1.symm▸hl▸(aY hr).symm) h2 fun h' he=>?_
  have gr:Grown s { s with heap:=h' }:=⟨fun b o e=>he b o (Nat.ne_of_lt (Heap.lt_size e)) e,rfl,rfl⟩
  refine wpAny_mono (BN (oa:=Φ.oa) (G:=Φ.G) hT hl (I.keep (I.base.grown gr) gr.keeps) (hr.keep gr.keeps) E) (fun _ s₂ z=>⟨z.1,(Tr.of_keeps gr.keeps).trans z.2.1,fun b o e n=>z.2.2 b o (gr.stays b o e) n⟩) fun _ _ z=>z) r
noncomputable def x2 (Φ:Ct) (s:Shared) (h:Heap) (f:Flow) (fl:Option V):Prop:=match fl with
 | none=>f=.next
 | some x=>noX x=true∧∃ v,f=.ret v∧Φ.rp h v x∧(Φ.fx.nw=true→kB s.heap v)
theorem x2.lift {f:Flow} {fl:Option V} {h:Heap} (x:x2 Φ s₁ h f fl) (k:∀ b,aW s.heap b→aW s₁.heap b):x2 Φ s h f fl:=by
 cases fl with
 | none=>exact x
 | some y=>obtain ⟨nx,v,e,r,n⟩:=x; exact ⟨nx,v,e,r,fun q=>(n q).le k⟩
inductive PostS (Φ:Ct) (s:Shared) (K:Option V→Gs→Prop) (f:Flow) (s':Shared):Prop
 | mk:∀ oa' G' fl,(fl=none∨Φ.fx.hm=true→Inv (Φ.wi oa' G') s')→Base Φ.fx.g s'→Tr Φ s (Φ.wi oa' G') s'→x2 (Φ.wi oa' G') s s'.heap f fl→K fl G'→PostS Φ s K f s'
inductive PostX (Φ:Ct) (s:Shared) (K:Option V→Gs→Prop) (v:Value) (s':Shared):Prop
 | mk:∀ oa' G' c e,v=.ref e→c < Φ.fx.g.nc→Inv (Φ.wi oa' G') s'→Tr Φ s (Φ.wi oa' G') s'→ExcAt s'.heap s.heap e (.ref (Φ.fx.g.cls c)) .none→K (some (eP c)) G'→PostX Φ s K v s'
noncomputable def ExB (fx:Fx) (t:Sem Flow) (X:B):Prop:=∀ oa G K s,X G K→Inv ⟨fx,oa,G⟩ s→wpAny (model fx.g.prog fx.g.w) fx.A t (PostS ⟨fx,oa,G⟩ s K) (PostX ⟨fx,oa,G⟩ s K) s
theorem ExcAt.le {h lo lo':Heap} {e:Addr} {cls fl:Value} (x:ExcAt h lo e cls fl) (q:∀ b,aW lo' b→aW lo b):ExcAt h lo' e cls fl:=by
 obtain ⟨oe,vs,a,b,c,d,f,g,k⟩:=x
 refine ⟨oe,vs,a,b,c,d,aK (q _) f,g,k.imp id ?_⟩
 rintro ⟨T,oT,ts,a,b,c,d⟩
 exact ⟨T,oT,ts,a,b,aK (q _) c,d⟩
theorem PostS.lift {K:Option V→Gs→Prop} {f:Flow} {oa₁:Nat→Option Addr} {G₁:Gs} (p:PostS (Φ.wi oa₁ G₁) s₁ K f s') (t:Tr Φ s (Φ.wi oa₁ G₁) s₁):PostS Φ s K f s':=by
 obtain ⟨oa',G',fl,I,B,t',h,h'⟩:=p
 exact ⟨oa',G',fl,I,B,t.trans t',h.lift t.live,h'⟩
theorem PostX.lift {K:Option V→Gs→Prop} {oa₁:Nat→Option Addr} {G₁:Gs} (p:PostX (Φ.wi oa₁ G₁) s₁ K v s') (t:Tr Φ s (Φ.wi oa₁ G₁) s₁):PostX Φ s K v s':=by
 obtain ⟨oa',G',c,e,h1,h2,I,t',x,h⟩:=p
 exact ⟨oa',G',c,e,h1,h2,I,t.trans t',x.le t.live,h⟩
theorem PostX.imp {K K':Option V→Gs→Prop} (p:PostX Φ s K v s') (q:∀ x G,K (some x) G→K' (some x) G):PostX Φ s K' v s':=by
 obtain ⟨oa',G',c,e,h1,h2,I,t',x,h⟩:=p
 exact ⟨oa',G',c,e,h1,h2,I,t',x,q _ _ h⟩
theorem PostS.next {K:Option V→Gs→Prop} {oa':Nat→Option Addr} {G':Gs} (I:Inv (Φ.wi oa' G') s') (t:Tr Φ s (Φ.wi oa' G') s') (k:K none G'):PostS Φ s K .next s':=⟨oa',G',none,fun _=>I,I.base,t,rfl,k⟩
end
section
variable {fx:Fx} {s:Shared}
theorem zP:ExB fx (execs [] fx.env) (fun G K=>K none G):=fun oa G K s hd I=>wpAny_execs_nil (.next I (.refl _ _) hd)
theorem xM {st:Stmt} {r:List Stmt} {X Y:B} (h1:ExB fx (exec st fx.env) X) (h2:ExB fx (execs r fx.env) Y):ExB fx (execs (st :: r) fx.env) (fun G K=>X G fun fl G'=>match fl with | none=>Y G' K | some x=>K (some x) G'):=fun oa G K s hd I=>by
 refine wpAny_execs_cons (wpAny_mono (h1 oa G _ s hd I) (fun f s₁ ⟨oa₁,G₁,fl,I₁,B₁,t₁,hf,hk⟩=>?_) fun _ _ z=>z.imp fun _ _ k=>k)
 cases fl with
 | none=>subst hf; exact wpAny_mono (h2 oa₁ G₁ K s₁ hk (I₁ (.inl rfl))) (fun _ _ p=>p.lift t₁) fun _ _ p=>p.lift t₁
 | some x=>obtain ⟨nx,v,rfl,r⟩:=hf; exact ⟨oa₁,G₁,some x,I₁,B₁,t₁,⟨nx,v,rfl,r⟩,hk⟩
theorem Bb {c:Expr} {a b:List Stmt} {pos:Pos} {d:Gs→DV} {X Y:B} (hc:∀ oa G,EvT ⟨fx,oa,G⟩ (isTrue c fx.env (eval c fx.env)) (tst (d G))) (ha:ExB fx (execs a fx.env) X) (hb:ExB fx (execs b fx.env) Y) :
  ExB fx (exec (.If c a b pos) fx.env) (fun G K=>d G fun x=>okK (cS x some) fun t=>if t=true then X G K else Y G K):=fun oa G K s hd I=>by
 refine wpAny_If (wpAny_mono (hc oa G (fun t=>if t=true then X G K else Y G K) s hd I _) (fun t s₁ ⟨B,k,t',hk,e⟩=>?_) fun _ _ z=>z)
 subst e
 cases t with
 | true=>exact wpAny_mono (ha oa G K s₁ hk (I.keep B k)) (fun _ _ p=>p.lift (.of_keeps k)) fun _ _ p=>p.lift (.of_keeps k)
 | false=>exact wpAny_mono (hb oa G K s₁ hk (I.keep B k)) (fun _ _ p=>p.lift (.of_keeps k)) fun _ _ p=>p.lift (.of_keeps k)
theorem zO {e:Expr} {pos:Pos} {d:Gs→DV} (hnw:fx.nw=false) (h:∀ oa G,Ev ⟨fx,oa,G⟩ (eval e fx.env) (d G)):ExB fx (exec (.Return (some e) pos) fx.env) (fun G K=>d G fun x=>noX x=true∧K (some x) G):=fun oa G K s hd I=>by
 rw [exec_Return_some]
 exact zC1 (wpAny_standAt (zC1 (wpAny_mono (h oa G _ s hd I _) (fun v s₁ ⟨B,k,x,hx,r⟩=>zC2 ⟨oa,G,some x,fun _=>I.keep B k,B,.of_keeps k,⟨hx.1,v,rfl,r,fun q=>nomatch hnw.symm.trans q⟩,hx.2⟩) fun _ _ z=>z)))
theorem xK {e:Expr} {pos:Pos} {d:Gs→DV} (h:∀ oa G,EvN ⟨fx,oa,G⟩ (eval e fx.env) (d G)):ExB fx (exec (.Return (some e) pos) fx.env) (fun G K=>d G fun x=>noX x=true∧K (some x) G):=fun oa G K s hd I=>by
 rw [exec_Return_some]
 exact zC1 (wpAny_standAt (zC1 (wpAny_mono (h oa G _ s hd I _) (fun v s₁ ⟨⟨B,k,x,hx,r⟩,n⟩=>zC2 ⟨oa,G,some x,fun _=>I.keep B k,B,.of_keeps k,⟨hx.1,v,rfl,r,fun _=>n⟩,hx.2⟩) fun _ _ z=>z)))
theorem mL {n:Str} {f:Nat} {fp pos:Pos} {qs:List (Expr×DV)} {Φ:Ct} {K:V→Prop} {Q:Value→Shared→Prop} {E:Value→Shared→Prop} (hx:aZ Φ.fx.env.scope.names n=true) (hf:Φ.fx.g.fns.lookup n=some f) (hfn:keepIn Φ.fx.g.K (.ref (Φ.fx.g.fn f))=true) (hsf:Φ.safe f)
  (hq:∀ q∈qs,ao q.1=true∧bg Φ q) (hd:bo (qs.map Prod.snd) fun xs=>aq Φ.fx.g.P Φ.fx.d f xs K) (I:Inv Φ s)
  (hQ:∀ v s' y,Inv Φ s'→aD s.heap s'.heap→K y→noX y=true→Φ.rp s'.heap v y→(Φ.fx.g.newf f=true→kB s.heap v)→Q v s') (hE:∀ s' c e,Inv Φ s'→aD s.heap s'.heap→c < Φ.fx.g.nc→K (eP c)→ExcAt s'.heap s.heap e (.ref (Φ.fx.g.cls c)) .none→E (.ref e) s') :
  wpAny (model Φ.fx.g.prog Φ.fx.g.w) Φ.fx.A (eval (.Call (.Name n fp) (qs.map Prod.fst) [] pos) Φ.fx.env) Q E s:=by
 refine (?_:wpAny _ _ (eval (.Name n fp) Φ.fx.env >>= fun F=>callWith pos F [] (backTo pos (starEach (qs.map Prod.fst) Φ.fx.env)) []) _ _ s)
 refine zC1 (bw I hx (I.ok.gr.fns n f hf) ?_ E)
 refine callWith_of (by rw [fb (cL fun q m=>(hq q m).1)]; rfl) (keeps_K hfn) (cT hq hd I fun vs xs s₁ I₁ k₁ hx rs=>⟨I₁.frag,?_⟩)
 exact wpAny_mono (I₁.ok.call Φ.fx.hm f xs _ Φ.fx.A s₁ Φ.bad vs hx I₁.ok.hand hsf I₁.ok.room I₁.ok.units I₁.base I₁.fr (fun a b=>I₁.badLive b) (fun a b=>I₁.bad0 b) rs) (fun v s' ⟨B,k,y,hy,nx,r,nv⟩=>hQ v s' y (I₁.keep B k) (k₁.trans k) hy nx r fun q=>(nv q).le fun _=>k₁.live)
  fun v s' ⟨B,k,c,e,hv,hc,hy,x⟩=>hv▸hE s' c e (I₁.keep B k) (k₁.trans k) hc hy (x.le fun _=>k₁.live)
theorem u6 {x:Str} {c:Nat} {msg:Str} {kk:Nat} {np mp cpos pos:Pos} [Hm fx] (hx:aZ fx.env.scope.names x=true) (hc:fx.g.clss.lookup x=some c) :
  ExB fx (exec (.Raise (some (.Call (.Name x np) [.Constant (.str msg) kk mp] [] cpos)) none pos) fx.env) (fun G K=>K (some (eP c)) G):=fun oa G K s hd I=>by
 refine av fun Z8 kZ8=>?_
 obtain ⟨hn,hm⟩:=I.ok.gr.clss x c hc
 obtain ⟨nm,q,N,bs,bm,bmB,hdct,sn,sub,ab,col,dd,k0,k1,k2,k3,k5,B,newId,initId,mN,F,hb,hni,hC,hN,hT⟩:=I.ok.gr.raises c hn
 refine kZ8 ?_
 refine wpAny_Raise_call_subT (C:=fx.g.cls c) (nm:=nm) (q:=q) (N:=N) (bs:=bs) (bm:=bm) (hdct:=hdct) (sn:=sn) (sub:=sub) (ab:=ab) (col:=col) (dd:=dd) (k0:=k0) (k1:=k1) (k2:=k2) (k3:=k3) (k5:=k5) F hb (I.ok.hand Hm.no) rfl hni (bw I hx hm ⟨rfl,?_⟩ _)
 refine Calls.evalArgs_plain (x:=eval (.Constant (.str msg) kk mp) fx.env) (rest:=[]) (Calls.spliced_cons (wpAny_Constant_str (Calls.spliced_nil ⟨rfl,by refine (?_:1≤sizeLine); decide,I.base.stays _ _ hC,hN.at' fun o e=>I.base.stays _ o e,hT.keeps fun b o e=>I.base.stays b o e,fun h' e hm=>?_⟩)))
 have gr:Grown s { s with heap:=h',toks:=s.toks+1 }:=⟨hm.keeps,rfl,rfl⟩
 obtain ⟨t,ht,_,_⟩:=hm.there
 exact ⟨oa,G,c,e,rfl,hn,I.keep (I.base.grown gr) gr.keeps,.of_keeps gr.keeps,⟨_,_,ht,rfl,rfl,rfl,hm.new,by refine (?_:1 < 6); decide,.inl rfl⟩,hd⟩
theorem gk {value:Expr} {t:Option Expr} {n:Nat} {env:Env} (h:dw value=true):swapsWith value t n env=pure false:=by
 cases value <;> first | rfl | exact nomatch h
theorem ly {n:Str} {k:Nat} {py spos:Pos} {value:Expr} {d:Gs→DV} (hs:swapsWith value (some (.Name n py)) spos.line fx.env=pure false) (hT:TgtOk fx.ρ fx.env n k) (h:∀ oa G,Ev ⟨fx,oa,G⟩ (eval value fx.env) (d G)) :
  ExB fx (exec (.Assign [.Name n py] value spos) fx.env) (fun G K=>d G fun x=>K none (G.set k (.v x))):=fun oa G K s hd I=>by
 refine (exec_Assign_Name _ _ _ _ _ hs).symm▸?_
 refine zC1 (wpAny_standAt (zC1 (wpAny_mono (h oa G _ s hd I _) (fun v s₁ ⟨B,k₁,x,hx,r⟩=>?_) fun _ _ z=>z)))
 have I₁:=I.keep B k₁
 refine zC1 (wpAny_standAt (zC1 (wpAny_bindName (gm I₁ hT.lk hT.nf (fun h' tk ps=>zC2 ?_) _))))
 have q:=l6 (tk:=tk) I₁ ps r
 exact .next q.1 ((Tr.of_keeps k₁).trans q.2) hx
end
end Mine
end
noncomputable section
namespace Mine
open PySem PySem.Calls PyProof.Rows PySem.W
noncomputable abbrev Fx.mo (fx:Fx) (X:Addr→Prop):Fx:={ fx with Mo:=fun b=>fx.Mo b∨X b }
noncomputable abbrev Ct.mo (Φ:Ct) (X:Addr→Prop):Ct:=⟨Φ.fx.mo X,Φ.oa,Φ.G⟩
section
variable {Φ:Ct} {s s' s₀ s₂:Shared} {h':Heap} {X:Addr→Prop}
theorem FxOk.any {fx:Fx} {M:Addr→Prop} (ok:FxOk fx) (h:∀ a,M a→fx.g.h0.get? a=none):FxOk { fx with Mo:=M }:=⟨ok.gr,ok.hand,ok.kind,ok.globals,ok.builtins,ok.vis,ok.inj,ok.apart,ok.offs,ok.nfs,ok.room,ok.units,ok.call,h⟩
theorem r8 (hX:∀ b,X b→s₀.heap.get? b=none) (k:aD s₀.heap s₂.heap):eQ Φ.bad (Φ.mo X).bad s₀.heap s₂.heap:=fun b o e f n=>
 ⟨fun q=>q.elim (fun q=>q.elim (fun q=>n (.inl q)) fun q=>ay (hX b q) e) fun q=>n (.inr q),k.get e f⟩
theorem Inv.more (I:Inv Φ s₀) (B:Base Φ.fx.g s₂) (k:aD s₀.heap s₂.heap) (hX:∀ b,X b→s₀.heap.get? b=none) (hl:∀ b,X b→aW s₂.heap b):Inv (Φ.mo X) s₂ where
 ok:=I.ok.any fun a q=>q.elim (I.ok.mo0 a) fun q=>aK (fun l=>I.base.stays.live l) (hX a q)
 base:=B
 slot:=fun j=>let ⟨v,r,x⟩:=I.slot j; ⟨v,r.keep k,x.map (r8 hX k) fun a _ o e f=>k.get e f⟩
 new:=fun a q=>let ⟨x,y,z⟩:=I.new a q; ⟨k.live x,y,fun w=>w.elim z fun w=>x.elim fun o e=>ay (hX a w) e⟩
 inj:=I.inj
 off:=I.off
 gl:=I.gl
 mo:=fun a q=>q.elim (fun q=>k.live (I.mo a q)) (hl a)
 fr:=I.fr.keep k
theorem tr {h:Heap}:eQ (Φ.mo X).bad Φ.bad h h:=fun b o e _ n=>⟨fun q=>n (q.imp .inl id),e⟩
noncomputable def wF (A:Around) (b:Addr):Prop:=∀ l env,A.frames=some l→env∈l→env.frame≠some b
theorem fS.look {g:Gl} {A:Around} {h:Heap} (f:fS g A h) {l:List Env} {env:Env} {b:Addr} (e:A.frames=some l) (m:env∈l) (q:env.frame=some b):∃ o,h.get? b=some o∧o.cls=.type "frame":=by
 obtain ⟨l',e',f⟩:=f
 obtain rfl:=Option.some.inj (e.symm.trans e')
 refine av fun Z2 kZ2=>?_
 obtain ⟨_,L,o,hf,_,ho,hc,_⟩:=f env m
 refine kZ2 ?_
 obtain rfl:=Option.some.inj (q.symm.trans hf)
 exact ⟨o,ho,hc⟩
theorem fS.not {g:Gl} {A:Around} {h:Heap} (f:fS g A h) {b:Addr} (n:d4 h b):wF A b:=fun l env e m q=>(f.look e m q).elim fun o z=>n.nf z.1 z.2
theorem fS.new {g:Gl} {A:Around} {h:Heap} (f:fS g A h) {b:Addr} (n:h.get? b=none):wF A b:=fun l env e m q=>(f.look e m q).elim fun o z=>ay n z.1
theorem Inv.others {wr:List Addr} {tk:Nat} {Mo₂:Addr→Prop} (I:Inv Φ s) (hnw:∀ b∈wr,wF Φ.fx.A b) (k:∀ b o,b∉wr→s.heap.get? b=some o→h'.get? b=some o) (hw:∀ b∈wr,Φ.fx.Mo b) (h0:∀ b∈wr,Φ.fx.g.h0.get? b=none) (hs:∀ a,Mo₂ a→Φ.fx.Mo a) (hl:∀ a,Mo₂ a→aW h' a):Inv ⟨{ Φ.fx with Mo:=Mo₂ },Φ.oa,Φ.G⟩ { s with heap:=h',toks:=tk }:=by
 have nown:∀ b,Φ.own b→b∉wr:=fun b q m=>(I.new b q).2.2 (hw b m)
 have mk:eQ Φ.bad (Ct.mk { Φ.fx with Mo:=Mo₂ } Φ.oa Φ.G).bad s.heap h':=fun b o e _ n=>⟨fun q=>n (q.imp (hs b) id),k b o (fun m=>n (.inl (hw b m))) e⟩
 refine ⟨I.ok.any fun a q=>I.ok.mo0 a (hs a q),⟨fun b o e=>k b o (fun m=>ay (h0 b m) e) (I.base.stays b o e),I.base.os,I.base.gens⟩,fun j=>?_,fun a q=>?_,I.inj,I.off,I.gl,hl,I.fr.elim fun l q=>⟨l,q.1,fun env m=>?_⟩⟩
 ·obtain ⟨u,r,so⟩:=I.slot j
  refine ⟨u,?_,so.map mk fun a ea o e _=>k a o (nown a (.inr ⟨j,ea⟩)) e⟩
  refine (?_:be h' (Φ.fx.pl j) u)
  have na:∀ a,(Φ.fx.pl j).addr=some a→a∉wr:=fun a e=>nown a (.inl ⟨j,e⟩)
  generalize Φ.fx.pl j=p at r na
  cases p with
  | ns a x=>obtain ⟨m,hn,hu⟩:=r; exact ⟨m,hn.at' fun o e=>k a o (na a rfl) e,hu⟩
  | cell c=>obtain ⟨o,ho,hd⟩:=r; exact ⟨o,k c o (na c rfl) ho,hd⟩
  | off=>exact r
 ·refine av fun Z4 kZ4=>?_
  obtain ⟨⟨o,e⟩,y,z⟩:=I.new a q
  refine kZ4 ?_
  exact ⟨⟨o,k a o (nown a q) e⟩,y,fun w=>z (hs a w)⟩
 ·refine av fun Z5 kZ5=>?_
  obtain ⟨hk,L,o,hf,hn,ho,hc,hd⟩:=q.2 env m
  refine kZ5 ?_
  exact ⟨hk,L,o,hf,hn,k L o (fun z=>hnw L z l env q.1 m hf) ho,hc,hd⟩
theorem Tr.mo {Φ':Ct} (e:Φ'.fx=Φ.fx) (t:Tr (Φ.mo X) s (Φ'.mo X) s'):Tr Φ s Φ' s':=⟨e,t.keep,t.live,t.grow,t.inst⟩
theorem Tr.others {Φ':Ct} {wr:List Addr} {tk:Nat} (t:Tr Φ s₀ Φ' s) (k:∀ b o,b∉wr→s.heap.get? b=some o→h'.get? b=some o) (hw:∀ b∈wr,s₀.heap.get? b=none):Tr Φ s₀ Φ' { s with heap:=h',toks:=tk } where
 fx:=t.fx
 keep:=fun b o e n=>(t.keep b o e n).step fun o' e'=>.of (k b o' (fun m=>ay (hw b m) e) e')
 live:=fun b l=>(t.live b l).elim fun o' e'=>⟨o',k b o' (fun m=>l.elim fun o e=>ay (hw b m) e) e'⟩
 grow:=t.grow
 inst:=t.inst
theorem hU {e:Expr} {env:Env} (h:bJ e=true) (x:Value):foldedSetIterable e env x=pure x:=by
 cases e <;> first | rfl | exact nomatch h
noncomputable def qZ (fx:Fx) (T:Expr) (b:Gs→V→Option Gs):Prop:=∀ X oa G v x G' s,Inv ⟨fx.mo X,oa,G⟩ s→b G x=some G'→(Ct.mk (fx.mo X) oa G).rp s.heap v x→(Ct.mk (fx.mo X) oa G).wp (assign T fx.env v) (fun _ s'=>∃ oa',Inv ⟨fx.mo X,oa',G'⟩ s'∧Tr ⟨fx.mo X,oa,G⟩ s ⟨fx.mo X,oa',G'⟩ s') s
end
theorem Feed.turn {g:Gl} {A:Around} {T:Expr} {I:Addr} {fp wr:List Addr} {vals:List Value} {l0 l:List V} {St:Nat→Heap→Prop} (F:Feed g A T I fp wr vals l0 l St) {i:Nat} {x:V} {s:Shared} {bad:Addr→Prop} {N:Shared→Prop} {Q:Value→Shared→Prop} {E:Value→Shared→Prop}
  (hx:l[i]?=some x) (st:St i s.heap) (rv:RpAll g bad s.heap vals l0) (hb:∀ a,bad a→aW s.heap a) (hw:∀ b∈wr,bad b)
  (hQ:∀ v h' tk,St (i+1) h'→(∀ b o,b∉wr→s.heap.get? b=some o→h'.get? b=some o)→Rp g bad h' v x→Q v { s with heap:=h',toks:=tk }) :
  wpAny (model g.prog g.w) A (pyNext (.ref I)) (fun r s₁=>match r with | none=>N s₁ | some v=>wpAny (model g.prog g.w) A (letOwnedTupleGo T (.ref I) v) (fun _ s₂=>Q v s₂) E s₁) E s:=
 wpAny_mono (F.item i x s bad Q E hx st rv hb hw hQ) (fun r s₁ ⟨v,e,z⟩=>by subst e; exact z) fun _ _ z=>z
theorem Feed.over {g:Gl} {A:Around} {T:Expr} {I:Addr} {fp wr:List Addr} {vals:List Value} {l0 l:List V} {St:Nat→Heap→Prop} (F:Feed g A T I fp wr vals l0 l St) {s:Shared} {N:Shared→Prop} {Q:Value→Shared→Prop} {E:Value→Shared→Prop}
  (st:St l.length s.heap) (hN:∀ h' tk,(∀ b o,b∉wr→s.heap.get? b=some o→h'.get? b=some o)→N { s with heap:=h',toks:=tk }) :
  wpAny (model g.prog g.w) A (pyNext (.ref I)) (fun r s₁=>match r with | none=>N s₁ | some v=>wpAny (model g.prog g.w) A (letOwnedTupleGo T (.ref I) v) (fun _ s₂=>Q v s₂) E s₁) E s:=
 wpAny_mono (F.done s N E st hN) (fun r s₁ ⟨e,z⟩=>by subst e; exact z) fun _ _ z=>z
theorem v6 {fx:Fx} [Hm fx] {T iter:Expr} {body:List Stmt} {pos:Pos} {d:Gs→(List V→Prop)→Prop} {b:Gs→V→Option Gs} {A:B} (hset:bJ iter=true) (hT:qZ fx T b) (hsrc:∀ oa G,fv ⟨fx,oa,G⟩ T true iter (d G)) (hb:∀ X,ExB (fx.mo X) (execs body fx.env) A) :
  ExB fx (exec (.For T iter body [] pos) fx.env) (fun G K=>d G fun xs=>qd b A xs G K):=fun oa G K s hd I=>by
 refine wpAny_For (hsrc oa G _ s hd I _ _ fun l s₀ it s₂ kl I₀ k₀ gr fa=>?_) (hU hset)
 obtain ⟨J,fp,wr,vals,l0,Sp,rfl,F,st0,rv,hwr,hfp,hsz⟩:=fa
 have start:Tr ⟨fx,oa,G⟩ s ⟨fx,oa,G⟩ s₀:=.of_keeps k₀
 have wr0:∀ b∈wr,fx.g.h0.get? b=none:=fun b m=>aK (fun l=>I₀.base.stays.live l) (hwr b m)
 let X:Addr→Prop:=fun b=>b∈fp∧s₀.heap.get? b=none
 have wrX:∀ b∈wr,(fx.mo X).Mo b:=fun b m=>.inr ⟨F.sub b m,hwr b m⟩
 let LI:Nat→Shared→Prop:=fun n s'=>∃ i oa' G',n=l.length - i∧i≤l.length∧Sp i s'.heap∧Inv ⟨fx.mo X,oa',G'⟩ s'∧Tr ⟨fx,oa,G⟩ s₀ ⟨fx,oa',G'⟩ s'∧(Ct.mk (fx.mo X) oa' G').rps s'.heap vals l0∧qd b A (l.drop i) G' K
 have notown:∀ {oa':Nat→Option Addr} {G':Gs} {s':Shared},Inv ⟨fx.mo X,oa',G'⟩ s'→Tr ⟨fx,oa,G⟩ s₀ ⟨fx,oa',G'⟩ s'→∀ b∈fp,¬ (Ct.mk fx oa' G').own b:=fun I' t' b hb q=>by
  cases e:s₀.heap.get? b with
  | none=>exact (I'.new b q).2.2 (.inr ⟨hb,e⟩)
  | some o=>exact ((hfp b hb).resolve_left fun z=>ay z e) rfl (.inr (t'.grow b ⟨o,e⟩ q))
 refine codeAny_forLoop_any LI (fun n s' hLI=>?_) l.length ⟨0,oa,G,rfl,Nat.zero_le _,st0,I₀.more (I₀.base.grown gr) gr.keeps (fun b q=>q.2) fun b q=>(F.live 0 _ b st0 q.1).live,.of_keeps gr.keeps,rv.map (r8 (fun b q=>q.2) gr.keeps),kl⟩
 refine av fun Z kZ=>?_
 obtain ⟨i,oa',G',rfl,hi,st,I',t',rv',ef⟩:=hLI
 cases hx:l[i]? with
 | none=>
  have hil:i=l.length:=Nat.le_antisymm hi (List.getElem?_eq_none_iff.mp hx)
  subst hil
  rw [List.drop_length] at ef
  refine kZ (F.over st fun h' tk hk=>wpAny_execs_nil ?_)
  have I3:Inv ⟨fx,oa',G'⟩ { s' with heap:=h',toks:=tk }:=Inv.others (Φ:=⟨fx.mo X,oa',G'⟩) (Mo₂:=fx.Mo) I' (fun b m=>I'.fr.not (F.live _ _ b st (F.sub b m))) hk wrX wr0 (fun a q=>.inl q) fun a q=>(I'.mo a (.inl q)).elim fun o e=>⟨o,hk a o (fun m=>(I₀.mo a q).elim fun o e=>ay (hwr a m) e) e⟩
  exact .next I3 (start.trans (t'.others hk hwr)) ef
 | some x=>
  have hil:=(List.getElem?_eq_some_iff.mp hx).1
  have ed:l.drop i=x :: l.drop (i+1):=by rw [List.drop_eq_getElem_cons hil]; congr 1; exact (List.getElem?_eq_some_iff.mp hx).2
  replace ef:=ed▸ef
  refine kZ (F.turn hx st rv' (fun a q=>I'.badLive q) (fun b m=>.inl (wrX b m)) fun v h' tk st' hk rx=>?_)
  clear kZ
  refine av fun Z kZ=>?_
  refine aj ef fun G₁ e₁ ef=>?_
  have I3:Inv ⟨fx.mo X,oa',G'⟩ { s' with heap:=h',toks:=tk }:=Inv.others (Φ:=⟨fx.mo X,oa',G'⟩) (Mo₂:=(fx.mo X).Mo) I' (fun b m=>I'.fr.not (F.live _ _ b st (F.sub b m))) hk wrX wr0 (fun a q=>q) fun a q=>by
   by_cases nw:a∈wr
   ·exact (F.live _ _ a st' (F.sub a nw)).live
   ·obtain ⟨o,e⟩:=I'.mo a q
    exact ⟨o,hk a o nw e⟩
  have t3:Tr ⟨fx,oa,G⟩ s₀ ⟨fx,oa',G'⟩ { s' with heap:=h',toks:=tk }:=t'.others hk hwr
  have rv3:(Ct.mk (fx.mo X) oa' G').rps h' vals l0:=rv'.map fun b o e _ n=>⟨n,hk b o (fun m=>n (.inl (wrX b m))) e⟩
  refine kZ (wpAny_mono (hT X oa' G' v x G₁ _ I3 e₁ rx _) (fun _ s₄ ⟨oa₄,I4,t4⟩=>?_) fun _ _ z=>z)
  have t04:Tr ⟨fx,oa,G⟩ s₀ ⟨fx,oa₄,G₁⟩ s₄:=t3.trans (t4.mo (Φ:=⟨fx,oa',G'⟩) (Φ':=⟨fx,oa₄,G₁⟩) rfl)
  have st4:Sp (i+1) s₄.heap:=F.frame _ _ _ st' fun b hb o e=>(t4.keep b o e (notown I3 t3 b hb)).get ((F.live _ _ b st' hb).nf e)
  refine wpAny_mono (hb X oa₄ G₁ _ s₄ ef I4) (fun f s₅ ⟨oa₅,G₅,fl,I5,B5,t5,hf,ek⟩=>?_) fun v s₅ ⟨oa₅,G₅,c,e,hv,hc,I5,t5,xa,ek⟩=>nomatch ek.1
  have t05:Tr ⟨fx,oa,G⟩ s₀ ⟨fx,oa₅,G₅⟩ s₅:=t04.trans (t5.mo (Φ:=⟨fx,oa₄,G₁⟩) (Φ':=⟨fx,oa₅,G₅⟩) rfl)
  cases fl with
  | none=>
   subst hf
   exact ⟨l.length - (i+1),Nat.sub_succ_lt_self _ _ hil,i+1,oa₅,G₅,rfl,hil,F.frame _ _ _ st4 fun b hb o e=>(t5.keep b o e (notown I4 t04 b hb)).get ((F.live _ _ b st4 hb).nf e),I5 (.inl rfl),t05,(rv3.map t4.mapK).map t5.mapK,ek⟩
  | some y=>
   obtain ⟨nx,w,rfl,rw,nv⟩:=hf
   exact ⟨oa₅,G₅,some y,fun q=>q.elim nofun fun q=>(nomatch (Hm.no (fx:=fx)).symm.trans q),B5,start.trans t05,⟨nx,w,rfl,rw.map (tr (Φ:=⟨fx,oa₅,G₅⟩)),fun q=>(nv q).le fun b l=>t04.live b (k₀.live l)⟩,ek.2⟩
section
variable {fx:Fx}
theorem uy {n:Str} {k:Nat} {py:Pos} (hT:TgtOk fx.ρ fx.env n k):qZ fx (.Name n py) (iB k):=fun X oa G v x G' s I e r E=>by
 (injection e with e; subst e)
 exact wpAny_mono (x9 (Φ:=⟨fx.mo X,oa,G⟩) hT I r E) (fun _ s' q=>⟨_,q.1,q.2.1⟩) fun _ _ z=>z
theorem ux [Hm fx] {es:List Expr} {ks:List Nat} {kk:Nat} {p:Pos} (hT:TgtsOk fx.ρ fx.env es ks):qZ fx (.Tuple es kk p) (cj ks):=fun X oa G v x G' s I e r E=>have:Hm (fx.mo X):=⟨Hm.no (fx:=fx)⟩; wpAny_mono (Bm (Φ:=⟨fx.mo X,oa,G⟩) hT I e r E) (fun _ s' q=>⟨_,q.1,q.2.1⟩) fun _ _ z=>z
theorem wX {oa:Nat→Option Addr} {G:Gs} {n:Str} {k:Nat} {a:Addr} {u:Value} {sl:Slot} {s s₀:Shared} {Q:Unit→Shared→Prop} (hT:TgtOk fx.ρ fx.env n k) (I:Inv ⟨fx,oa,G⟩ s₀) (B:Base fx.g s) (k₀:aD s₀.heap s.heap) (ha:s₀.heap.get? a=none) (hl:aW s.heap a) (hsl:∀ x,sl≠.v x) (hsl':sl≠.unset) (hni:¬ isI sl)
  (ow:∀ h',(∀ b o,s.heap.get? b=some o→¬ (Ct.mk fx oa G).own b→h'.get? b=some o)→gF fx.g ((Ct.mk fx oa G).put k (some a) sl).bad h' a u sl)
  (h:∀ s',Inv ((Ct.mk fx oa G).put k (some a) sl) s'→Tr ⟨fx,oa,G⟩ s₀ ((Ct.mk fx oa G).put k (some a) sl) s'→Q () s'):(Ct.mk fx oa G).wp (storeName fx.env n u) Q s:=fun E=>by
 refine gm (Φ:=⟨fx,oa,G⟩) (I.keep B k₀) hT.lk hT.nf (fun h' tk ps=>?_) E
 obtain ⟨c,hc,hs,_⟩:=ps.addr
 have kp:∀ b o,s.heap.get? b=some o→¬ (Ct.mk fx oa G).own b→h'.get? b=some o:=fun b o e nb=>hs.extBut b o (fun q=>nb (.inl ⟨k,q▸hc⟩)) e
 have no:¬ (Ct.mk fx oa G).own a:=fun q=>(I.new a q).1.elim fun o e=>ay ha e
 have so:eM fx.g ((Ct.mk fx oa G).put k (some a) sl).bad h' (some a) (some u) sl:=by
  cases sl with
  | unset=>exact absurd rfl hsl'
  | v x=>exact absurd rfl (hsl x)
  | junk=>exact (ow h' kp).elim
  | _=>exact ⟨a,u,rfl,rfl,ow h' kp⟩
 have q:=Inv.put (tk:=tk) I B k₀ ps so (fun b e=>by (injection e with e; subst e); exact ⟨ha,hl.elim fun o e=>⟨o,kp a o e no⟩⟩) hni
 exact h _ q.1 q.2
theorem xL {n:Str} {k:Nat} {py spos pos:Pos} {qs:Gs→List (Expr×DV)} {es:List Expr} (hT:TgtOk fx.ρ fx.env n k) (he:∀ G,(qs G).map Prod.fst=es) (hq:∀ oa G,∀ q∈qs G,ao q.1=true∧bg ⟨fx,oa,G⟩ q) :
  ExB fx (exec (.Assign [.Name n py] (.List es pos) spos) fx.env) (fun G K=>bo ((qs G).map Prod.snd) fun xs=>xs.length≤az∧K none (G.set k (.ownL xs))):=fun oa G K s hd I=>by
 rw [exec_Assign_Name _ _ _ _ _ (gk rfl),arm_eval_List,← he G]
 simp only [bind_assoc]
 refine zC1 (wpAny_standAt (zC1 (wpAny_standAt (zC1 (wpAny_mono (dL (Φ:=⟨fx,oa,G⟩) (hq oa G) _ s hd I _) (fun vs s₁ ⟨B,k₁,xs,⟨hz,hx⟩,rs⟩=>?_) fun _ _ z=>z)))))
 have I₁:=I.keep B k₁
 refine zC1 (wpAny_newObj_type ?_ (by refine (?_:vs.toArray.size≤sizeLine); exact List.size_toArray.symm▸rs.length.symm▸cK hz))
 have gr:=Grown.push s₁ { cls:=.type "list",data:=.seq vs.toArray } s₁.toks
 have hD:s₁.heap.get? s₁.heap.objs.size=none:=ar _
 refine zC1 (wpAny_standAt (zC1 (wpAny_bindName (wX (a:=s₁.heap.objs.size) (sl:=.ownL xs) hT I₁ (B.grown gr) gr.keeps hD ⟨_,Heap.get?_push_size _ rfl⟩ (fun _ q=>nomatch q) (fun q=>nomatch q) id (fun h' kp=>?_) (fun s' I' t'=>zC2 (.next I' ((Tr.of_keeps k₁).trans t') hx)) _))))
 have nb:¬ (Ct.mk fx oa G).own s₁.heap.objs.size:=fun q=>I₁.fresh (.inr q)
 refine ⟨rfl,_,_,_,kp _ _ (Heap.get?_push_size _ rfl) nb,⟨rfl,rfl⟩,rfl,?_⟩
 refine rs.map fun b o e _ n=>⟨fun q=>?_,kp b o (aA _ _ b o e) fun q=>n (.inr q)⟩
 rcases q with q | q
 ·exact n (.inl q)
 ·exact (put_own q).elim (fun q=>by (injection q with q; subst q); exact ay hD e) fun q=>n (.inr q)
end
end Mine
end
noncomputable section
namespace Mine
open PySem PySem.Calls PyProof.Rows PySem.W
section
variable {fx:Fx}
theorem iV {es:List Expr} {kk:Nat} {p:Pos} {value:Expr} {env:Env} (h:qJ value=true):swappedStores [.Tuple es kk p] value env=pure none∧∀ t n,swapsWith value t n env=pure false:=by
 refine ⟨?_,fun t n=>gk (zA2 h).1⟩
 cases value <;> first | rfl | exact nomatch h
theorem qo [Hm fx] {es:List Expr} {ks:List Nat} {kk:Nat} {p spos:Pos} {value:Expr} {d:Gs→DV} (hs:qJ value=true) (hT:TgtsOk fx.ρ fx.env es ks) (h:∀ oa G,Ev ⟨fx,oa,G⟩ (eval value fx.env) (d G)) :
  ExB fx (exec (.Assign [.Tuple es kk p] value spos) fx.env) (fun G K=>d G fun x=>okK (cj ks G x) (K none)):=fun oa G K s hd I=>
 Assign_Tuple (wpAny_mono (h oa G _ s hd I _) (fun v s₁ ⟨B,k₁,x,hx,r⟩=>aj hx fun G' e kG=>wpAny_mono (Bm (Φ:=⟨fx,oa,G⟩) hT (I.keep B k₁) e r _) (fun _ s₂ q=>.next q.1 ((Tr.of_keeps k₁).trans q.2.1) kG) fun _ _ z=>z) fun _ _ z=>z) ((iV (es:=es) (kk:=kk) (p:=p) hs).2 _ _:swapsWith value (some (.Tuple es kk p)) spos.line fx.env=pure false) (iV hs).1
theorem mZ {Φ:Ct} {s:Shared} {k:Nat} {sl:Slot} (I:Inv Φ s) (e:getSlot Φ.G k=sl) (h:∀ {g bad h oak v},eM g bad h oak v sl→∃ a u,oak=some a∧v=some u∧gF g bad h a u sl):∃ a u,Φ.oa k=some a∧be s.heap (Φ.fx.pl k) (some u)∧gF Φ.fx.g Φ.bad s.heap a u sl:=by
 obtain ⟨v,pr,so⟩:=I.slot k
 rw [e] at so
 obtain ⟨a,u,ha,rfl,ow⟩:=h so
 exact ⟨a,u,ha,pr,ow⟩
theorem Inv.freeze {Φ:Ct} {s:Shared} {k:Nat} {l:List V} (I:Inv Φ s) (e:getSlot Φ.G k=.ownL l):Inv (Φ.put k none (.v (.list l))) s∧Tr Φ s (Φ.put k none (.v (.list l))) s:=by
 obtain ⟨a,u,ha,pr,rfl,o,vs,n,ho,hc,hd,hl⟩:=mZ I e id
 have hon:k < Φ.G.length:=by
  rw [I.gl]
  refine Nat.lt_of_lt_of_le (Nat.lt_of_not_le fun q=>?_) I.ok.nfs
  rw [I.ok.offs k q] at pr; (injection pr; done)
 have sub:∀ b,(Φ.put k none (.v (.list l))).own b→Φ.own b:=fun b q=>(put_own q).elim (fun (q:none=some b)=>nomatch q) id
 have mk:eQ Φ.bad (Φ.put k none (.v (.list l))).bad s.heap s.heap:=fun b o e _ n=>⟨fun q=>n (q.imp id (sub b)),e⟩
 have na:¬ (Φ.put k none (.v (.list l))).bad a:=fun q=>by
  rcases q with q | q | ⟨j,q⟩
  ·exact (I.new a (.inr ⟨k,ha⟩)).2.2 q
  ·exact q.elim fun j q=>I.off k a ha j q
  ·have q:(if j=k then none else Φ.oa j)=some a:=q
   by_cases e:j=k
   ·rw [if_pos e] at q; (injection q; done)
   ·rw [if_neg e] at q; exact e (I.inj j k a q ha)
 refine ⟨⟨I.ok,I.base,fun j=>?_,fun b q=>I.new b (sub b q),fun i j b e1 e2=>?_,fun j b e i=>?_,?_,I.mo,I.fr⟩,⟨rfl,fun b o e _=>.of e,fun _ l=>l,fun b _ q=>sub b q,jT hon fun q=>q.elim⟩⟩
 ·by_cases e:j=k
  ·subst e
   have e1:(Φ.put j none (.v (.list l))).oa j=none:=if_pos rfl
   have e2:getSlot (Φ.put j none (.v (.list l))).G j=.v (.list l):=bN hon
   rw [e1,e2]
   exact ⟨_,pr,rfl,_,rfl,.list na ho hc hd (hl.map mk)⟩
  ·obtain ⟨v,r,so⟩:=I.slot j
   have e1:(Φ.put k none (.v (.list l))).oa j=Φ.oa j:=if_neg e
   have e2:getSlot (Φ.put k none (.v (.list l))).G j=getSlot Φ.G j:=cQ e
   rw [e1,e2]
   exact ⟨v,r,so.map mk fun _ _ _ e _=>e⟩
 ·have c1:(if i=k then none else Φ.oa i)=some b:=e1
  have c2:(if j=k then none else Φ.oa j)=some b:=e2
  by_cases h1:i=k
  ·rw [if_pos h1] at c1; (injection c1; done)
  ·by_cases h2:j=k
   ·rw [if_pos h2] at c2; (injection c2; done)
   ·rw [if_neg h1] at c1; rw [if_neg h2] at c2; exact I.inj i j b c1 c2
 ·have c:(if j=k then none else Φ.oa j)=some b:=e
  by_cases h1:j=k
  ·rw [if_pos h1] at c; (injection c; done)
  ·rw [if_neg h1] at c; exact I.off j b c i
 ·refine (?_:(Φ.G.set k _).length=_)
  rw [List.length_set]; exact I.gl
theorem tG {k:Nat} {t:Sem Flow} {Y:B} (h:ExB fx t Y):ExB fx t (fun G K=>okK (eF G k) fun l=>Y (G.set k (.v (.list l))) K):=fun oa G K s hd I=>aj hd fun l e hk=>by
 have q:=Inv.freeze (Φ:=⟨fx,oa,G⟩) I (jW e)
 exact wpAny_mono (h _ _ K s hk q.1) (fun _ _ p=>p.lift (Φ:=⟨fx,oa,G⟩) q.2) fun _ _ p=>p.lift (Φ:=⟨fx,oa,G⟩) q.2
theorem Inv.quiet {Φ:Ct} {s:Shared} (I:Inv Φ s):interactive Φ.fx.env=false:=by unfold interactive; rw [I.ok.kind]; rfl
theorem xN {n:Str} {f:Nat} {fp cpos pos:Pos} {qs:Gs→List (Expr×DV)} {es:List Expr} (hes:∀ G,(qs G).map Prod.fst=es) (hx:aZ fx.env.scope.names n=true) (hf:fx.g.fns.lookup n=some f) (hfn:keepIn fx.g.K (.ref (fx.g.fn f))=true) (hsf:fx.hm=true→fx.g.safe f=true)
  (hq:∀ oa G,∀ q∈qs G,ao q.1=true∧bg ⟨fx,oa,G⟩ q):ExB fx (exec (.Expr (.Call (.Name n fp) es [] cpos) pos) fx.env) (fun G K=>bo ((qs G).map Prod.snd) fun xs=>aq fx.g.P fx.d f xs fun y=>if noX y=true then isNone y=true∧K none G else K (some y) G):=fun oa G K s hd I=>by
 rw [← hes G]
 refine wpAny_Expr (mL (Φ:=⟨fx,oa,G⟩) hx hf hfn hsf (hq oa G) hd I (fun v s' y I' k hy nx r _=>?_) fun s' c e I' k hc hy x=>⟨oa,G,c,e,rfl,hc,I',.of_keeps k,x,hy⟩) I.quiet rfl
 rw [if_pos nx] at hy
 cases y with
 | none=>exact r.none_elim (.next (Φ:=⟨fx,oa,G⟩) I' (.of_keeps k) hy.2)
 | _=>(injection hy.1; done)
theorem nO (o:Obj) (f:Array Value→Array Value):(o.mapSeq f).dict=o.dict:=by
 obtain ⟨c,d,dt,sl⟩:=o; cases dt <;> rfl
theorem tN {prog:Program} {w:World} {A:Around} {E:Value→Shared→Prop} {s:Shared} {l:Addr} {o:Obj} {items:Array Value} {n:Nat} {x:Value} {Q:Value→Shared→Prop} (ho:s.heap.get? l=some o) (hc:o.cls=.type "list"∧o.dict=none) (hd:o.data=.seq items n) (hsz:items.size≤sizeLine)
  (hQ:∀ h' o' n',h'.get? l=some o'→o'.cls=.type "list"∧o'.dict=none→o'.data=.seq (items.push x) n'→Heap.SameBut l s.heap h'→Q .none { s with heap:=h' }):wpAny (model prog w) A (call (.builtin "list.append") [.ref l,x]) Q E s:=by
 obtain ⟨n',hd'⟩:=Obj.data_mapSeq hd (·.push x)
 refine wpAny_call_entry slot_list_append ⟨o,ho,hc.1⟩ entry_list_append ?_ (args_list_append _ _)
 refine (?_:wpAny _ _ (updateSeq l (·.push x) >>= fun _=>ret .none) _ _ s)
 exact zC1 (wpAny_updateSeq ho hd (zC2 ⟨.none,rfl,hQ _ _ n' (Heap.get?_update_self _ ho (Obj.isFreed_of_seq hd')) ⟨(Obj.cls_mapSeq ..).trans hc.1,(nO ..).trans hc.2⟩ hd' (Heap.SameBut.update ..)⟩))
theorem tH {n:Str} {k:Nat} {np apos pos spos:Pos} {e:Expr} {d:Gs→DV} (hx:fx.ρ.lookup n=some k) (hn:bX n=true) (hp:ao e=true) (hline:(apos.endLine==pos.line)=true) (h:∀ oa G,Ev ⟨fx,oa,G⟩ (eval e fx.env) (d G)) :
  ExB fx (exec (.Expr (.Call (.Attribute (.Name n np) "append" apos) [e] [] pos) spos) fx.env) (fun G K=>okK (eF G k) fun l=>d G fun x=>l.length < az∧K none (G.set k (.ownL (l++[x])))):=fun oa G K s hd I=>aj hd fun l el hd=>by
 refine wpAny_Expr ?_ I.quiet rfl
 obtain ⟨a,u,ha,pr,rfl,o,vs,m,ho,hc,hd',hl⟩:=mZ I (jW el) id
 refine wpAny_Call_method (T:="list") (id:="list.append") (cZ rfl) ?_ hline PySem.F.plainAttrs_list slot_list_append type_list_append (fk (Φ:=⟨fx,oa,G⟩) I.ok hx hn pr ⟨⟨o,ho,hc.1⟩,fun a q=>by cases q; exact ⟨o,ho,hc.2⟩,?_⟩ _)
 ·rw [aO hp]; rfl
 refine callWith_builtin (by rw [aO hp]; rfl) ?_
 refine cT (Φ:=⟨fx,oa,G⟩) (qs:=[(e,d G)]) (K:=fun xs=>okK (one xs some) fun x=>l.length < az∧K none (G.set k (.ownL (l++[x])))) (fun q m=>by cases zA6 m; exact ⟨hp,h oa G⟩) hd I fun ws xs s₁ I₁ k₁ hx rs=>aj hx fun x e hk=>?_
 refine ck (Φ:=⟨fx,oa,G⟩) (C:=fun ws=>wpAny _ _ (call (.builtin "list.append") ([.ref a]++ws) []) _ _ s₁) e rs fun w y r e=>?_
 cases e
 refine tN (k₁.get ho (aU hc.1)) hc hd' (cK (by rw [aY (Φ:=⟨fx,oa,G⟩) hl]; exact Nat.le_of_lt hk.1)) fun h' o' n' ho' hc' hd'' hs=>?_
 have mk:eQ (Ct.mk fx oa G).bad (Ct.mk fx oa G).bad s₁.heap h':=fun b o e _ nb=>⟨nb,hs.extBut b o (fun q=>nb (.inr (.inr ⟨k,q▸ha⟩))) e⟩
 have q:=Inv.mutate (Φ:=⟨fx,oa,G⟩) (sl:=.ownL (l++[x])) (tk:=s₁.toks) I₁ ha (pr.keep k₁) ⟨o,k₁.get ho (aU hc.1),aU hc.1⟩ hs ⟨_,ho'⟩ ⟨rfl,o',_,n',ho',hc',hd'',by rw [Array.toList_push]; exact ((hl.keep k₁).map mk).append (.cons (r.map mk) .nil)⟩ (fun _ q=>nomatch q) (fun q=>nomatch q) fun q=>q.elim
 exact .next (Φ:=⟨fx,oa,G⟩) q.1 ((Tr.of_keeps k₁).trans q.2) hk.2
end
end Mine
end
noncomputable section
namespace Mine
open PySem PySem.Calls PyProof.Rows PySem.W
section
variable {prog:Program} {w:World} {A:Around} {R:Result→Shared→Prop} {s:Shared}
theorem lO {elt target iter:Expr} {ifs:List Expr} {scope:Scope} {pos:Pos} {it acc:Value} {env:Env} (I:Nat→Shared→Prop)
  (turn:∀ n s,I n s→wpAny (model prog w) A (pyNext it) (fun r s₁=>match r with
   | none=>R (.ok .next) s₁
   | some v=>wpAny (model prog w) A (letOwnedTupleGo target it v) (fun _ s₁'=>wpAny (model prog w) A (assign target env v) (fun _ s₂=>
     wpAny (model prog w) A (forIn ifs true fun c r=>if r=true then do let ok ← isTrue c env (eval c env); pure (ForInStep.yield ok) else pure (ForInStep.yield r)) (fun ok s₃=>
      if ok=true then wpAny (model prog w) A (eval elt env) (fun x s₄=>
       wpAny (model prog w) A (call (.builtin "list.append") [acc,x]) (fun _ s₅=>∃ m,m < n∧I m s₅) (notedBy (model prog w) A env fun e s'=>R (.error e) s') s₄) (notedBy (model prog w) A env fun e s'=>R (.error e) s') s₃
      else ∃ m,m < n∧I m s₃) (notedBy (model prog w) A env fun e s'=>R (.error e) s') s₂) (notedBy (model prog w) A env fun e s'=>R (.error e) s') s₁') (notedBy (model prog w) A env fun e s'=>R (.error e) s') s₁) (notedBy (model prog w) A env fun e s'=>R (.error e) s') s)
  (n:Nat) (h:I n s):codeAny (model prog w) A (.compLoop (.ListComp elt [⟨target,iter,ifs,0⟩] scope pos) 0 it acc env) R s:=by
 refine codeAny_loop rfl I (fun n s hI=>?_) n h
 (refine (?_:wpAny _ A ((compTurn (.ListComp elt [⟨target,iter,ifs,0⟩] scope pos) 0 it acc env).onRaise (fun x=>do noteFrame x env; theTreesLotGoes x)) _ _ s))
 refine wpAny_noted ?_
 rw [compTurn_list]
 refine zC1 (wpAny_standAt (zC1 (wpAny_mono (turn n s hI) (fun r s₁ h₁=>?_) fun _ _ h'=>h')))
 cases r with
 | none=>exact wpAny_pure h₁
 | some v=>
  refine zC1 (wpAny_mono h₁ (fun _ s₁' h₁'=>?_) fun _ _ h'=>h')
  refine zC1 (wpAny_mono h₁' (fun _ s₂ h₂=>zC1 (wpAny_mono h₂ (fun ok s₃ h₃=>?_) fun _ _ h'=>h')) fun _ _ h'=>h')
  cases ok with
  | false=>exact zC2 ⟨rfl,h₃⟩
  | true=>
   exact zC1 (zC1 (wpAny_mono h₃ (fun x s₄ h₄=>zC1 (wpAny_mono h₄ (fun _ s₅ h₅=>zC2 (zC2 ⟨rfl,h₅⟩)) fun _ _ h'=>h')) fun _ _ h'=>h'))
end
noncomputable def eE (ifs:List Expr) (env:Env):Sem Bool:=forIn ifs true fun c r=>if r=true then do let ok ← isTrue c env (eval c env); pure (ForInStep.yield ok) else pure (ForInStep.yield r)
theorem ib (env:Env):∀ ifs:List Expr,(forIn ifs false fun c r=>if r=true then do let ok ← isTrue c env (eval c env); pure (ForInStep.yield ok) else pure (ForInStep.yield r):Sem Bool)=pure false
 | []=>rfl
 | c :: r=>by
  rw [List.forIn_cons]
  simp only [Bool.false_eq_true,if_false,pure_bind]
  exact ib env r
theorem c7 {scope:Scope} {env:Env} (hk:env.scope.kind=.function):(relabel scope env).names=iu env.scope.names scope.names:=by
 unfold relabel iu
 simp only [hk]
 apply List.map_congr_left
 rintro ⟨n,k⟩ _
 have:(ScopeKind.function==ScopeKind.function)=true:=by decide
 simp only [this,Bool.and_true]
 rfl
theorem relab_lookup (sc:List (Str×NameKind)):∀ (names:List (Str×NameKind)) (x:Str),(iu sc names).lookup x=(names.lookup x).map fun k=>if k==.free&&sc.lookup x==some .cell then .cell else k
 | [],x=>rfl
 | (n,k) :: r,x=>by
  have ih:=relab_lookup sc r x
  have e:iu sc ((n,k) :: r)=(n,if k==.free&&sc.lookup n==some .cell then .cell else k) :: iu sc r:=by
   unfold iu
   rw [List.map_cons]
   congr 1
   show (if _ then (n,NameKind.cell) else (n,k))=_
   split <;> rfl
  rw [e,List.lookup_cons,List.lookup_cons]
  cases hx:x==n with
  | true=>have:=beq_iff_eq.mp hx; subst this; rfl
  | false=>exact ih
noncomputable def clOf (cells:List (Str×Addr)):List (Str×NameKind)→List (Str×Addr)→List (Str×Addr)
 | [],acc=>acc
 | (n,k) :: r,acc=>clOf cells r (if k==.free then (n,(cells.lookup n).getD 0) :: acc else acc)
noncomputable def nB (cells:List (Str×Addr)) (names:List (Str×NameKind)):Prop:=∀ n,(n,NameKind.free)∈names→∃ c,cells.lookup n=some c
theorem jD {scope:Scope} {env:Env} (h:nB env.cells scope.names):closureFor scope env=pure (clOf env.cells scope.names []):=by
 unfold closureFor
 suffices ∀ (names:List (Str×NameKind)) (acc:List (Str×Addr)),nB env.cells names→(do
   let r ← forIn names acc fun x r=>match x with
    | (name,kind)=>if (kind==NameKind.free)=true then do let c ← cellOf env name; pure (ForInStep.yield ((name,c) :: r)) else pure (ForInStep.yield r)
   pure r:Sem (List (Str×Addr)))=pure (clOf env.cells names acc) by
  simpa using this scope.names [] h
 intro names
 induction names with
 | nil=>intro acc _; rfl
 | cons p r ih=>
  obtain ⟨n,k⟩:=p
  intro acc hf
  rw [List.forIn_cons]
  have hr:nB env.cells r:=fun m q=>hf m (.tail _ q)
  by_cases hk:k=.free
  ·subst hk
   obtain ⟨c,hc⟩:=hf n (.head _)
   have e1:cellOf env n=pure c:=by unfold cellOf; rw [hc]
   have:=ih ((n,c) :: acc) hr
   simp only [beq_self_eq_true,if_true,e1,pure_bind,clOf,hc,Option.getD_some] at this ⊢
   exact this
  ·have hb:(k==NameKind.free)=false:=by simpa using hk
   have:=ih acc hr
   simp only [hb,Bool.false_eq_true,if_false,pure_bind,clOf] at this ⊢
   exact this
theorem gB (cells:List (Str×Addr)):∀ (names:List (Str×NameKind)) (acc:List (Str×Addr)) (x:Str) (c:Addr),cells.lookup x=some c→((x,NameKind.free)∈names∨acc.lookup x=some c)→(∀ d,acc.lookup x=some d→d=c)→(clOf cells names acc).lookup x=some c
 | [],acc,x,c,_,h,_=>by rcases h with h | h; cases h; exact h
 | (n,k) :: r,acc,x,c,hc,h,ha=>by
  unfold clOf
  by_cases hk:k=.free
  ·subst hk
   simp only [beq_self_eq_true,if_true]
   by_cases hx:x=n
   ·subst hx
    refine gB cells r _ x c hc (.inr ?_) fun d hd=>?_
    ·simp [hc]
    ·simp only [List.lookup_cons,beq_self_eq_true,hc,Option.getD_some,Option.some.injEq] at hd; exact hd.symm
   ·have hb:(x==n)=false:=by simpa using hx
    refine gB cells r _ x c hc ?_ fun d hd=>?_
    ·rcases h with h | h
     ·rcases List.mem_cons.mp h with q | q
      ·(injection q with q; subst q); exact absurd rfl hx
      ·exact .inl q
     ·exact .inr (by rw [List.lookup_cons,hb]; exact h)
    ·rw [List.lookup_cons,hb] at hd; exact ha d hd
  ·have hb:(k==NameKind.free)=false:=by simpa using hk
   simp only [hb,Bool.false_eq_true,if_false]
   refine gB cells r acc x c hc ?_ ha
   rcases h with h | h
   ·rcases List.mem_cons.mp h with q | q
    ·cases q; exact absurd rfl hk
    ·exact .inl q
   ·exact .inr h
theorem jd {α:Type}:∀ {l:List (Str×α)} {n:Str} {c:α},l.lookup n=some c→(n,c)∈l
 | (k,v) :: r,n,c,h=>by
  rw [List.lookup_cons] at h
  cases hb:n==k with
  | true=>replace h:=hb▸h; (injection h with h; subst h); rw [beq_iff_eq.mp hb]; exact .head _
  | false=>rw [hb] at h; exact .tail _ (jd h)
theorem dg {p:Str→Bool}:∀ {l:List (Str×Nat)} {x:Str} {k:Nat},(l.filter fun q=>p q.1).lookup x=some k→p x=true∧l.lookup x=some k
 | [],_,_,h=>by simp at h
 | (n,v) :: r,x,k,h=>by
  replace h:=List.filter_cons▸h
  split at h
  ·rename_i hp
   rw [List.lookup_cons] at h ⊢
   cases hx:x==n with
   | true=>replace h:=hx▸h; (injection h with h; subst h); have:=beq_iff_eq.mp hx; subst this; exact ⟨hp,rfl⟩
   | false=>rw [hx] at h; exact dg h
  ·rename_i hp
   obtain ⟨h1,h2⟩:=dg h
   refine ⟨h1,?_⟩
   rw [List.lookup_cons]
   cases hx:x==n with
   | true=>have:=beq_iff_eq.mp hx; subst this; exact absurd h1 (by exact hp)
   | false=>exact h2
theorem nX {Φ:Ct}:∀ {qs:List (Expr×DV)},(∀ q∈qs,EvT Φ (isTrue q.1 Φ.fx.env (eval q.1 Φ.fx.env)) (tst q.2))→EvT Φ (eE (qs.map Prod.fst) Φ.fx.env) (pg true (qs.map Prod.snd))
 | [],_=>fun K s hd I=>EvR.pure (a:=true) I hd rfl
 | q :: r,h=>fun K s hd I=>by
  have e:eE ((q :: r).map Prod.fst) Φ.fx.env=(isTrue q.1 Φ.fx.env (eval q.1 Φ.fx.env) >>= fun ok=>if ok then eE (r.map Prod.fst) Φ.fx.env else pure false):=by
   unfold eE
   rw [List.map_cons,List.forIn_cons]
   simp only [if_true,bind_assoc,pure_bind]
   congr 1
   funext ok
   cases ok
   ·exact ib _ _
   ·rfl
  rw [e]
  refine (h q (.head _)).bind (K₁:=fun c=>if c=true then pg true (r.map Prod.snd) K else K c) hd I fun t c s₁ I₁ k₁ hk e=>?_
  subst e
  cases t
  ·exact EvR.pure I₁ hk rfl
  ·exact nX (fun x m=>h x (.tail _ m)) K s₁ hk I₁
noncomputable def cpl (fx:Fx) (C:Addr) (x x':Str) (k:Nat):Pl:=if k=fx.nf then .ns C x else if k=fx.nf+1 then (if x'=x then .off else .ns C x') else fx.pl k
noncomputable def aF (fx:Fx) (scope:Scope) (C:Addr) (x x':Str) (X:Addr→Prop):Fx:=
 { fx with env:=compEnvC scope (clOf fx.env.cells scope.names []) C fx.env,ρ:=(x,fx.nf) :: (x',fx.nf+1) :: fx.ρ.filter (fun p=>scope.names.lookup p.1==some .free),nf:=fx.nf+2,Mo:=fun b=>fx.Mo b∨X b,pl:=cpl fx C x x' }
structure CompOk (fx:Fx) (scope:Scope) (x x':Str):Prop where
 kind:scope.kind=.function
 loc:scope.names.lookup x=some .local
 loc':scope.names.lookup x'=some .local
 nocell:∀ y∈scope.names,y.2≠.cell
 names:∀ y∈scope.names,y.2=.local→scope.names.lookup y.1=some .local
 free:∀ n,(n,NameKind.free)∈scope.names→fx.env.kindOf n=some .cell∨fx.env.kindOf n=some .free
 cells:nB fx.env.cells scope.names
 room:fx.nf+2≤fx.ns
section
variable {Φ:Ct} {s s₀ s₂:Shared} {X:Addr→Prop} {scope:Scope} {x x':Str} {C:Addr}
theorem cpl_c (fx:Fx) (C:Addr) (x x':Str) (k:Nat):(k=fx.nf∧cpl fx C x x' k=.ns C x)∨(k=fx.nf+1∧x'≠x∧cpl fx C x x' k=.ns C x')∨(k=fx.nf+1∧cpl fx C x x' k=.off)∨cpl fx C x x' k=fx.pl k:=by
 unfold cpl
 by_cases h:k=fx.nf
 ·exact .inl ⟨h,if_pos h⟩
 ·rw [if_neg h]
  by_cases h':k=fx.nf+1
  ·rw [if_pos h']
   by_cases e:x'=x
   ·exact .inr (.inr (.inl ⟨h',if_pos e⟩))
   ·exact .inr (.inl ⟨h',e,if_neg e⟩)
  ·exact .inr (.inr (.inr (if_neg h')))
theorem sO {fx:Fx} {k:Nat} (ho:∀ k,fx.nf≤k→fx.pl k=.off) (h:fx.pl k≠.off):cpl fx C x x' k=fx.pl k:=by
 have:k < fx.nf:=Nat.lt_of_not_le fun q=>h (ho k q)
 unfold cpl
 rw [if_neg (Nat.ne_of_lt this),if_neg (Nat.ne_of_lt (Nat.lt_succ_of_lt this))]
theorem compFx_addr {fx:Fx} {k:Nat} {a:Addr} (h:((aF fx scope C x x' X).pl k).addr=some a):a=C∨(fx.pl k).addr=some a:=by
 have h:(cpl fx C x x' k).addr=some a:=h
 rcases cpl_c fx C x x' k with ⟨_,e⟩ | ⟨_,_,e⟩ | ⟨_,e⟩ | e <;> replace h:=e▸h
 ·(injection h with h; subst h); exact .inl rfl
 ·(injection h with h; subst h); exact .inl rfl
 ·(injection h; done)
 ·exact .inr h
theorem CompOk.toFx {fx:Fx} (c:CompOk fx scope x x') (ok:FxOk fx) (hC:∀ j,(fx.pl j).addr≠some C) (hX0:∀ b,X b→fx.g.h0.get? b=none):FxOk (aF fx scope C x x' X) where
 gr:=ok.gr
 hand:=ok.hand
 kind:=c.kind
 globals:=ok.globals
 builtins:=ok.builtins
 vis:=fun y k hy=>by
  have kn:∀ y,(aF fx scope C x x' X).env.kindOf y=(iu fx.env.scope.names scope.names).lookup y:=fun y=>by
   refine (?_:(relabel scope fx.env).names.lookup y=_)
   rw [c7 ok.kind]
  have hy:((x,fx.nf) :: (x',fx.nf+1) :: fx.ρ.filter (fun p=>scope.names.lookup p.1==some .free)).lookup y=some k:=hy
  rw [List.lookup_cons] at hy
  cases hb:y==x with
  | true=>
   replace hy:=hb▸hy; (injection hy with hy; subst hy)
   cases eq_of_beq hb
   exact .inl ⟨by rw [kn,relab_lookup,c.loc]; rfl,if_pos rfl⟩
  | false=>
   rw [hb] at hy
   replace hy:((x',fx.nf+1) :: fx.ρ.filter (fun p=>scope.names.lookup p.1==some .free)).lookup y=some k:=hy
   rw [List.lookup_cons] at hy
   cases hb':y==x' with
   | true=>
    replace hy:=hb'▸hy; (injection hy with hy; subst hy)
    cases eq_of_beq hb'
    refine .inl ⟨by rw [kn,relab_lookup,c.loc']; rfl,?_⟩
    refine (?_:cpl fx C x x' (fx.nf+1)=.ns C x')
    unfold cpl
    rw [if_neg (Nat.succ_ne_self _),if_pos rfl,if_neg fun q=>by rw [q,beq_self_eq_true] at hb; (injection hb; done)]
   | false=>
    rw [hb'] at hy
    obtain ⟨hf,hk⟩:=dg (p:=fun y=>scope.names.lookup y==some .free) hy
    have hf:=eq_of_beq hf
    have hm:=jd hf
    right
    refine ⟨?_,?_⟩
    ·rw [kn,relab_lookup,hf]
     simp only [Option.map_some,beq_self_eq_true,Bool.true_and]
     split
     ·exact .inl rfl
     ·exact .inr rfl
    ·obtain ⟨cc,hcc⟩:=c.cells y hm
     refine ⟨cc,gB _ _ _ _ _ hcc (.inl hm) (fun d hd=>by (injection hd; done)),?_⟩
     rcases ok.vis y k hk with ⟨q,_⟩ | ⟨_,c',hc',hp⟩
     ·rcases c.free y hm with q' | q' <;> rw [q] at q' <;> cases q'
     ·replace hc':=hcc▸hc'; (injection hc' with hc'; subst hc')
      exact (sO ok.offs (by exact hp.symm▸nofun)).trans hp
 inj:=fun k j e hne=>by
  have e:cpl fx C x x' k=cpl fx C x x' j:=e
  have hne:cpl fx C x x' k≠.off:=hne
  have no:∀ j y,Pl.ns C y≠fx.pl j:=fun j y q=>hC j (by rw [← q]; rfl)
  rcases cpl_c fx C x x' k with ⟨h1,e1⟩ | ⟨h1,n1,e1⟩ | ⟨_,e1⟩ | e1 <;> rcases cpl_c fx C x x' j with ⟨h2,e2⟩ | ⟨h2,n2,e2⟩ | ⟨_,e2⟩ | e2 <;>
   first | exact h1.trans h2.symm | exact absurd e1 hne | exact absurd (e.trans e2) hne | (replace e:=e2▸e1▸e; first | (cases e; exact absurd rfl n1) | (cases e; exact absurd rfl n2) | exact absurd e (no _ _) | exact absurd e.symm (no _ _) | exact ok.inj k j e (e1▸hne))
 apart:=fun k j a y cc e1 e2=>by
  have e1:cpl fx C x x' k=.ns a y:=e1
  have e2:cpl fx C x x' j=.cell cc:=e2
  have e2:fx.pl j=.cell cc:=by
   rcases cpl_c fx C x x' j with ⟨_,q⟩ | ⟨_,_,q⟩ | ⟨_,q⟩ | q
   ·exact nomatch q.symm.trans e2
   ·exact nomatch q.symm.trans e2
   ·exact nomatch q.symm.trans e2
   ·exact q.symm.trans e2
  have oth:a=C→a≠cc:=fun z q=>hC j (by rw [e2,← z,q]; rfl)
  rcases cpl_c fx C x x' k with ⟨_,q⟩ | ⟨_,_,q⟩ | ⟨_,q⟩ | q <;> replace e1:=q▸e1
  ·(injection e1 with e1; subst e1); exact oth rfl
  ·(injection e1 with e1; subst e1); exact oth rfl
  ·(injection e1; done)
  ·exact ok.apart k j a y cc e1 e2
 offs:=fun k hk=>by
  have hk:fx.nf+2≤k:=hk
  have a:k≠fx.nf:=Nat.ne_of_gt (Nat.lt_of_lt_of_le (Nat.lt_add_of_pos_right (by decide)) hk)
  have b:k≠fx.nf+1:=Nat.ne_of_gt hk
  exact (if_neg a).trans ((if_neg b).trans (ok.offs k (zB1 (Nat.le_add_right _ _) hk)))
 nfs:=c.room
 room:=ok.room
 units:=ok.units
 call:=ok.call
 mo0:=fun a q=>q.elim (ok.mo0 a) (hX0 a)
theorem comp_own {oa:Nat→Option Addr} {G:Gs} {a:Addr} (q:(Ct.mk (aF Φ.fx scope C x x' X) oa G).own a) (h:oa=Φ.oa):a=C∨Φ.own a:=by
 subst h
 rcases q with ⟨j,q⟩ | q
 ·exact (compFx_addr q).imp id fun q=>.inl ⟨j,q⟩
 ·exact .inr (.inr q)
theorem uJ {a:Addr} (I:Inv Φ s) (q:Φ.own a):(Ct.mk (aF Φ.fx scope C x x' X) Φ.oa Φ.G).own a:=by
 rcases q with ⟨j,q⟩ | q
 ·exact .inl ⟨j,by refine (?_:(cpl Φ.fx C x x' j).addr=some a); rw [sO I.ok.offs fun e=>by replace q:=e▸q; (injection q; done)]; exact q⟩
 ·exact .inr q
theorem Inv.comp (c:CompOk Φ.fx scope x x') (I:Inv Φ s₀) (B:Base Φ.fx.g s) (k:aD s₀.heap s.heap) (hX:∀ b,X b→s₀.heap.get? b=none∧aW s.heap b∧b≠C) (hC0:s₀.heap.get? C=none) (hC:s.heap.Ns C fun _=>none) :
  Inv ⟨aF Φ.fx scope C x x' X,Φ.oa,Φ.G⟩ s∧eQ Φ.bad (Ct.mk (aF Φ.fx scope C x x' X) Φ.oa Φ.G).bad s₀.heap s.heap:=by
 have hCl:aW s.heap C:=by obtain ⟨o,_,_,e,_⟩:=hC; exact ⟨o,e⟩
 have hCp:∀ j,(Φ.fx.pl j).addr≠some C:=fun j e=>(I.new C (.inl ⟨j,e⟩)).1.elim fun o e=>ay hC0 e
 have mk:eQ Φ.bad (Ct.mk (aF Φ.fx scope C x x' X) Φ.oa Φ.G).bad s₀.heap s.heap:=fun b o e f n=>by
  refine ⟨fun q=>?_,k.get e f⟩
  rcases q with (q | q) | q
  ·exact n (.inl q)
  ·exact ay (hX b q).1 e
  ·exact (comp_own (Φ:=Φ) q rfl).elim (fun q=>ay hC0 (q▸e)) fun q=>n (.inr q)
 refine ⟨⟨c.toFx I.ok hCp fun b q=>aK (fun l=>I.base.stays.live l) (hX b q).1,B,fun j=>?_,fun a q=>?_,I.inj,fun j a e i q=>?_,I.gl,fun a q=>q.elim (fun q=>k.live (I.mo a q)) fun q=>(hX a q).2.1,I.fr.keep k⟩,mk⟩
 ·obtain ⟨v,r,so⟩:=I.slot j
  have so':=so.map mk fun a _ o e f=>k.get e f
  refine ⟨v,?_,so'⟩
  refine (?_:be s.heap (cpl Φ.fx C x x' j) v)
  have vn:Φ.fx.nf≤j→v=none:=fun q=>by rw [I.ok.offs j q] at r; exact r
  rcases cpl_c Φ.fx C x x' j with ⟨h,e⟩ | ⟨h,_,e⟩ | ⟨h,e⟩ | e <;> refine e.symm▸?_
  ·rw [vn (zB2 h.symm)]; exact ⟨_,hC,rfl⟩
  ·rw [vn (h▸Nat.le_succ _)]; exact ⟨_,hC,rfl⟩
  ·exact vn (h▸Nat.le_succ _)
  ·exact r.keep k
 ·rcases comp_own (Φ:=Φ) q rfl with rfl | q
  ·exact ⟨hCl,aK (fun l=>I.base.stays.live l) hC0,fun z=>z.elim (fun z=>(I.mo a z).elim fun o e=>ay hC0 e) fun z=>(hX a z).2.2 rfl⟩
  ·obtain ⟨⟨o,e⟩,n,m⟩:=I.new a q
   exact ⟨(k a o e).live,n,fun z=>z.elim m fun z=>ay (hX a z).1 e⟩
 ·rcases compFx_addr q with rfl | q
  ·exact (I.new a (.inr ⟨j,e⟩)).1.elim fun o e=>ay hC0 e
  ·exact I.off j a e i q
end
end Mine
end
noncomputable section
namespace Mine
open PySem PySem.Calls PyProof.Rows PySem.W
theorem gu {h h':Heap} {D:Addr} {vs:Array Value} (p:h.PlainList D vs) (k:∀ o,h.get? D=some o→h'.get? D=some o):h'.PlainList D vs:=p.elim fun c e=>⟨c,k _ e⟩
theorem jU {h:Heap} {D:Addr} {vs:Array Value} (p:h.PlainList D vs):d4 h D:=p.elim fun c e=>⟨_,e,aU rfl⟩
theorem i7 {h:Heap} {D:Addr} {vs:Array Value} (p:h.PlainList D vs):aW h D:=p.elim fun c e=>⟨_,e⟩
theorem uF {Φ:Ct} {k:Nat} {sl:Slot} (h:Φ.oa k=none):Φ.put k none sl=⟨Φ.fx,Φ.oa,Φ.G.set k sl⟩:=by
 unfold Ct.put
 congr 1
 funext j
 by_cases e:j=k
 ·rw [if_pos e,e,h]
 ·exact if_neg e
section
variable {Φ:Ct} [Hm Φ.fx] {s s₀ s₂:Shared} {scope:Scope} {x x':Str}
inductive CompEnd (Φ:Ct) (s₀:Shared) (K:List V→Prop) (D C:Addr) (s':Shared):Prop
 | mk:∀ m ys,Base Φ.fx.g s'→aD s₀.heap s'.heap→s₀.heap.get? C=none→s₀.heap.get? D=none→D≠C→s'.heap.Ns C m→K ys→∀ vs,s'.heap.PlainList D vs→RpAll Φ.fx.g (fun b=>Φ.bad b∨b=C) s'.heap vs.toList ys→CompEnd Φ s₀ K D C s'
noncomputable def qx (Φ:Ct) (scope:Scope) (T:Expr) (x x':Str) (b:Gs→V→Option Gs):Prop:=(∀ G y G₁ z,b G y=some G₁→b G₁ z=b G z) ∧
 ∀ C X G G₁ v y s,Φ.fx.env.scope.kind=.function→(∀ k,Φ.fx.nf≤k→Φ.oa k=none)→Inv ⟨aF Φ.fx scope C x x' X,Φ.oa,G⟩ s→b G y=some G₁→(Ct.mk (aF Φ.fx scope C x x' X) Φ.oa G).rp s.heap v y →
  (Ct.mk (aF Φ.fx scope C x x' X) Φ.oa G).wp (assign T (aF Φ.fx scope C x x' X).env v) (fun _ s'=>Inv ⟨aF Φ.fx scope C x x' X,Φ.oa,G₁⟩ s'∧∀ b o,b≠C→s.heap.get? b=some o→s'.heap.get? b=some o) s
theorem lB {elt iter T:Expr} {b:Gs→V→Option Gs} {ifs:List Expr} {pos:Pos} {l:List V} {it:Value} {de:D} {ts:List D} {K:List V→Prop} {RR:Value→Addr→Result→Shared→Prop} {E:Value→Shared→Prop}
  (c:CompOk Φ.fx scope x x') (I₀:Inv Φ s₀) (gr:Grown s₀ s₂) (fa:FeedAt Φ T false s₀ s₂ it l)
  (helt:∀ C X oa G,Ev ⟨aF Φ.fx scope C x x' X,oa,G⟩ (eval elt (aF Φ.fx scope C x x' X).env) (de G))
  (htest:∀ C X oa G,EvT ⟨aF Φ.fx scope C x x' X,oa,G⟩ (eE ifs (aF Φ.fx scope C x x' X).env) (cw true ts G))
  (hT:qx Φ scope T x x' b) (er:jC de ts b Φ.G l K)
  (hK:∀ D C s',CompEnd Φ s₀ K D C s'→RR (.ref D) C (.ok .next) s') :
  wpAny (model Φ.fx.g.prog Φ.fx.g.w) Φ.fx.A (newList []) (fun acc s₃=>wpAny (model Φ.fx.g.prog Φ.fx.g.w) Φ.fx.A (newFunctionEnv scope Φ.fx.env.globals (clOf Φ.fx.env.cells scope.names []) [] Φ.fx.env.qual none .none (some Φ.fx.env)) (fun cenv s₄=>
   codeAny (model Φ.fx.g.prog Φ.fx.g.w) Φ.fx.A (.compStart (.ListComp elt [⟨T,iter,ifs,0⟩] scope pos) 0 it acc { cenv with scope:=relabel scope Φ.fx.env }) (RR acc cenv.locals) s₄) E s₃) E s₂:=by
 refine av fun Z kZ=>?_
 obtain ⟨J,fp,wr,vals,l0,Sp,rfl,F,st0,rv,hwr,hfp,hsz⟩:=fa
 refine kZ (wpAny_newObj_type (wpAny_newFunctionEnv c.nocell (fun y hy=>nomatch hy) (fun h₁ hns₁ hsb₁=>?_) c.kind))
 clear kZ
 dsimp only at hns₁ hsb₁ ⊢
 generalize hH2:s₂.heap.push { cls:=.type "list",dict:=none,data:=.seq ([]:List Value).toArray }=H2 at hns₁ hsb₁ ⊢
 have hDn:s₂.heap.get? s₂.heap.objs.size=none:=ar _
 have hD0:s₀.heap.get? s₂.heap.objs.size=none:=aK gr.keeps.live hDn
 have up1:∀ b o,s₂.heap.get? b=some o→H2.get? b=some o:=fun b o e=>hH2▸Heap.get?_push_of_some _ e
 have hD1:H2.get? s₂.heap.objs.size=some { cls:=.type "list",dict:=none,data:=.seq ([]:List Value).toArray }:=hH2▸Heap.get?_push_size _ rfl
 have hCn:H2.get? H2.objs.size=none:=ar _
 have hC2:s₂.heap.get? H2.objs.size=none:=aK (fun l=>l.elim fun o e=>⟨o,up1 _ o e⟩) hCn
 have hC0:s₀.heap.get? H2.objs.size=none:=aK gr.keeps.live hC2
 have hDC:s₂.heap.objs.size≠H2.objs.size:=fun q=>ay hCn (q▸hD1)
 have up2:∀ b o,b≠H2.objs.size→H2.get? b=some o→h₁.get? b=some o:=fun b o n e=>hsb₁.extBut b o n (Heap.get?_push_of_some _ e)
 have up:aH s₂.heap h₁:=fun b o e=>up2 b o (fun q=>ay hC2 (q▸e)) (up1 b o e)
 have hDh:h₁.PlainList s₂.heap.objs.size #[]:=⟨_,up2 _ _ hDC hD1⟩
 generalize hDD:s₂.heap.objs.size=D at hDn hD0 hD1 hDC hDh ⊢
 generalize hCC:H2.objs.size=C at hns₁ hsb₁ hCn hC0 hC2 hDC up2 ⊢
 have gr':Grown s₀ { s₂ with heap:=h₁,toks:=s₂.toks+([]:List (Str×Value)).length }:=gr.trans ⟨up,rfl,rfl⟩
 let X:Addr→Prop:=fun b=>(b∈fp∧s₀.heap.get? b=none)∨b=D
 have fpl:∀ b∈fp,aW s₂.heap b:=fun b hb=>(F.live 0 _ b st0 hb).live
 have fpC:∀ b∈fp,b≠C:=fun b hb q=>(fpl b hb).elim fun o e=>ay hC2 (q▸e)
 have fpD:∀ b∈fp,b≠D:=fun b hb q=>(fpl b hb).elim fun o e=>ay hDn (q▸e)
 have hXp:∀ b,X b→s₀.heap.get? b=none∧aW h₁ b∧b≠C:=fun b q=>by
  rcases q with ⟨q,n⟩ | rfl
  ·exact ⟨n,up.live (fpl b q),fpC b q⟩
  ·exact ⟨hD0,i7 hDh,hDC⟩
 obtain ⟨I₁,mk₁⟩:=I₀.comp (X:=X) c (I₀.base.grown gr') gr'.keeps hXp hC0 hns₁
 let cfx:=aF Φ.fx scope C x x' X
 have hoa:∀ k,Φ.fx.nf≤k→Φ.oa k=none:=fun k hk=>by
  obtain ⟨v,r,so⟩:=I₀.slot k
  replace r:=(I₀.ok.offs _ hk)▸r
  cases r
  generalize getSlot Φ.G k=sl at so
  cases sl with
  | unset=>exact so.1
  | v x=>exact so.1
  | junk=>exact so
  | _=>obtain ⟨_,_,_,q,_⟩:=so; cases q
 have wrX:∀ b∈wr,cfx.Mo b:=fun b m=>.inr (.inl ⟨F.sub b m,hwr b m⟩)
 have wr0:∀ b∈wr,Φ.fx.g.h0.get? b=none:=fun b m=>aK (fun l=>I₀.base.stays.live l) (hwr b m)
 have D0:Φ.fx.g.h0.get? D=none:=aK (fun l=>I₀.base.stays.live l) hD0
 have wrD:D∉wr:=fun m=>fpD D (F.sub D m) rfl
 have st1:Sp 0 h₁:=F.frame _ _ _ st0 fun b _ o e=>up b o e
 have plC:(cfx.pl Φ.fx.nf).addr=some C:=by show (cpl Φ.fx C x x' Φ.fx.nf).addr=_; unfold cpl; rw [if_pos rfl]; rfl
 have loop:codeAny (model Φ.fx.g.prog Φ.fx.g.w) Φ.fx.A (.compLoop (.ListComp elt [⟨T,iter,ifs,0⟩] scope pos) 0 (.ref J) (.ref D) cfx.env) (RR (.ref D) C) { s₂ with heap:=h₁,toks:=s₂.toks+([]:List (Str×Value)).length }:=by
  let LC:Nat→Shared→Prop:=fun n s'=>∃ i G' zs vs,n=l.length - i∧i≤l.length∧Sp i s'.heap∧Inv ⟨cfx,Φ.oa,G'⟩ s'∧(∀ z,b G' z=b Φ.G z)∧aD s₀.heap s'.heap∧(Ct.mk cfx Φ.oa Φ.G).rps s'.heap vals l0 ∧
   s'.heap.PlainList D vs∧(Ct.mk cfx Φ.oa Φ.G).rps s'.heap vs.toList zs∧zs.length≤i∧jC de ts b Φ.G (l.drop i) fun ys=>K (zs++ys)
  refine lO LC ?_ l.length ⟨0,Φ.G,[],#[],rfl,Nat.zero_le _,st1,I₁,fun _=>rfl,gr'.keeps,rv.map mk₁,hDh,.nil,Nat.zero_le _,er⟩
  intro n s' hLC
  refine av fun Z kZ=>?_
  obtain ⟨i,G',zs,vs,rfl,hi,st,I',hG,kx,rv',hD',rz,hz,ec⟩:=hLC
  cases hx:l[i]? with
  | none=>
   have hil:i=l.length:=Nat.le_antisymm hi (List.getElem?_eq_none_iff.mp hx)
   subst hil
   replace ec:=List.drop_length▸ec
   refine kZ (F.over st fun h' tk hk=>hK D C _ ?_)
   have kC:∀ b o,s'.heap.get? b=some o→b∉wr→h'.get? b=some o:=fun b o e n=>hk b o n e
   obtain ⟨v,⟨m,hn,hv⟩,_⟩:∃ v,(∃ m,s'.heap.Ns C m∧m x=v)∧True:=by
    obtain ⟨v,r,_⟩:=I'.slot Φ.fx.nf
    have r:be s'.heap (cpl Φ.fx C x x' Φ.fx.nf) v:=r
    unfold cpl at r
    rw [if_pos rfl] at r
    exact ⟨v,r,trivial⟩
   refine ⟨m,zs,⟨fun b o e=>hk b o (fun q=>ay (wr0 b q) e) (I'.base.stays b o e),I'.base.os,I'.base.gens⟩,fun b o e=>(kx b o e).step fun o' e'=>.of (hk b o' (fun q=>ay (hwr b q) e) e'),hC0,hD0,hDC,hn.at' fun o e=>hk C o (fun q=>fpC C (F.sub C q) rfl) e,?_,vs,gu hD' fun o e=>hk D o wrD e,rz.map fun b o e _ n=>⟨fun q=>n ?_,hk b o (fun q=>n (.inl (wrX b q))) e⟩⟩
   ·have ec:K (zs++[]):=ec
    rwa [List.append_nil] at ec
   ·rcases q with q | rfl
    ·exact q.imp .inl fun q=>uJ (X:=X) I₀ q
    ·exact .inr (.inl ⟨_,plC⟩)
  | some y=>
   have hil:=(List.getElem?_eq_some_iff.mp hx).1
   have ed:l.drop i=y :: l.drop (i+1):=by rw [List.drop_eq_getElem_cons hil]; congr 1; exact (List.getElem?_eq_some_iff.mp hx).2
   rw [ed] at ec
   refine kZ (F.turn (bad:=(Ct.mk cfx Φ.oa G').bad) hx st rv' (fun a q=>I'.badLive q) (fun b m=>.inl (wrX b m)) fun v h' tk st' hk rx=>?_)
   clear kZ
   refine av fun Z kZ=>?_
   have I3:Inv ⟨cfx,Φ.oa,G'⟩ { s' with heap:=h',toks:=tk }:=Inv.others (Φ:=⟨cfx,Φ.oa,G'⟩) (Mo₂:=cfx.Mo) I' (fun b m=>I'.fr.not (F.live _ _ b st (F.sub b m))) hk wrX wr0 (fun a q=>q) fun a q=>by
    by_cases nw:a∈wr
    ·exact (F.live _ _ a st' (F.sub a nw)).live
    ·exact (I'.mo a q).elim fun o e=>⟨o,hk a o nw e⟩
   have mk3:eQ (Ct.mk cfx Φ.oa Φ.G).bad (Ct.mk cfx Φ.oa Φ.G).bad s'.heap h':=fun b o e _ n=>⟨n,hk b o (fun m=>n (.inl (wrX b m))) e⟩
   have ec:okK (b Φ.G y) fun G₁=>_:=ec
   refine aj ec fun G₁ e₁ ec=>kZ (wpAny_mono (hT.2 C X G' G₁ v y _ I₀.ok.kind hoa I3 ((hG y).trans e₁) rx _) (fun _ s₄ q=>?_) fun _ _ z=>z)
   clear kZ
   refine av fun Z kZ=>?_
   obtain ⟨I4,kC⟩:=q
   have mk4:eQ (Ct.mk cfx Φ.oa Φ.G).bad (Ct.mk cfx Φ.oa Φ.G).bad h' s₄.heap:=fun b o e _ n=>⟨n,kC b o (fun q=>n (.inr (.inl ⟨_,q▸plC⟩))) e⟩
   have kx4:aD s₀.heap s₄.heap:=fun b o e=>(kx b o e).step fun o' e'=>.of (kC b o' (fun q=>ay hC0 (q▸e)) (hk b o' (fun q=>ay (hwr b q) e) e'))
   have st4:Sp (i+1) s₄.heap:=F.frame _ _ _ st' fun b hb o e=>kC b o (fpC b hb) e
   have rv4:=(rv'.map mk3).map mk4
   have rz4:=(rz.map mk3).map mk4
   have hD4:s₄.heap.PlainList D vs:=gu hD' fun o e=>kC D o hDC (hk D o wrD e)
   refine kZ (wpAny_mono (htest C X Φ.oa G₁ _ s₄ ec I4 _) (fun b' s₅ ⟨B5,k5,c5,hc5,e5⟩=>?_) fun _ _ z=>z)
   clear kZ
   refine av fun Z kZ=>?_
   subst e5
   have I5:=I4.keep B5 k5
   have st5:Sp (i+1) s₅.heap:=F.frame _ _ _ st4 fun b hb o e=>k5.get e ((F.live _ _ b st4 hb).nf e)
   have hD5:s₅.heap.PlainList D vs:=gu hD4 fun o e=>k5.get e ((jU hD4).nf e)
   have hGs:∀ z,b G₁ z=b Φ.G z:=fun z=>hT.1 _ _ _ z e₁
   cases b' with
   | false=>exact kZ ⟨l.length - (i+1),Nat.sub_succ_lt_self _ _ hil,i+1,_,zs,vs,rfl,hil,st5,I5,hGs,kx4.trans k5,rv4.keep k5,hD5,rz4.keep k5,Nat.le_succ_of_le hz,hc5⟩
   | true=>
    refine kZ (wpAny_mono (helt C X Φ.oa G₁ _ s₅ hc5 I5 _) (fun yv s₆ ⟨B6,k6,z,hz6,rz6⟩=>?_) fun _ _ z=>z)
    clear kZ
    refine av fun Z kZ=>?_
    have I6:=I5.keep B6 k6
    have hD6:s₆.heap.PlainList D vs:=gu hD5 fun o e=>k6.get e ((jU hD5).nf e)
    have rzs:=(rz4.keep k5).keep k6
    refine kZ (wpAny_list_append_plain (hsz:=cK (by rw [aY (Φ:=⟨cfx,Φ.oa,Φ.G⟩) rzs]; exact zB1 hz (zB1 hi hsz))) hD6 fun h₇ hD7 hs7=>?_)
    have k7:∀ b o,b∉[D]→s₆.heap.get? b=some o→h₇.get? b=some o:=fun b o n e=>hs7.extBut b o (fun q=>n (by rw [q]; exact .head _)) e
    have I7:Inv ⟨cfx,Φ.oa,G₁⟩ { s₆ with heap:=h₇,toks:=s₆.toks }:=Inv.others (Φ:=⟨cfx,Φ.oa,G₁⟩) (Mo₂:=cfx.Mo) I6 (fun b m=>by cases zA6 m; exact I6.fr.not (jU hD6)) k7 (fun b m=>by cases zA6 m; exact .inr (.inr rfl)) (fun b m=>by cases zA6 m; exact D0) (fun a q=>q) fun a q=>by
     by_cases nd:a=D
     ·subst nd; exact i7 hD7
     ·exact (I6.mo a q).elim fun o e=>⟨o,hs7.extBut a o nd e⟩
    have mk7:eQ (Ct.mk cfx Φ.oa Φ.G).bad (Ct.mk cfx Φ.oa Φ.G).bad s₆.heap h₇:=fun b o e _ n=>⟨n,hs7.extBut b o (fun q=>n (.inl (.inr (.inr q)))) e⟩
    refine ⟨l.length - (i+1),Nat.sub_succ_lt_self _ _ hil,i+1,_,zs++[z],vs.push yv,rfl,hil,F.frame _ _ _ st5 fun b hb o e=>hs7.extBut b o (fpD b hb) (k6.get e ((F.live _ _ b st5 hb).nf e)),I7,hGs,fun b o e=>(((kx4.trans k5).trans k6) b o e).step fun o' e'=>.of (hs7.extBut b o' (fun q=>ay hD0 (q▸e)) e'),((rv4.keep k5).keep k6).map mk7,hD7,?_,by rw [zB5]; exact Nat.succ_le_succ hz,?_⟩
    ·rw [Array.toList_push]
     exact (rzs.map mk7).append (.cons (rz6.map mk7) .nil)
    ·have e:(fun ys=>K (zs++[z]++ys))=fun ys=>K (zs++(z :: ys)):=funext fun ys=>by rw [List.append_assoc]; rfl
     rw [e]; exact hz6
 exact codeAny_compStart_list loop (F.self 0 _ _ _ st1 loop)
end
end Mine
end
noncomputable section
namespace Mine
open PySem PySem.Calls PyProof.Rows PySem.W
theorem jY (ds:List D) (G:Gs):bY ds G=bo (ds.map (· G)):=by
 induction ds with
 | nil=>rfl
 | cons d r ih=>exact funext fun f=>congrArg (d G) (funext fun x=>congrFun ih fun xs=>f (x :: xs))
theorem hY (b:Bool) (ds:List D) (G:Gs):cw b ds G=pg b (ds.map (· G)):=by
 induction ds with
 | nil=>rfl
 | cons d r ih=>exact funext fun f=>congrArg (d G) (funext fun x=>congrArg (okK (cS x some)) (funext fun c=>congrArg (fun z=>if c=b then z else f c) (congrFun ih f)))
section
variable {Φ:Ct} {scope:Scope} {x x':Str}
theorem xW {fx:Fx} {scope:Scope} {C:Addr} {X:Addr→Prop} {y:Str} (hk:fx.env.scope.kind=.function) (h:scope.names.lookup y=some .local):(aF fx scope C x x' X).env.kindOf y≠some .free:=by
 show (relabel scope fx.env).names.lookup y≠_
 rw [c7 hk,relab_lookup,h]; exact nofun
theorem z7 {py:Pos} (c:CompOk Φ.fx scope x x'):qx Φ scope (.Name x py) x x' (iB Φ.fx.nf):=by
 refine ⟨fun G y G₁ z e=>by (injection e with e; subst e); exact congrArg some (List.set_set ..),fun C X G G₁ v y s hk hoa I e r E=>?_⟩
 (injection e with e; subst e)
 refine wpAny_mono (x9 (Φ:=⟨aF Φ.fx scope C x x' X,Φ.oa,G⟩) (k:=Φ.fx.nf) ⟨by refine (?_:((x,Φ.fx.nf) :: _).lookup x=_); rw [List.lookup_cons,beq_self_eq_true],xW hk c.loc⟩ I r E) (fun _ s' q=>?_) fun _ _ z=>z
 obtain ⟨I',_,k'⟩:=q
 rw [uF (Φ:=⟨aF Φ.fx scope C x x' X,Φ.oa,G⟩) (hoa _ (Nat.le_refl _))] at I'
 refine ⟨I',fun b o n e=>k' b o e fun q=>n ?_⟩
 have q:(cpl Φ.fx C x x' Φ.fx.nf).addr=some b:=q
 unfold cpl at q
 rw [if_pos rfl] at q
 (injection q with q; subst q); rfl
end
section
variable {Φ:Ct} [Hm Φ.fx] {s s₀:Shared} {scope:Scope} {x x':Str}
theorem CompEnd.rp {K:List V→Prop} {D C:Addr} {s':Shared} (I₀:Inv Φ s₀) (ce:CompEnd Φ s₀ K D C s'):∃ ys,K ys∧Rp Φ.fx.g (fun b=>Φ.bad b∨b=C) s'.heap (.ref D) (.list ys):=by
 obtain ⟨m,ys,B,kx,hC0,hD0,hDC,hn,ky,vs,⟨c,hP⟩,rp⟩:=ce
 exact ⟨ys,ky,.list (fun q=>q.elim (fun q=>(I₀.badLive q).elim fun o e=>ay hD0 e) hDC) hP ⟨rfl,rfl⟩ rfl rp⟩
theorem sJ {elt iter T:Expr} {b:Gs→V→Option Gs} {ifs:List Expr} {pos:Pos} {ds:(List V→Prop)→Prop} {de:D} {ts:List D} (c:CompOk Φ.fx scope x x') (hT:qx Φ scope T x x' b) (hset:bJ iter=true) (hsrc:fv Φ T false iter ds)
  (helt:∀ C X oa G,Ev ⟨aF Φ.fx scope C x x' X,oa,G⟩ (eval elt (aF Φ.fx scope C x x' X).env) (de G))
  (htest:∀ C X oa G,EvT ⟨aF Φ.fx scope C x x' X,oa,G⟩ (eE ifs (aF Φ.fx scope C x x' X).env) (cw true ts G)) :
  Ev Φ (eval (.ListComp elt [⟨T,iter,ifs,0⟩] scope pos) Φ.fx.env) (fun K=>ds fun xs=>jC de ts b Φ.G xs fun ys=>K (.list ys)):=fun K s hd I E=>by
 rw [eval_ListComp]
 refine wpAny_comprehension_free (use:=none) rfl (hU hset) (jD c.cells) c.kind c.names (hsrc _ s hd I _ _ fun l s₀ it s₂ kl I₀ k₀ gr fa=>lB (RR:=fun acc C=>compPost _ Φ.fx.A E none (Post Φ Φ.rp s K) acc C) c I₀ gr fa helt htest hT kl fun D C s' ce=>?_)
 obtain ⟨ys,ky,rp⟩:=ce.rp I₀
 obtain ⟨m,_,B,kx,hC0,_,_,hn,_⟩:=ce
 have h0:Φ.fx.g.h0.get? C=none:=aK (fun l=>I₀.base.stays.live l) hC0
 exact ⟨m,hn,fun h' hs=>⟨⟨fun b o e=>hs.extBut b o (fun q=>ay h0 (q▸e)) (B.stays b o e),B.os,B.gens⟩,fun b o e=>((k₀.trans kx) b o e).step fun o' e'=>.of (hs.extBut b o' (fun q=>(k₀ b o e).live.elim fun o e=>ay hC0 (q▸e)) e'),_,ky,rp.map fun b o e _ n=>⟨fun q=>n (.inl q),hs.extBut b o (fun q=>n (.inr q)) e⟩⟩⟩
noncomputable def ya (sc:List (Str×NameKind)) (scope:Scope) (y:Str) (py vp:Pos):Bool:=sc.lookup y==some .local&&py.line==vp.line&&!(scope.names.any fun (n,k)=>n==y&&(k==.local||k==.cell))
theorem rC {fx:Fx} {elt:Expr} {gens:List Comprehension} {pos py:Pos} {y:Str} {n:Nat} (hk:fx.env.scope.kind=.function):swapsWith (.ListComp elt gens scope pos) (some (.Name y py)) n fx.env=pure (ya fx.env.scope.names scope y py pos):=by
 have hb:(fx.env.blockKind==ScopeKind.function)=true:=by unfold Env.blockKind; rw [hk]; rfl
 refine (?_:(pure (fx.env.blockKind==ScopeKind.function&&_&&_&&_):Sem Bool)=_)
 rw [hb]
 rfl
theorem iP {fx:Fx} [Hm fx] {elt iter T:Expr} {b:Gs→V→Option Gs} {ifs:List Expr} {pos py p' spos:Pos} {y:Str} {k:Nat} {ds:Gs→(List V→Prop)→Prop} {de:D} {ts:List D} (c:CompOk fx scope x x') (hTc:∀ oa G,qx ⟨fx,oa,G⟩ scope T x x' b) (hset:bJ iter=true) (hsrc:∀ oa G,fv ⟨fx,oa,G⟩ T false iter (ds G))
  (helt:∀ C X oa G,Ev ⟨aF fx scope C x x' X,oa,G⟩ (eval elt (aF fx scope C x x' X).env) (de G))
  (htest:∀ C X oa G,EvT ⟨aF fx scope C x x' X,oa,G⟩ (eE ifs (aF fx scope C x x' X).env) (cw true ts G)) (hT:TgtOk fx.ρ fx.env y k) :
  ExB fx (exec (.Assign [.Name y p'] (.ListComp elt [⟨T,iter,ifs,0⟩] scope pos) spos) fx.env) (fun G K=>ds G fun xs=>jC de ts b G xs fun ys=>K none (G.set k (.v (.list ys)))):=fun oa G K s hd I=>by
 cases hsw:ya fx.env.scope.names scope y p' pos with
 | false=>exact ly (fx:=fx) (d:=fun G K=>ds G fun xs=>jC de ts b G xs fun ys=>K (.list ys)) (by rw [rC I.ok.kind,hsw]) hT (fun oa G=>sJ (Φ:=⟨fx,oa,G⟩) c (hTc oa G) hset (hsrc oa G) helt htest) oa G K s hd I
 | true=>
  rw [exec_Assign_Name_used _ _ _ _ ((rC I.ok.kind).trans (by rw [hsw]))]
  refine zC1 (wpAny_standAt (zC1 ?_))
  show wpAny _ _ (do let _ ← comprehension (.ListComp elt [⟨T,iter,ifs,0⟩] scope pos) scope fx.env _ (newList []) false (eval iter fx.env) (some (assign (.Name y p') fx.env))) _ _ s
  refine zC1 (wpAny_mono (wpAny_comprehension_free (use:=some (assign (.Name y p') fx.env)) (Q:=fun _ s'=>PostS ⟨fx,oa,G⟩ s K .next s') (E:=PostX ⟨fx,oa,G⟩ s K) rfl (hU hset) (jD c.cells) c.kind c.names ?_) (fun _ s' hq=>zC2 (wpAny_pure hq)) fun _ _ z=>z)
  refine hsrc oa G _ s hd I _ _ fun l s₀ it s₂ kl I₀ k₀ gr fa=>lB (Φ:=⟨fx,oa,G⟩) (RR:=fun acc C=>compPost _ fx.A (PostX ⟨fx,oa,G⟩ s K) (some (assign (.Name y p') fx.env)) (fun _ s'=>PostS ⟨fx,oa,G⟩ s K .next s') acc C) c I₀ gr fa helt htest (hTc oa G) kl fun D C s' ce=>?_
  obtain ⟨ys,ky,rp⟩:=ce.rp I₀
  obtain ⟨m,_,B,kx,hC0,_,_,hn,_⟩:=ce
  have h0:fx.g.h0.get? C=none:=aK (fun l=>I₀.base.stays.live l) hC0
  have hCl:aW s'.heap C:=by obtain ⟨o,_,_,e,_⟩:=hn; exact ⟨o,e⟩
  have I':Inv ((Ct.mk fx oa G).mo (·=C)) s':=I₀.more B kx (fun b q=>q▸hC0) fun b q=>q▸hCl
  show wpAny _ _ (assign (.Name y p') fx.env (.ref D)) _ _ _
  refine wpAny_mono (x9 (Φ:=(Ct.mk fx oa G).mo (·=C)) hT I' (rp.map fun b o e _ n=>⟨fun q=>n (q.elim (fun q=>q.elim (fun q=>.inl (.inl q)) .inr) fun q=>.inl (.inr q)),e⟩) _) (fun _ s₅ ⟨I5,t5,k5⟩=>?_) fun _ _ z=>z
  have hpC:(fx.pl k).addr≠some C:=fun q=>(I₀.new C (.inl ⟨k,q⟩)).1.elim fun o e=>ay hC0 e
  refine ⟨m,hn.at' fun o e=>k5 C o e hpC,fun h' hs=>?_⟩
  have kC:∀ b o,b∉[C]→s₅.heap.get? b=some o→h'.get? b=some o:=fun b o n e=>hs.extBut b o (fun q=>n (by rw [q]; exact .head _)) e
  have I6:=Inv.others (tk:=s₅.toks) (Φ:=((Ct.mk fx oa G).mo (·=C)).put k none (.v (.list ys))) (Mo₂:=fx.Mo) I5 (fun b m=>by cases zA6 m; exact I₀.fr.new hC0) kC (fun b m=>by cases zA6 m; exact .inr rfl) (fun b m=>by cases zA6 m; exact h0) (fun a q=>.inl q)
   fun a q=>(I5.mo a (.inl q)).elim fun o e=>⟨o,hs.extBut a o (fun z=>(I₀.mo a q).elim fun o e=>ay hC0 (z▸e)) e⟩
  have t6:Tr ⟨fx,oa,G⟩ s₀ ((Ct.mk fx oa G).put k none (.v (.list ys))) s₅:=(Tr.of_keeps kx).trans (Tr.mo (Φ:=⟨fx,oa,G⟩) (Φ':=(Ct.mk fx oa G).put k none (.v (.list ys))) (X:=(·=C)) rfl t5)
  exact .next (Φ:=⟨fx,oa,G⟩) I6 ((Tr.of_keeps k₀).trans (t6.others (tk:=s₅.toks) kC fun b m=>by cases zA6 m; exact hC0)) ky
end
end Mine
end
noncomputable section
namespace Mine
open PySem PySem.Calls PyProof.Rows PySem.W
section
variable {Φ:Ct} {s:Shared} {v u:Value} {x y z:V} {d d1 d2 d3:DV}
theorem jE {γ δ:Type} {R:Heap→γ→δ→Prop} {K:δ→Prop} {K₁:Bool→Prop} {o:CmpOp} {a b c:Expr} {pos:Pos} {fin stop:Value→Sem γ} (hs:bJ c=true) (h1:Ev Φ (eval a Φ.fx.env) d1) (h2:Ev Φ (eval b Φ.fx.env) d2) (h3:Ev Φ (eval c Φ.fx.env) d3)
  (hfin:∀ s b,Inv Φ s→K₁ b→Φ.wp (fin (.bool b)) (Post Φ R s K) s) (hstop:∀ s,Inv Φ s→K₁ false→Φ.wp (stop (.bool false)) (Post Φ R s K) s)
  (hd:d1 fun x=>d2 fun y=>okK (aS .LtE x y) fun t=>if t=true then d3 fun z=>okK (aS o y z) K₁ else K₁ false) (I:Inv Φ s):Φ.wp (do
  let x ← eval a Φ.fx.env
  let y ← holding [x] (eval b Φ.fx.env)
  standAt pos
  let t ← holding [x,y] (compareOp .LtE x y)
  release [x,y] [t]
  if ← holding [t,y] (truthy t) then (do
   let z ← holding [y] (markedBehindIn o c (eval c Φ.fx.env))
   standAt pos
   let u ← operate [y,z] (compareOp o y z)
   fin u) else stop t) (Post Φ R s K) s:=by
 rw [ja hs]
 refine h1.bind hd I fun v x s₁ I₁ k₁ hx r1=>h2.holding.bind hx I₁ fun u y s₂ I₂ k₂ hy r2=>ba ?_
 refine aj hy fun t e kt E=>zC1 (wpAny_holding (wpAny_mono (qW (o:=.LtE) (c:=t) e I₂ (r1.keep k₂) r2 E) (fun w s' q=>?_) fun _ _ z=>z))
 obtain ⟨rfl,rfl⟩:=q
 refine zC1 (fz (zC1 (wpAny_holding (wpAny_truthy_bool ?_))))
 cases t with
 | false=>exact hstop _ I₂ kt E
 | true=>exact h3.holding.bind kt I₂ (fun w z s₃ I₃ k₃ hz r3=>aj hz fun c e kc=>ba fun E=>zC1 (dQ (fun E'=>wpAny_mono (qW (o:=o) e I₃ (r2.keep k₃) r3 E') (fun w s' q=>by obtain ⟨rfl,rfl⟩:=q; exact hfin _ _ I₃ kc E) fun _ _ z=>z) E)) E
theorem vj {o:CmpOp} {a b c:Expr} {pos:Pos} (hs:bJ c=true) (h1:Ev Φ (eval a Φ.fx.env) d1) (h2:Ev Φ (eval b Φ.fx.env) d2) (h3:Ev Φ (eval c Φ.fx.env) d3) :
  Ev Φ (eval (.Compare a [.LtE,o] [b,c] pos) Φ.fx.env) (fun K=>d1 fun x=>d2 fun y=>okK (aS .LtE x y) fun t=>if t=true then d3 fun z=>okK (aS o y z) fun u=>K (.bool u) else K (.bool false)):=fun K s hd I=>by
 have q:=jE (o:=o) (pos:=pos) (fin:=pure) (stop:=pure) (R:=Φ.rp) (K:=K) hs h1 h2 h3 (fun s b I k=>EvR.pure I k (.bool b)) (fun s I k=>EvR.pure I k (.bool _)) hd I
 simp only [bind_pure] at q
 exact q
theorem px {o:CmpOp} {a b c:Expr} {pos:Pos} {w:Sem Value} (hs:bJ c=true) (h1:Ev Φ (eval a Φ.fx.env) d1) (h2:Ev Φ (eval b Φ.fx.env) d2) (h3:Ev Φ (eval c Φ.fx.env) d3) :
  EvT Φ (isTrue (.Compare a [.LtE,o] [b,c] pos) Φ.fx.env w) (fun K=>d1 fun x=>d2 fun y=>okK (aS .LtE x y) fun t=>if t=true then d3 fun z=>okK (aS o y z) fun u=>K u else K false):=fun K s hd I=>
 jE (o:=o) (pos:=pos) (fin:=fun c=>holding [c] (truthy c)) (stop:=fun _=>pure false) (R:=fun _=>Eq) (K:=K) hs h1 h2 h3 (fun s b I k E=>wpAny_holding (wpAny_truthy_bool ⟨I.base,.refl _,b,k,rfl⟩)) (fun s I k=>EvR.pure I k rfl) hd I
theorem oY {F:Value} {f:Str} {fp pos:Pos} {e:Expr} {dd:V→Prop} {K:V→Prop} (hx:aZ Φ.fx.env.scope.names f=true) (hF:bu.lookup f=some F) (hk:(∃ id,F=.builtin id)∨∃ T,F=.type T) (hp:ao e=true) (h:Ev Φ (eval e Φ.fx.env) d)
  (st:∀ s v x E,Inv Φ s→Φ.rp s.heap v x→dd x→wpAny (model Φ.fx.g.prog Φ.fx.g.w) Φ.fx.A (call F [v]) (gE Φ s K) E s) (hd:d dd) (I:Inv Φ s):Φ.wp (eval (.Call (.Name f fp) [e] [] pos) Φ.fx.env) (gE Φ s K) s:=fun E=>by
 refine (?_:wpAny _ _ (eval (.Name f fp) Φ.fx.env >>= fun F=>callWith pos F [] (backTo pos (starEach [e] Φ.fx.env)) []) _ _ s)
 refine zC1 (bT I hx hF ?_ E)
 have hp':(backTo pos (starEach [e] Φ.fx.env)).any (·.1)=false:=by rw [aO hp]; rfl
 have main:wpAny (model Φ.fx.g.prog Φ.fx.g.w) Φ.fx.A (evalArgs F true (backTo pos (starEach [e] Φ.fx.env)) []) (fun a s₁=>wpAny (model Φ.fx.g.prog Φ.fx.g.w) Φ.fx.A (call F ([]++a.pos) a.kw) (gE Φ s K) E s₁) E s:=
  cT (qs:=[(e,d)]) (K:=fun xs=>okK (one xs some) dd) (fun q m=>by obtain rfl:=zA6 m; exact ⟨hp,h⟩) hd I fun vs xs s₁ I₁ k₁ hx rs=>aj hx fun x e hx=>ck (C:=fun vs=>wpAny _ _ (call F ([]++vs) []) _ _ s₁) e rs fun v x' r e=>by
   (injection e with e; subst e)
   exact wpAny_mono (st s₁ v _ E I₁ r hx) (fun _ _ p=>p.lift k₁) fun _ _ z=>z
 rcases hk with ⟨id,rfl⟩ | ⟨T,rfl⟩
 ·exact callWith_builtin hp' main
 ·exact PySem.callWith_type hp' main
theorem tJ {fp pos:Pos} {e:Expr} (hx:aZ Φ.fx.env.scope.names "list"=true) (hp:ao e=true) (h:Ev Φ (eval e Φ.fx.env) d):EvN Φ (eval (.Call (.Name "list" fp) [e] [] pos) Φ.fx.env) (fun K=>d fun x=>okK (opN .listOf [x]) K):=fun K s hd I=>
 oY hx rfl (.inr ⟨_,rfl⟩) hp h (fun s v x E I r hx=>aj hx fun z e kz=>map_elim (C:=fun z=>K z→wpAny _ _ (call (.type "list") [v]) (gE Φ s K) E s) e (fun l e kz=>wpAny_mono (xm I e r E) (fun w s' q=>⟨⟨I.base.grown q.2.1,q.2.1.keeps,_,kz,q.2.2⟩,q.1▸fj (Nat.le_refl _)⟩) fun _ _ z=>z) kz) hd I
theorem lY {h:Heap}:∀ {vs:List Value} {ns:List Int},IntsAre vs ns→Φ.rps h vs (ns.map .int)
 | _,_,.nil=>.nil
 | _,_,.cons n t hr=>.cons (.int n t) (lY hr)
theorem tI {fp pos:Pos} {e:Expr} (hx:aZ Φ.fx.env.scope.names "sorted"=true) (hp:ao e=true) (h:Ev Φ (eval e Φ.fx.env) d) :
  EvN Φ (eval (.Call (.Name "sorted" fp) [e] [] pos) Φ.fx.env) (fun K=>d fun x=>okK (dW x bZ) fun is=>is.length < 64∧∀ r:List Int,r.Perm is→r.Pairwise (·≤·)→K (.list (r.map .int))):=fun K s hd I=>
 oY hx rfl (.inl ⟨_,rfl⟩) hp h (fun s v x E I r hx=>aj hx fun is e ⟨hz,hK⟩=>by
  refine bF (C:=fun x=>Φ.rp s.heap v x→wpAny _ _ (call (.builtin "sorted") [v]) _ E s) e (fun l e r=>?_) r
  refine r.list_elim fun a o vs n _ ha hc hd hl=>?_
  have hi:=dZ e hl
  refine sorted_ints (vs:=vs.toList) ⟨o,ha,hc.1,n,by rw [hd]⟩ hi (by rw [← hi.nums,zA4] at hz; exact hz) fun out ns' h1 h2 h3=>?_
  have k:aH s.heap (sortedAll s.heap vs.toList out):=fun b o e=>sortedAll_old e
  obtain ⟨ep,ho⟩:=sortedAll_at s.heap vs.toList out
  refine ⟨⟨I.base.grown (j2 (tk:=s.toks) k),k.keeps,_,hK ns' h2 h3,.list (fun q=>?_) ho ⟨rfl,rfl⟩ rfl (lY h1)⟩,fj (Nat.le_succ _)⟩
  obtain ⟨o',e'⟩:=I.badLive q
  exact absurd (Heap.lt_size e') (Nat.not_lt.mpr (Nat.le_succ _))) hd I
end
end Mine
end
noncomputable section
namespace Mine
open PySem PySem.Calls PyProof.Rows PySem.W
section
variable {prog:Program} {w:World} {A:Around} {E:Value→Shared→Prop} {s:Shared}
theorem pN {α:Type} {l m:List α} (hl:l.length=m.length) (h:∀ (j:Nat) v,l[j]?=some v→m[j]?=some v):l=m:=by
 refine List.ext_getElem? fun j=>?_
 cases e:l[j]? with
 | some v=>exact (h j v e).symm
 | none=>exact (List.getElem?_eq_none (hl▸List.getElem?_eq_none_iff.mp e)).symm
theorem ql {R:Result→Shared→Prop} {D X:Addr} {T:String} {c:Nat} {res:Value} (C:List Value→Prop) (hh:A.handled=none) (hD:s.heap.get? D=some { cls:=.type "list",dict:=none,data:=.seq #[] c,slots:=#[] }) (hne:D≠X) (hT:T="set"∨T="dict_values") (hty:s.TypeIs (.ref X) T)
  (hhint:∀ (s':Shared) (Q:Bool→Shared→Prop) (E:Value→Shared→Prop),aH s.heap s'.heap→Q false s'→wpAny (model prog w) A.in1 (Builtin.List.listLengthHint (.ref X)) Q E s')
  (hit:∀ (Q:Value→Shared→Prop) (E:Value→Shared→Prop),(∀ (ord:List Value) I fp wr St h' d,C ord→ord.length≤sizeLine→aH s.heap h'→(∀ b∈wr,s.heap.get? b=none)→D∉fp→Walks prog w A.in1 I fp wr ord.length (fun i v=>ord[i]?=some v) St→St 0 h'→Q (.ref I) { s with heap:=h',drawn:=d })→wpAny (model prog w) A.in1 (pyIter (.ref X)) Q E s)
  (hR:∀ (out:List Value) h' d tk c',C out→(∀ b o,b≠D→s.heap.get? b=some o→h'.get? b=some o)→h'.get? D=some { cls:=.type "list",dict:=none,data:=.seq out.toArray c',slots:=#[] }→R (.ok (.ret res)) { s with heap:=h',drawn:=d,toks:=tk }) :
  wpAny (model prog w) A.in1 (Builtin.List.listExtendWith (.ref D) (.ref X) res) (fun fin s'=>match fin with | .done f=>R (.ok f) s' | .again c'=>c'.quiet=true∧codeAny (model prog w) A c' R s') (fun e s'=>R (.error e) s') s:=by
 unfold Builtin.List.listExtendWith
 refine zC1 (wpAny_typeOf hty ?_)
 have h1:Builtin.List.listSameRef (.ref D) (.ref X)=false:=by simp [Builtin.List.listSameRef,hne]
 have h2:(Value.type T==Value.type "list")=false:=by rcases hT with rfl | rfl <;> decide
 have h3:(Value.type T==Value.type "tuple")=false:=by rcases hT with rfl | rfl <;> decide
 simp only [h1,h2,h3,Bool.or_false,Bool.false_eq_true,if_false]
 refine zC1 (hit _ _ fun ord I fp wr St h' d hC hz k hw hf W hst=>?_)
 refine zC1 (wpAny_holding (hhint _ _ _ k ?_))
 rw [if_pos (by rcases hT with rfl | rfl <;> decide)]
 refine zC1 (wpAny_rule (zC1 ?_))
 have hS1:=k _ _ hD
 refine (?_:wpAny _ A.in1 (updateSeq D (·.push .none) >>= fun _=>updateSeq D (·.pop)) _ _ _)
 refine zC1 (wpAny_updateSeq hS1 rfl ?_)
 have hS2:=Heap.get?_update_self (Obj.mapSeq (·.push Value.none)) hS1 rfl
 refine wpAny_updateSeq hS2 rfl ?_
 have hS3:=Heap.get?_update_self (Obj.mapSeq (·.pop)) hS2 rfl
 have oth:∀ b ob,b≠D→h'.get? b=some ob→((h'.update D (Obj.mapSeq (·.push Value.none))).update D (Obj.mapSeq (·.pop))).get? b=some ob:=
  fun b ob hb e=>(Heap.get?_update_other _ _ (Ne.symm hb)).trans ((Heap.get?_update_other _ _ (Ne.symm hb)).trans e)
 refine zC2 ⟨plainId_quiet PySem.F.plain_extend_loop _,codeAny_extend_loopS W.toS hz _ hf _ ord.length 0 _ _ _ rfl (Nat.zero_le _) (W.frame 0 _ _ hst fun b hb ob e=>oth b ob (fun q=>hf (q▸hb)) e) hS3 (ItemsOf.nil _) fun s' acc' c' hm hS' hacc=>?_⟩
 have e1:acc'.toList=ord:=pN (by rw [zB3,hacc.1]) fun j v e=>hacc.2 j v (Array.getElem?_toList▸e)
 obtain ⟨hp,gs,dr,tk,os⟩:=s'
 obtain ⟨m1,m2,m3,m4,m5⟩:=hm
 subst m2; cases m3; subst m4
 refine hR ord hp d tk c' hC (fun b ob q e=>m1 b ob (fun q'=>?_) (oth b ob q (k _ _ e))) (by subst e1; exact hS')
 rcases List.mem_cons.mp q' with q' | q'
 ·exact q q'
 ·have:=hw b q'; rw [e] at this; (injection this; done)
end
end Mine
end
noncomputable section
namespace Mine
open PySem PySem.Calls PyProof.Rows PySem.W
section
variable {g:Gl} {bad:Addr→Prop} {h:Heap} {o:Obj} {ws:List Value} {j:Nat} {x:Str} {v:Value}
theorem uO (f:eO g o ws) (nd:g.flds.Nodup) (hx:g.flds[j]?=some x) (hv:ws[j]?=some v):lookIn x o=some (some v):=by
 obtain ⟨_,es,n,hd,hw,hk⟩:=f
 subst hw
 replace hv:=(Array.getElem?_toList)▸(List.getElem?_map)▸hv
 obtain ⟨e,ee,rfl⟩:=Option.map_eq_some_iff.mp hv
 obtain ⟨y,t,hy,ek⟩:=hk j e ee
 replace hy:=hx▸hy; (injection hy with hy; subst hy)
 unfold lookIn
 rw [hd]
 dsimp only
 cases hf:es.toList.find? (·.key.isStr x) with
 | none=>
  have:=List.find?_eq_none.mp hf e (List.mem_of_getElem? (Array.getElem?_toList▸ee))
  rw [ek] at this
  exact absurd (by simp [Value.isStr]) this
 | some e'=>
  have hm:=List.mem_of_find?_eq_some hf
  have hs:=List.find?_some hf
  obtain ⟨i,hi⟩:=List.getElem?_of_mem hm
  replace hi:=(Array.getElem?_toList)▸hi
  obtain ⟨z,t',hz,ek'⟩:=hk i e' hi
  replace hs:=ek'▸hs
  have hzx:z=x:=by simpa [Value.isStr] using hs
  subst hzx
  have:=(List.getElem?_inj (List.getElem?_eq_some_iff.mp hx).1 nd).mp (hx.trans hz.symm)
  subst this
  replace hi:=ee▸hi; (injection hi with hi; subst hi); rfl
theorem tu (f:eO g o ws) (hx:x∉g.flds):lookIn x o=some none:=by
 refine av fun Z4 kZ4=>?_
 obtain ⟨_,es,n,hd,hw,hk⟩:=f
 refine kZ4 ?_
 have key:∀ e∈es.toList,∃ y t,y∈g.flds∧e.key=.str y t:=fun e m=>by
  obtain ⟨i,hi⟩:=List.getElem?_of_mem m
  rw [Array.getElem?_toList] at hi
  obtain ⟨z,t',hz,ek'⟩:=hk i e hi
  exact ⟨z,t',List.mem_of_getElem? hz,ek'⟩
 unfold lookIn
 rw [hd]
 dsimp only
 have hf:es.toList.find? (·.key.isStr x)=none:=List.find?_eq_none.mpr fun e m q=>by
  obtain ⟨y,t,hy,ek⟩:=key e m
  rw [ek] at q
  have:y=x:=by simpa [Value.isStr] using q
  exact hx (this▸hy)
 have hr:es.toList.any (·.refKey)=false:=List.any_eq_false.mpr fun e m q=>by
  obtain ⟨y,t,hy,ek⟩:=key e m
  unfold DictEntry.refKey at q
  rw [ek] at q; (injection q; done)
 rw [hf,hr]; rfl
theorem tA {y:V} (r:Rp g bad h v y):handedIn v=true:=by cases r <;> rfl
end
section
variable {Φ:Ct} {s:Shared} {v u:Value} {x y z:V} {d:DV}
theorem uI {C:Addr} {o:Obj} {nm:Str} (I:Inv Φ s):∃ cd,clsIn Φ.fx.g.K Φ.fx.g.C=some cd∧PySem.W.ownOf cd (some o) nm=lookIn nm o:=by
 obtain ⟨cd,hc,hd⟩:=any_some I.ok.gr.cls.hdict
 exact ⟨cd,hc,by unfold PySem.W.ownOf; rw [hd]; rfl⟩
theorem uZ {o:Obj} {ws:List Value} {j:Nat} {nm:Str} (I:Inv Φ s) (f:eO Φ.fx.g o ws) (hx:Φ.fx.g.flds[j]?=some nm) (hv:ws[j]?=some v):findObj Φ.fx.g.K Φ.fx.g.C (some o) nm=some (.value v):=by
 obtain ⟨cd,hc,ho⟩:=uI (C:=0) (o:=o) (nm:=nm) I
 unfold findObj
 rw [hc,Option.bind_some,I.ok.gr.cls.flds nm (List.mem_of_getElem? hx),Option.bind_some,Option.bind_some,Option.bind_some]
 refine (?_:(PySem.W.ownOf cd (some o) nm).bind _=_)
 rw [ho,uO f I.ok.gr.cls.nodup hx hv]; rfl
theorem xT {e:Expr} {nm:Str} {j:Nat} {pos:Pos} (he:bV e=true) (hx:Φ.fx.g.flds[j]?=some nm) (h:Ev Φ (eval e Φ.fx.env) d) :
  Ev Φ (eval (.Attribute e nm pos) Φ.fx.env) (fun K=>d fun x=>okK (opN (.attr j) [x]) K):=fun K s hd I=>by
 rw [arm_eval_Attribute,cZ he]
 refine h.bind hd I fun v x s₁ I₁ k₁ hx' r=>ba ?_
 refine aj hx' fun z ez kz E=>?_
 cases x with
 | dict kvs=>
  refine cr (ez:(if su kvs=true then (kvs[j]?).map (·.2) else none)=some z) fun hik ez=>?_
  obtain ⟨p,hp,rfl⟩:=Option.map_eq_some_iff.mp ez
  refine r.inst_elim (C:=fun v=>wpAny _ _ (holding [v] (getAttr v nm true) >>= _) _ E s₁) hik fun a dd o ws nb nb' ha hdd hf _ hl=>?_
  have hz:(kvs.map (·.2))[j]?=some p.2:=by rw [List.getElem?_map,hp]; rfl
  obtain ⟨w,hw,rw'⟩:=hl.get hz
  exact zC1 (wpAny_holding (get_value I₁.frag ⟨ha,rfl,rfl,hdd⟩ I₁.ok.gr.cls.hga (uZ I₁ hf hx hw) (tA rw') (zC1 (wpAny_letTemporaryGo (zC2 ⟨I₁.base.grown (.toks _ _),.refl _,_,kz,rw'⟩)))))
 | _=>(injection ez; done)
theorem xP {e:Expr} {nm:Str} {f:Nat} {apos pos:Pos} (he:bV e=true) (hline:(apos.endLine==pos.line)=true) (hnf:nm∉Φ.fx.g.flds) (hf:findIn Φ.fx.g.K (.ref Φ.fx.g.C) nm=some (some (.ref (Φ.fx.g.fn f)))) (ht:typeIn Φ.fx.g.K (.ref (Φ.fx.g.fn f))=some (.type "function")) (hk:keepIn Φ.fx.g.K (.ref (Φ.fx.g.fn f))=true) (hsf:Φ.safe f) (h:Ev Φ (eval e Φ.fx.env) d) :
  EvC Φ (Φ.fx.g.newf f) (eval (.Call (.Attribute e nm apos) [] [] pos) Φ.fx.env) (fun K=>d fun x=>nz x=true∧aq Φ.fx.g.P Φ.fx.d f [x] fun y=>noX y=true∧K y):=fun K s hd I=>by
 rw [arm_eval_Call,cZ he]
 refine h.bindC hd I fun v x s₁ I₁ k₁ hx r=>ba fun E=>?_
 cases x with
 | dict kvs=>
  unfold methodCall
  have r':=r
  refine Rp.inst_elim (C:=fun v=>Φ.rp s₁.heap v (.dict kvs)→wpAny _ _ (holding [v] (calleeOf _ e Φ.fx.env v nm) >>= _) _ E s₁) r hx.1 (fun a dd o ws nb nb' ha hdd hfl _ hl r'=>?_) r'
  refine zC1 (wpAny_holding (method_fn (od:=some o) I₁.frag ⟨ha,rfl,rfl,hdd⟩ I₁.ok.gr.cls.hga I₁.ok.gr.cls.hgk hf ht (by refine (?_:(lookIn nm o).map _=_); rw [tu hfl hnf]; rfl) ?_))
  have hp:methodCallPos (methodCallForm ([]:List Expr).length (backTo pos (starEach [] Φ.fx.env)) (backToKw pos (keywordEach [] Φ.fx.env))) e Φ.fx.env apos pos=pure pos:=by unfold methodCallPos; rw [hline,Bool.or_true]; rfl
  refine zC1 ?_
  refine (?_:wpAny _ _ (methodCallPos (methodCallForm ([]:List Expr).length (backTo pos (starEach [] Φ.fx.env)) (backToKw pos (keywordEach [] Φ.fx.env))) e Φ.fx.env apos pos) _ _ _)
  rw [hp]
  refine zC2 (callWith_of rfl (keeps_K hk) (PySem.evalArgs_none ⟨I₁.frag,?_⟩))
  exact fV hsf I₁ hx.2 (.cons r' .nil)
 | _=>(injection hx.1; done)
end
section
variable {fx:Fx}
theorem gX {G:Gs} {k:Nat} {l:List V} (e:dB G k=some l):getSlot G k=.ownI l:=by
 unfold dB at e
 revert e
 cases getSlot G k with
 | ownI m=>exact fun e=>congrArg Slot.ownI (Option.some.inj e)
 | _=>exact fun e=>nomatch e
theorem pF {Φ:Ct} {s:Shared} {E:Value→Shared→Prop} {b a:Addr} {o:Obj} {ws:List Value} {nm:Str} {v:Value} {Q:Unit→Shared→Prop} (I:Inv Φ s) (hb:s.heap.get? b=some (instObj Φ.fx.g.C a)) (ha:s.heap.get? a=some o) (hf:eO Φ.fx.g o ws) (hx:Φ.fx.g.flds[ws.length]?=some nm)
  (h:∀ h' tk o',Heap.SameBut a s.heap h'→h'.get? a=some o'→eO Φ.fx.g o' (ws++[v])→Q () { s with heap:=h',toks:=tk }):wpAny (model Φ.fx.g.prog Φ.fx.g.w) Φ.fx.A (setAttr (.ref b) nm v) Q E s:=by
 have ht:takerIn Φ.fx.g.K Φ.fx.g.C nm=some none:=by unfold takerIn; rw [I.ok.gr.cls.flds nm (List.mem_of_getElem? hx)]; rfl
 have IA:InstAt s.heap b (instObj Φ.fx.g.C a) Φ.fx.g.C (some o):=⟨hb,rfl,rfl,ha⟩
 refine set_plain I.frag IA I.ok.gr.cls.hsa ?_
 refine osa_open (s:={ s with toks:=s.toks+1 }) (od:=some o) I.frag ⟨hb,rfl,rfl,ha⟩ I.ok.gr.cls.over ht fun bb=>?_
 obtain ⟨cd,hc,hd'⟩:=any_some I.ok.gr.cls.hdict
 refine zC1 (zC2 (zC1 (zC1 (wpAny_loadPart hb (zC1 (Looks.here (s:={ s with toks:=s.toks+1 }) (looks_clsIn I.frag hc) ?_))))))
 refine hd'.symm▸?_
 refine wpAny_pure (a:=some a) (zC1 (zC2 (zC1 ?_)))
 skip
 refine zC1 (zC1 (wpAny_askSetting (zC2 (zC1 (wpAny_mkText (zC1 (wpAny_loadPart ha ?_)))))))
 obtain ⟨hex,es,n,hd,hw,hk⟩:=hf
 have hlen:es.size=ws.length:=by rw [← hw,zA4,zB3]
 have key:∀ e∈es.toList,∃ y t,e.key=.str y t∧y≠nm:=fun e m=>by
  obtain ⟨i,hi⟩:=List.getElem?_of_mem m
  rw [Array.getElem?_toList] at hi
  obtain ⟨z,t',hz,ek'⟩:=hk i e hi
  refine ⟨z,t',ek',fun q=>?_⟩
  subst q
  have:=(List.getElem?_inj (List.getElem?_eq_some_iff.mp hz).1 I.ok.gr.cls.nodup).mp (hz.trans hx.symm)
  have:=(Array.getElem?_eq_some_iff.mp hi).1
  lia
 have na:es.toList.any (·.key.isStr nm)=false:=List.any_eq_false.mpr fun e m q=>by
  obtain ⟨y,t,ek,hy⟩:=key e m
  rw [ek] at q
  exact hy (by simpa [Value.isStr] using q)
 have nr:es.toList.any (·.refKey)=false:=List.any_eq_false.mpr fun e m q=>by
  obtain ⟨y,t,ek,hy⟩:=key e m
  unfold DictEntry.refKey at q
  rw [ek] at q; (injection q; done)
 rw [hd]
 dsimp only
 rw [aRefKeyMayBeTheName_at,← Array.any_toList,← Array.any_toList,nr,Bool.and_false]
 refine wpAny_updatePart ha ?_
 refine av fun Z19 kZ19=>?_
 obtain ⟨l⟩:=es
 obtain ⟨oc,od,dat,sl⟩:=o
 refine kZ19 ?_
 subst hd
 have pe:=putName_eq nm (PyData.keyHash Φ.fx.g.w.params nm) (.str nm (s.toks+1)) v oc od l n sl
 rw [na,if_neg Bool.false_ne_true,show PySem.putIn (·.key.isStr nm) (fun e=>{ e with val:=v }) ⟨PyData.keyHash Φ.fx.g.w.params nm,.str nm (s.toks+1),v⟩ l=l++[⟨PyData.keyHash Φ.fx.g.w.params nm,.str nm (s.toks+1),v⟩] by unfold PySem.putIn; rw [List.findIdx?_eq_none_iff.mpr fun e m=>by simpa using List.any_eq_false.mp na e m]] at pe
 have D':=Heap.get?_update_self (Obj.putName nm (PyData.keyHash Φ.fx.g.w.params nm) (.str nm (s.toks+1)) v) ha (by rw [pe]; rfl)
 rw [pe] at D'
 have hlt:=(List.getElem?_eq_some_iff.mp hx).1
 have hfew:=I.ok.gr.cls.few
 refine zC1 (wpAny_lookBehind D' (pastItsLine_dict (by rw [List.size_toArray,zB5,sizeLine_eq]; refine (?_:l.length+1≤_); have:l.length=ws.length:=hlen; exact zB1 (Nat.add_le_add (zB1 (zB2 this) (zB1 (Nat.le_of_lt hlt) hfew)) (Nat.le_refl _)) (by decide))) ?_)
 refine zC2 (h _ _ _ (.update ..) D' ⟨⟨hex.1,hex.2.1,hex.2.2⟩,_,_,rfl,?_,fun j e ee=>?_⟩)
 ·rw [List.map_append,hw]; rfl
 ·have ee:(l++[(⟨PyData.keyHash Φ.fx.g.w.params nm,.str nm (s.toks+1),v⟩:DictEntry)])[j]?=some e:=by simpa using ee
  rcases Nat.lt_or_ge j l.length with q | q
  ·rw [List.getElem?_append_left q] at ee; exact hk j e (by simpa using ee)
  ·replace ee:=(List.getElem?_append_right q)▸ee
   have:j - l.length=0:=by have:=(List.getElem?_eq_some_iff.mp ee).1; rw [List.length_singleton] at this; exact Nat.le_antisymm (Nat.le_of_lt_succ this) (Nat.zero_le _)
   replace ee:=this▸ee
   (injection ee with ee; subst ee)
   have hl2:l.length=ws.length:=hlen
   exact ⟨nm,_,by rw [show j=ws.length by grind]; exact hx,rfl⟩
theorem ub.snoc {a:Addr} {ws:List Value} {l:List V} {v:Value} {x:V} (n:ub a ws l) (hlen:ws.length=l.length) (h:∀ c m,v=.ref c→x=.list m→a < c):ub a (ws++[v]) (l++[x]):=fun j b m e1 e2=>by
 rcases Nat.lt_or_ge j ws.length with q | q
 ·replace e1:=(List.getElem?_append_left q)▸e1; replace e2:=(List.getElem?_append_left (hlen▸q))▸e2; exact n j b m e1 e2
 ·replace e1:=(List.getElem?_singleton)▸(List.getElem?_append_right q)▸e1; rw [List.getElem?_append_right (hlen▸q),List.getElem?_singleton] at e2
  split at e1
  ·rename_i z; rw [if_pos (hlen▸z)] at e2; exact h b m (Option.some.inj e1) (Option.some.inj e2)
  ·(injection e1; done)
theorem fU {n:Str} {k j:Nat} {np ap spos:Pos} {nm:Str} {e:Expr} {d:Gs→DV} {K:Option V→Gs→Prop} {oa:Nat→Option Addr} {G:Gs} {s:Shared} (hx:fx.ρ.lookup n=some k) (hn:bX n=true) (hnm:fx.g.flds[j]?=some nm) (hs:dw e=true) (I:Inv ⟨fx,oa,G⟩ s)
  (h:(Ct.mk fx oa G).wp (eval e fx.env) (fun v s₁=>∃ x,Base fx.g s₁∧aD s.heap s₁.heap∧(Ct.mk fx oa G).rp s₁.heap v x∧(∀ m,x=.list m→kB s.heap v)∧okK (dB G k) fun l=>l.length=j∧K none (G.set k (.ownI (l++[x])))) s) :
  wpAny (model fx.g.prog fx.g.w) fx.A (exec (.Assign [.Attribute (.Name n np) nm ap] e spos) fx.env) (PostS ⟨fx,oa,G⟩ s K) (PostX ⟨fx,oa,G⟩ s K) s:=by
 refine plainObj_wpAny_Assign_Attribute (wpAny_mono (h _) (fun v s₁ ⟨x,B1,k1,r,nv,hx'⟩=>aj hx' fun l el ⟨hj,hk⟩=>?_) fun _ _ z=>z) (gk hs)
 have I1:=I.keep B1 k1
 obtain ⟨a,u,ha,pr,b,o,ws,rfl,eb,nb,hb,ho,hf,hnl,hl⟩:=mZ (Φ:=⟨fx,oa,G⟩) I (gX el) id
 have hb1:=k1.get hb fE
 have ho1:=k1.get ho (aU hf.1.1)
 refine fk (Φ:=⟨fx,oa,G⟩) I1.ok hx hn (pr.keep k1) ?_ _
 refine pF (Φ:=⟨fx,oa,G⟩) I1 hb1 ho1 hf (hl.length.symm▸hj.symm▸hnm) fun h' tk o' sb ho' hf'=>?_
 have mk:eQ (Ct.mk fx oa G).bad (Ct.mk fx oa G).bad s₁.heap h':=fun c o e _ nc=>⟨nc,sb.extBut c o (fun q=>nc (.inr (.inr ⟨k,q▸ha⟩))) e⟩
 have q:=Inv.mutate (Φ:=⟨fx,oa,G⟩) (sl:=.ownI (l++[x])) (tk:=tk) I1 ha (pr.keep k1) ⟨o,ho1,aU hf.1.1⟩ sb ⟨_,ho'⟩ ⟨b,o',ws++[v],rfl,eb,nb,(mk _ _ hb1 fE nb).2,ho',hf',hnl.snoc hl.length fun c m e q=>nv m q c b e ⟨_,hb⟩,((hl.keep k1).map mk).append (.cons (r.map mk) .nil)⟩ (fun _ q=>nomatch q) (fun q=>nomatch q) fun _=>by refine (?_:isI (getSlot G k)); rw [gX el]; trivial
 exact .next (Φ:=⟨fx,oa,G⟩) q.1 ((Tr.of_keeps k1).trans q.2) hk
theorem qm {n:Str} {k j:Nat} {np ap spos:Pos} {nm:Str} {e:Expr} {d:Gs→DV} (hx:fx.ρ.lookup n=some k) (hn:bX n=true) (hnm:fx.g.flds[j]?=some nm) (hs:dw e=true) (h:∀ oa G,Ev ⟨fx,oa,G⟩ (eval e fx.env) (d G)) :
  ExB fx (exec (.Assign [.Attribute (.Name n np) nm ap] e spos) fx.env) (fun G K=>d G fun x=>kq x=false∧okK (dB G k) fun l=>l.length=j∧K none (G.set k (.ownI (l++[x])))):=fun oa G K s hd I=>
 fU (d:=d) hx hn hnm hs I fun E=>wpAny_mono (h oa G _ s hd I E) (fun v s₁ ⟨B,k,x,hx,r⟩=>⟨x,B,k,r,(fun m e=>by subst e; (injection hx.1; done)),hx.2⟩) fun _ _ z=>z
theorem nQ {n:Str} {k j:Nat} {np ap spos:Pos} {nm:Str} {e:Expr} {d:Gs→DV} (hx:fx.ρ.lookup n=some k) (hn:bX n=true) (hnm:fx.g.flds[j]?=some nm) (hs:dw e=true) (h:∀ oa G,EvN ⟨fx,oa,G⟩ (eval e fx.env) (d G)) :
  ExB fx (exec (.Assign [.Attribute (.Name n np) nm ap] e spos) fx.env) (fun G K=>d G fun x=>okK (dB G k) fun l=>l.length=j∧K none (G.set k (.ownI (l++[x])))):=fun oa G K s hd I=>
 fU (d:=d) hx hn hnm hs I fun E=>wpAny_mono (h oa G _ s hd I E) (fun v s₁ ⟨⟨B,k,x,hx,r⟩,n⟩=>⟨x,B,k,r,fun _ _=>n,hx⟩) fun _ _ z=>z
end
end Mine
end
noncomputable section
namespace Mine
open PySem PySem.Calls PyProof.Rows PySem.W
structure Noted (F:List Addr) (lo:Heap) (h h':Heap):Prop where
 low:∀ b o,h.get? b=some o→aW lo b→(∃ sl,h'.get? b=some { o with slots:=sl })∧(b∉F→h'.get? b=some o)
 data:∀ b o,h.get? b=some o→(∀ vs,o.data≠.fields vs)→(∃ sl,h'.get? b=some { o with slots:=sl })∧(b∉F→h'.get? b=some o)
 live:∀ b,aW h b→aW h' b
theorem Noted.refl (F:List Addr) (lo:Heap) (h:Heap):Noted F lo h h:=⟨fun _ o e _=>⟨⟨o.slots,e⟩,fun _=>e⟩,fun _ o e _=>⟨⟨o.slots,e⟩,fun _=>e⟩,fun _ l=>l⟩
theorem Noted.trans {F:List Addr} {lo:Heap} {h₁ h₂ h₃:Heap} (x:Noted F lo h₁ h₂) (y:Noted F lo h₂ h₃):Noted F lo h₁ h₃ where
 low:=fun b o e hb=>by
  obtain ⟨⟨sl,e₁⟩,f₁⟩:=x.low b o e hb
  obtain ⟨⟨sl',e₂⟩,f₂⟩:=y.low b _ e₁ hb
  exact ⟨⟨sl',e₂⟩,fun hF=>(y.low b _ (f₁ hF) hb).2 hF⟩
 data:=fun b o e hd=>by
  obtain ⟨⟨sl,e₁⟩,f₁⟩:=x.data b o e hd
  obtain ⟨⟨sl',e₂⟩,f₂⟩:=y.data b _ e₁ hd
  exact ⟨⟨sl',e₂⟩,fun hF=>(y.data b _ (f₁ hF) hd).2 hF⟩
 live:=fun b l=>y.live b (x.live b l)
theorem Noted.frames {F:List Addr} {lo h h' base:Heap} {l:List Env} (x:Noted F lo h h') (f:h.FunFrames base l):h'.FunFrames base l:=
 f.of_keeps fun b o ho hd=>by obtain ⟨⟨sl,e⟩,_⟩:=x.data b o ho hd; exact ⟨_,e,rfl⟩
theorem Noted.le {F:List Addr} {lo lo':Heap} {h h':Heap} (x:Noted F lo h h') (q:∀ b,aW lo' b→aW lo b):Noted F lo' h h':=⟨fun b o e hb=>x.low b o e (q b hb),x.data,x.live⟩
noncomputable def aX (l:List Env):List Addr:=l.filterMap (·.frame)
section
variable {M:Model} {A:Around} {E:Value→Shared→Prop} {s:Shared} {base:Heap} {env:Env} {outer:List Env} {L e:Addr} {lo:Heap} {cls:Value}
theorem eR {F:List Addr} {h:Heap} {a:Addr} {o:Obj} {vs:Array Value} (ho:h.get? a=some o) (hd:o.data=.fields vs) (hlo:lo.get? a=none) (f:Array Value→Array Value):Noted F lo h (h.update a (Obj.mapFields f)) where
 low:=fun b ob eb hb=>by
  have:(h.update a (Obj.mapFields f)).get? b=some ob:=(Heap.get?_update_ne _ _ _ _ (by intro q; subst q; obtain ⟨_,hb⟩:=hb; replace hb:=hlo▸hb; (injection hb; done))).trans eb
  exact ⟨⟨ob.slots,this⟩,fun _=>this⟩
 data:=fun b ob eb hn=>by
  have:(h.update a (Obj.mapFields f)).get? b=some ob:=(Heap.get?_update_ne _ _ _ _ (by intro q; subst q; replace eb:=ho▸eb; (injection eb with eb; subst eb); exact hn vs hd)).trans eb
  exact ⟨⟨ob.slots,this⟩,fun _=>this⟩
 live:=fun b ⟨ob,eb⟩=>by
  by_cases q:b=a
  ·subst q
   exact ⟨_,Heap.get?_update_self _ ho (Obj.isFreed_of_fields (Obj.data_mapFields hd f))⟩
  ·exact ⟨ob,(Heap.get?_update_ne _ _ _ _ q).trans eb⟩
theorem pI {F:List Addr} {h:Heap} (o:Obj):Noted F lo h (h.push o) where
 low:=fun b ob eb _=>⟨⟨ob.slots,Heap.get?_push_of_some _ eb⟩,fun _=>Heap.get?_push_of_some _ eb⟩
 data:=fun b ob eb _=>⟨⟨ob.slots,Heap.get?_push_of_some _ eb⟩,fun _=>Heap.get?_push_of_some _ eb⟩
 live:=fun b ⟨ob,eb⟩=>⟨ob,Heap.get?_push_of_some _ eb⟩
theorem nN {F:List Addr} {h h':Heap} (x:Heap.SlotsOnly F h h'):Noted F lo h h' where
 low:=fun b ob eb _=>⟨x.2.2 b ob eb,fun hF=>(x.2.1 b hF).trans eb⟩
 data:=fun b ob eb _=>⟨x.2.2 b ob eb,fun hF=>(x.2.1 b hF).trans eb⟩
 live:=fun b ⟨ob,eb⟩=>let ⟨_,e⟩:=x.2.2 b ob eb; ⟨_,e⟩
theorem o7 {head:Value} {hadNext:Bool} {Q:Unit→Shared→Prop} {oe:Obj} {vs:Array Value}
  (hfr:A.frames=some (env :: outer)) (hl:s.heap.FunFrames base (env :: outer)) (hf:env.frame=some L) (hlo:∀ b,aW lo b→aW s.heap b)
  (he:s.heap.get? e=some oe) (hc:oe.cls=cls) (hdi:oe.dict=none) (hd:oe.data=.fields vs) (hle:lo.get? e=none) (hsz:1 < vs.size)
  (h:∀ h',Noted (aX (env :: outer)) lo s.heap h'→ExcAt h' lo e cls (rawInt L)→Q () { s with heap:=h' }) :
  wpAny M A (do let a ← frameOf env; let pl ← entryPlaceOf L hadNext; let b ← EntryCells.newEntry head a .none (rawInt L) .none pl; setField (.ref e) 1 b) Q E s:=by
 have hene:e∉(env :: outer).filterMap (·.frame):=fun hm=>by
  obtain ⟨_,o,ho,hnf⟩:=hl.mem hm
  rw [he] at ho; injection ho with ho; subst ho; exact hnf vs hd
 refine zC1 (wpAny_frameOf_fun hfr hl hf fun h₁ hs₁=>?_)
 refine zC1 (wpAny_entryPlaceOf fun pl hpl=>?_)
 skip
 refine zC1 (wpAny_newObj_type ?_ (hpl.sizeOk5 _ _ _ _ _))
 have he₁:h₁.get? e=some oe:=(hs₁.2.1 e hene).trans he
 have he₂:=Heap.get?_push_of_some (h:=h₁) { cls:=.type "traceback",dict:=none,data:=.fields ([head,.ref L,.none,rawInt L,.none]++(if pl.isEmpty then List.replicate 6 Value.none else pl)).toArray } he₁
 refine wpAny_setField he₂ hd hsz (h _ ?_ ?_)
 ·exact ((nN hs₁).trans (pI _)).trans (eR he₂ hd hle _)
 ·have hTe:h₁.objs.size≠e:=Nat.ne_of_gt (Heap.lt_size he₁)
  have hd₃:=Obj.data_mapFields hd (·.setIfInBounds 1 (Value.ref h₁.objs.size))
  have he₃:=Heap.get?_update_self (Obj.mapFields (·.setIfInBounds 1 (Value.ref h₁.objs.size))) he₂ (Obj.isFreed_of_fields hd₃)
  have hT₃:=(Heap.get?_update_other (h₁.push { cls:=.type "traceback",dict:=none,data:=.fields ([head,.ref L,.none,rawInt L,.none]++(if pl.isEmpty then List.replicate 6 Value.none else pl)).toArray })
   (Obj.mapFields (·.setIfInBounds 1 (Value.ref h₁.objs.size))) (Ne.symm hTe)).trans (Heap.get?_push_size h₁ rfl)
  refine ⟨_,_,he₃,(Obj.cls_mapFields _ _).trans hc,?_,hd₃,hle,by simpa using hsz,.inr ⟨h₁.objs.size,_,_,by simp [hsz],hTe,by rw [hs₁.1]; exact aK (hlo _) (ar _),hT₃,rfl,?_⟩⟩
  ·obtain ⟨c,d,dt,sl⟩:=oe; simp only at hd hdi; subst hd; exact hdi
  ·first | (simp; done) | (rcases hpl with rfl | ⟨_,_,_,_,_,_,_,rfl⟩ <;> simp)
theorem rY {Q:Unit→Shared→Prop} (hfr:A.frames=some (env :: outer)) (hl:s.heap.FunFrames base (env :: outer)) (hf:env.frame=some L) (hlo:∀ b,aW lo b→aW s.heap b) (x:ExcAt s.heap lo e cls .none)
  (h:∀ h',Noted (aX (env :: outer)) lo s.heap h'→ExcAt h' lo e cls (rawInt L)→Q () { s with heap:=h' }):wpAny M A (noteFrame (.ref e) env) Q E s:=by
 obtain ⟨oe,vs,he,hc,hdi,hd,hle,hsz,hh⟩:=x
 unfold noteFrame
 simp only [hf]
 rcases hh with h1 | ⟨T,oT,ts,h1,hTe,hlT,hT,hdT,h3⟩
 ·refine zC1 (wpAny_field he hd h1 ?_)
  refine fy (by decide) ?_
  exact o7 hfr hl hf hlo he hc hdi hd hle hsz h
 ·refine zC1 (wpAny_field he hd h1 ?_)
  refine dp (show (Value.ref T != Value.none)=true from by simp) ?_
  refine zC1 (wpAny_field hT hdT h3 ?_)
  refine fy ((by simp [rawInt]):¬ ((Value.none==rawInt L)=true)) ?_
  refine zC1 (wpAny_setField hT hdT (Array.getElem?_eq_some_iff.mp h3).1 ?_)
  have w:=eR (F:=aX (env :: outer)) (lo:=lo) hT hdT hlT (·.setIfInBounds 3 Value.none)
  exact o7 (s:={ s with heap:=_ }) hfr (w.frames hl) hf (fun b l=>w.live b (hlo b l)) ((Heap.get?_update_ne _ _ _ _ (Ne.symm hTe)).trans he) hc hdi hd hle hsz
   fun h' n x=>h h' (w.trans n) x
theorem ft {Q:Unit→Shared→Prop} {F:List Addr} {fl:Value} (x:ExcAt s.heap lo e cls fl)
  (h:∀ h',Noted F lo s.heap h'→ExcAt h' lo e cls .none→Q () { s with heap:=h' }):wpAny M A (setFlight (.ref e) none) Q E s:=by
 refine av fun Z8 kZ8=>?_
 obtain ⟨oe,vs,he,hc,hdi,hd,hle,hsz,hh⟩:=x
 refine kZ8 ?_
 unfold setFlight
 rcases hh with h1 | ⟨T,oT,ts,h1,hTe,hlT,hT,hdT,h3⟩
 ·refine zC1 (wpAny_field he hd h1 ?_)
  refine fy (by decide) ?_
  exact zC2 (h s.heap (.refl _ _ _) ⟨oe,vs,he,hc,hdi,hd,hle,hsz,.inl h1⟩)
 ·refine zC1 (wpAny_field he hd h1 ?_)
  refine dp (show (Value.ref T != Value.none)=true from by simp) ?_
  have hsz3:3 < ts.size:=(Array.getElem?_eq_some_iff.mp h3).1
  refine wpAny_setField hT hdT hsz3 (h _ (eR hT hdT hlT _) ?_)
  exact ⟨oe,vs,(Heap.get?_update_ne _ _ _ _ (Ne.symm hTe)).trans he,hc,hdi,hd,hle,hsz,.inr ⟨T,_,_,h1,hTe,hlT,Heap.get?_update_self _ hT (Obj.isFreed_of_fields (Obj.data_mapFields hdT _)),Obj.data_mapFields hdT _,by simp [hsz3]⟩⟩
theorem pP {Q:Unit→Shared→Prop} (hfr:A.frames=some (env :: outer)) (hl:s.heap.FunFrames base (env :: outer)) (hf:env.frame=some L) (hlo:∀ b,aW lo b→aW s.heap b) (x:ExcAt s.heap lo e cls .none)
  (h:∀ h',Noted (aX (env :: outer)) lo s.heap h'→ExcAt h' lo e cls .none→Q () { s with heap:=h' }):wpAny M A (leaving env (.ref e)) Q E s:=by
 unfold leaving
 exact zC1 (rY hfr hl hf hlo x fun h₁ n₁ x₁=>ft (s:={ s with heap:=h₁ }) x₁ fun h₂ n₂ x₂=>h h₂ (n₁.trans n₂) x₂)
end
section
variable {g:Gl} {A:Around} {s s₁:Shared} {h':Heap} {F:List Addr}
theorem gQ.funs {h0 h:Heap}:∀ {l:List Env},gQ h0 h l→h.FunFrames h0 l
 | [],_=>trivial
 | env :: l,f=>by
  obtain ⟨hk,L,o,hf,hn,ho,hc,hd⟩:=f env (.head _)
  exact ⟨hk,⟨L,o,hf,hn,ho,hd⟩,gQ.funs fun e m=>f e (.tail _ m)⟩
theorem gQ.frame {h0 h:Heap} {l:List Env} (f:gQ h0 h l) {b:Addr} (m:b∈aX l):h0.get? b=none∧∃ o,h.get? b=some o∧o.cls=.type "frame":=by
 refine av fun Z11 kZ11=>?_
 obtain ⟨env,me,e⟩:=List.mem_filterMap.mp m
 obtain ⟨_,L,o,hf,hn,ho,hc,_⟩:=f env me
 refine kZ11 ?_
 obtain rfl:=Option.some.inj (hf.symm.trans e)
 exact ⟨hn,o,ho,hc⟩
theorem oF {l:List Env} {b:Addr} {o:Obj} (k:bA s₁.heap b o) (lo:aW s.heap b) (f:gQ g.h0 s₁.heap l) (n:Noted (aX l) s.heap s₁.heap h'):bA h' b o:=k.step fun o₁ e₁=>by
 obtain ⟨⟨sl,e₂⟩,q⟩:=n.low b o₁ e₁ lo
 refine ⟨sl,e₂,fun nf=>?_⟩
 have:=q fun m=>by obtain ⟨_,o',e',c'⟩:=f.frame m; replace e':=e₁▸e'; (injection e' with e'; subst e'); exact nf c'
 rw [e₂] at this
 exact congrArg Obj.slots (Option.some.inj this)
theorem cY {l:List Env} (k:aD s.heap s₁.heap) (f:gQ g.h0 s₁.heap l) (n:Noted (aX l) s.heap s₁.heap h'):aD s.heap h':=fun b o e=>oF (k b o e) ⟨o,e⟩ f n
theorem cN {l:List Env} (B₀:Base g s) (B:Base g s₁) (f:gQ g.h0 s₁.heap l) (n:Noted (aX l) s.heap s₁.heap h'):Base g { s₁ with heap:=h' }:=
 ⟨fun b o e=>(n.low b o (B.stays b o e) ⟨o,B₀.stays b o e⟩).2 (fun m=>by have:=(f.frame m).1; replace this:=e▸this; (injection this; done)),B.os,B.gens⟩
end
end Mine
end
noncomputable section
namespace Mine
open PySem PySem.Calls PyProof.Rows PySem.W
section
variable {fx:Fx} {Φ:Ct} {s s₁:Shared}
structure FxTop (fx:Fx):Prop where
 top:∃ outer L,fx.A.frames=some (fx.env :: outer)∧fx.env.frame=some L
theorem oK {y:V} (h:noX y=true):jv y=none:=Option.isNone_iff_eq_none.mp h
theorem gy {n:Str} {k:Nat} (ok:FxOk fx) (hn:fx.ρ.lookup n=some k) (hnl:fx.env.kindOf n=some .local):fx.pl k=.ns fx.env.locals n:=by
 rcases ok.vis n k hn with ⟨_,hp⟩ | ⟨q,_⟩
 ·exact hp
 ·rcases q with q | q <;> rw [hnl] at q <;> cases q
theorem ul [Hm Φ.fx] {n:Str} {hpos:Pos} {k:Nat} {A:Around} {v:Value} {x:V} {G':Gs} {oa':Nat→Option Addr} {Q:Unit→Shared→Prop} {E:Value→Shared→Prop} {K:Option V→Gs→Prop} (ok:FxOk Φ.fx) (hn:Φ.fx.ρ.lookup n=some k) (hnl:Φ.fx.env.kindOf n=some .local)
  (hns:∃ m,s₁.heap.Ns Φ.fx.env.locals m) (h0:Φ.fx.g.h0.get? Φ.fx.env.locals=none) (B:Base Φ.fx.g s₁) (t:Tr Φ s (Φ.wi oa' G') s₁) (nx:noX x=true) (rp:(Φ.wi oa' G').rp s₁.heap v x) (nv:Φ.fx.nw=true→kB s.heap v) (hk:K (some x) (G'.set k .unset)) (hu:isI (getSlot (G'.set k .unset) k)→False)
  (hQ:∀ s',PostS Φ s K (.ret v) s'→Q () s'):wpAny (model Φ.fx.g.prog Φ.fx.g.w) A (do bindName Φ.fx.env n .none; unbindBehindTheSuite Φ.fx.env n hpos) Q E s₁:=by
 obtain ⟨m,hm⟩:=hns
 have hp:=gy ok hn hnl
 refine wpAny_nameGoes hnl hm (by rw [ok.kind]; rfl) fun h₇ m₇ hn₇ hs₇=>hQ _ ?_
 have hown:(Φ.wi oa' G').own Φ.fx.env.locals:=.inl ⟨k,by refine (?_:(Φ.fx.pl k).addr=_); rw [hp]; rfl⟩
 have hown':Φ.own Φ.fx.env.locals:=.inl ⟨k,by rw [hp]; rfl⟩
 have kp:∀ b o,b≠Φ.fx.env.locals→s₁.heap.get? b=some o→h₇.get? b=some o:=fun b o q e=>hs₇.extBut b o q e
 refine ⟨oa',G'.set k .unset,some x,fun q=>q.elim nofun fun q=>(nomatch (Hm.no (fx:=Φ.fx)).symm.trans q),⟨fun b o e=>kp b o (fun q=>ay h0 (q▸e)) (B.stays b o e),B.os,B.gens⟩,⟨rfl,fun b o e nb=>(t.keep b o e nb).step fun o' e'=>.of (kp b o' (fun q=>nb (q▸hown')) e'),fun b l=>?_,t.grow,fun j a e q=>?_⟩,⟨nx,v,rfl,rp.map fun b o e _ nb=>⟨nb,kp b o (fun q=>nb (.inr (q▸hown))) e⟩,nv⟩,hk⟩
 ·obtain ⟨o,e⟩:=t.live b l
  by_cases q:b=Φ.fx.env.locals
  ·subst q; obtain ⟨o',_,_,e',_⟩:=hn₇; exact ⟨o',e'⟩
  ·exact ⟨o,kp b o q e⟩
 ·by_cases z:j=k
  ·subst z; exact (hu q).elim
  ·have q:isI (getSlot (G'.set k .unset) j):=q
   rw [cQ z] at q
   exact t.inst j a e q
theorem Inv.mark {oa:Nat→Option Addr} {G:Gs} (I:Inv ⟨fx,oa,G⟩ s) (e:Value):Inv ⟨{ fx with A:=fx.A.mark (some e),hm:=true },oa,G⟩ s:=
 ⟨⟨I.ok.gr,nofun,I.ok.kind,I.ok.globals,I.ok.builtins,I.ok.vis,I.ok.inj,I.ok.apart,I.ok.offs,I.ok.nfs,I.ok.room,I.ok.units,I.ok.call,I.ok.mo0⟩,I.base,I.slot,I.new,I.inj,I.off,I.gl,I.mo,I.fr⟩
theorem Tr.unmark {A:Around} {oa oa':Nat→Option Addr} {G G':Gs} (t:Tr ⟨{ fx with A:=A,hm:=true },oa,G⟩ s ⟨{ fx with A:=A,hm:=true },oa',G'⟩ s₁):Tr ⟨fx,oa,G⟩ s ⟨fx,oa',G'⟩ s₁:=⟨rfl,t.keep,t.live,t.grow,t.inst⟩
theorem vz {n n':Str} {f f':Nat} {fp pos fp' pos':Pos} {qs:List (Expr×DV)} {K K':V→Prop} {Q:Value→Shared→Prop} {E:Value→Shared→Prop} (hx:aZ Φ.fx.env.scope.names n=true) (hf:Φ.fx.g.fns.lookup n=some f) (hfn:keepIn Φ.fx.g.K (.ref (Φ.fx.g.fn f))=true) (hsf:Φ.safe f)
  (hx':aZ Φ.fx.env.scope.names n'=true) (hf':Φ.fx.g.fns.lookup n'=some f') (hfn':keepIn Φ.fx.g.K (.ref (Φ.fx.g.fn f'))=true) (hsf':Φ.safe f') (hq:∀ q∈qs,ao q.1=true∧bg Φ q) (hd:bo (qs.map Prod.snd) fun xs=>aq Φ.fx.g.P Φ.fx.d f xs K) (hK:∀ y,K y→noX y=true→aq Φ.fx.g.P Φ.fx.d f' [y] fun z=>noX z=true∧K' z) (I:Inv Φ s)
  (hQ:∀ v s' z,Inv Φ s'→aD s.heap s'.heap→K' z→noX z=true→Φ.rp s'.heap v z→Q v s') (hE:∀ s' c e,Inv Φ s'→aD s.heap s'.heap→c < Φ.fx.g.nc→K (eP c)→ExcAt s'.heap s.heap e (.ref (Φ.fx.g.cls c)) .none→E (.ref e) s') :
  wpAny (model Φ.fx.g.prog Φ.fx.g.w) Φ.fx.A (eval (.Call (.Name n' fp') [.Call (.Name n fp) (qs.map Prod.fst) [] pos] [] pos') Φ.fx.env) Q E s:=by
 refine (?_:wpAny _ _ (eval (.Name n' fp') Φ.fx.env >>= fun F=>callWith pos' F [] (backTo pos' (starEach [.Call (.Name n fp) (qs.map Prod.fst) [] pos] Φ.fx.env)) []) _ _ s)
 refine zC1 (bw I hx' (I.ok.gr.fns n' f' hf') ?_ E)
 refine callWith_of rfl (keeps_K hfn') (Calls.evalArgs_plain ?_)
 refine (?_:wpAny _ _ (eval (.Call (.Name n fp) (qs.map Prod.fst) [] pos) Φ.fx.env >>= fun v=>holding [v] (pure []) >>= fun vs=>pure (v :: vs)) _ _ s)
 refine zC1 (mL hx hf hfn hsf hq hd I (fun v s' y I' k hy nx r _=>zC1 (wpAny_holding (zC2 (zC2 ⟨I'.frag,?_⟩)))) hE)
 exact wpAny_mono (I'.ok.call Φ.fx.hm f' [y] _ Φ.fx.A s' Φ.bad [v] (hK y hy nx) I'.ok.hand hsf' I'.ok.room I'.ok.units I'.base I'.fr (fun a b=>I'.badLive b) (fun a b=>I'.bad0 b) (.cons r .nil)) (fun v' s'' ⟨B,k',z,hz,nx',r',_⟩=>hQ v' s'' z (I'.keep B k') (k.trans k') hz.2 nx' r') fun v' s'' ⟨_,_,c,e,_,_,hy,_⟩=>nomatch hy.1
theorem raised {oa:Nat→Option Addr} {G:Gs} {d:Nat} {e:Addr} {hs:List ExceptHandler} {Q:Flow→Shared→Prop} {X:Value→Shared→Prop} (top:FxTop fx) (I:Inv ⟨fx,oa,G⟩ s) (I₁:Inv ⟨fx,oa,G⟩ s₁) (k₁:aD s.heap s₁.heap) (xa:ExcAt s₁.heap s.heap e (.ref (fx.g.cls d)) .none)
  (h:∀ h₃ fl,aD s.heap h₃→Base fx.g { s₁ with heap:=h₃ }→ExcAt h₃ s.heap e (.ref (fx.g.cls d)) fl→wpAny (model fx.g.prog fx.g.w) fx.A (handleBy (.ref e) fx.env hs) Q X { s₁ with heap:=h₃ }) :
  wpAny (model fx.g.prog fx.g.w) fx.A (noteFrame (.ref e) fx.env) (fun _ s₂=>wpAny (model fx.g.prog fx.g.w) fx.A (setFlight (.ref e) none) (fun _ s₃=>wpAny (model fx.g.prog fx.g.w) fx.A (handleBy (.ref e) fx.env hs) Q X s₃) X s₂) X s₁:=by
 obtain ⟨outer,L,hfr,hL⟩:=top.top
 have fr:=I₁.fr.of hfr
 refine rY (lo:=s.heap) hfr fr.funs hL (fun b l=>k₁.live l) xa fun h₂ n₂ x₂=>?_
 have k₂:=cY k₁ fr n₂
 have B₂:=cN I.base I₁.base fr n₂
 have I₂:Inv ⟨fx,oa,G⟩ { s₁ with heap:=h₂ }:=I.keep B₂ k₂
 refine ft (s:={ s₁ with heap:=h₂ }) (F:=aX (fx.env :: outer)) x₂ fun h₃ n₃ x₃=>?_
 have fr₂:=I₂.fr.of hfr
 exact h h₃ _ (cY (s:=s) (s₁:={ s₁ with heap:=h₂ }) k₂ fr₂ n₃) (cN (s₁:={ s₁ with heap:=h₂ }) I.base B₂ fr₂ n₃) x₃
theorem lu {oa:Nat→Option Addr} {G:Gs} {K:Option V→Gs→Prop} {e:Addr} {h₃:Heap} {cls fl:Value} {kk:Nat} {kp rp hpos:Pos} {Y:Value→Shared→Prop} (top:FxTop fx) (I:Inv ⟨fx,oa,G⟩ s) (k₃:aD s.heap h₃) (B₃:Base fx.g { s₁ with heap:=h₃ }) (x₃:ExcAt h₃ s.heap e cls fl) (hk:K (some .none) G) :
  codeAny (model fx.g.prog fx.g.w) (fx.A.mark (some (.ref e))) (.handlers (.ref e) [.ExceptHandler none none [.Return (some (.Constant .none kk kp)) rp] hpos] fx.env) (fun r s₂=>match r with
   | .ok f=>PostS ⟨fx,oa,G⟩ s K f s₂
   | .error x=>Y x s₂) { s₁ with heap:=h₃ }:=by
 obtain ⟨outer,L,hfr,hL⟩:=top.top
 refine codeAny_handlers_suite (ft (s:={ s₁ with heap:=h₃ }) (F:=aX (fx.env :: outer)) x₃ fun h₄ n₄ x₄=>wpAny_execs_cons ?_)
 have I₃:Inv ⟨fx,oa,G⟩ { s₁ with heap:=h₃ }:=I.keep B₃ k₃
 have fr₃:=I₃.fr.of hfr
 have k₄:=cY (s:=s) (s₁:={ s₁ with heap:=h₃ }) k₃ fr₃ n₄
 have B₄:=cN (s₁:={ s₁ with heap:=h₃ }) I.base B₃ fr₃ n₄
 rw [exec_Return_some]
 refine zC1 (wpAny_standAt (zC1 ?_))
 exact zC2 (zC2 ⟨oa,G,some .none,fun _=>I.keep B₄ k₄,B₄,.of_keeps k₄,⟨rfl,.none,rfl,.none,fun _ a b q=>nomatch q⟩,hk⟩)
theorem xJ [Hm fx] {fnm C C':Str} {f c c':Nat} {fp cpos rpos np hpos pos kp rp np' kp' rp' hpos':Pos} {kk kk':Nat} {qs:Gs→List (Expr×DV)} {es:List Expr} (top:FxTop fx) (hes:∀ G,(qs G).map Prod.fst=es) (hx:aZ fx.env.scope.names fnm=true) (hf:fx.g.fns.lookup fnm=some f) (hfn:keepIn fx.g.K (.ref (fx.g.fn f))=true) (hnw:fx.nw=false)
  (hC:aZ fx.env.scope.names C=true) (hCl:fx.g.clss.lookup C=some c) (hC':aZ fx.env.scope.names C'=true) (hCl':fx.g.clss.lookup C'=some c') (hq:∀ oa G,∀ q∈qs G,ao q.1=true∧bg ⟨fx,oa,G⟩ q) :
  ExB fx (exec (.Try [.Return (some (.Call (.Name fnm fp) es [] cpos)) rpos] [.ExceptHandler (some (.Name C np)) none [.Return (some (.Constant .none kk kp)) rp] hpos,.ExceptHandler (some (.Name C' np')) none [.Return (some (.Constant .none kk' kp')) rp'] hpos'] [] [] pos) fx.env) (fun G K=>bo ((qs G).map Prod.snd) fun xs=>aq fx.g.P fx.d f xs fun y=>match jv y with
   | none=>K (some y) G
   | some d=>(fx.g.P.sup d c||fx.g.P.sup d c')=true∧K (some .none) G):=fun oa G K s hd I=>by
 refine wpAny_Try_except (wpAny_execs_cons ?_)
 rw [exec_Return_some,← hes G]
 refine zC1 (wpAny_standAt (zC1 (mL (Φ:=⟨fx,oa,G⟩) hx hf hfn (fun q=>nomatch (Hm.no (fx:=fx)).symm.trans q) (hq oa G) hd I (fun v s' y I' k hy nx r nv=>zC2 ?_) fun s₁ d e I₁ k₁ hd₁ hy xa=>?_)))
 ·rw [oK nx] at hy
  exact ⟨oa,G,some y,fun _=>I',I'.base,.of_keeps k,⟨nx,v,rfl,r,fun q=>nomatch hnw.symm.trans q⟩,hy⟩
 have hy:(fx.g.P.sup d c||fx.g.P.sup d c')=true∧K (some .none) G:=hy
 refine raised top I I₁ k₁ xa fun h₃ fl k₃ B₃ x₃=>?_
 have I₃:Inv ⟨fx,oa,G⟩ { s₁ with heap:=h₃ }:=I.keep B₃ k₃
 have hcl:=I.ok.gr.clss C c hCl
 have hcl':=I.ok.gr.clss C' c' hCl'
 refine wpAny_handleBy_cons (codeAny_handlers_test (bw (Φ:=⟨{ fx with A:=fx.A.mark (some (.ref e)),hm:=true },oa,G⟩) (I₃.mark _) hC hcl.2 ?_ _)) nofun
 refine x₃.el fun oe vs he hce _ _ _=>I.ok.gr.catches d c hd₁ hcl.1 _ _ _ _ e oe B₃.stays he hce ?_
 cases hb:fx.g.P.sup d c with
 | true=>exact lu top I k₃ B₃ x₃ hy.2
 | false=>
  refine wpAny_handleBy_cons (codeAny_handlers_test (bw (Φ:=⟨{ fx with A:=fx.A.mark (some (.ref e)),hm:=true },oa,G⟩) (I₃.mark _) hC' hcl'.2 ?_ _)) nofun
  have hb':fx.g.P.sup d c'=true:=by have:=hy.1; rw [hb] at this; exact this
  refine (hb'▸I.ok.gr.catches d c' hd₁ hcl'.1:jN fx.g d c' true) _ _ _ _ e oe B₃.stays he hce ?_
  exact lu top I k₃ B₃ x₃ hy.2
theorem u3 [Hm fx] {fnm gnm C n:Str} {f g c k:Nat} {fp cpos gp gpos rpos np hpos pos:Pos} {qs:Gs→List (Expr×DV)} {es:List Expr} {hbody:List Stmt} {X:B} (top:FxTop fx) (hes:∀ G,(qs G).map Prod.fst=es) (hx:aZ fx.env.scope.names fnm=true) (hf:fx.g.fns.lookup fnm=some f) (hfn:keepIn fx.g.K (.ref (fx.g.fn f))=true)
  (hgx:aZ fx.env.scope.names gnm=true) (hg:fx.g.fns.lookup gnm=some g) (hgn:keepIn fx.g.K (.ref (fx.g.fn g))=true) (hnw:fx.nw=false)
  (hC:aZ fx.env.scope.names C=true) (hCl:fx.g.clss.lookup C=some c) (hn:fx.ρ.lookup n=some k) (hnl:fx.env.kindOf n=some .local) (hne:hbody≠[])
  (hq:∀ oa G,∀ q∈qs G,ao q.1=true∧bg ⟨fx,oa,G⟩ q) (hh:∀ A,A.frames=fx.A.frames→A.depth=fx.A.depth→A.units=fx.A.units→ExB { fx with A:=A,hm:=true } (execs hbody fx.env) X) :
  ExB fx (exec (.Try [.Return (some (.Call (.Name gnm gp) [.Call (.Name fnm fp) es [] cpos] [] gpos)) rpos] [.ExceptHandler (some (.Name C np)) (some n) hbody hpos] [] [] pos) fx.env) (fun G K=>bo ((qs G).map Prod.snd) fun xs=>aq fx.g.P fx.d f xs fun y=>match jv y with
   | none=>aq fx.g.P fx.d g [y] fun z=>noX z=true∧K (some z) G
   | some d=>fx.g.P.sup d c=true∧X (G.set k (.v y)) fun fl G'=>(match fl with | some x=>noX x=true | none=>False)∧K fl (G'.set k .unset)):=fun oa G K s hd I=>by
 obtain ⟨outer,L,hfr,hL⟩:=top.top
 cases hbody with
 | nil=>exact absurd rfl hne
 | cons b₀ hbody'=>
 refine wpAny_Try_except (wpAny_execs_cons ?_)
 rw [exec_Return_some,← hes G]
 have nsf:∀ f,(Ct.mk fx oa G).safe f:=fun f q=>nomatch (Hm.no (fx:=fx)).symm.trans q
 refine zC1 (wpAny_standAt (zC1 (vz (Φ:=⟨fx,oa,G⟩) (K':=fun z=>K (some z) G) hx hf hfn (nsf f) hgx hg hgn (nsf g) (hq oa G) hd (fun y hy nx=>?_) I (fun v s' y I' k hy nx r=>zC2 ⟨oa,G,some y,fun _=>I',I'.base,.of_keeps k,⟨nx,v,rfl,r,fun q=>nomatch hnw.symm.trans q⟩,hy⟩) fun s₁ d e I₁ k₁ hd₁ hy xa=>?_)))
 ·rw [oK nx] at hy
  exact hy
 have hy:fx.g.P.sup d c=true∧X (G.set k (.v (eP d))) fun fl G'=>(match fl with | some x=>noX x=true | none=>False)∧K fl (G'.set k .unset):=hy
 refine raised top I I₁ k₁ xa fun h₃ fl k₃ B₃ x₃=>?_
 have I₃:Inv ⟨fx,oa,G⟩ { s₁ with heap:=h₃ }:=I.keep B₃ k₃
 refine wpAny_handleBy_cons (codeAny_handlers_test ?_) nofun
 have hcl':=I.ok.gr.clss C c hCl
 refine bw (Φ:=⟨{ fx with A:=fx.A.mark (some (.ref e)),hm:=true },oa,G⟩) (I₃.mark _) hC hcl'.2 ?_ _
 refine x₃.el fun oe vs he hcl _ _ _=>(hy.1▸I.ok.gr.catches d c hd₁ hcl'.1:jN fx.g d c true) _ _ _ _ e oe B₃.stays he hcl ?_
 clear he hcl
 refine (?_:codeAny _ _ _ _ _)
 refine codeAny_handlers_suite_as (ft (s:={ s₁ with heap:=h₃ }) (F:=aX (fx.env :: outer)) x₃ fun h₄ n₄ x₄=>?_)
 have fr₃:=I₃.fr.of hfr
 have k₄:=cY (s:=s) (s₁:={ s₁ with heap:=h₃ }) k₃ fr₃ n₄
 have B₄:=cN (s₁:={ s₁ with heap:=h₃ }) I.base B₃ fr₃ n₄
 have I₄:Inv ⟨fx,oa,G⟩ { s₁ with heap:=h₄ }:=I.keep B₄ k₄
 have Ih:=I₄.mark (.ref e)
 clear n₄ x₃ k₃ B₃ I₃ fr₃
 refine gm (Φ:=⟨{ fx with A:=fx.A.mark (some (.ref e)),hm:=true },oa,G⟩) Ih hn (fun q=>nomatch (show fx.env.kindOf n=some .free from q).symm.trans hnl) (fun h₅ tk ps=>?_) _
 obtain ⟨I₅,t₅⟩:=x₄.el fun oe vs he hcl hdi hdat hnew=>l6 (tk:=tk) Ih ps (.exc hd₁ (fun q=>(I.badLive (Φ:=⟨fx,oa,G⟩) q).elim fun o e=>ay hnew e) he ⟨hcl,hdi⟩ hdat)
 refine wpAny_mono (hh (fx.A.mark (some (.ref e))) rfl rfl rfl _ _ _ _ hy.2 I₅) (fun fl s₆ p=>?_) fun v s₆ p=>?_
 ·refine av fun Z kZ=>?_
  obtain ⟨oa₆,G₆,fl,I₆,B₆,t₆,hf₆,hk⟩:=p
  cases fl with
  | none=>exact hk.1.elim
  | some x=>
   obtain ⟨nx,v,ef,rv,nv⟩:=hf₆
   refine kZ ?_
   subst ef
   have I₆:=I₆ (.inr rfl)
   have tt:Tr ⟨fx,oa,G⟩ s ⟨fx,oa₆,G₆⟩ s₆:=(Tr.of_keeps k₄).trans ((Tr.unmark (oa':=fun j=>if j=k then none else oa j) (G':=G.set k (.v (eP d))) t₅).trans (Tr.unmark t₆))
   have hns:∃ m,s₆.heap.Ns fx.env.locals m:=by
    obtain ⟨u,pr,_⟩:=I₆.slot k
    exact ((gy I.ok hn hnl▸pr:be s₆.heap (.ns fx.env.locals n) u)).imp fun _ z=>z.1
   have hloc:(Ct.mk fx oa G).own fx.env.locals:=.inl ⟨k,by refine (?_:(fx.pl k).addr=_); rw [gy I.ok hn hnl]; rfl⟩
   refine ul (Φ:=⟨fx,oa,G⟩) (K:=K) (oa':=oa₆) (G':=G₆) I.ok hn hnl hns (I.new _ hloc).2.1 B₆ tt nx rv (fun q=>(nv q).le fun b l=>t₅.live b (k₄.live l)) hk.2 (fun q=>?_) fun s' p=>p
   rw [bN (show k < G₆.length by rw [I₆.gl]; exact Nat.lt_of_lt_of_le (Nat.lt_of_not_le fun z=>by have:=gy I.ok hn hnl; rw [I.ok.offs k z] at this; (injection this; done)) I.ok.nfs)] at q
   exact q
 ·obtain ⟨_,_,_,_,_,_,_,_,_,hk⟩:=p
  exact nomatch hk.1
end
end Mine
end
noncomputable section
namespace Mine
open PySem PySem.Calls PyProof.Rows PySem.W
theorem tF {x:V} {c:Nat} (e:jv x=some c):∃ i:Int,x=.dict [(.int i,.none)]∧i.toNat=c:=by
 revert e
 cases x with
 | dict kvs=>cases kvs with
  | nil=>exact fun e=>nomatch e
  | cons p r=>
   obtain ⟨a,b⟩:=p
   cases a with
   | int i=>cases b with
    | none=>cases r with
     | nil=>exact fun e=>⟨i,rfl,Option.some.inj e⟩
     | cons=>exact fun e=>nomatch e
    | _=>exact fun e=>nomatch e
   | _=>exact fun e=>nomatch e
 | _=>exact fun e=>nomatch e
section
variable {Φ:Ct} {s:Shared} {v u:Value} {x y z:V} {d:DV}
theorem vc {c:Nat} {tb:List Bool} {C:Str} {fp pos pT:Pos} {q:Expr×DV} (hx:aZ Φ.fx.env.scope.names "isinstance"=true) (hy:aZ Φ.fx.env.scope.names C=true) (hp:ao q.1=true) (hC:Φ.fx.g.clss.lookup C=some c∨(C="ValueError"∧c=Φ.fx.g.nc)) (ht:∀ e,e < Φ.fx.g.nc→tb[e]?=some (Φ.fx.g.P.sup e c)) (h:bg Φ q) :
  Ev Φ (eval (.Call (.Name "isinstance" fp) [q.1,.Name C pT] [] pos) Φ.fx.env) (fun K=>q.2 fun x=>okK ((jv x).bind fun e=>tb[e]?) fun b=>K (.bool b)):=fun K s hd I E=>by
 refine (?_:wpAny _ _ (eval (.Name "isinstance" fp) Φ.fx.env >>= fun F=>callWith pos F [] (backTo pos (starEach [q.1,.Name C pT] Φ.fx.env)) []) _ _ s)
 refine zC1 (bT (v:=.builtin "isinstance") I hx rfl ?_ E)
 rw [aO hp]
 refine callWith_builtin rfl (Calls.evalArgs_plain ?_)
 have q':spliced (backTo pos ((false,eval q.1 Φ.fx.env) :: starEach [.Name C pT] Φ.fx.env))=(eval q.1 Φ.fx.env >>= fun v=>holding [v] (eval (.Name C pT) Φ.fx.env >>= fun u=>holding [u] (pure []) >>= fun vs=>pure (u :: vs)) >>= fun vs=>pure (v :: vs)):=rfl
 refine (?_:wpAny _ _ (spliced (backTo pos ((false,eval q.1 Φ.fx.env) :: starEach [.Name C pT] Φ.fx.env))) _ _ _)
 rw [q']
 refine zC1 (wpAny_mono (h _ s hd I E) (fun v s₁ ⟨B,k,x,hx,r⟩=>?_) fun _ _ z=>z)
 have I₁:=I.keep B k
 have hcn:c≤Φ.fx.g.nc:=hC.elim (fun e=>Nat.le_of_lt (I.ok.gr.clss C c e).1) fun e=>zB2 e.2
 have nameC:∀ Q:Value→Shared→Prop,Q (iF Φ.fx.g c) s₁→wpAny (model Φ.fx.g.prog Φ.fx.g.w) Φ.fx.A (eval (.Name C pT) Φ.fx.env) Q E s₁:=fun Q hQ=>by
  rcases hC with e | ⟨rfl,e⟩
  ·obtain ⟨hlt,hm⟩:=I.ok.gr.clss C c e
   unfold iF at hQ
   rw [if_neg (Nat.ne_of_lt hlt)] at hQ
   exact bw I₁ hy hm hQ E
  ·unfold iF at hQ
   rw [if_pos e] at hQ
   exact bT I₁ hy rfl hQ E
 refine zC1 (wpAny_holding (zC1 (nameC _ ?_)))
 refine zC1 (wpAny_holding (zC2 (zC2 (zC2 ?_))))
 refine aj hx fun b e kb=>?_
 obtain ⟨c',e',eb⟩:=Option.bind_eq_some_iff.mp e
 obtain ⟨i,rfl,rfl⟩:=tF e'
 cases r with
 | inst _ _ _ _ _ _ q=>(injection q; done)
 | exc hn nb ha hc hd=>
  have eb:=(ht _ hn).symm.trans eb
  (injection eb with eb; subst eb)
  exact I.ok.gr.isi _ c hn hcn _ _ _ s₁ _ _ I₁.base.stays ha hc.1 hc.2 ⟨_,hd⟩ fun n=>⟨I₁.base.grown (.toks _ _),k,_,kb,.bool _⟩
end
end Mine
end
noncomputable section
namespace Mine
open PySem PySem.SetTable
theorem yB {G:Prop} (h:∀ P:Prop,(G→P)→P):G:=h G id
noncomputable def mO (xs:Array Nat):Prop:=∀ i j a b:Nat,i < j→xs[i]?=some a→xs[j]?=some b→a < b
theorem An {lo hi:Nat} (h:lo < hi):(lo+hi) / 2 < hi:=Nat.div_lt_of_lt_mul (by rw [Nat.two_mul]; exact Nat.add_lt_add_right h hi)
theorem Bq {lo hi:Nat} (h:lo≤hi):lo≤(lo+hi) / 2:=(Nat.le_div_iff_mul_le (by decide)).mpr (by rw [Nat.mul_two]; exact Nat.add_le_add_left h lo)
theorem j7 {xs:Array Nat} {j:Nat} (r:mO xs):∀ fuel lo hi,lo≤hi→hi≤xs.size→hi≤lo+fuel→(∀ i a:Nat,i < lo→xs[i]?=some a→a < j)→(∀ i a:Nat,hi≤i→xs[i]?=some a→j≤a) →
  below.go xs j fuel lo hi≤xs.size∧(∀ i a:Nat,i < below.go xs j fuel lo hi→xs[i]?=some a→a < j)∧∀ i a:Nat,below.go xs j fuel lo hi≤i→xs[i]?=some a→j≤a
 | 0,lo,hi,h1,h2,h3,h4,h5=>⟨zB1 h1 h2,h4,fun i a q=>h5 i a (zB1 h3 q)⟩
 | fuel+1,lo,hi,h1,h2,h3,h4,h5=>by
  rw [show below.go xs j (fuel+1) lo hi=if lo < hi then (if xs.getD ((lo+hi) / 2) j < j then below.go xs j fuel ((lo+hi) / 2+1) hi else below.go xs j fuel lo ((lo+hi) / 2)) else lo from rfl]
  by_cases h:lo < hi
  ·rw [if_pos h]
   have hm:(lo+hi) / 2 < xs.size:=Nat.lt_of_lt_of_le (An h) h2
   have e:xs[(lo+hi) / 2]?=some (xs.getD ((lo+hi) / 2) j):=by simp [hm]
   by_cases c:xs.getD ((lo+hi) / 2) j < j
   ·rw [if_pos c]
    refine j7 r fuel _ hi (An h) h2 (zB1 h3 (zB1 (Nat.add_le_add_right (Bq h1) (fuel+1)) (zB2 (Nat.add_right_comm _ 1 fuel).symm))) (fun i a q ea=>?_) h5
    by_cases q':i=(lo+hi) / 2
    ·subst q'; rw [e] at ea; (injection ea with ea; subst ea); exact c
    ·exact Nat.lt_trans (r _ _ _ _ (Nat.lt_of_le_of_ne (Nat.le_of_lt_succ q) q') ea e) c
   ·rw [if_neg c]
    refine j7 r fuel lo _ (Bq h1) (Nat.le_of_lt hm) (Nat.le_of_lt_succ (Nat.lt_of_lt_of_le (An h) h3)) h4 fun i a q ea=>?_
    by_cases q':i=(lo+hi) / 2
    ·subst q'; rw [e] at ea; (injection ea with ea; subst ea); exact Nat.le_of_not_lt c
    ·exact Nat.le_of_lt (Nat.lt_of_le_of_lt (Nat.le_of_not_lt c) (r _ _ _ _ (Nat.lt_of_le_of_ne q (Ne.symm q')) e ea))
  ·rw [if_neg h]
   exact ⟨zB1 h1 h2,h4,fun i a q=>h5 i a (by exact zB1 (Nat.not_lt.mp h) q)⟩
theorem eZ {xs:Array Nat} (r:mO xs) (j:Nat):below xs j≤xs.size∧(∀ i a:Nat,i < below xs j→xs[i]?=some a→a < j)∧∀ i a:Nat,below xs j≤i→xs[i]?=some a→j≤a:=
 j7 r _ _ _ (Nat.zero_le _) (Nat.le_refl _) (Nat.le_add_left _ _) (fun _ _ q=>absurd q (Nat.not_lt_zero _)) fun i a q e=>by rw [Array.getElem?_eq_none q] at e; (injection e; done)
theorem j8 {xs:Array Nat} (r:mO xs) {i j:Nat} (e:xs[i]?=some j):below xs j=i:=by
 obtain ⟨_,h1,h2⟩:=eZ r j
 rcases Nat.lt_trichotomy i (below xs j) with q | q | q
 ·exact absurd (h1 _ _ q e) (Nat.lt_irrefl _)
 ·exact q.symm
 ·have hb:below xs j < xs.size:=by
   have:i < xs.size:=by rcases Nat.lt_or_ge i xs.size with q | q; exact q; rw [Array.getElem?_eq_none q] at e; (injection e; done)
   exact Nat.lt_trans q this
  have e':xs[below xs j]?=some xs[below xs j]:=by simp
  have a1:=h2 _ _ (Nat.le_refl _) e'
  have a2:=r _ _ _ _ q e' e
  exact absurd a1 (Nat.not_le.mpr a2)
theorem oy {xs:Array Nat} (r:mO xs) {i k j:Nat} (e:xs[i]?=some j) (e':xs[k]?=some j):i=k:=(j8 r e).symm.trans (j8 r e')
theorem sy {xs:Array Nat} (r:mO xs):∃ e,e≤xs.size∧∀ i:Nat,xs[i]?≠some e:=by
 refine Classical.byContradiction fun c=>?_
 have all:∀ e,e≤xs.size→∃ i:Nat,xs[i]?=some e:=fun e h=>Classical.byContradiction fun q=>c ⟨e,h,fun i z=>q ⟨i,z⟩⟩
 have up:∀ e,e≤xs.size→∀ i:Nat,xs[i]?=some e→e≤i:=fun e=>by
  induction e with
  | zero=>exact fun _ _ _=>Nat.zero_le _
  | succ e ih=>
   intro h i z
   obtain ⟨k,hk⟩:=all e (Nat.le_of_succ_le h)
   have:=ih (Nat.le_of_succ_le h) k hk
   rcases Nat.lt_trichotomy i k with q | q | q
   ·exact absurd (r _ _ _ _ q z hk) (Nat.not_lt.mpr (Nat.le_succ e))
   ·subst q; rw [z] at hk; cases hk
   ·exact Nat.lt_of_le_of_lt this q
 obtain ⟨i,hi⟩:=all _ (Nat.le_refl _)
 have:=up _ (Nat.le_refl _) i hi
 rw [Array.getElem?_eq_none this] at hi; (injection hi; done)
theorem insertAt_list {α:Type} {xs:Array α} {p:Nat} {x:α}:(insertAt xs p x).toList=xs.toList.take p++x :: xs.toList.drop p:=by
 unfold insertAt
 rw [Array.toList_append,Array.toList_push,Array.toList_extract,Array.toList_extract,List.append_assoc,List.extract_eq_take_drop,List.extract_eq_take_drop,List.drop_zero,Nat.sub_zero,List.take_of_length_le (i:=xs.size - p) (by rw [List.length_drop,zB3]; exact Nat.le_refl _)]; rfl
theorem fW {α:Type} {xs:Array α} {p:Nat} {x:α} (h:p≤xs.size) (i:Nat):(insertAt xs p x)[i]?=if i < p then xs[i]? else if i=p then some x else xs[i - 1]?:=by
 have lp:(xs.toList.take p).length=p:=by rw [List.length_take,zB3]; exact Nat.min_eq_left h
 rw [← Array.getElem?_toList,insertAt_list]
 rcases Nat.lt_trichotomy i p with hi | rfl | hi
 ·rw [if_pos hi,List.getElem?_append_left (Nat.lt_of_lt_of_eq hi lp.symm),List.getElem?_take_of_lt hi,Array.getElem?_toList]
 ·rw [if_neg (Nat.lt_irrefl _),if_pos rfl,List.getElem?_append_right (zB2 lp),lp,Nat.sub_self]; rfl
 ·rw [if_neg (Nat.lt_asymm hi),if_neg (Nat.ne_of_gt hi),List.getElem?_append_right (zB1 (zB2 lp) (Nat.le_of_lt hi)),lp]
  obtain ⟨k,rfl⟩:=Nat.exists_eq_add_of_lt hi
  rw [Nat.add_assoc,Nat.add_sub_cancel_left,List.getElem?_cons_succ,List.getElem?_drop,Array.getElem?_toList]; rfl
theorem db {α:Type} {xs:Array α} {p:Nat} {x:α} (h:p≤xs.size):(insertAt xs p x).size=xs.size+1:=by
 rw [← zB3,insertAt_list,zB5,List.length_take,zB3,Nat.min_eq_left h,zB4,List.length_drop,zB3,← Nat.add_assoc,Nat.add_sub_cancel' h]
theorem insertAt_cases {α:Type} {xs:Array α} {p:Nat} {x y:α} {i:Nat} (h:p≤xs.size) (e:(insertAt xs p x)[i]?=some y):(i=p∧x=y)∨(i≠p∧xs[if i < p then i else i - 1]?=some y):=by
 rw [fW h] at e
 by_cases h1:i < p
 ·rw [if_pos h1] at e; exact .inr ⟨by exact Nat.ne_of_lt h1,by rw [if_pos h1]; exact e⟩
 ·rw [if_neg h1] at e
  by_cases h2:i=p
  ·rw [if_pos h2] at e; (injection e with e; subst e); exact .inl ⟨h2,rfl⟩
  ·rw [if_neg h2] at e; exact .inr ⟨h2,by rw [if_neg h1]; exact e⟩
theorem lL {α:Type} {xs:Array α} {p:Nat} {x y:α} {i:Nat} (h:p≤xs.size) (e:xs[i]?=some y):(insertAt xs p x)[if i < p then i else i+1]?=some y:=by
 rw [fW h]
 by_cases h1:i < p
 ·rw [if_pos h1,if_pos h1]; exact e
 ·rw [if_neg h1,if_neg (by exact Nat.not_lt.mpr (Nat.le_add_right_of_le (Nat.not_lt.mp h1))),if_neg (by exact Nat.ne_of_gt (Nat.lt_succ_of_le (Nat.not_lt.mp h1)))]; exact e
theorem nL {xs:Array Nat} (r:mO xs) {j:Nat} (h:∀ i:Nat,xs[i]?≠some j):mO (insertAt xs (below xs j) j):=fun i k a b hik ea eb=>by
 obtain ⟨hp,h1,h2⟩:=eZ r j
 have le:∀ i a:Nat,below xs j≤i→xs[i]?=some a→j < a:=fun i a q e=>Nat.lt_of_le_of_ne (h2 i a q e) fun z=>h i (z▸e)
 rcases insertAt_cases hp ea with ⟨rfl,rfl⟩ | ⟨q1,z1⟩ <;> rcases insertAt_cases hp eb with ⟨rfl,rfl⟩ | ⟨q2,z2⟩
 ·exact absurd hik (Nat.lt_irrefl _)
 ·rw [if_neg (by exact Nat.not_lt.mpr (Nat.le_of_lt hik))] at z2; exact le _ _ (Nat.le_sub_one_of_lt hik) z2
 ·rw [if_pos hik] at z1; exact h1 _ _ hik z1
 ·refine r _ _ _ _ ?_ z1 z2
  by_cases c1:i < below xs j
  ·rw [if_pos c1]
   by_cases c2:k < below xs j
   ·rw [if_pos c2]; exact hik
   ·rw [if_neg c2]; exact Nat.lt_of_lt_of_le c1 (Nat.le_sub_one_of_lt (Nat.lt_of_le_of_ne (Nat.le_of_not_lt c2) (Ne.symm q2)))
  ·have c2:¬ k < below xs j:=fun q=>c1 (Nat.lt_trans hik q)
   rw [if_neg c1,if_neg c2]
   exact Nat.sub_lt_sub_right (Nat.succ_le_of_lt (Nat.lt_of_le_of_lt (Nat.zero_le _) (Nat.lt_of_le_of_ne (Nat.le_of_not_lt c1) (Ne.symm q1)))) hik
theorem slot_is {t:SetTable} (hd:t.dummies=#[]) (r:mO t.place) (j:Nat):(∃ i:Nat,t.place[i]?=some j∧t.slot j=.live i)∨(∀ i:Nat,t.place[i]?≠some j)∧t.slot j=.empty:=by
 unfold slot
 by_cases h:∃ i:Nat,t.place[i]?=some j
 ·obtain ⟨i,e⟩:=h
  refine .inl ⟨i,e,?_⟩
  simp only [j8 r e,e,beq_self_eq_true,if_true]
 ·have h:∀ i:Nat,t.place[i]?≠some j:=fun i e=>h ⟨i,e⟩
  refine .inr ⟨h,?_⟩
  have:(t.place[below t.place j]?==some j)=false:=by simpa using h _
  simp only [this,hd,has,Bool.false_eq_true,if_false]
  simp
end Mine
end
noncomputable section
namespace Mine
open PySem PySem.SetTable
noncomputable def adv (m:Nat) (p:Probe):Probe:=
 if p.more > 0 then { p with j:=p.j+1,more:=p.more - 1 } else
 { p with j:=(leap m p.i p.perturb).1,more:=runEnd m (leap m p.i p.perturb).1 - (leap m p.i p.perturb).1,i:=(leap m p.i p.perturb).1,perturb:=(leap m p.i p.perturb).2 }
noncomputable def it (m:Nat):Nat→Probe→Probe
 | 0,p=>p
 | n+1,p=>it m n (adv m p)
theorem it_add (m:Nat):∀ a b p,it m (a+b) p=it m b (it m a p)
 | 0,b,p=>by rw [Nat.zero_add]; rfl
 | a+1,b,p=>by rw [Nat.succ_add]; exact it_add m a b (adv m p)
noncomputable def beg (m i pt:Nat):Probe:={ j:=i,more:=runEnd m i - i,i:=i,perturb:=pt,dummy:=none }
noncomputable def lp (m:Nat) (q:Nat×Nat):Nat×Nat:=leap m q.1 q.2
theorem ny (m:Nat):∀ k p,p.more=k→p.dummy=none→it m (k+1) p=beg m (lp m (p.i,p.perturb)).1 (lp m (p.i,p.perturb)).2
 | 0,p,h,hd=>by
  refine (?_:adv m p=_)
  unfold adv; rw [if_neg (by rw [h]; exact Nat.lt_irrefl _),hd]; rfl
 | k+1,p,h,hd=>by
  have e:adv m p={ p with j:=p.j+1,more:=p.more - 1 }:=if_pos (by rw [h]; exact Nat.succ_pos _)
  refine (?_:it m (k+1) (adv m p)=_)
  rw [ny m k (adv m p) (by rw [e]; refine (?_:p.more - 1=k); rw [h]; rfl) (by rw [e]; exact hd),e]
theorem ml (m i:Nat):runEnd m i - i≤9:=by
 unfold runEnd
 split
 ·exact zB2 (Nat.add_sub_cancel_left _ _)
 ·rw [Nat.sub_self]; exact Nat.zero_le _
noncomputable def lps (m:Nat):Nat→Nat×Nat→Nat×Nat
 | 0,q=>q
 | r+1,q=>lps m r (lp m q)
theorem sr (m:Nat):∀ r p,p.more≤9→p.dummy=none→∃ N,N≤10 * (r+1)∧it m N p=beg m (lps m (r+1) (p.i,p.perturb)).1 (lps m (r+1) (p.i,p.perturb)).2
 | 0,p,h,hd=>⟨p.more+1,Nat.succ_le_succ h,ny m _ p rfl hd⟩
 | r+1,p,h,hd=>by
  obtain ⟨N,h1,h2⟩:=sr m r (beg m (lp m (p.i,p.perturb)).1 (lp m (p.i,p.perturb)).2) (ml _ _) rfl
  refine ⟨p.more+1+N,zB1 (Nat.add_le_add (Nat.succ_le_succ h) h1) (zB2 (Nat.add_comm 10 _)),?_⟩
  rw [it_add,ny m _ p rfl hd]; exact h2
theorem lps_add (m:Nat):∀ a b q,lps m (a+b) q=lps m b (lps m a q)
 | 0,b,q=>by rw [Nat.zero_add]; rfl
 | a+1,b,q=>by rw [Nat.succ_add]; exact lps_add m a b (lp m q)
theorem sa (m:Nat):∀ r q,(lps m r q).2=q.2 / 32 ^ r
 | 0,q=>(Nat.div_one _).symm
 | r+1,q=>(sa m r (lp m q)).trans (by refine (?_:q.2 / 32 / 32 ^ r=_); rw [Nat.div_div_eq_div_mul,Nat.pow_succ,Nat.mul_comm])
theorem se (m:Nat):∀ r q,q.1≤m→(lps m r q).1≤m
 | 0,q,h=>h
 | r+1,q,_=>se m r (lp m q) (Nat.le_of_lt_succ (Nat.mod_lt _ (Nat.succ_pos _)))
noncomputable def orb (m:Nat):Nat→Nat
 | 0=>0
 | n+1=>(orb m n * 5+1) % (m+1)
noncomputable def Msk (m:Nat):Prop:=m=7∨m=31∨m=127∨m=511
noncomputable def Am (m:Nat):Nat→Nat→List Nat
 | 0,_=>[]
 | n+1,i=>(i * 5+1) % (m+1) :: Am m n ((i * 5+1) % (m+1))
noncomputable def zi (m:Nat):Bool:=(List.range (m+1)).all fun e=>(Am m (m+1) 0).contains e
theorem rS {m:Nat} (h:Msk m):zi m=true∧orb m (m+1)=0:=by
 rcases h with rfl | rfl | rfl | rfl
 ·decide +kernel
 ·decide +kernel
 ·decide +kernel
 ·decide +kernel
theorem oD {m:Nat}:∀ {n a e:Nat},e∈Am m n (orb m a)→∃ b,b < n∧e=orb m (a+b+1)
 | 0,_,_,h=>nomatch h
 | n+1,a,e,h=>by
  rcases List.mem_cons.mp h with h | h
  ·exact ⟨0,Nat.succ_pos _,h⟩
  ·obtain ⟨b,hb,q⟩:=oD (n:=n) (a:=a+1) h
   exact ⟨b+1,Nat.succ_lt_succ hb,by rw [q,Nat.add_right_comm a 1 b]; rfl⟩
theorem rU {m e:Nat} (h:Msk m) (he:e≤m):∃ b,b≤m∧e=orb m (b+1):=by
 obtain ⟨b,hb,q⟩:=oD (a:=0) (List.contains_iff_mem.mp (List.all_eq_true.mp (rS h).1 e (List.mem_range.mpr (Nat.lt_succ_of_le he))))
 exact ⟨b,Nat.le_of_lt_succ hb,by rw [q,Nat.zero_add]⟩
theorem sd (m:Nat):∀ r a,lps m r (orb m a,0)=(orb m (a+r),0)
 | 0,_=>rfl
 | r+1,a=>by
  have e:lp m (orb m a,0)=(orb m (a+1),0):=by unfold lp leap; rw [Nat.zero_div]; rfl
  refine (?_:lps m r (lp m (orb m a,0))=_)
  rw [e,sd m r (a+1),Nat.add_right_comm a 1 r]; rfl
theorem i9 {m:Nat} (h:Msk m):∀ b,orb m (b+(m+1))=orb m b
 | 0=>by rw [Nat.zero_add]; exact (rS h).2
 | b+1=>by rw [Nat.add_right_comm b 1 (m+1)]; refine (?_:(_ * 5+1) % (m+1)=_); rw [i9 h b]; rfl
theorem yp {m i pt e:Nat} (h:Msk m) (hi:i≤m) (hp:pt < 2 ^ 64) (he:e≤m):∃ r,r≤m+13∧(lps m (r+1) (i,pt)).1=e:=by
 have z:lps m 13 (i,pt)=((lps m 13 (i,pt)).1,0):=Prod.ext rfl ((sa m 13 (i,pt)).trans (Nat.div_eq_of_lt (Nat.lt_of_lt_of_le hp (by decide))))
 obtain ⟨a,ha,ea⟩:=rU h (se m 13 (i,pt) hi)
 obtain ⟨b,hb,eb⟩:=rU h he
 rw [ea] at z
 have go:∀ r,(lps m (13+r) (i,pt)).1=orb m (a+1+r):=fun r=>by rw [lps_add,z,sd]
 by_cases c:a < b
 ·exact ⟨12+(b - a),Nat.add_comm 13 m▸Nat.add_le_add (by decide:12≤13) (zB1 (Nat.sub_le b a) hb),by rw [show 12+(b - a)+1=13+(b - a) by exact Nat.add_right_comm _ _ _,go,eb,Nat.add_right_comm a,Nat.add_sub_cancel' (Nat.le_of_lt c)]⟩
 ·refine ⟨12+(m+1+b - a),zB1 (Nat.add_le_add_left (Nat.sub_le_of_le_add (Nat.add_le_add_left (Nat.le_of_not_lt c) (m+1))) 12) (zB2 (Nat.add_comm 12 (m+1))),?_⟩
  rw [show 12+(m+1+b - a)+1=13+(m+1+b - a) by exact Nat.add_right_comm _ _ _,go,eb,← i9 h (b+1),Nat.add_right_comm a,Nat.add_sub_cancel' (zB1 ha (zB1 (Nat.le_succ m) (Nat.le_add_right _ _))),Nat.add_assoc,Nat.add_comm]
theorem zE {m:Nat} {p:Probe} {e:Nat} (h:Msk m) (hi:p.i≤m) (hp:p.perturb < 2 ^ 64) (hm:p.more≤9) (hd:p.dummy=none) (he:e≤m):∃ N,N < 10 * turns m∧(it m N p).j=e:=by
 obtain ⟨r,hr,q⟩:=yp h hi hp he
 obtain ⟨N,h1,h2⟩:=sr m r p hm hd
 exact ⟨N,by unfold turns; exact Nat.lt_of_le_of_lt h1 (Nat.mul_lt_mul_of_pos_left (Nat.succ_lt_succ (Nat.lt_succ_of_le hr)) (by decide)),by rw [h2]; exact q⟩
theorem sU (h:Int):bits h < 2 ^ 64:=by unfold bits; exact (Int.toNat_lt (Int.emod_nonneg _ (by decide))).mpr (Int.emod_lt_of_pos _ (by decide))
end Mine
end
noncomputable section
namespace Mine
open PySem PySem.SetTable
noncomputable def pos (m:Nat) (h:Int) (n:Nat):Probe:=it m n (beg m (bits h % (m+1)) (bits h))
noncomputable def In (t:SetTable) (j:Nat):Prop:=∃ i:Nat,t.place[i]?=some j
noncomputable def Way (t:SetTable) (h:Int) (j:Nat):Prop:=∃ n,(pos t.mask h n).j=j∧∀ n',n' < n→In t (pos t.mask h n').j
structure Tab {β:Type} (t:SetTable) (es:Array (Int×β)):Prop where
 msk:Msk t.mask
 dm:t.dummies=#[]
 sz:t.place.size=es.size
 rise:mO t.place
 le:∀ i j:Nat,t.place[i]?=some j→j≤t.mask
 way:∀ (i j:Nat) e,t.place[i]?=some j→es[i]?=some e→Way t e.1 j
theorem xB {m:Nat}:∀ {n:Nat} {p:Probe},p.dummy=none→(it m n p).dummy=none
 | 0,_,h=>h
 | n+1,p,h=>xB (n:=n) (p:=adv m p) (by unfold adv; split <;> exact h)
theorem sB {t:SetTable} {hashAt:Nat→Int} {h:Int} (hd:t.dummies=#[]) (r:mO t.place):∀ N fuel p,N < fuel→p.dummy=none→¬ In t (it t.mask N p).j →
  ∃ n,n≤N∧(∀ n',n' < n→∃ i:Nat,t.place[i]?=some (it t.mask n' p).j∧hashAt i≠h) ∧
   (¬ In t (it t.mask n p).j∧probe.go t hashAt h fuel p=some (.empty (it t.mask n p).j none) ∨
    ∃ i:Nat,t.place[i]?=some (it t.mask n p).j∧hashAt i=h∧probe.go t hashAt h fuel p=some (.candidate (it t.mask n p).j i (it t.mask (n+1) p))):=by
 intro N
 induction N with
 | zero=>
  intro fuel p hf hp he
  obtain ⟨fuel,rfl⟩:=Nat.exists_eq_succ_of_ne_zero (Nat.ne_of_gt hf)
  refine ⟨0,Nat.le_refl _,fun _ q=>absurd q (Nat.not_lt_zero _),.inl ⟨he,?_⟩⟩
  rcases slot_is hd r p.j with ⟨i,e,_⟩ | ⟨_,e⟩
  ·exact absurd ⟨i,e⟩ he
  ·unfold probe.go; rw [e]; refine (?_:some (Met.empty p.j p.dummy)=_); rw [hp]; rfl
 | succ N ih=>
  intro fuel p hf hp he
  obtain ⟨fuel,rfl⟩:=Nat.exists_eq_succ_of_ne_zero (Nat.ne_of_gt (Nat.lt_of_le_of_lt (Nat.zero_le _) hf))
  rcases slot_is hd r p.j with ⟨i,e,es⟩ | ⟨e,es⟩
  ·by_cases c:hashAt i=h
   ·refine ⟨0,Nat.zero_le _,fun _ q=>absurd q (Nat.not_lt_zero _),.inr ⟨i,e,c,?_⟩⟩
    unfold probe.go; rw [es]; exact if_pos (beq_iff_eq.mpr c)
   ·obtain ⟨n,h1,h2,h3⟩:=ih fuel (adv t.mask p) (Nat.lt_of_succ_lt_succ hf) (xB (n:=1) hp) he
    have hg:probe.go t hashAt h (fuel+1) p=probe.go t hashAt h fuel (adv t.mask p):=by
     rw [probe.go]; rw [es]; exact if_neg fun q=>c (beq_iff_eq.mp q)
    refine ⟨n+1,Nat.succ_le_succ h1,fun n' q=>?_,?_⟩
    ·cases n' with
     | zero=>exact ⟨i,e,c⟩
     | succ n'=>exact h2 n' (Nat.lt_of_succ_lt_succ q)
    ·rw [hg]; exact h3
  ·refine ⟨0,Nat.zero_le _,fun _ q=>absurd q (Nat.not_lt_zero _),.inl ⟨fun ⟨i,q⟩=>e i q,?_⟩⟩
   unfold probe.go; rw [es]; refine (?_:some (Met.empty p.j p.dummy)=_); rw [hp]; rfl
theorem yu {m:Nat}:∀ n p,p.i≤m→p.perturb < 2 ^ 64→p.more≤9→(it m n p).i≤m∧(it m n p).perturb < 2 ^ 64∧(it m n p).more≤9
 | 0,p,h1,h2,h3=>⟨h1,h2,h3⟩
 | n+1,p,h1,h2,h3=>by
  refine yu n (adv m p) ?_ ?_ ?_ <;> unfold adv <;> split
  ·exact h1
  ·exact Nat.le_of_lt_succ (Nat.mod_lt _ (Nat.succ_pos _))
  ·exact h2
  ·exact Nat.lt_of_le_of_lt (Nat.div_le_self _ _) h2
  ·exact zB1 (Nat.sub_le _ _) h3
  ·exact ml _ _
section
variable {β:Type} {t:SetTable} {es:Array (Int×β)}
theorem Tab.gap (T:Tab t es) (hf:t.place.size≤t.mask) (h:Int) (k:Nat):∃ N,N < 10 * turns t.mask∧¬ In t (it t.mask N (pos t.mask h k)).j:=by
 obtain ⟨e,he,q⟩:=sy T.rise
 have o:=yu (m:=t.mask) k (beg t.mask (bits h % (t.mask+1)) (bits h)) (Nat.le_of_lt_succ (Nat.mod_lt _ (Nat.succ_pos _))) (sU h) (ml _ _)
 obtain ⟨N,h1,h2⟩:=zE (p:=pos t.mask h k) T.msk o.1 o.2.1 o.2.2 (xB rfl) (zB1 he hf)
 exact ⟨N,h1,fun ⟨i,z⟩=>q i (by rw [z,h2])⟩
theorem Tab.put (T:Tab t es) {h:Int} {x:β} {j:Nat} (hw:Way t h j) (hj:¬ In t j) (hl:j≤t.mask):(t.put j).1.mask=t.mask∧(t.put j).1.place.size=es.size+1∧Tab (t.put j).1 (insertAt es (t.put j).2 (h,x)):=by
 have hp:=(eZ T.rise j).1
 have ep:(t.put j).1.place=insertAt t.place (below t.place j) j:=rfl
 have ed:(t.put j).1.dummies=#[]:=by refine (?_:(if has t.dummies j then _ else t.dummies)=_); rw [T.dm]; rfl
 have hp':below t.place j≤es.size:=T.sz▸hp
 have up:∀ {k},In t k→In (t.put j).1 k:=fun ⟨i,e⟩=>⟨_,lL hp e⟩
 have upw:∀ {k h},Way t h k→Way (t.put j).1 h k:=fun ⟨n,a,b⟩=>⟨n,a,fun n' q=>up (b n' q)⟩
 refine ⟨rfl,by rw [ep,db hp,T.sz],T.msk,ed,by rw [ep,db hp]; exact T.sz▸(db hp').symm,nL T.rise fun i e=>hj ⟨i,e⟩,fun i k e=>?_,fun i k e ek ee=>?_⟩
 ·rcases insertAt_cases hp e with ⟨_,rfl⟩ | ⟨_,e⟩
  ·exact hl
  ·exact T.le _ _ e
 ·rcases insertAt_cases hp ek with ⟨rfl,rfl⟩ | ⟨q,ek⟩
  ·rcases insertAt_cases hp' ee with ⟨_,rfl⟩ | ⟨q,_⟩
   ·exact upw hw
   ·exact absurd rfl q
  ·rcases insertAt_cases hp' ee with ⟨q',_⟩ | ⟨_,ee⟩
   ·exact absurd q' q
   ·exact upw (T.way _ _ _ ek ee)
end
end Mine
end
noncomputable section
namespace Mine
open PySem PySem.SetTable
noncomputable def Occ (O:Array (Option Nat)) (j:Nat):Prop:=∃ c,O[j]?=some (some c)
theorem yx {m:Nat}:∀ {k:Nat} {p:Probe},k≤p.more→(it m k p).j=p.j+k
 | 0,_,_=>rfl
 | k+1,p,h=>by
  have e:adv m p={ p with j:=p.j+1,more:=p.more - 1 }:=if_pos (Nat.lt_of_lt_of_le (Nat.succ_pos _) h)
  refine (?_:(it m k (adv m p)).j=_)
  rw [yx (p:=adv m p) (by rw [e]; exact Nat.le_sub_of_add_le h),e]
  refine (?_:p.j+1+k=_); lia
theorem vJ {m i:Nat} (h:i≤m):i≤runEnd m i∧runEnd m i≤m:=by unfold runEnd; split <;> lia
theorem occ_or {O:Array (Option Nat)} {m j:Nat} (hs:O.size=m+1) (hj:j≤m):(Occ O j∧(O.getD j (some 0)).isNone=false)∨¬ Occ O j∧(O.getD j (some 0)).isNone=true:=by
 have e:O[j]?=some (O.getD j (some 0)):=by rw [Array.getD_eq_getD_getElem?,Array.getElem?_eq_getElem (by lia)]; rfl
 unfold Occ
 refine e.symm▸?_
 cases O.getD j (some 0) with
 | none=>exact .inr ⟨(fun ⟨c,q⟩=>nomatch q),rfl⟩
 | some c=>exact .inl ⟨⟨c,rfl⟩,rfl⟩
theorem tC {m:Nat} {O:Array (Option Nat)} (hs:O.size=m+1):∀ r fuel i pt,r < fuel→i≤m→¬ Occ O (lps m r (i,pt)).1 →
  ∃ n j,layClean.free m O fuel i pt=some j∧(it m n (beg m i pt)).j=j∧j≤m∧¬ Occ O j∧∀ n',n' < n→Occ O (it m n' (beg m i pt)).j:=by
 intro r fuel
 induction fuel generalizing r with
 | zero=>exact fun _ _ h=>absurd h (Nat.not_lt_zero _)
 | succ fuel ih=>
  intro i pt hr hi he
  have hre:=vJ hi
  have er:runEnd m i+1 - i=runEnd m i - i+1:=Nat.succ_sub hre.1
  have inr:∀ k,k < runEnd m i+1 - i→(it m k (beg m i pt)).j=i+k∧i+k≤m:=fun k hk=>have hk:k≤runEnd m i - i:=Nat.le_of_lt_succ (Nat.lt_of_lt_of_eq hk er); ⟨yx (p:=beg m i pt) hk,zB1 (Nat.add_le_of_le_sub' hre.1 hk) hre.2⟩
  unfold layClean.free
  cases hf:(List.range (runEnd m i+1 - i)).find? fun k=>(O.getD (i+k) (some 0)).isNone with
  | some k=>
   obtain ⟨h1,h2,h3⟩:=List.find?_range_eq_some.mp hf
   have hk:=inr k (List.mem_range.mp h2)
   refine ⟨k,i+k,rfl,hk.1,hk.2,?_,fun n' q=>?_⟩
   ·rcases occ_or hs hk.2 with ⟨_,z⟩ | ⟨z,_⟩
    ·replace h1:=z▸h1; (injection h1; done)
    ·exact z
   ·have hn:=inr n' (Nat.lt_trans q (List.mem_range.mp h2))
    rcases occ_or hs hn.2 with ⟨z,_⟩ | ⟨_,z⟩
    ·rw [hn.1]; exact z
    ·have:=h3 n' q; replace this:=z▸this; (injection this; done)
  | none=>
   have hn:=List.find?_range_eq_none.mp hf
   have occ:∀ n',n' < runEnd m i+1 - i→Occ O (it m n' (beg m i pt)).j:=fun n' q=>by
    rcases occ_or hs (inr n' q).2 with ⟨z,_⟩ | ⟨_,z⟩
    ·rw [(inr n' q).1]; exact z
    ·have:=hn n' q; replace this:=z▸this; (injection this; done)
   cases r with
   | zero=>exact absurd (occ 0 (er▸Nat.succ_pos _)) he
   | succ r=>
    obtain ⟨n,j,e1,e2,e3,e4,e5⟩:=ih r (lp m (i,pt)).1 (lp m (i,pt)).2 (Nat.lt_of_succ_lt_succ hr) (Nat.le_of_lt_succ (Nat.mod_lt _ (Nat.succ_pos _))) he
    have hrun:=ny m (runEnd m i - i) (beg m i pt) rfl rfl
    refine ⟨runEnd m i - i+1+n,j,e1,?_,e3,e4,fun n' q=>?_⟩
    ·rw [it_add,hrun]; exact e2
    ·by_cases c:n' < runEnd m i+1 - i
     ·exact occ n' c
     ·have c:=er▸Nat.le_of_not_lt c
      have:=e5 (n' - (runEnd m i - i+1)) (Nat.sub_lt_left_of_lt_add c q)
      rw [← Nat.add_sub_cancel' c,it_add,hrun]; exact this
structure LInv (m:Nat) (H:Nat→Int) (O:Array (Option Nat)) (k:Nat):Prop where
 sz:O.size=m+1
 way:∀ j c:Nat,O[j]?=some (some c)→c < k∧∃ n,(pos m (H c) n).j=j∧∀ n',n' < n→Occ O (pos m (H c) n').j
 all:∀ c,c < k→Exists fun j:Nat=>O[j]?=some (some c)
 inj:∀ j j' c:Nat,O[j]?=some (some c)→O[j']?=some (some c)→j=j'
noncomputable def live (m:Nat) (O:Array (Option Nat)):List (Nat×Nat):=(List.range (m+1)).filterMap fun j=>(O.getD j none).map (j,·)
section
variable {m:Nat} {H:Nat→Int} {O:Array (Option Nat)} {k:Nat}
theorem cq (hs:O.size=m+1) {j c:Nat}:(j,c)∈live m O ↔ O[j]?=some (some c):=by
 unfold live
 rw [List.mem_filterMap]
 constructor
 ·rintro ⟨j',_,e⟩
  obtain ⟨c',ec,q⟩:=Option.map_eq_some_iff.mp e
  cases q
  replace ec:=(Array.getD_eq_getD_getElem?)▸ec
  cases h:O[j]? with
  | none=>replace ec:=h▸ec; cases ec
  | some v=>rw [h] at ec; exact congrArg some ec
 ·intro e
  have hj:j < O.size:=by rcases Nat.lt_or_ge j O.size with q | q; exact q; replace e:=(Array.getElem?_eq_none q)▸e; cases e
  exact ⟨j,List.mem_range.mpr (hs▸hj),by rw [Array.getD_eq_getD_getElem?,e]; rfl⟩
theorem lg:(live m O).Pairwise fun a b=>a.1 < b.1:=by
 refine List.Pairwise.filterMap _ (fun a a' h b hb b' hb'=>?_) List.pairwise_lt_range
 obtain ⟨c,_,rfl⟩:=Option.map_eq_some_iff.mp hb
 obtain ⟨c',_,rfl⟩:=Option.map_eq_some_iff.mp hb'
 exact h
theorem fo (L:LInv m H O k):((live m O).map (·.2)).Perm (List.range k):=by
 refine (List.perm_ext_iff_of_nodup ?_ List.nodup_range).mpr fun c=>?_
 ·refine List.Pairwise.map _ (fun a b h=>h) ((lg (m:=m) (O:=O)).imp_of_mem fun {a b} ha hb h e=>?_)
  have e1:=(cq L.sz).mp (ha:(a.1,a.2)∈live m O)
  have e2:=(cq L.sz).mp (hb:(b.1,b.2)∈live m O)
  rw [← e] at e2
  exact absurd (L.inj _ _ _ e1 e2) (Nat.ne_of_lt h)
 ·rw [List.mem_map,List.mem_range]
  constructor
  ·rintro ⟨⟨j,c⟩,hm,rfl⟩; exact (L.way _ _ ((cq L.sz).mp hm)).1
  ·intro hc
   obtain ⟨j,e⟩:=L.all c hc
   exact ⟨(j,c),(cq L.sz).mpr e,rfl⟩
noncomputable def dq (m:Nat) (O:Array (Option Nat)):Array Nat:=((live m O).map (·.1)).toArray
theorem dD {i j:Nat} (e:(dq m O)[i]?=some j):∃ c,(live m O)[i]?=some (j,c):=by
 unfold dq at e
 replace e:=(List.getElem?_map)▸(List.getElem?_toArray)▸e
 obtain ⟨q,h,rfl⟩:=Option.map_eq_some_iff.mp e
 exact ⟨_,h⟩
theorem place_rise:mO (dq m O):=fun i j a b h ea eb=>by
 obtain ⟨c,ec⟩:=dD ea
 obtain ⟨d,ed⟩:=dD eb
 obtain ⟨hi,qi⟩:=List.getElem?_eq_some_iff.mp ec
 obtain ⟨hj,qj⟩:=List.getElem?_eq_some_iff.mp ed
 have:=List.pairwise_iff_getElem.mp (lg (m:=m) (O:=O)) i j hi hj h
 rw [qi,qj] at this; exact this
theorem i8 (L:LInv m H O k):(dq m O).size=k:=by
 have:=(fo L).length_eq
 rw [zA4,List.length_range] at this
 unfold dq; rw [List.size_toArray,zA4,this]
theorem oA (L:LInv m H O k) {j:Nat}:(∃ i:Nat,(dq m O)[i]?=some j) ↔ Occ O j:=by
 constructor
 ·rintro ⟨i,e⟩
  obtain ⟨c,ec⟩:=dD e
  exact ⟨c,(cq L.sz).mp (List.mem_of_getElem? ec)⟩
 ·rintro ⟨c,e⟩
  obtain ⟨i,hi⟩:=List.getElem?_of_mem ((cq L.sz).mpr e)
  exact ⟨i,by unfold dq; rw [List.getElem?_toArray,List.getElem?_map,hi]; rfl⟩
theorem LInv.step (hm:Msk m) (L:LInv m H O k) (hk:k≤m):∃ j,layClean.free m O (turns m) (bits (H k) % (m+1)) (bits (H k))=some j∧LInv m H (O.setIfInBounds j (some k)) (k+1):=by
 obtain ⟨e,he,q⟩:=sy (place_rise (m:=m) (O:=O))
 replace he:=(i8 L)▸he
 have hb:bits (H k) % (m+1)≤m:=Nat.le_of_lt_succ (Nat.mod_lt _ (Nat.succ_pos _))
 obtain ⟨r,hr,hl⟩:=yp hm hb (sU (H k)) (zB1 he hk)
 have hq:¬ Occ O e:=fun z=>by obtain ⟨i,z⟩:=(oA L).mpr z; exact q i z
 obtain ⟨n,j,e1,e2,e3,e4,e5⟩:=tC L.sz (r+1) (turns m) _ _ (by unfold turns; lia) hb (by rw [hl]; exact hq)
 have hj:j < O.size:=by rw [L.sz]; exact Nat.lt_succ_of_le e3
 have gs:(O.setIfInBounds j (some k))[j]?=some (some k):=by rw [Array.getElem?_setIfInBounds,if_pos rfl,if_pos hj]
 have gn:∀ i,i≠j→(O.setIfInBounds j (some k))[i]?=O[i]?:=fun i h=>by rw [Array.getElem?_setIfInBounds,if_neg (Ne.symm h)]
 have up:∀ {i},Occ O i→Occ (O.setIfInBounds j (some k)) i:=fun {i} h=>by
  by_cases c:i=j
  ·subst c; exact ⟨k,gs⟩
  ·obtain ⟨c',z⟩:=h; exact ⟨c',(gn i c).trans z⟩
 refine ⟨j,e1,by rw [Array.size_setIfInBounds]; exact L.sz,fun i c z=>?_,fun c hc=>?_,fun i i' c z z'=>?_⟩
 ·by_cases h:i=j
  ·subst h; replace z:=gs▸z; cases z
   exact ⟨Nat.lt_succ_self _,n,e2,fun n' h=>up (e5 n' h)⟩
  ·rw [gn i h] at z
   obtain ⟨a,n,b,d⟩:=L.way _ _ z
   exact ⟨Nat.lt_succ_of_lt a,n,b,fun n' h=>up (d n' h)⟩
 ·rcases Nat.lt_or_eq_of_le (Nat.le_of_lt_succ hc) with h | h
  ·obtain ⟨i,z⟩:=L.all c h
   exact ⟨i,(gn i fun q=>e4 ⟨c,q▸z⟩).trans z⟩
  ·subst h; exact ⟨j,gs⟩
 ·by_cases h:i=j <;> by_cases h':i'=j
  ·exact h.trans h'.symm
  ·subst h; rw [gs] at z; cases z; rw [gn i' h'] at z'; exact absurd (L.way _ _ z').1 (Nat.lt_irrefl _)
  ·subst h'; rw [gs] at z'; cases z'; rw [gn i h] at z; exact absurd (L.way _ _ z).1 (Nat.lt_irrefl _)
  ·rw [gn i h] at z; rw [gn i' h'] at z'; exact L.inj _ _ _ z z'
end
noncomputable def xr (m:Nat) (acc:Option (Array (Option Nat)×Nat)) (h:Int):Option (Array (Option Nat)×Nat):=do
  let (owner,k) ← acc
  let j ← layClean.free m owner (turns m) (bits h % (m+1)) (bits h)
  pure (owner.setIfInBounds j (some k),k+1)
theorem oN {m:Nat} (hm:Msk m) {H:Nat→Int}:∀ (l:List Int) (O:Array (Option Nat)) (k:Nat),(∀ i h,l[i]?=some h→H (k+i)=h)→k+l.length≤m+1→LInv m H O k →
  ∃ O',l.foldl (xr m) (some (O,k))=some (O',k+l.length)∧LInv m H O' (k+l.length)
 | [],O,k,_,_,L=>⟨O,rfl,L⟩
 | h :: l,O,k,hH,hk,L=>by
  have e0:H k=h:=hH 0 h rfl
  obtain ⟨j,e,L'⟩:=L.step hm (by rw [zB4] at hk; lia)
  obtain ⟨O',e',L''⟩:=oN hm l _ (k+1) (fun i x z=>by rw [Nat.add_right_comm]; exact hH (i+1) x z) (by rw [zB4] at hk; lia) L'
  rw [Nat.add_right_comm] at e' L''
  refine ⟨O',?_,L''⟩
  rw [List.foldl_cons]
  refine Eq.trans (congrArg (List.foldl _ · l) ?_) e'
  rw [e0] at e
  refine (?_:(layClean.free m O (turns m) (bits h % (m+1)) (bits h)).bind _=_)
  rw [e]; rfl
theorem ch {α:Type}:∀ l:List α,(List.range l.length).filterMap (l[·]?)=l
 | []=>rfl
 | x :: l=>by
  rw [zB4,List.range_succ_eq_map,List.filterMap_cons,List.filterMap_map]
  exact congrArg (x :: ·) (ch l)
theorem di {α β:Type} {f:α→Option β}:∀ {l:List α},(∀ a∈l,(f a).isSome)→∀ i:Nat,(l.filterMap f)[i]?=l[i]?.bind f
 | [],_,_=>rfl
 | a :: l,h,i=>by
  obtain ⟨b,hb⟩:=Option.isSome_iff_exists.mp (h a (.head _))
  refine List.filterMap_cons.symm▸hb.symm▸?_
  cases i with
  | zero=>exact hb.symm
  | succ i=>exact di (fun a q=>h a (.tail _ q)) i
theorem sf {β:Type} {es:Array (Int×β)} {m:Nat} (hm:Msk m) (hk:es.size≤m) (fi mv:Nat) (led pl:Bool):∃ t order,laid m fi mv led pl (es.map (·.1))=some (t,order)∧t.mask=m ∧
  (order.filterMap (es[·]?)).toList.Perm es.toList∧Tab t (order.filterMap (es[·]?))∧order.toList.Perm (List.range es.size):=by
 have e0:LInv m (fun i=>(es[i]?.map (·.1)).getD 0) (Array.replicate (m+1) none) 0:=by
  have no:∀ j c:Nat,(Array.replicate (m+1) (none:Option Nat))[j]?≠some (some c):=fun j c z=>by
   rw [Array.getElem?_replicate] at z
   split at z <;> cases z
  exact ⟨Array.size_replicate,fun j c z=>absurd z (no j c),fun c h=>absurd h (Nat.not_lt_zero _),fun j _ c z=>absurd z (no j c)⟩
 obtain ⟨O,e1,L⟩:=oN hm (es.toList.map (·.1)) _ 0 (fun i h z=>by rw [List.getElem?_map,Array.getElem?_toList] at z; rw [Nat.zero_add,z]; rfl) (by rw [zA4,zB3]; lia) e0
 rw [Nat.zero_add,zA4,zB3] at e1 L
 have e2:layClean m (es.map (·.1))=some O:=by
  unfold layClean
  rw [← Array.foldl_toList,Array.toList_map]
  exact (congrArg (Option.map _) e1).trans rfl
 have P:(((live m O).map (·.2)).toArray.filterMap (es[·]?)).toList.Perm es.toList:=by
  rw [Array.toList_filterMap]
  refine (List.Perm.filterMap _ (fo L)).trans (.of_eq ?_)
  have:=ch es.toList
  simpa only [Array.getElem?_toList,zB3] using this
 refine ⟨{ mask:=m,place:=dq m O,dummies:=#[],finger:=fi,led:=led,moves:=mv,plain:=pl },((live m O).map (·.2)).toArray,?_,rfl,P,?_,fo L⟩
 ·unfold laid; rw [e2]; rfl
 ·have hs:∀ c∈(live m O).map (·.2),(es[c]?).isSome:=fun c hc=>by
   rw [Array.getElem?_eq_getElem (List.mem_range.mp ((fo L).mem_iff.mp hc))]; rfl
  have hg:∀ i:Nat,((((live m O).map (·.2)).toArray.filterMap (es[·]?)))[i]?=((live m O)[i]?.map (·.2)).bind (es[·]?):=fun i=>by
   rw [← Array.getElem?_toList,Array.toList_filterMap,di hs,List.getElem?_map]
  refine ⟨hm,rfl,?_,place_rise,fun i j e=>?_,fun i j e ej ee=>?_⟩
  ·exact (i8 L).trans ((Array.length_toList.symm.trans P.length_eq.symm).trans zB3)
  ·obtain ⟨c,ec⟩:=dD e
   have:=Array.getElem?_eq_some_iff.mp ((cq L.sz).mp (List.mem_of_getElem? ec))
   exact Nat.le_of_lt_succ (Nat.lt_of_lt_of_eq this.1 L.sz)
  ·obtain ⟨c,ec⟩:=dD ej
   rw [hg,ec] at ee
   have ee:es[c]?=some e:=ee
   obtain ⟨_,n,a,b⟩:=L.way _ _ ((cq L.sz).mp (List.mem_of_getElem? ec))
   rw [ee] at a b
   exact ⟨n,a,fun n' q=>(oA L).mpr (b n' q)⟩
end Mine
end
noncomputable section
namespace Mine
open PySem PySem.SetTable
theorem wa (m x pt:Nat):(beg m (x % (m+1)) pt).j+(beg m (x % (m+1)) pt).more≤m:=by
 have h:=vJ (Nat.le_of_lt_succ (Nat.mod_lt x (Nat.succ_pos m)):x % (m+1)≤m)
 exact zB1 (zB2 (Nat.add_sub_cancel' h.1)) h.2
theorem yw {m:Nat}:∀ n p,p.j+p.more≤m→(it m n p).j+(it m n p).more≤m
 | 0,_,h=>h
 | n+1,p,h=>by
  refine yw n (adv m p) ?_
  unfold adv
  split
  ·refine (?_:p.j+1+(p.more - 1)≤m); grind
  ·exact wa m (p.i * 5+1+p.perturb / 32) 0
theorem vM (m:Nat) (h:Int) (n:Nat):(pos m h n).j≤m:=
 zB1 (Nat.le_add_right _ _) (yw n (beg m (bits h % (m+1)) (bits h)) (wa m _ _))
theorem it_pos (m:Nat) (h:Int) (a b:Nat):it m b (pos m h a)=pos m h (a+b):=(it_add m a b _).symm
theorem uK {m:Nat} (h:Msk m):(m % 2==0)=false:=by rcases h with rfl | rfl | rfl | rfl <;> rfl
section
variable {prog:Program} {w:World} {K:Type} [DecidableEq K] {kd:KeyKind prog w K} {A:Around} {E:Value→Shared→Prop} {s:Shared}
noncomputable def yS (kd:KeyKind prog w K) (h:Heap) (es:List (Int×Value)):Prop:=∀ e∈es,∃ ks c,e=(tupleKeyHash kd ks,.ref c)∧IsTupleKey kd h ks c
noncomputable def IsK (kd:KeyKind prog w K) (h:Heap) (ks:List K) (e:Int×Value):Prop:=∃ c,e=(tupleKeyHash kd ks,.ref c)∧IsTupleKey kd h ks c
theorem Tab.fits {es:Array (Int×Value)} {t:SetTable} (T:Tab t es) (hf:es.size≤t.mask):t.fits es.size=true:=by
 unfold SetTable.fits SetTable.fill
 rw [T.sz,T.dm]
 simpa using hf
theorem iq {ks:List K} {b:Addr} {Q:Bool→Shared→Prop} (hk:IsTupleKey kd s.heap ks b) (h:Q false s):wpAny (model prog w) A (ofAClassStatement 8 (.ref b)) Q E s:=by
 have hT:=hk.typeIs
 obtain ⟨o,items,n,ho,_,hd,hi⟩:=hk
 unfold ofAClassStatement
 refine zC1 (wpAny_typeOf hT ?_)
 refine (?_:wpAny _ _ (pure true >>= _) _ _ s)
 refine zC1 (zC2 ?_)
 refine (?_:wpAny _ _ (seqItems? (.ref b) >>= _) _ _ s)
 refine zC1 (wpAny_seqItems ho hd ?_)
 dsimp only
 refine zC1 ?_
 rw [← Array.forIn_toList]
 refine wpAny_forIn_list _ (fun rest r s'=>r.1=none∧s'=s∧∀ v∈rest,carriedByValue v=true) _ ?_ ?_ _ _ ⟨rfl,rfl,hi.byValue⟩
 ·rintro v rest r s' ⟨hr,rfl,hall⟩
  have hv:=hall v List.mem_cons_self
  have e:ofAClassStatement 7 v=pure false:=by cases v <;> first | rfl | (unfold ofAClassStatement; rfl) | (injection hv; done)
  rw [e]
  refine zC1 (zC2 ?_)
  exact zC2 ⟨rfl,rfl,fun u hu=>hall u (List.mem_cons_of_mem _ hu)⟩
 ·rintro ⟨r1,r2⟩ s' ⟨hr,rfl,_⟩
  subst hr
  exact wpAny_pure h
theorem yZ {ks:List K} {b:Addr} {Q:Bool→Shared→Prop} (hk:IsTupleKey kd s.heap ks b) {l:List Value} (hl:∀ v∈l,∃ ks' c,v=.ref c∧IsTupleKey kd s.heap ks' c) (h:Q false s) :
  wpAny (model prog w) A (searchCouldBeSeen (.ref b) l) Q E s:=by
 unfold searchCouldBeSeen
 refine zC1 ?_
 refine wpAny_forIn_list _ (fun rest r s'=>r.1=none∧s'=s∧∀ v∈rest,v∈l) _ ?_ ?_ _ _ ⟨rfl,rfl,fun _ h=>h⟩
 ·rintro v rest r s' ⟨hr,rfl,hall⟩
  obtain ⟨ks',c,rfl,hc⟩:=hl v (hall v List.mem_cons_self)
  have nx:∀ u∈rest,u∈l:=fun u hu=>hall u (List.mem_cons_of_mem _ hu)
  dsimp only
  by_cases q:(b==c||(carriedByValue (.ref b)&&carriedByValue (.ref c)))=true
  ·rw [if_pos q]; exact zC2 ⟨rfl,rfl,nx⟩
  ·rw [if_neg q]
   refine zC1 (wpAny_eqIsQuiet_tuple hk ?_)
   refine zC1 (wpAny_eqIsQuiet_tuple hc ?_)
   refine zC1 (iq hk ?_)
   refine zC1 (iq hc ?_)
   exact zC2 ⟨rfl,rfl,nx⟩
 ·rintro ⟨r1,r2⟩ s' ⟨hr,rfl,_⟩
  subst hr
  exact wpAny_pure h
theorem wU (t:SetTable):t.sameMemory t.moves t.mask=some true:=by unfold sameMemory; rw [beq_self_eq_true]; rfl
theorem yW {α:Type} {M:Model} {c:Prop} [Decidable c] {m:Sem Bool} {u y:Sem α} {Q:α→Shared→Prop} (hm:∀ Q':Bool→Shared→Prop,Q' false s→wpAny M A m Q' E s) (h:wpAny M A y Q E s):wpAny M A (if c then m >>= fun r=>if r=true then u else y else y) Q E s:=
 wpAny_ite_split (fun _=>zC1 (hm _ (wpAny_ite_false rfl h))) fun _=>h
theorem td {S b:Addr} {o:Obj} {es:Array (Int×Value)} {ep:Nat} {t:SetTable} {ks:List K} {Q:SetFound→Shared→Prop} (hu:A.units < cLine) (ho:s.heap.get? S=some o) (hd:o.data=.set es ep t) (T:Tab t es) (hf:es.size≤t.mask)
  (he:yS kd s.heap es.toList) (hk:IsTupleKey kd s.heap ks b) (hthere:(∃ e∈es.toList,IsK kd s.heap ks e)→Q (.there none) s)
  (hfree:∀ j,Way t (tupleKeyHash kd ks) j→¬ In t j→j≤t.mask→(∀ e∈es.toList,¬ IsK kd s.heap ks e)→Q (.free j false) s) :
  ∀ d fuel n stand,d < fuel→¬ In t (pos t.mask (tupleKeyHash kd ks) (n+d)).j→stand.getD (t.probeStart (tupleKeyHash kd ks))=pos t.mask (tupleKeyHash kd ks) n →
   (∀ n',n' < n→∃ i:Nat,t.place[i]?=some (pos t.mask (tupleKeyHash kd ks) n').j∧∀ e,es[i]?=some e→¬ IsK kd s.heap ks e)→wpAny (model prog w) A (setSearchFrom S (.ref b) (tupleKeyHash kd ks) true fuel stand) Q E s:=by
 intro d
 induction d using Nat.strongRecOn with
 | _ d ih=>
 intro fuel n stand hfu hem hst hpast
 obtain ⟨fuel,rfl⟩:=Nat.exists_eq_succ_of_ne_zero (Nat.ne_of_gt (Nat.lt_of_le_of_lt (Nat.zero_le _) hfu))
 have hfit:=T.fits hf
 refine zC1 (wpAny_setState_of ho hd hfit ?_)
 refine wpAny_ite_false (c:=t.gaveWay=true) (by rw [show t.gaveWay=false from uK T.msk]; rfl) ?_
 generalize hm:t.probe _ _ _=met
 replace hm:=hm.symm.trans (congrArg (t.probe _ _) hst)
 obtain ⟨N,hN,hNe⟩:=T.gap (T.sz▸hf) (tupleKeyHash kd ks) n
 obtain ⟨n1,_,h2,h3⟩:=sB (hashAt:=fun i=>(es[i]?.map (·.1)).getD 0) (h:=tupleKeyHash kd ks) T.dm T.rise N (10 * turns t.mask) (pos t.mask (tupleKeyHash kd ks) n) hN (xB rfl) hNe
 simp only [it_pos] at h2 h3
 have past:∀ n',n' < n+n1→∃ i:Nat,t.place[i]?=some (pos t.mask (tupleKeyHash kd ks) n').j∧∀ e,es[i]?=some e→¬ IsK kd s.heap ks e:=fun n' q=>by
  by_cases c:n' < n
  ·exact hpast n' c
  ·obtain ⟨i,e1,e2⟩:=h2 (n' - n) (Nat.sub_lt_left_of_lt_add (Nat.le_of_not_lt c) q)
   rw [Nat.add_sub_cancel' (Nat.le_of_not_lt c)] at e1
   refine ⟨i,e1,fun e ee=>?_⟩
   rintro ⟨c,rfl,_⟩
   exact e2 (by rw [ee]; rfl)
 rcases h3 with ⟨h3,h4⟩ | ⟨i,h3,h5,h4⟩
 ·have hm:=hm.trans h4
  subst hm
  refine zC2 (hfree _ ⟨_,rfl,fun n' q=>(past n' q).imp fun _ z=>z.1⟩ h3 (vM _ _ _) fun e hme ⟨c,hec,hc⟩=>?_)
  obtain ⟨i,hi⟩:=List.getElem?_of_mem hme
  rw [Array.getElem?_toList] at hi
  have hp:t.place[i]?=some (t.place.getD i 0):=by
   have:i < t.place.size:=by rw [T.sz]; exact (Array.getElem?_eq_some_iff.mp hi).1
   simp [this]
  obtain ⟨n0,e0,a0⟩:=T.way _ _ _ hp hi
  subst hec
  by_cases q:n0 < n+n1
  ·obtain ⟨i',e1,e2⟩:=past n0 q
   rw [e0] at e1
   obtain rfl:=oy T.rise e1 hp
   exact e2 _ hi ⟨c,rfl,hc⟩
  ·by_cases q':n0=n+n1
   ·exact h3 ⟨i,by rw [← q',e0]; exact hp⟩
   ·exact h3 (a0 _ (Nat.lt_of_le_of_ne (Nat.le_of_not_lt q) (Ne.symm q')))
 ·have hm:=hm.trans h4
  subst hm
  have hlt:n1 < d:=by
   rcases Nat.lt_or_ge n1 d with q | q
   ·exact q
   ·refine absurd ?_ hem
    by_cases q':d=n1
    ·rw [q']; exact ⟨i,h3⟩
    ·exact (past (n+d) (Nat.add_lt_add_left (Nat.lt_of_le_of_ne q q') n)).imp fun _ z=>z.1
  have hie:∃ e,es[i]?=some e:=⟨_,Array.getElem?_eq_getElem (by rw [← T.sz]; exact (Array.getElem?_eq_some_iff.mp h3).1)⟩
  obtain ⟨e,hi⟩:=hie
  have hme:e∈es.toList:=List.mem_of_getElem? (Array.getElem?_toList▸hi)
  obtain ⟨ks',c,rfl,hc⟩:=he e hme
  refine yW (fun Q' h=>yZ hk (fun v hv=>?_) h) ?_
  ·obtain ⟨e,he',rfl⟩:=zA7 hv
   rw [Array.toList_filter] at he'
   obtain ⟨ks2,c2,rfl,hc2⟩:=he e (List.mem_filter.mp he').1
   exact ⟨ks2,c2,rfl,hc2⟩
  refine hi.symm▸zC1 (wpAny_holding (wpAny_eqBool_tuple hu hc hk ?_))
  refine zC1 (wpAny_setState_of ho hd hfit ?_)
  by_cases q:ks'=ks
  ·subst q
   exact wpAny_ite_true (decide_eq_true (decide_eq_true rfl)) (zC2 (hthere ⟨_,hme,c,rfl,hc⟩))
  ·refine wpAny_ite_false (decide_eq_false (Bool.eq_false_iff.mp (decide_eq_false q))) ?_
   have hs:t.slot (pos t.mask (tupleKeyHash kd ks) (n+n1)).j=.live i:=by
    rcases slot_is T.dm T.rise (pos t.mask (tupleKeyHash kd ks) (n+n1)).j with ⟨i',e1,e2⟩ | ⟨e1,_⟩
    ·rw [e2,oy T.rise e1 h3]
    ·exact absurd h3 (e1 i)
   refine (wU t).symm▸?_
   dsimp only
   refine ((if_pos rfl).trans hs).symm▸?_
   dsimp only
   refine hi.symm▸?_
   refine zC1 (wpAny_isSame_ref_self (zC1 (zC2 ?_)))
   refine wpAny_ite_false (decide_eq_false (Bool.eq_false_iff.mp (decide_eq_false q))) ?_
   have hdd:d - (n1+1) < d:=Nat.sub_lt (Nat.lt_of_le_of_lt (Nat.zero_le _) hlt) (Nat.succ_pos _)
   refine ih (d - (n1+1)) hdd fuel (n+n1+1) _ (Nat.lt_of_lt_of_le hdd (Nat.le_of_lt_succ hfu)) (by rw [show n+n1+1+(d - (n1+1))=n+d from (Nat.add_assoc n (n1+1) _).trans (congrArg (n + ·) (Nat.add_sub_cancel' hlt))]; exact hem) rfl fun n' z=>?_
   by_cases c':n' < n+n1
   ·exact past n' c'
   ·rw [Nat.le_antisymm (Nat.le_of_lt_succ z) (Nat.le_of_not_lt c')]
    refine ⟨i,h3,fun e ee=>?_⟩
    rw [hi] at ee; (injection ee with ee; subst ee)
    rintro ⟨c2,hc2,hk2⟩
    exact q (hc.inj (Value.ref.inj (congrArg Prod.snd hc2)▸hk2))
end
end Mine
end
noncomputable section
namespace Mine
open PySem PySem.SetTable
section
variable {prog:Program} {w:World} {A:Around} {E:Value→Shared→Prop} {s:Shared}
theorem pZ {ks:List Sc} {x:Str} {b:Addr} {Q:Bool→Shared→Prop} (hk:IsTupleKey (aB prog w) s.heap (.inr x :: ks) b) (h:Q false s):wpAny (model prog w) A (hashByValue 8 (.ref b)) Q E s:=by
 have hT:=hk.typeIs
 obtain ⟨o,items,n,ho,_,hd,hi⟩:=hk
 unfold hashByValue
 refine zC1 (wpAny_specialOf hT F.slot_tuple_hash.lookup ?_)
 dsimp only
 refine zC1 (wpAny_seqItems ho hd ?_)
 obtain ⟨l⟩:=items
 cases hi with
 | cons hv _=>
  obtain ⟨t,rfl⟩:=Value.isStrOf_shape hv
  rw [← Array.forIn_toList]
  refine zC1 ?_
  refine (?_:wpAny _ _ (forIn (_ :: _) _ _) _ _ _)
  rw [List.forIn_cons]
  exact zC1 (zC2 (zC2 (wpAny_pure h)))
noncomputable def TS (h:Heap) (S:Addr) (es:Array (Int×Value)) (L:Bool):Prop:=
 ∃ o ep t,h.get? S=some o∧o.ExactSet∧o.data=.set es ep t∧Tab t es∧es.size * 5 < t.mask * 3∧t.led=L
theorem TS.to {h h':Heap} {S:Addr} {es:Array (Int×Value)} {L:Bool} (x:TS h S es L) (e:h'.get? S=h.get? S):TS h' S es L:=x.elim fun o q=>q.elim fun ep q=>q.elim fun t q=>⟨o,ep,t,e.trans q.1,q.2⟩
theorem im {α:Type} {es:Array α} {p:Nat} {x:α}:(insertAt es p x).toList.Perm (x :: es.toList):=by
 unfold insertAt
 rw [Array.toList_append,Array.toList_push,Array.toList_extract,Array.toList_extract,List.append_assoc,List.extract_eq_take_drop,List.extract_eq_take_drop,List.drop_zero,Nat.sub_zero,← zB3,← List.length_drop,List.take_length]
 exact List.perm_middle.trans (.cons _ (.of_eq (List.take_append_drop p es.toList)))
theorem Tab.off {t:SetTable} {es:Array (Int×Value)} (T:Tab t es):Tab { t with plain:=false } es:=⟨T.msk,T.dm,T.sz,T.rise,T.le,T.way⟩
theorem zo {t:SetTable} (h:t.plain=false):{ t with plain:=false }=t:=by cases t; subst h; rfl
theorem sC {t:SetTable} {es:Array (Int×Value)} (T:Tab t es):t.tooFull=decide (t.mask * 3≤es.size * 5):=by
 unfold SetTable.tooFull SetTable.fill
 rw [T.sz,T.dm]; rfl
theorem bk {α:Type} {M:Model} {c:Prop} [Decidable c] {t e:Sem α} {Q:α→Shared→Prop} (h:¬ c) (x:wpAny M A e Q E s):wpAny M A (if c then t else e) Q E s:=by rw [if_neg h]; exact x
theorem sA {n m:Nat} (hm:Msk m) (h:n * 5 < m * 3) (q:m * 3≤(n+1) * 5) (hn:n < 200):∃ m',sizeAbove (grown (n+1))=m' + 1∧Msk m'∧(n+1) * 5 < m' * 3∧m' + 1≤sizeLine:=by
 rcases hm with rfl | rfl | rfl | rfl
 ·cases (by decide +kernel:∀ n < 200,n * 5 < 7 * 3→7 * 3≤(n+1) * 5→n=4) n hn h q; exact ⟨31,by decide,.inr (.inl rfl),by decide,by decide⟩
 ·cases (by decide +kernel:∀ n < 200,n * 5 < 31 * 3→31 * 3≤(n+1) * 5→n=18) n hn h q; exact ⟨127,by decide,.inr (.inr (.inl rfl)),by decide,by decide⟩
 ·cases (by decide +kernel:∀ n < 200,n * 5 < 127 * 3→127 * 3≤(n+1) * 5→n=76) n hn h q; exact ⟨511,by decide,.inr (.inr (.inr rfl)),by decide,by decide⟩
 ·exact absurd (zB1 q (Nat.mul_le_mul_right 5 hn)) (by decide)
theorem xq {a b:Nat} (h:a * 5 < b * 3):a≤b:=Nat.le_of_lt (Nat.lt_of_mul_lt_mul_right (Nat.lt_of_lt_of_le h (Nat.mul_le_mul_left b (by decide:3≤5))))
theorem tD {m N:Nat} (hm:Msk m) (h:N < 10 * turns m):N < 100000:=by rcases hm with rfl | rfl | rfl | rfl <;> exact Nat.lt_of_lt_of_le h (by decide)
noncomputable def rI (S:Addr) (is:Array (Int×Value)) (t:SetTable) (n:Nat):Sem Bool:=do
 storeSet S is t
 if !false&&t.tooFull then setRelay S (SetTable.grown n)
 return true
theorem jq {h:Heap} {S:Addr} {o:Obj} {es is:Array (Int×Value)} {ep:Nat} {t t1:SetTable} (ho:h.get? S=some o) (hd:o.data=.set es ep t):(h.update S (Obj.putSet is t1)).get? S=some { o with data:=.set is (ep+1) t1 }:=
 putSet_of _ _ hd▸Heap.get?_update_self (Obj.putSet is t1) ho (by rw [putSet_of _ _ hd]; rfl)
theorem s8 {S:Addr} {o:Obj} {es is:Array (Int×Value)} {ep:Nat} {t t1:SetTable} {L:Bool} {Q:Bool→Shared→Prop} (ho:s.heap.get? S=some o) (hex:o.ExactSet) (hd:o.data=.set es ep t) (T:Tab t1 is) (hle:t1.led=L)
  (hs:is.size=es.size+1) (hr:es.size * 5 < t1.mask * 3) (hn:es.size < 200) (hnew:∀ h' es',Heap.SameBut S s.heap h'→TS h' S es' L→es'.toList.Perm is.toList→Q true { s with heap:=h' }) :
  wpAny (model prog w) A (rI S is t1 (es.size+1)) Q E s:=by
 have hz:is.size≤200:=hs▸hn
 refine zC1 (wpAny_storeSet_of ho hd ?_ (zB1 hz (by decide)))
 have hg1:(s.heap.update S (Obj.putSet is t1)).get? S=some { o with data:=.set is (ep+1) t1 }:=jq ho hd
 have sb1:Heap.SameBut S s.heap (s.heap.update S (Obj.putSet is t1)):=.update ..
 have hfu:=sC T
 by_cases q:t1.mask * 3≤is.size * 5
 ·refine wpAny_ite_true (c:=(!false&&t1.tooFull)=true) (by rw [hfu,decide_eq_true q]; rfl) ?_
  obtain ⟨m',e1,e2,e3,e4⟩:=sA T.msk hr (hs▸q) hn
  refine zC1 (zC1 (wpAny_setState_of hg1 rfl (T.fits (hs▸Nat.lt_of_mul_lt_mul_right (Nat.lt_of_lt_of_le hr (Nat.mul_le_mul_left _ (by decide:3≤5))))) ?_))
  refine bk (c:=sizeAbove (grown (es.size+1)) > sizeLine) (e1▸Nat.not_lt.mpr e4) ?_
  obtain ⟨t3,order,e5,e6,e7,T3,_⟩:=sf (es:=is) e2 (hs▸xq e3) t1.finger (movedTo t1 m') t1.led t1.plain
  have e9:t3.led=t1.led:=by
   obtain ⟨a,_,e5⟩:=Option.bind_eq_some_iff.mp e5
   cases e5; rfl
  refine zC1 ?_
  rw [show t1.relaid (is.map (·.1)) (grown (es.size+1))=_ from (congrArg (fun z=>laid (z - 1) t1.finger (movedTo t1 (z - 1)) t1.led t1.plain _) e1).trans e5]
  have e8:(order.filterMap (is[·]?)).size=is.size:=by rw [← zB3,e7.length_eq,zB3]
  refine bk (by rw [e8,bne_self_eq_false]; exact Bool.false_ne_true) (zC2 ?_)
  refine wpAny_storeSet_of hg1 rfl (zC2 ?_) (zB1 (e8▸hz) (by decide))
  exact hnew _ _ (sb1.trans (.update _ S (Obj.putSet (order.filterMap (is[·]?)) t3))) ⟨_,_,_,jq hg1 rfl,hex,rfl,T3,by rw [e8,hs,e6]; exact e3,e9.trans hle⟩ e7
 ·exact wpAny_ite_false (c:=(!false&&t1.tooFull)=true) (by rw [hfu,decide_eq_false q]; rfl) (zC1 (zC2 (zC2 (hnew _ is sb1 ⟨_,_,_,hg1,hex,rfl,T,Nat.not_le.mp q,hle⟩ (.refl _)))))
theorem pG {S b:Addr} {es:Array (Int×Value)} {L:Bool} {ks:List Sc} {x:Str} {Q:Bool→Shared→Prop} (hu:A.units < cLine) (T:TS s.heap S es L) (he:yS (aB prog w) s.heap es.toList) (hk:IsTupleKey (aB prog w) s.heap (.inr x :: ks) b) (hn:es.size < 200)
  (hold:(∃ e∈es.toList,IsK (aB prog w) s.heap (.inr x :: ks) e)→∀ tk,Q false { s with toks:=tk })
  (hnew:∀ h' es' tk,Heap.SameBut S s.heap h'→TS h' S es' L→es'.toList.Perm ((tupleKeyHash (aB prog w) (.inr x :: ks),.ref b) :: es.toList)→(∀ e∈es.toList,¬ IsK (aB prog w) s.heap (.inr x :: ks) e)→Q true { s with heap:=h',toks:=tk }) :
  wpAny (model prog w) A (setAdd S (.ref b)) Q E s:=by
 obtain ⟨o,ep,t,ho,hex,hd,T,hr,hL⟩:=T
 have hf:=xq hr
 have hfit:=T.fits hf
 refine wpAny_holding (zC1 (wpAny_pyHash_tuple hu hk ?_))
 generalize s.toks+_=tk0
 refine wpAny_holding (zC1 (wpAny_setState_of ho hd hfit ?_))
 refine bk (c:=byScan (.ref b) es=true) Bool.false_ne_true ?_
 obtain ⟨N,hN,hg⟩:=T.gap (T.sz▸hf) (tupleKeyHash (aB prog w) (.inr x :: ks)) 0
 rw [it_pos] at hg
 refine zC1 (td (kd:=aB prog w) (s:={ s with toks:=tk0 }) (n:=0) (stand:=none) hu ho hd T hf he hk (fun q=>zC2 (hold q _)) (fun j hw hj hl hnot=>?_) N 100000 (tD T.msk hN) hg rfl fun _ q=>absurd q (Nat.not_lt_zero _))
 refine zC1 (wpAny_setState_of ho hd hfit ?_)
 obtain ⟨em,es1,T1⟩:=T.put (x:=Value.ref b) hw hj hl
 have key:∀ tk,wpAny (model prog w) A (rI S (insertAt es (t.put j).2 (tupleKeyHash (aB prog w) (.inr x :: ks),.ref b)) { (t.put j).1 with plain:=false } (es.size+1)) Q E { s with toks:=tk }:=fun tk=>
  s8 (s:={ s with toks:=tk }) ho hex hd T1.off hL (T1.sz.symm.trans es1) (em.symm▸hr) hn fun h' es' sb ts pe=>hnew h' es' tk sb ts (pe.trans im) hnot
 cases hpt:t.plain with
 | false=>exact wpAny_ite_false (c:=(t.put j).1.plain=true) (decide_eq_false (by refine (?_:¬ t.plain=true); rw [hpt]; exact Bool.false_ne_true)) (zC1 (zC2 (zo (t:=(t.put j).1) hpt▸key tk0)))
 | true=>exact wpAny_ite_true (c:=(t.put j).1.plain=true) (decide_eq_true hpt) (zC1 (pZ (s:={ s with toks:=tk0 }) hk (key _)))
end
end Mine
end
noncomputable section
namespace Mine
open PySem PySem.Calls PyProof.Rows
section
variable {prog:Program} {w:World} {A:Around} {E:Value→Shared→Prop} {s:Shared}
noncomputable abbrev gd (w:World):Obj:={ cls:=.type "set",dict:=none,data:=.set #[] 0 (.fresh 0 0 (!w.params.followText "set-order")) }
theorem kv (a:Value) {Q₁:Value→Shared→Prop} (h:Q₁ (.ref s.heap.objs.size) { s with heap:=s.heap.push (gd w) }) :
  codeAny (model prog w) A (.call (.builtin "set.__new__") ⟨[.type "set",a],[]⟩) (wants Q₁ E) s:=by
 refine codeAny_of_tree ?_
 (refine (?_:wpAny _ A.in1 (do checkBuiltinCall "set.__new__" ⟨[.type "set",a],[]⟩; again (.builtin "set.__new__" ⟨[.type "set",a],[]⟩)) _ _ s))
 refine zC1 (wpAny_of_eq (PySem.F.newCall_set_1 a) (zC2 ⟨plainId_quiet PySem.F.plain_set_new _,codeAny_builtin PySem.F.entry_set_new ?_⟩))
 rw [Around.under_plainId PySem.F.plain_set_new _]
 unfold Builtin.«set.__new__» Builtin.Frozenset.newClass
 have hsub:=sub_set_self
 obtain ⟨hp,g,d,tk,os⟩:=s
 dsimp only
 wp_walk
 refine wpAny_askSetting (zC2 ?_)
 dsimp only
 simp only [newObj]
 refine zC1 (wpAny_alloc (zC2 ?_))
 exact wpAny_pure h
structure Fills (prog:Program) (w:World) (h₀:Heap) (S:Addr) (P:Nat→Value→Prop) (n:Nat) (Z:Nat→Heap→Prop):Prop where
 frame:∀ i h h',Z i h→h'.get? S=h.get? S→Z i h'
 live:∀ i h,Z i h→aW h S
 start:∀ h:Heap,h.get? S=some (gd w)→Z 0 h
 add:∀ i v (s:Shared) (A:Around),A.units < cLine→i < n→P i v→aH h₀ s.heap→Z i s.heap→∀ (Q:Bool→Shared→Prop) (E:Value→Shared→Prop),
  (∀ b h' tk,Heap.SameBut S s.heap h'→Z (i+1) h'→Q b { s with heap:=h',toks:=tk })→wpAny (model prog w) A (setAdd S v) Q E s
theorem oO {h₀ h h':Heap} {l:List Addr} (k:aH h₀ h) (hl:∀ b∈l,h₀.get? b=none) (m:∀ b o,b∉l→h.get? b=some o→h'.get? b=some o):aH h₀ h':=fun b o e=>m b o (fun q=>by rw [hl b q] at e; (injection e; done)) (k b o e)
theorem uz {R:Result→Shared→Prop} {I S:Addr} {fp wr:List Addr} {P:Nat→Value→Prop} {St Z:Nat→Heap→Prop} {n:Nat} {h₀:Heap} (W:Walks prog w A.in1 I fp wr n P St) (hu:A.in1.units < cLine) (hSf:S∉fp) (hS0:h₀.get? S=none) (hw:∀ b∈wr,h₀.get? b=none)
  (Fl:Fills prog w h₀ S P n Z):∀ (k i:Nat) (s:Shared),n - i=k→i≤n→St i s.heap→Z i s.heap→aH h₀ s.heap →
   (∀ h' tk,aH h₀ h'→Z n h'→R (.ok (.ret .none)) { s with heap:=h',toks:=tk }) →
   codeAny (model prog w) A (.builtin "set.update.loop" ⟨[.ref S,.ref I],[]⟩) R s:=by
 have hSw:S∉wr:=fun h=>hSf (W.sub _ h)
 intro k
 induction k with
 | zero=>
  intro i s hk hi hst hZ hK hR
  obtain rfl:=show i=n from Nat.le_antisymm hi (Nat.sub_eq_zero_iff_le.mp hk)
  refine codeAny_builtin PyProof.Rows.F.entry_set_update_loop ?_
  rw [Around.under_plainId PyProof.Rows.F.plain_set_update_loop _]
  refine (?_:wpAny _ A.in1 (pyNext (.ref I) >>= _) _ _ s)
  refine zC1 (W.done s _ _ hst fun h' tk hm=>?_)
  refine (?_:wpAny _ A.in1 (ret Value.none) _ _ _)
  obtain ⟨o,ho⟩:=Fl.live _ _ hZ
  exact zC2 (hR h' tk (oO hK hw hm) (Fl.frame _ _ _ hZ ((hm S o hSw ho).trans ho.symm)))
 | succ k ih=>
  intro i s hk hi hst hZ hK hR
  have hlt:i < n:=Nat.lt_of_sub_eq_succ hk
  refine codeAny_builtin PyProof.Rows.F.entry_set_update_loop ?_
  rw [Around.under_plainId PyProof.Rows.F.plain_set_update_loop _]
  refine (?_:wpAny _ A.in1 (pyNext (.ref I) >>= _) _ _ s)
  refine zC1 (W.item i s _ _ hlt hst fun v h₁ tk₁ hP hst' hm=>?_)
  obtain ⟨o,ho⟩:=Fl.live _ _ hZ
  have hl1:=hm S o hSw ho
  have hK1:=oO hK hw hm
  refine (?_:wpAny _ A.in1 (holding [v] (setAdd S v) >>= _) _ _ _)
  refine zC1 (wpAny_holding (Fl.add i v _ _ hu hlt hP hK1 (Fl.frame _ _ _ hZ (hl1.trans ho.symm)) _ _ fun b h' tk hsb hZ'=>?_))
  have hK2:aH h₀ h':=fun b o e=>by
   by_cases q:b=S
   ·subst q; rw [hS0] at e; (injection e; done)
   ·exact (hsb.2 b q).trans (hK1 b o e)
  refine zC2 ⟨plainId_quiet PyProof.Rows.F.plain_set_update_loop _,ih (i+1) { s with heap:=h',toks:=tk } (by grind) hlt (W.frame _ _ _ hst' fun b hb o e=>(hsb.2 b fun q=>hSf (q▸hb)).trans e) hZ' hK2 hR⟩
noncomputable def Ax (prog:Program) (w:World) (h₀:Heap) (x:Value) (n:Nat) (P:Nat→Value→Prop):Prop:=∀ (s:Shared) (A:Around) (Q:Value→Shared→Prop) (E:Value→Shared→Prop),aH h₀ s.heap →
 (∀ I fp wr St h',aH s.heap h'→(∀ b∈wr,s.heap.get? b=none)→(∀ b∈fp,s.heap.get? b=none∨aW h₀ b)→(∀ A:Around,A.handled=none→Walks prog w A I fp wr n P St)→St 0 h'→Q (.ref I) { s with heap:=h' })→wpAny (model prog w) A (pyIter x) Q E s
set_option maxHeartbeats 3200000 in
theorem gC {x:Value} {T:String} {n:Nat} {P:Nat→Value→Prop} {Z:Nat→Heap→Prop} {Q:Value→Shared→Prop} (hh:A.handled=none) (hu:A.units+100 < cLine) (hT:∀ s':Shared,aH s.heap s'.heap→s'.TypeIs x T) (hs1:isSubtype (.type T) (.type "set")=pure false) (hs2:isSubtype (.type T) (.type "frozenset")=pure false)
  (hne:(Value.type T==Value.type "dict")=false) (go:Ax prog w s.heap x n P) (Fl:Fills prog w s.heap s.heap.objs.size P n Z)
  (h:∀ (h':Heap) (tk:Nat),Z n h'→aH s.heap h'→Q (.ref s.heap.objs.size) { s with heap:=h',toks:=tk }):wpAny (model prog w) A (call (.type "set") [x]) Q E s:=by
 obtain ⟨c,tl,hmro⟩:=PySem.F.called_set.mro
 have hmade:=PySem.F.called_set.made
 have hsub:=PySem.F.called_set.sub
 refine wpAny_call (codeAny_of_tree ?_)
 refine (?_:wpAny _ _ (callAny (.type "set") _) _ _ _)
 refine zC2 ⟨Code.quiet_builtin _ (by decide +kernel),codeAny_builtin PySem.F.entry_type_call ?_⟩
 rw [Around.under_plain (weight_type_call_type "set" [x] []) rfl]
 have h1:=PySem.F.called_set.notType
 have h2:=PySem.F.called_set.canCreate
 have hct:=PySem.F.typeCall_set_1 x
 repeat (any_goals (first | assumption | wp_step))
 refine codeAny_mono (kv x (E:=E) (Q₁:=fun obj s₁=>obj=.ref s.heap.objs.size∧s₁={ s with heap:=s.heap.push (gd w) }) ⟨rfl,rfl⟩) fun r s₁ hr=>?_
 cases r with
 | error e=>exact hr
 | ok fl=>
  cases fl with
  | ret obj=>
   obtain ⟨rfl,rfl⟩:=hr
   have hS:(s.heap.push (gd w)).get? s.heap.objs.size=some (gd w):=Heap.get?_push_size _ rfl
   have hT1:Shared.TypeIs { s with heap:=s.heap.push (gd w) } (.ref s.heap.objs.size) "set":=⟨_,hS,rfl⟩
   have hli:=PySem.F.called_set.init.lookup
   have hbi:=PySem.F.called_set.init.bind (.ref s.heap.objs.size)
   have hTx:=hT { s with heap:=s.heap.push (gd w) } (aA _ _)
   repeat (any_goals (first | assumption | wp_step))
   refine codeAny_mono (codeAny_call_builtin (R:=wants (fun r s₂=>r=.none∧∃ h' tk,s₂={ s with heap:=h',toks:=tk }∧Z n h'∧aH s.heap h') E) PySem.F.called_set.init.plain PySem.F.entry_set_init (check_set_init_1 hT1 ?_)) fun r₂ s₂ hr₂=>?_
   ·unfold Builtin.«set.__init__» noKeywords Builtin.Frozenset.updateFrom
    generalize hPI:pyIter=PI
    wp_walk
    subst hPI
    refine go _ _ _ _ (aA _ _) fun I fp wr St h' hk hw hf W hst=>?_
    refine zC1 (wpAny_runValue ?_)
    have hh3:A.in1.in1.in1.handled=none:=by simp [hh]
    have n0:s.heap.get? s.heap.objs.size=none:=ar _
    refine uz (W _ hh3) (show A.units+1+1+1 < cLine by lia) (fun q=>?_) n0 (fun b q=>aK (aA _ _).live (hw b q)) Fl (n - 0) 0 _ rfl (Nat.zero_le _) hst (Fl.start _ (hk _ _ hS)) ((aA _ _).trans hk) ?_
    ·rcases hf _ q with q | ⟨o,q⟩
     ·rw [hS] at q; (injection q; done)
     ·rw [n0] at q; (injection q; done)
    ·intro h'' tk hk' hz
     refine (?_:wpAny _ _ _ _ _ _)
     refine zC2 ?_
     refine (?_:wpAny _ _ (ret Value.none) _ _ _)
     exact zC2 ⟨rfl,h'',tk,rfl,hz,hk'⟩
   ·cases r₂ with
    | error e=>exact hr₂
    | ok fl₂=>
     cases fl₂ with
     | ret r=>
      obtain ⟨rfl,h',tk,rfl,hz,hk'⟩:=hr₂
      repeat (any_goals (first | assumption | wp_step))
      exact h _ _ hz hk'
     | _=>exact hr₂.elim
  | _=>exact hr.elim
end
end Mine
end
noncomputable section
namespace Mine
open PySem PySem.Calls PyProof.Rows PySem.W
section
variable {prog:Program} {w:World} {A:Around} {E:Value→Shared→Prop} {s:Shared} {h₀:Heap}
theorem hJ {l:Addr} {items:Array Value} (hl:h₀.IsList l items):Ax prog w h₀ (.ref l) items.size (fun i v=>items[i]?=some v):=fun s A Q E hk hQ=>by
 have hl1:s.heap.IsList l items:=hl.at (hk l)
 have hlt:l≠s.heap.objs.size:=by obtain ⟨o,ho,_⟩:=hl1; exact dx ho
 refine wpAny_pyIter_list hl1 (hQ _ _ _ _ _ (aA _ _) (fun b q=>?_) (fun b q=>?_) (fun A' hh=>Walks.list hh _ l hlt items) ⟨⟨_,Heap.get?_push_size _ rfl,rfl,rfl⟩,hl1.push _⟩)
 ·obtain rfl:=zA6 q; exact ar _
 ·rcases List.mem_cons.mp q with rfl | q
  ·exact .inl (ar _)
  ·obtain rfl:=zA6 q; obtain ⟨o,ho,_⟩:=hl; exact .inr ⟨o,ho⟩
theorem uY {x:Str} {t:Tok}:Ax prog w h₀ (.str x t) x.cps.size (SignAt x):=fun s A Q E hk hQ=>by
 cases ha:x.cps.all (· < 128)
 ·exact wpAny_pyIter_wide ha (hQ _ _ _ _ _ (aA _ _) (fun b q=>by obtain rfl:=zA6 q; exact ar _) (fun b q=>by obtain rfl:=zA6 q; exact .inl (ar _)) (fun A' hh=>Walks.strWide hh _ x t) ⟨_,Heap.get?_push_size _ rfl,rfl,rfl⟩)
 ·exact wpAny_pyIter_ascii ha (hQ _ _ _ _ _ (aA _ _) (fun b q=>by obtain rfl:=zA6 q; exact ar _) (fun b q=>by obtain rfl:=zA6 q; exact .inl (ar _)) (fun A' hh=>Walks.strAscii hh _ x t) ⟨_,Heap.get?_push_size _ rfl,rfl,rfl⟩)
theorem vo {K:Type} [DecidableEq K] (l:List K) (k:K):ded (l++[k])=if k∈ded l then ded l else ded l++[k]:=by unfold ded; rw [List.foldl_append]; rfl
theorem j5 {K:Type} [DecidableEq K] {l:List K} {i:Nat} {k:K} (e:l[i]?=some k):ded (l.take (i+1))=if k∈ded (l.take i) then ded (l.take i) else ded (l.take i)++[k]:=by rw [List.take_add_one,e]; exact vo _ _
theorem z6 {K:Type} [DecidableEq K] {l:List K}:∀ i,(ded (l.take i)).length≤l.length
 | 0=>Nat.zero_le _
 | i+1=>by
  suffices h:(ded (l.take (i+1))).length≤min (i+1) l.length from zB1 h (Nat.min_le_right _ _)
  induction i with
  | zero=>cases l with
   | nil=>exact Nat.le_refl _
   | cons x l=>exact Nat.le_min.mpr ⟨Nat.le_refl _,Nat.succ_le_succ (Nat.zero_le _)⟩
  | succ i ih=>
   cases e:l[i+1]? with
   | none=>
    have:l.length≤i+1:=List.getElem?_eq_none_iff.mp e
    rw [List.take_of_length_le (Nat.le_succ_of_le this)]
    rw [List.take_of_length_le this] at ih
    exact zB1 ih (by lia)
   | some k=>
    have hlt:=(List.getElem?_eq_some_iff.mp e).1
    rw [j5 e]
    split
    ·exact zB1 ih (by grind)
    ·rw [zB5,List.length_singleton]; exact zB1 (Nat.succ_le_succ ih) (by grind)
theorem xV {K J:Type} [DecidableEq K] [DecidableEq J] {f:K→J} (hf:∀ a b,f a=f b→a=b) (l:List K):ded (l.map f)=(ded l).map f:=by
 have go:∀ (l acc:List K),l.foldl (fun a y=>if f y∈a then a else a++[f y]) (acc.map f)=(l.foldl (fun a y=>if y∈a then a else a++[y]) acc).map f:=fun l=>by
  induction l with
  | nil=>exact fun _=>rfl
  | cons x l ih=>
   intro acc
   have:f x∈acc.map f ↔ x∈acc:=⟨fun q=>by obtain ⟨y,m,e⟩:=zA7 q; exact hf _ _ e▸m,fun q=>List.mem_map.mpr ⟨x,q,rfl⟩⟩
   rw [List.foldl_cons,List.foldl_cons,← ih]
   by_cases z:x∈acc
   ·rw [if_pos z,if_pos (this.mpr z)]
   ·rw [if_neg z,if_neg fun q=>z (this.mp q),List.map_append]; rfl
 unfold ded
 rw [List.foldl_map]; exact go l []
theorem lx {K:Type} [DecidableEq K] {knd:KeyKind prog w K} {S:Addr} {P:Nat→Value→Prop} {ks:List K} (hP:∀ i v,P i v→∃ k,ks[i]?=some k∧knd.is k v=true∧v.scannable=true) (hn:ks.length+1 < scanBound) :
  Fills prog w h₀ S P ks.length (fun i h=>h.SetOf knd S (fun k=>decide (k∈ded (ks.take i))) (ded (ks.take i)).length) where
 frame:=fun i h h' q e=>q.elim fun o q=>q.elim fun es q=>q.elim fun ep q=>q.elim fun t q=>⟨o,es,ep,t,e.trans q.1,q.2⟩
 live:=fun i h q=>q.elim fun o q=>q.elim fun _ q=>q.elim fun _ q=>q.elim fun _ q=>⟨o,q.1⟩
 start:=fun h ho=>SetOf_congr ((setObjOf_fresh (knd:=knd) _).setOf ho (by unfold scanBound; exact Nat.succ_pos _)) (fun _=>by simp [ded]) rfl
 add:=fun i v s A hu hi hp hk hZ Q E hQ=>by
  obtain ⟨k,ek,hkey,hsc⟩:=hP i v hp
  have:=z6 (l:=ks) i
  unfold setAdd
  refine wpAny_holding (zC1 (knd.pyHash hkey (wpAny_setAddHashed_of (s:={ s with toks:=s.toks+1 }) hkey hsc hZ (by exact Nat.lt_of_le_of_lt (Nat.add_le_add_right this _) hn) fun h' hsb hS=>hQ _ h' _ hsb (SetOf_congr hS (fun k'=>?_) ?_))))
  ·rw [j5 ek]
   by_cases z:k∈ded (ks.take i)
   ·rw [if_pos z]
    by_cases q:k'=k
    ·simp [q,z]
    ·simp [q]
   ·rw [if_neg z]
    by_cases q:k'=k <;> simp [q]
  ·rw [j5 ek]
   by_cases z:k∈ded (ks.take i) <;> simp [z]
theorem xo {K:Type} [DecidableEq K] {knd:KeyKind prog w K} {a:Addr} {S:K→Bool} {n:Nat} {Q:Value→Shared→Prop} (hS:s.heap.SetOf knd a S n) (h:∀ t tk,Q (.int n t) { s with toks:=tk }):wpAny (model prog w) A (call (.builtin "len") [.ref a]) Q E s:=by
 obtain ⟨o,es,ep,t,ho,hex,hd,hel,hmem,hb,hf,hn⟩:=hS
 subst hn
 refine Calls.call_function_entry kind_len plain_len entry_len (args_len1 _) ?_
 exact wpAny_len_body_set ho hex hd hf (by unfold scanBound at hb; lia) (h _ _)
end
end Mine
end
noncomputable section
namespace Mine
open PySem PySem.Calls PyProof.Rows PySem.W
theorem kOf_inj {x y:V} (hx:a8 x=true) (hy:a8 y=true) (e:kOf x=kOf y):x=y:=by
 cases x <;> first | ((injection hx; done); done) | (cases y <;> first | ((injection hy; done); done) | ((first | (injection e; done) | (injection e with e; subst e)); done) | ((injection e with e; subst e); rfl))
theorem oP:∀ {l m:List V},l.all a8=true→m.all a8=true→l.map kOf=m.map kOf→l=m
 | [],[],_,_,_=>rfl
 | [],_ :: _,_,_,e=>nomatch e
 | _ :: _,[],_,_,e=>nomatch e
 | x :: l,y :: m,hl,hm,e=>by
  have hl:=zA2 hl
  have hm:=zA2 hm
  have e:=zA5 e
  rw [kOf_inj hl.1 hm.1 e.1,oP hl.2 hm.2 e.2]
section
variable {g:Gl} {bad:Addr→Prop} {h h':Heap} {v:Value} {x:V} {vs ws:List Value} {l m:List V}
theorem uU (r:RpAll g bad h vs l):l.all a8=true→ItemsAre (aB g.prog g.w) (l.map kOf) vs:=
 r.ind (D:=fun vs l=>l.all a8=true→ItemsAre (aB g.prog g.w) (l.map kOf) vs) (fun _=>.nil) fun v vs x l r _ ih q=>by
  have q:=zA2 q
  refine .cons ?_ (ih q.2)
  cases r with
  | int i t=>exact (by simp [Value.isInt]:Value.isInt i (.int i t)=true)
  | str y t=>exact (by simp [Value.isStrOf]:Value.isStrOf y (.str y t)=true)
  | _=>(injection q.1; done)
theorem zB (r:Rp g bad h v (.tuple l)) (q:l.all a8=true):∃ c,v=.ref c∧IsTupleKey (aB g.prog g.w) h (l.map kOf) c:=
 r.tuple_elim fun a o vs n _ ha hc hd hl=>⟨a,rfl,o,vs,n,ha,hc,hd,uU hl q⟩
theorem eU {ks:List Sc} {c:Addr} (k:aH h h') (x:IsTupleKey (aB g.prog g.w) h ks c):IsTupleKey (aB g.prog g.w) h' ks c:=let ⟨o,vs,n,ho,r⟩:=x; ⟨o,vs,n,k _ _ ho,r⟩
theorem RpAll.of_mem (r:RpAll g bad h vs l):v∈vs→∃ y∈l,Rp g bad h v y:=r.ind (D:=fun vs l=>v∈vs→∃ y∈l,Rp g bad h v y) (fun q=>nomatch q) fun u vs y l r _ ih q=>by
 rcases List.mem_cons.mp q with rfl | q
 ·exact ⟨y,.head _,r⟩
 ·obtain ⟨z,m,p⟩:=ih q; exact ⟨z,.tail _ m,p⟩
theorem RpAll.mem (r:RpAll g bad h vs l):x∈l→∃ u∈vs,Rp g bad h u x:=r.ind (D:=fun vs l=>x∈l→∃ u∈vs,Rp g bad h u x) (fun q=>nomatch q) fun u vs y l r _ ih q=>by
 rcases List.mem_cons.mp q with rfl | q
 ·exact ⟨u,.head _,r⟩
 ·obtain ⟨z,m,p⟩:=ih q; exact ⟨z,.tail _ m,p⟩
theorem RpAll.perm (p:ws.Perm vs):∀ {l},RpAll g bad h vs l→∃ m,m.Perm l∧RpAll g bad h ws m:=by
 induction p with
 | nil=>exact fun r=>⟨_,.refl _,r⟩
 | cons v _ ih=>
  intro l r
  cases r with
  | cons a r=>obtain ⟨m,p,q⟩:=ih r; exact ⟨_,.cons _ p,.cons a q⟩
 | swap v u _=>
  intro l r
  cases r with
  | cons a r=>cases r with
   | cons b r=>exact ⟨_,.swap _ _ _,.cons b (.cons a r)⟩
 | trans _ _ ih1 ih2=>
  intro l r
  refine yB fun Z4 kZ4=>?_
  obtain ⟨m,p,r⟩:=ih2 r
  obtain ⟨n,p',r⟩:=ih1 r
  refine kZ4 ?_
  exact ⟨n,p'.trans p,r⟩
theorem gg {C:V→Prop} (e:j9 x=true) (k:∀ t l,(PyData.str t :: l).all a8=true→C (.tuple (.str t :: l))):C x:=by
 revert e
 cases x with
 | tuple l=>cases l with
  | nil=>exact fun e=>nomatch e
  | cons y l=>cases y with
   | str t=>exact fun e=>k _ _ e
   | _=>exact fun e=>nomatch e
 | _=>exact fun e=>nomatch e
theorem gH (e:j9 x=true) (r:Rp g bad h v x):∃ c,v=.ref c∧IsTupleKey (aB g.prog g.w) h (aQ x) c:=gg (C:=fun x=>Rp g bad h v x→∃ c,v=.ref c∧IsTupleKey (aB g.prog g.w) h (aQ x) c) e (fun t l q r=>zB r q) r
theorem keys_inj {y:V} (e:j9 x=true) (e':j9 y=true) (q:aQ y=aQ x):y=x:=
 gg (C:=fun x=>aQ y=aQ x→y=x) e (fun t l hl q=>gg (C:=fun y=>aQ y=aQ (.tuple (.str t :: l))→y=.tuple (.str t :: l)) e' (fun t' l' hl' q=>congrArg _ (oP hl' hl q)) q) q
theorem lh (e:j9 x=true):∃ t ks,aQ x=.inr t :: ks:=gg (C:=fun x=>∃ t ks,aQ x=.inr t :: ks) e fun t l _=>⟨t,l.map kOf,rfl⟩
theorem qI {α:Type} {i:Nat} {a:α} {C:Prop} (e:(#[]:Array α)[i]?=some a):C:=by simp at e
theorem tab0 {L:Bool}:Tab (SetTable.fresh 0 0 L) (#[]:Array (Int×Value)):=⟨.inl rfl,rfl,rfl,fun _ _ _ _ _ e=>qI e,fun _ _ e=>qI e,fun _ _ _ e=>qI e⟩
noncomputable def Ai (g:Gl) (bad:Addr→Prop) (h₀:Heap) (S:Addr) (l:List V) (i:Nat) (h:Heap):Prop:=
 ∃ es r,TS h S es (!g.w.params.followText "set-order")∧yS (aB g.prog g.w) h₀ es.toList∧RpAll g bad h₀ (es.toList.map (·.2)) r∧r.Nodup∧∀ y,y∈r ↔ y∈l.take i
theorem oo {es:Array (Int×Value)} {r:List V} (q:RpAll g bad h (es.toList.map (·.2)) r):es.size=r.length:=by
 have:=q.length
 rwa [zA4,zB3] at this
theorem qe {S:Addr} {vs:Array Value} (r:RpAll g bad h vs.toList l) (hw:∀ x∈l,j9 x=true) {few:List V} (hfw:∀ x∈l,x∈few) (hn:few.length < 200):Fills g.prog g.w h S (fun i v=>vs[i]?=some v) vs.size (Ai g bad h S l) where
 frame:=fun i h h' q e=>q.elim fun es q=>q.elim fun r q=>⟨es,r,q.1.to e,q.2⟩
 live:=fun i h q=>q.elim fun es q=>q.elim fun r q=>q.1.elim fun o q=>q.elim fun _ q=>q.elim fun _ q=>⟨o,q.1⟩
 start:=fun h ho=>⟨#[],[],⟨_,_,_,ho,⟨rfl,rfl,rfl⟩,rfl,tab0,Nat.zero_lt_succ 20,rfl⟩,fun e m=>(nomatch m),.nil,.nil,fun y=>⟨fun q=>(nomatch q),fun q=>(nomatch q)⟩⟩
 add:=fun i v s A hu hi hp hk hZ Q E hQ=>by
  obtain ⟨es,R,T,he,hr,hd,hm⟩:=hZ
  have hsz:=r.length
  rw [zB3] at hsz
  obtain ⟨x,hx⟩:∃ x,l[i]?=some x:=⟨_,List.getElem?_eq_getElem (hsz▸hi)⟩
  obtain ⟨v',ev,rv⟩:=r.get hx
  replace ev:=hp▸(Array.getElem?_toList)▸ev
  (injection ev with ev; subst ev)
  have hxw:=hw x (List.mem_of_getElem? hx)
  obtain ⟨c,rfl,k⟩:=gH hxw rv
  obtain ⟨t,ks,eh⟩:=lh hxw
  have mem1:∀ y,y∈l.take (i+1) ↔ y∈R∨y=x:=fun y=>by rw [List.take_add_one,hx,List.mem_append,hm]; simp
  have he':yS (aB g.prog g.w) s.heap es.toList:=fun e me=>let ⟨ks,c,q,z⟩:=he e me; ⟨ks,c,q,eU hk z⟩
  have inR:x∈R ↔ ∃ e∈es.toList,IsK (aB g.prog g.w) s.heap (.inr t :: ks) e:=by
   refine eh▸?_
   constructor
   ·intro q
    obtain ⟨u,mu,ru⟩:=hr.mem q
    obtain ⟨e,me,rfl⟩:=zA7 mu
    obtain ⟨ks',c',rfl,z⟩:=he e me
    obtain ⟨c2,e2,k2⟩:=gH hxw ru
    (injection e2 with e2; subst e2)
    obtain rfl:=z.inj k2
    exact ⟨_,me,c',rfl,eU hk z⟩
   ·rintro ⟨e,me,c',rfl,z⟩
    obtain ⟨y,my,ry⟩:=hr.of_mem (List.mem_map.mpr ⟨_,me,rfl⟩)
    have hy:=hw y (List.mem_of_mem_take ((hm y).mp my))
    obtain ⟨c2,e2,k2⟩:=gH hy ry
    (injection e2 with e2; subst e2)
    exact keys_inj hxw hy ((eU hk k2).inj z)▸my
  replace k:=eh▸k
  refine pG hu T he' (eU hk k) (by have:=hd.length_le_of_subset (l₂:=few) fun y q=>hfw y (List.mem_of_mem_take ((hm y).mp q)); rw [oo hr]; exact Nat.lt_of_le_of_lt this hn) (fun q tk=>?_) fun h' es' tk sb T' p q=>?_
  ·have q:=inR.mpr q
   exact hQ _ s.heap tk (.refl _ _) ⟨es,R,T,he,hr,hd,fun y=>by rw [mem1]; exact ⟨.inl,fun z=>z.elim id fun z=>z▸q⟩⟩
  ·obtain ⟨R',pR,rR⟩:=RpAll.perm (p.map Prod.snd) (RpAll.cons rv hr)
   refine hQ _ h' tk sb ⟨es',R',T',fun e me=>?_,rR,pR.nodup_iff.mpr (List.nodup_cons.mpr ⟨fun z=>?_,hd⟩),fun y=>?_⟩
   ·rcases List.mem_cons.mp (p.mem_iff.mp me) with rfl | me
    ·exact ⟨_,c,rfl,k⟩
    ·exact he e me
   ·obtain ⟨e,me,ie⟩:=inR.mp z; exact q e me ie
   ·rw [pR.mem_iff,mem1,List.mem_cons]; exact or_comm
end
end Mine
end
noncomputable section
namespace Mine
open PySem PySem.Calls PyProof.Rows PySem.W
theorem bB:PySem.Slot "set_iterator" "__next__" "set_iterator.__next__":=
 .of (owner:="set_iterator") (n:="__next__") (by rw [typeLookup_type,builtinLookup_eq_fast]; kernel_rfl) (by decide +kernel) (by decide +kernel) (by decide +kernel)
  (by first | exact .inl (by decide +kernel) | exact .inr (by decide +kernel)) (by rw [isSubtype_type]; kernel_rfl)
theorem gN:entryFor table "set_iterator.__next__"=some Builtin.«set_iterator.__next__»:=entryFor_of_tree (by kernel_rfl)
theorem iv (a:Value):argsOk "set_iterator.__next__" ⟨[a],[]⟩:=by unfold argsOk; kernel_rfl
theorem iQ:entryFor table "set.__iter__"=some Builtin.«frozenset.__iter__»:=entryFor_alias (id':="frozenset.__iter__") (by kernel_rfl) rfl (by decide +kernel) (by kernel_rfl)
section
variable {prog:Program} {w:World} {A:Around} {E:Value→Shared→Prop} {s:Shared}
noncomputable abbrev ke (ff:Value) (i:Nat) (S:Addr) (n ep:Nat):Obj:={ cls:=.type "set_iterator",data:=.fields #[ff,.int i 0,.ref S,.int n 0,.int ep 0] }
theorem rJ {Q:Option Value→Shared→Prop} {P:Fin→Shared→Prop} (hh:A.handled=none) (h:∀ h',aH s.heap h'→Q none { s with heap:=h' }) :
  wpAny (model prog w) A.in1 (newExc (.type "StopIteration") [] >>= fun e=>raiseNew e) P (fun e s'=>wpAny (model prog w) A (isInstance e (.type "StopIteration") >>= fun b=>if b=true then pure none else throw e) Q E s') s:=by
 refine zC1 (zC1 (wpAny_newObj_type (zC1 (wpAny_of_eq (a:=Value.none) rfl (wpAny_newObj_type ?_ (by size_fits)))) (by size_fits)))
 refine wpAny_raiseNew_none (hh:A.in1.handled=none) ?_
 refine zC1 (wpAny_isInstance (T:="StopIteration") (b:=true) ⟨_,Heap.get?_push_size _ rfl,rfl⟩ isSubtype_stop ?_)
 exact zC2 (h _ ((aA _ _).trans (aA _ _)))
theorem fB {I:Addr} {vs:Array Value} {j:Nat} {v:Value} {Q:Unit→Shared→Prop} (ho:s.heap.get? I=some { cls:=.type "set_iterator",data:=.fields vs }) (hj:j < vs.size) (h:∀ h',h'.get? I=some { cls:=.type "set_iterator",data:=.fields (vs.setIfInBounds j v) }→Heap.SameBut I s.heap h'→Q () { s with heap:=h' }) :
  wpAny (model prog w) A (setField (.ref I) j v) Q E s:=
 wpAny_setField ho rfl hj (h _ (Heap.get?_update_self _ ho rfl) (Heap.SameBut.update ..))
theorem gx {I S:Addr} {o:Obj} {es:Array (Int×Value)} {ep i:Nat} {t:SetTable} {ff f':Value} {r:Option Value} {Q:Option Value→Shared→Prop} (hh:A.handled=none)
  (hI:s.heap.get? I=some (ke ff i S es.size ep)) (ho:s.heap.get? S=some o) (hd:o.data=.set es ep t) (hf:t.fits es.size=true)
  (hn:(∃ (slot nx:Nat) (tk:Tok),ff=.int slot tk∧f'=.int nx 0∧∀ (A:Around) (Q:Option (Value×Nat)→Shared→Prop) (E:Value→Shared→Prop),Q (r.map fun x=>(x,nx)) s→wpAny (model prog w) A (setNext S slot i ep) Q E s) ∨
   ∃ F ol items n',ff=.ref F∧f'=ff∧s.heap.get? F=some ol∧ol.data=.seq items n'∧((r=none∧items[i]?=none)∨∃ (p:Nat) (tk:Tok) (x:Value) (e:Int),r=some x∧items[i]?=some (.int p tk)∧es[p]?=some (e,x)))
  (hQ:∀ x,r=some x→∀ h',h'.get? I=some (ke f' (i+1) S es.size ep)→Heap.SameBut I s.heap h'→Q (some x) { s with heap:=h' })
  (hE:r=none→∀ h',(∀ b o,b≠I→s.heap.get? b=some o→h'.get? b=some o)→Q none { s with heap:=h' }):wpAny (model prog w) A (pyNext (.ref I)) Q E s:=by
 have hT:s.TypeIs (.ref I) "set_iterator":=⟨_,hI,rfl⟩
 refine zC1 (wpAny_attempt (wpAny_callSpecial?_slot (name:=Str.ofString "__next__") hT bB (wpAny_call_entry bB hT gN ?_ (iv _))))
 refine zC1 (zC2 ?_)
 refine zC1 (wpAny_fieldsOf hI rfl ?_)
 refine zC1 (zC1 (wpAny_setState_of ho hd hf (zC2 ?_)))
 refine bk (by simp) ?_
 have ext:∀ {h1 h2:Heap},Heap.SameBut I s.heap h1→aH h1 h2→∀ b o,b≠I→s.heap.get? b=some o→h2.get? b=some o:=fun a k b o q e=>k b o ((a.2 b q).trans e)
 rcases hn with ⟨slot,nx,tk,rfl,rfl,hn⟩ | ⟨F,ol,items,n',rfl,rfl,hol,hdl,hn⟩
 ·refine zC1 (hn _ _ _ ?_)
  cases r with
  | none=>exact zC1 (fB hI (by simp) fun h1 _ sb=>rJ hh fun h2 k=>hE rfl _ (ext sb k))
  | some x=>exact zC1 (fB hI (by simp) fun h1 g1 sb=>zC1 (fB g1 (by simp) fun h2 g2 sb2=>zC2 ⟨x,rfl,zC2 (hQ x rfl h2 g2 (sb.trans sb2))⟩))
 ·refine zC1 (wpAny_seqItems hol hdl ?_)
  dsimp only
  rcases hn with ⟨rfl,hi⟩ | ⟨p,tk,x,e,rfl,hi,he⟩
  ·exact (hi:items[(i:Int).toNat]?=_).symm▸zC1 (fB hI (by simp) fun h1 g1 sb=>zC1 (fB g1 (by simp) fun h2 g2 sb2=>rJ hh fun h3 k=>hE rfl _ (ext (sb.trans sb2) k)))
  ·refine (hi:items[(i:Int).toNat]?=_).symm▸zC1 (zC1 (wpAny_setState_of ho hd hf (bk (by simp) ?_)))
   exact (he:es[(p:Int).toNat]?=_).symm▸zC2 (zC1 (fB hI (by simp) fun h1 g1 sb=>zC2 ⟨x,rfl,zC2 (hQ x rfl h1 g1 sb)⟩))
theorem lH {M:Model} {src:Source} {n:Nat} {Q:Nat→Shared→Prop} (hn:n≠0) (h:∀ i d,i < n→Q i { s with drawn:=d }):wpAny M A (choose src n) Q E s:=fun Γ p hΓ=>by
 unfold choose
 rw [Sem.wp_choose]
 exact ⟨hn,h _ _ (Nat.mod_lt _ (Nat.pos_of_ne_zero hn))⟩
theorem dj {α:Type} {x:α}:∀ {l:List α} {i:Nat},l[i]?=some x→(x :: l.eraseIdx i).Perm l
 | [],_,h=>nomatch h
 | y :: l,0,h=>by (injection h with h; subst h); exact .refl _
 | y :: l,i+1,h=>(List.Perm.swap y x _).trans (.cons y (dj (l:=l) h))
theorem sN {α:Type} {M:Model}:∀ (n:Nat) (xs:List α) (s:Shared) {Q:List α→Shared→Prop},xs.length=n→(∀ ys d,ys.Perm xs→Q ys { s with drawn:=d })→wpAny M A (drawOrder n xs) Q E s
 | 0,xs,s,Q,hl,h=>by obtain rfl:=List.length_eq_zero_iff.mp hl; exact zC2 (h [] s.drawn (.refl _))
 | n+1,[],s,Q,hl,h=>nomatch hl
 | n+1,x :: xs,s,Q,hl,h=>by
  refine zC1 (lH (by rw [hl]; exact Nat.succ_ne_zero n) fun i d hi=>?_)
  have e:(x :: xs)[i]?=some (x :: xs)[i]:=List.getElem?_eq_getElem hi
  rw [e]
  refine zC1 (sN n _ _ (by rw [List.length_eraseIdx_of_lt hi,hl]; rfl) fun ys d' p=>zC2 (h _ d' ((List.Perm.cons _ p).trans (dj e))))
theorem rO {α:Type} (f:Nat→Nat):∀ (n k:Nat) (l:List α) (o:Array α),l.length=n→(pickOrder.go f n k l o).toList.Perm (o.toList++l)
 | 0,k,l,o,h=>by obtain rfl:=List.length_eq_zero_iff.mp h; refine (?_:o.toList.Perm _); rw [List.append_nil]
 | n+1,k,l,o,h=>by
  have hi:f k % l.length < l.length:=Nat.mod_lt _ (by rw [h]; exact Nat.succ_pos n)
  have e:l[f k % l.length]?=some l[f k % l.length]:=List.getElem?_eq_getElem hi
  rw [show pickOrder.go f (n+1) k l o=(match l[f k % l.length]? with | some x=>pickOrder.go f n (k+1) (l.eraseIdx (f k % l.length)) (o.push x) | none=>o) from rfl,e]
  refine (rO f n (k+1) _ _ (by rw [List.length_eraseIdx_of_lt hi,h]; rfl)).trans ?_
  rw [Array.toList_push,List.append_assoc]
  exact .append_left _ (dj e)
theorem tm {α:Type} (f:Nat→Nat) (xs:Array α):(pickOrder f xs).toList.Perm xs.toList:=rO f _ 0 _ #[] Array.length_toList
end
end Mine
end
noncomputable section
namespace Mine
open PySem PySem.Calls PyProof.Rows PySem.W
theorem dT:PySem.Slot "set_iterator" "__iter__" "set_iterator.__iter__":=
 .of (owner:="set_iterator") (n:="__iter__") (by rw [typeLookup_type,builtinLookup_eq_fast]; kernel_rfl) (by decide +kernel) (by decide +kernel) (by decide +kernel)
  (by first | exact .inl (by decide +kernel) | exact .inr (by decide +kernel)) (by rw [isSubtype_type]; kernel_rfl)
theorem gO:entryFor table "set_iterator.__iter__"=some Builtin.«dict_keyiterator.__iter__»:=entryFor_alias (id':="dict_keyiterator.__iter__") (by kernel_rfl) rfl (by decide +kernel) (by kernel_rfl)
theorem iw (a:Value):argsOk "set_iterator.__iter__" ⟨[a],[]⟩:=by unfold argsOk; kernel_rfl
section
variable {prog:Program} {w:World} {A:Around} {E:Value→Shared→Prop} {s:Shared} {I S:Addr} {o:Obj} {es:Array (Int×Value)} {ep:Nat} {t:SetTable} {ord:List Value}
theorem iX {Q:Value→Shared→Prop} {ob:Obj} (hI:s.heap.get? I=some ob) (hc:ob.cls=.type "set_iterator") (h:Q (.ref I) s):wpAny (model prog w) A (pyIter (.ref I)) Q E s:=by
 have hT:s.TypeIs (.ref I) "set_iterator":=⟨_,hI,hc⟩
 refine wpAny_pyIter_slot hT dT (wpAny_call_entry dT hT gO ?_ (iw _))
 refine zC1 (zC2 ?_)
 exact zC2 ⟨_,rfl, "set_iterator",_,hT,bB.lookup,h⟩
noncomputable abbrev nD (prog:Program) (w:World) (S:Addr) (o:Obj) (i ep slot:Nat) (r:Option (Value×Nat)):Prop:=∀ (s:Shared),s.heap.get? S=some o→∀ (A:Around) (Q:Option (Value×Nat)→Shared→Prop) (E:Value→Shared→Prop),Q r s→wpAny (model prog w) A (setNext S slot i ep) Q E s
theorem Aq {a b c:Addr} {C:Addr→Prop} (m:c∈[a,b]) (ha:C a) (hb:C b):C c:=by
 rcases List.mem_cons.mp m with rfl | m
 ·exact ha
 ·obtain rfl:=zA6 m; exact hb
theorem kO (hh:A.handled=none) (hne:S≠I) (hd:o.data=.set es ep t) (hf:t.fits es.size=true) (Sl:Nat→Nat→Prop)
  (hs:∀ i slot,Sl slot i→i < es.size→∃ x nx,ord[i]?=some x∧Sl nx (i+1)∧nD prog w S o i ep slot (some (x,nx))) (he:∀ slot,Sl slot es.size→nD prog w S o es.size ep slot none) :
  Walks prog w A I [I,S] [I] es.size (fun i v=>ord[i]?=some v) (fun i h=>h.get? S=some o∧∃ slot tk,Sl slot i∧h.get? I=some (ke (.int slot tk) i S es.size ep)) where
 sub:=fun b m=>by obtain rfl:=zA6 m; exact .head _
 frame:=fun i h h' ⟨a,slot,tk,b,c⟩ k=>⟨k S (.tail _ (.head _)) _ a,slot,tk,b,k I (.head _) _ c⟩
 item:=fun i s Q E hi ⟨a,slot,tk,b,c⟩ hQ=>by
  refine yB fun Z1 kZ1=>?_
  obtain ⟨x,nx,e1,e2,e3⟩:=hs i slot b hi
  refine kZ1 ?_
  refine gx (r:=some x) (f':=.int nx 0) hh c a hd hf (.inl ⟨slot,nx,tk,rfl,rfl,e3 s a⟩) (fun y ey h' hI sb=>?_) fun q=>nomatch q
  (injection ey with ey; subst ey)
  exact hQ x h' s.toks e1 ⟨(sb.2 S hne).trans a,nx,0,e2,hI⟩ fun b o m e=>(sb.2 b fun q=>m (q▸.head _)).trans e
 done:=fun s Q E ⟨a,slot,tk,b,c⟩ hQ=>gx (r:=none) (f':=.int 0 0) hh c a hd hf (.inl ⟨slot,0,tk,rfl,rfl,he slot b s a⟩) (fun y ey=>nomatch ey) fun _ h' k=>hQ h' s.toks fun b o m e=>k b o (fun q=>m (q▸.head _)) e
 self:=fun i s Q E ⟨a,slot,tk,b,c⟩ h=>iX c rfl h
theorem sY (hh:A.handled=none) (hne:S≠I) (hd:o.data=.set es ep t) (hf:t.fits es.size=true) {F:Addr} {ol:Obj} {items:Array Value} {n':Nat} (hF:F≠I) (hdl:ol.data=.seq items n') (hz:items.size=es.size)
  (hs:∀ i,i < es.size→∃ (p:Nat) (tk:Tok) (x:Value) (e:Int),ord[i]?=some x∧items[i]?=some (.int p tk)∧es[p]?=some (e,x)) :
  Walks prog w A I [I,S,F] [I] es.size (fun i v=>ord[i]?=some v) (fun i h=>h.get? S=some o∧h.get? F=some ol∧h.get? I=some (ke (.ref F) i S es.size ep)) where
 sub:=fun b m=>by obtain rfl:=zA6 m; exact .head _
 frame:=fun i h h' ⟨a,b,c⟩ k=>⟨k S (.tail _ (.head _)) _ a,k F (.tail _ (.tail _ (.head _))) _ b,k I (.head _) _ c⟩
 item:=fun i s Q E hi ⟨a,b,c⟩ hQ=>by
  refine yB fun Z2 kZ2=>?_
  obtain ⟨p,tk,x,e,e1,e2,e3⟩:=hs i hi
  refine kZ2 ?_
  refine gx (r:=some x) (f':=.ref F) hh c a hd hf (.inr ⟨F,ol,items,n',rfl,rfl,b,hdl,.inr ⟨p,tk,x,e,rfl,e2,e3⟩⟩) (fun y ey h' hI sb=>?_) fun q=>nomatch q
  (injection ey with ey; subst ey)
  exact hQ x h' s.toks e1 ⟨(sb.2 S hne).trans a,(sb.2 F hF).trans b,hI⟩ fun b o m e=>(sb.2 b fun q=>m (q▸.head _)).trans e
 done:=fun s Q E ⟨a,b,c⟩ hQ=>gx (r:=none) (f':=.ref F) hh c a hd hf (.inr ⟨F,ol,items,n',rfl,rfl,b,hdl,.inl ⟨rfl,Array.getElem?_eq_none (zB2 hz)⟩⟩) (fun y ey=>nomatch ey) fun _ h' k=>hQ h' s.toks fun b o m e=>k b o (fun q=>m (q▸.head _)) e
 self:=fun i s Q E ⟨a,b,c⟩ h=>iX c rfl h
theorem lf {i slot:Nat} {r:Option (Value×Nat)} (hB:w.params.followText "set-order"=true) (hd:o.data=.set es ep t) (hf:t.fits es.size=true) (e:((pickOrder (w.params.setOrder S ep) es)[i]?).map (fun e=>(e.2,slot))=r):nD prog w S o i ep slot r:=fun s ho A Q E h=>by
 skip
 refine zC1 (wpAny_setState_of ho hd hf ?_)
 refine zC1 (zC1 (wpAny_askSetting (zC2 ?_)))
 rw [show (Setting.mk (model prog w).prog (model prog w).w.params).params.followText "set-order"=true from hB,if_pos rfl,if_neg (by simp)]
 unfold setWalk
 refine zC1 (zC1 (wpAny_setState_of ho hd hf ?_))
 refine zC1 (zC1 (wpAny_askSetting (zC2 ?_)))
 refine (show (Setting.mk (model prog w).prog (model prog w).w.params).params.followText "set-order"=true from hB).symm▸(if_pos rfl).symm▸?_
 refine zC1 (wpAny_askSetting (zC2 (zC2 ?_)))
 exact e▸h
theorem oL {i slot:Nat} {r:Option (Value×Nat)} (hB:w.params.followText "set-order"=false) (hd:o.data=.set es ep t) (hf:t.fits es.size=true) (hl:t.led=true) (hn:(!t.plain&&decide (es.size > 1))=false)
  (e:(match es[SetTable.below t.place slot]?,t.place[SetTable.below t.place slot]? with | some (_,x),some j=>some (x,j+1) | _,_=>none)=r):nD prog w S o i ep slot r:=fun s ho A Q E h=>by
 skip
 refine zC1 (wpAny_setState_of ho hd hf ?_)
 refine zC1 (zC1 (wpAny_askSetting (zC2 ?_)))
 refine (show (Setting.mk (model prog w).prog (model prog w).w.params).params.followText "set-order"=false from hB).symm▸(if_neg Bool.false_ne_true).symm▸?_
 refine bk (ne_true_of_eq_false hn) ?_
 refine zC1 (bk (show ¬ (!t.led&&!es.isEmpty)=true by simp [hl]) (zC2 ?_))
 refine zC2 ?_
 subst e; exact h
theorem uT {L:Bool} {Q:Value→Shared→Prop} (hL:L = !w.params.followText "set-order") (T:TS s.heap S es L)
  (h:∀ (ord:List Value) I fp wr St h' d,ord.Perm (es.toList.map (·.2))→aH s.heap h'→(∀ b∈wr,s.heap.get? b=none)→(∀ b∈fp,s.heap.get? b=none∨b=S)→(∀ A:Around,A.handled=none→Walks prog w A I fp wr es.size (fun i v=>ord[i]?=some v) St)→St 0 h'→Q (.ref I) { s with heap:=h',drawn:=d }) :
  wpAny (model prog w) A (pyIter (.ref S)) Q E s:=by
 refine yB fun Z3 kZ3=>?_
 obtain ⟨o,ep,t,ho,hex,hd,T,hr,hl⟩:=T
 refine kZ3 ?_
 have hf:t.fits es.size=true:=T.fits (by have:=T.msk; lia)
 have hT:s.TypeIs (.ref S) "set":=⟨_,ho,hex.1⟩
 refine wpAny_pyIter_slot hT PySem.F.slot_set_iter (wpAny_call_entry PySem.F.slot_set_iter hT iQ ?_ (PySem.F.args_set_iter_1 _))
 unfold Builtin.«frozenset.__iter__»
 refine zC1 (zC1 (zC2 (zC2 ?_)))
 refine zC1 (zC1 (zC1 (wpAny_setState_of ho hd hf (zC2 (zC2 ?_)))))
 skip
 refine zC1 (zC1 (wpAny_setState_of ho hd hf ?_))
 refine zC1 (zC1 (wpAny_askSetting (zC2 (zC2 ?_))))
 have hle:es.size≤511:=by have:=T.msk; rcases this with q | q | q | q <;> lia
 extract_lets jp
 have hjp:∀ (s1:Shared) ff,s1.heap.get? S=some o→(∀ h',h'.get? s1.heap.objs.size=some (ke ff 0 S es.size ep)→aH s1.heap h'→Q (.ref s1.heap.objs.size) { s1 with heap:=h' }) →
   wpAny (model prog w) A.in1 (jp ff) (fun fin s'=>∃ v,fin=.done (.ret v)∧∃ T' r,s'.TypeIs v T'∧typeLookup (.type T') (Str.ofString "__next__")=pure (some r)∧Q v s') E s1:=fun s1 ff h1 hq=>by
  refine zC1 (wpAny_setEpoch_of h1 hd hf ?_)
  refine zC1 (wpAny_newObj_type ?_)
  exact zC2 ⟨_,rfl, "set_iterator",_,⟨_,Heap.get?_push_size _ rfl,rfl⟩,bB.lookup,hq _ (Heap.get?_push_size _ rfl) (aA _ _)⟩
 have nI:∀ (h1:Heap),aH s.heap h1→s.heap.get? h1.objs.size=none:=fun h1 k=>aK k.live (ar _)
 refine wpAny_ite_split (fun c=>?_) fun c=>?_
 ·refine zC1 (sN _ _ _ List.length_range fun ys d py=>?_)
  refine zC1 (wpAny_newTuple ?_ (by rw [zA4,py.length_eq,List.length_range]; exact zB1 hle (by decide)))
  have k1:aH s.heap (s.heap.push { cls:=.type "tuple",data:=.seq (ys.map fun (i:Nat)=>rawInt i).toArray 0 }):=aA _ _
  have hy:∀ a∈ys,(es.toList[a]?).isSome:=fun a m=>by
   rw [List.getElem?_eq_getElem (by rw [zB3]; exact List.mem_range.mp (py.mem_iff.mp m))]; rfl
  refine hjp _ _ (k1 _ _ ho) fun h' hI k=>h ((ys.filterMap (es.toList[·]?)).map (·.2)) _ _ _ _ h' d ?_ (k1.trans k) (fun b m=>?_) (fun b m=>?_) (fun A hh=>sY hh (dx (k1 _ _ ho)) hd hf (F:=s.heap.objs.size) (Nat.ne_of_lt (by rw [Heap.size_push]; exact Nat.lt_succ_self _)) (rfl:Obj.data { cls:=.type "tuple",data:=.seq (ys.map fun (i:Nat)=>rawInt i).toArray 0 }=_) (by simp [py.length_eq]) fun i hi=>?_) ⟨(k1.trans k) _ _ ho,k _ _ (Heap.get?_push_size _ rfl),hI⟩
  ·refine (List.Perm.map _ ((List.Perm.filterMap _ py).trans (.of_eq ?_)))
   exact Array.length_toList▸ch _
  ·obtain rfl:=zA6 m; exact nI _ k1
  ·rcases List.mem_cons.mp m with rfl | m
   ·exact .inl (nI _ k1)
   ·exact Aq (C:=fun b=>s.heap.get? b=none∨b=S) m (.inr rfl) (.inl (ar _))
  ·have hl':i < ys.length:=by rw [py.length_eq,List.length_range]; exact hi
   have ep:ys[i] < es.size:=List.mem_range.mp (py.mem_iff.mp (List.getElem_mem hl'))
   refine ⟨ys[i],0,es[ys[i]].2,es[ys[i]].1,?_,?_,Array.getElem?_eq_getElem ep⟩
   ·rw [List.getElem?_map,di hy,List.getElem?_eq_getElem hl']
    refine (?_:((es.toList[ys[i]]?).map _)=_)
    rw [Array.getElem?_toList,Array.getElem?_eq_getElem ep]; rfl
   ·simp [hl',rawInt]
 ·refine zC1 (zC2 ?_)
  cases hB:w.params.followText "set-order" with
  | true=>
   have pk:=tm (w.params.setOrder S ep) es
   refine hjp s _ ho fun h' hI k=>h ((pickOrder (w.params.setOrder S ep) es).toList.map (·.2)) _ _ _ _ h' s.drawn (pk.map _) k (fun b m=>by obtain rfl:=zA6 m; exact ar _) (fun b m=>Aq (C:=fun b=>s.heap.get? b=none∨b=S) m (.inl (ar _)) (.inr rfl))
    (fun A hh=>kO hh (dx ho) hd hf (fun _ _=>True) (fun i slot _ hi=>?_) fun slot _=>?_) ⟨k _ _ ho,0,0,trivial,hI⟩
   ·have hl':i < (pickOrder (w.params.setOrder S ep) es).size:=by exact Array.length_toList▸pk.length_eq.symm▸Array.length_toList.symm▸hi
    exact ⟨(pickOrder (w.params.setOrder S ep) es)[i].2,slot,by rw [List.getElem?_map,Array.getElem?_toList,Array.getElem?_eq_getElem hl']; rfl,trivial,lf hB hd hf (by rw [Array.getElem?_eq_getElem hl']; rfl)⟩
   ·exact lf hB hd hf (by rw [Array.getElem?_eq_none (by rw [← zB3,pk.length_eq,zB3]; exact Nat.le_refl _)]; rfl)
  | false=>
   have hl2:t.led=true:=by rw [hl,hL,hB]; rfl
   have hn:(!t.plain&&decide (es.size > 1))=false:=by
    have c:¬ (!w.params.followText "set-order"&&(!t.plain&&decide (es.size > 1)))=true:=c
    rw [hB] at c
    exact Bool.eq_false_iff.mpr c
   refine hjp s _ ho fun h' hI k=>h (es.toList.map (·.2)) _ _ _ _ h' s.drawn (.refl _) k (fun b m=>by obtain rfl:=zA6 m; exact ar _) (fun b m=>Aq (C:=fun b=>s.heap.get? b=none∨b=S) m (.inl (ar _)) (.inr rfl))
    (fun A hh=>kO hh (dx ho) hd hf (fun slot i=>SetTable.below t.place slot=i) (fun i slot e hi=>?_) fun slot e=>oL hB hd hf hl2 hn (by rw [e,Array.getElem?_eq_none (Nat.le_refl _)])) ⟨k _ _ ho,0,0,?_,hI⟩
   ·obtain ⟨j,ej⟩:∃ j,t.place[i]?=some j:=⟨_,Array.getElem?_eq_getElem (by rw [T.sz]; exact hi)⟩
    refine ⟨es[i].2,j+1,by rw [List.getElem?_map,Array.getElem?_toList,Array.getElem?_eq_getElem hi]; rfl,?_,oL hB hd hf hl2 hn (by rw [e,Array.getElem?_eq_getElem hi,ej])⟩
    have b:=eZ T.rise (j+1)
    rcases Nat.lt_trichotomy (SetTable.below t.place (j+1)) (i+1) with q | q | q
    ·exact absurd (b.2.2 i j (Nat.le_of_lt_succ q) ej) (Nat.not_succ_le_self j)
    ·exact q
    ·obtain ⟨j',ej'⟩:∃ j,t.place[i+1]?=some j:=⟨_,Array.getElem?_eq_getElem (Nat.lt_of_lt_of_le q b.1)⟩
     exact absurd (Nat.le_of_lt_succ (b.2.1 _ _ q ej')) (Nat.not_le.mpr (T.rise _ _ _ _ (Nat.lt_succ_self i) ej ej'))
   ·have b:=eZ T.rise 0
    rcases Nat.eq_zero_or_pos (SetTable.below t.place 0) with q | q
    ·exact q
    ·have b1:=b.1
     obtain ⟨j,ej⟩:∃ j,t.place[0]?=some j:=⟨_,Array.getElem?_eq_getElem (Nat.lt_of_lt_of_le q b1)⟩
     exact absurd (b.2.1 0 j q ej) (Nat.not_lt_zero _)
end
end Mine
end
noncomputable section
namespace Mine
open PySem PySem.Calls PyProof.Rows PySem.W
noncomputable abbrev KKd:=PyProof.Rows.KeyKind
structure SI (k₀:SortKind) (a₀:Array Keyed) (st:SortSt):Prop where
 perm:(arrOf st).Perm a₀
 kind:kindOf st=k₀
 failed:failedOf st=none
 pend:pendingOf st=#[]
section
variable {M:Model} {A:Around} {s:Shared} {k₀:SortKind} {a₀:Array Keyed} {st:SortSt} {E:Value→Shared→Prop} {κ:KKd}
noncomputable def si (κ:KKd) (x:Keyed):κ.α:=(κ.keyOf x.1).getD κ.dflt
noncomputable def wc (M:Model) (A:Around) (s:Shared) (k₀:SortKind) (κ:KKd) (a₀:Array Keyed):Prop:=∀ x y:Keyed,x∈a₀.toList→y∈a₀.toList→∀ (E:Value→Shared→Prop) (Q:Bool→Shared→Prop),Q (κ.blt (si κ x) (si κ y)) s→wpAny M A (keyLt' k₀ x.1 y.1) Q E s
theorem SI.size (I:SI k₀ a₀ st):(arrOf st).size=a₀.size:=I.perm.size_eq
theorem SI.setArr {xs:Array Keyed} (I:SI k₀ a₀ st) (h:xs.Perm (arrOf st)):SI k₀ a₀ (setArr st xs):=⟨h.trans I.perm,I.kind,I.failed,I.pend⟩
theorem SI.mem (I:SI k₀ a₀ st) {x:Keyed} (h:x∈(arrOf st).toList):x∈a₀.toList:=(Array.perm_iff_toList_perm.mp I.perm).mem_iff.mp h
theorem tY {xs:Array Keyed} {i:Nat} {x:Keyed} (e:xs[i]?=some x):KK κ xs i=si κ x:=by unfold KK; rw [e]; rfl
theorem eT {i j:Nat} {Q:Option Bool→SortSt→Prop} (L:wc M A s k₀ κ a₀) (I:SI k₀ a₀ st) (hi:i < a₀.size) (hj:j < a₀.size) (h:∀ b,κ.blt (KK κ (arrOf st) i) (KK κ (arrOf st) j)=b→Q (some b) st):wpS M A E s (ltAt' i j) Q st:=by
 rw [ltAt'_eq]
 refine wpS_bind (wpS_get ?_)
 have ei:=getElem?_pos (arrOf st) i (I.size▸hi)
 have ej:=getElem?_pos (arrOf st) j (I.size▸hj)
 dsimp only
 rw [elem'_eq,elem'_eq,ei,ej]
 refine wpS_bind (wpS_pure (wpS_bind (wpS_pure ?_)))
 rw [lt'_eq]
 refine wpS_bind (wpS_get ?_)
 rw [I.kind]
 exact wpS_bind (wpS_lift (wpAny_attempt (L _ _ (I.mem (by simp)) (I.mem (by simp)) _ _ ⟨rfl,wpS_pure (h _ (by rw [tY ei,tY ej]))⟩)))
theorem lR {i j:Nat} {Q:Unit→SortSt→Prop} (I:SI k₀ a₀ st) (h:∀ st',SI k₀ a₀ st'→arrOf st'=mirror (arrOf st) i j ((j - i) / 2)→Q () st'):wpS M A E s (reverseSlice' i j) Q st:=by
 rw [reverseSlice'_eq]; exact wpS_modify (h _ (I.setArr (mirror_perm _ _ _ _)) rfl)
theorem uu {xs:Array Keyed} {x:Nat} (h:SortedToK κ xs x) (q:κ.kle (KK κ xs (x - 1)) (KK κ xs x)):SortedToK κ xs (x+1):=fun i j hij hj=>by
 rcases Nat.lt_or_ge j x with z | z
 ·exact h i j hij z
 ·cases Nat.le_antisymm (Nat.le_of_lt_succ hj) z
  rcases Nat.lt_or_ge i x with z | z
  ·exact KeyOrd.kle_trans (h i (x - 1) (Nat.le_sub_one_of_lt z) (Nat.sub_one_lt (Nat.ne_of_gt (Nat.zero_lt_of_lt z)))) q
  ·cases Nat.le_antisymm hij z; exact KeyOrd.kle_refl _
theorem gZ {xs:Array Keyed} {x:Nat} (h:NonIncK κ xs x) (q:κ.kle (KK κ xs x) (KK κ xs (x - 1))):NonIncK κ xs (x+1):=fun i j hij hj=>by
 rcases Nat.lt_or_ge j x with z | z
 ·exact h i j hij z
 ·cases Nat.le_antisymm (Nat.le_of_lt_succ hj) z
  rcases Nat.lt_or_ge i x with z | z
  ·exact KeyOrd.kle_trans q (h i (x - 1) (Nat.le_sub_one_of_lt z) (Nat.sub_one_lt (Nat.ne_of_gt (Nat.zero_lt_of_lt z))))
  ·cases Nat.le_antisymm hij z; exact KeyOrd.kle_refl _
theorem q9 {a nrem:Nat} {f:Nat→Option (Option Nat)×Nat→StateT SortSt Sem (ForInStep (Option (Option Nat)×Nat))} {Q:Option (Option Nat)×Nat→SortSt→Prop} {g:Nat→Option Bool→StateT SortSt Sem (ForInStep (Option (Option Nat)×Nat))}
  (L:wc M A s k₀ κ a₀) (hf:∀ x,f x (none,x)=(ltAt' (0+x) (0+x - 1) >>= g x)) (g1:∀ x,g x (some true)=pure (.done (none,x))) (g0:∀ x,g x (some false)=pure (.yield (none,x+1)))
  (hn:nrem≤a₀.size) (h1:1≤a) (h2:a≤nrem) (I:SI k₀ a₀ st) (hs:SortedToK κ (arrOf st) a) (h:∀ m,1≤m→m≤nrem→SortedToK κ (arrOf st) m→(m < nrem→κ.klt (KK κ (arrOf st) m) (KK κ (arrOf st) (m - 1)))→Q (none,m) st):wpS M A E s (forIn [a:nrem] (none,a) f) Q st:=by
 refine wpS_forRange (I:=fun x c st'=>c=(none,x)∧st'=st∧SortedToK κ (arrOf st) x) ?_ ?_ ⟨rfl,rfl,hs⟩
 ·rintro x c st' q1 q2 ⟨rfl,rfl,hs⟩
  rw [hf,Nat.zero_add]
  refine wpS_bind (eT L I (Nat.lt_of_lt_of_le q2 hn) (Nat.lt_of_le_of_lt (Nat.sub_le _ _) (Nat.lt_of_lt_of_le q2 hn)) fun b e=>?_)
  cases b
  ·rw [g0]; exact wpS_pure ⟨rfl,rfl,uu hs e⟩
  ·rw [g1]; exact wpS_pure (h x (zB1 h1 q1) (Nat.le_of_lt q2) hs fun _=>e)
 ·rintro c st' ⟨rfl,rfl,hs⟩
  rw [Nat.max_eq_right h2] at hs ⊢
  exact h _ (zB1 h1 h2) (Nat.le_refl _) hs fun q=>absurd q (Nat.lt_irrefl _)
noncomputable def EqB (κ:KKd) (xs:Array Keyed) (i j:Nat):Prop:=∀ k,i≤k→k < j→KK κ xs k=KK κ xs (j - 1)
theorem rk {xs:Array Keyed} {i j:Nat} (hj:j≤xs.size) (e:EqB κ xs i j):KK κ (mirror xs i j ((j - i) / 2))=KK κ xs:=funext fun k=>KK_mirror_equal hj e k
theorem mV {xs ys:Array Keyed} {n:Nat} (e:KK κ ys=KK κ xs):(SortedToK κ xs n→SortedToK κ ys n)∧(NonIncK κ xs n→NonIncK κ ys n):=⟨fun h i j a b=>by rw [e]; exact h i j a b,fun h i j a b=>by rw [e]; exact h i j a b⟩
theorem tq {xs:Array Keyed} {n:Nat} (hn:n≤xs.size) (h:NonIncK κ xs n):SortedToK κ (mirror xs 0 n ((n - 0) / 2)) n:=fun i j hij hj=>by
 rw [KK_mirror hn,KK_mirror hn,if_pos ⟨Nat.zero_le _,Nat.lt_of_le_of_lt hij hj⟩,if_pos ⟨Nat.zero_le _,hj⟩]
 exact h _ _ (Nat.sub_le_sub_left hij _) (by rw [Nat.zero_add]; exact Nat.lt_of_le_of_lt (Nat.sub_le _ _) (Nat.sub_lt (Nat.lt_of_le_of_lt (Nat.zero_le _) hj) (by decide)))
theorem jP {α:Type} {c:Prop} [Decidable c] {i j:Nat} {X:StateT SortSt Sem α} {Q:α→SortSt→Prop} (I:SI k₀ a₀ st) (hj:j≤a₀.size) (e:EqB κ (arrOf st) i j) (h:∀ st',SI k₀ a₀ st'→KK κ (arrOf st')=KK κ (arrOf st)→wpS M A E s X Q st'):wpS M A E s (if c then reverseSlice' i j >>= fun _=>X else X) Q st:=by
 split
 ·exact wpS_bind (lR I fun st' I' e'=>h st' I' (by rw [e']; exact rk (I.size▸hj) e))
 ·exact h st I rfl
theorem zn {k x:Nat} (a:x - (0+1)≤k) (b:k < x):k=x - 1:=Nat.le_antisymm (Nat.le_sub_one_of_lt b) a
theorem Ac {k x q:Nat} (a:x+1 - (q+1+1)≤k):x - (q+1)≤k:=Nat.add_sub_add_right x 1 (q+1)▸a
theorem lG {nrem:Nat} {Q:Option Nat→SortSt→Prop} (L:wc M A s k₀ κ a₀) (hn:nrem≤a₀.size) (h1:1≤nrem) (I:SI k₀ a₀ st)
  (h:∀ m st',SI k₀ a₀ st'→1≤m→m≤nrem→SortedToK κ (arrOf st') m→(EqB κ (arrOf st) 0 nrem→m=nrem∧arrOf st'=arrOf st)→Q (some m) st'):wpS M A E s (countRun' 0 nrem) Q st:=by
 rw [countRun'_eq]
 have hz:nrem≤(arrOf st).size:=I.size▸hn
 refine wpS_bind (q9 L (fun _=>rfl) (fun _=>rfl) (fun _=>rfl) hn (Nat.le_refl 1) h1 I (fun i j a b=>by cases Nat.lt_one_iff.mp b; obtain rfl:=Nat.le_zero.mp a; exact KeyOrd.kle_refl _) fun n hn1 hn2 hs hlt=>?_)
 dsimp only
 by_cases e:n=nrem
 ·rw [if_pos (by simpa using e)]; exact wpS_pure (h n st I hn1 hn2 hs fun _=>⟨e,rfl⟩)
 rw [if_neg (by simpa using e)]
 have hlt:=hlt (Nat.lt_of_le_of_ne hn2 e)
 have hno:¬ EqB κ (arrOf st) 0 nrem:=fun q=>by
  rw [q n (Nat.zero_le _) (Nat.lt_of_le_of_ne hn2 e),q (n - 1) (Nat.zero_le _) (Nat.lt_of_lt_of_le (Nat.sub_lt hn1 (by decide)) hn2)] at hlt
  exact absurd hlt (by unfold KeyOrd.klt; rw [κ.irrefl]; exact Bool.false_ne_true)
 have fin:∀ m st',SI k₀ a₀ st'→1≤m→m≤nrem→SortedToK κ (arrOf st') m→Q (some m) st':=fun m st' I' a b c=>h m st' I' a b c fun q=>absurd q hno
 clear h
 -- a run that went down is turned round,and goes on
 have turn:∀ {n':Nat} {st':SortSt} {f:Nat→Option (Option Nat)×Nat→StateT SortSt Sem (ForInStep (Option (Option Nat)×Nat))} {F:Option (Option Nat)×Nat→StateT SortSt Sem (Option Nat)} {g:Nat→Option Bool→StateT SortSt Sem (ForInStep (Option (Option Nat)×Nat))},
   (∀ x,f x (none,x)=(ltAt' (0+x) (0+x - 1) >>= g x))→(∀ x,g x (some true)=pure (.done (none,x)))→(∀ x,g x (some false)=pure (.yield (none,x+1)))→(∀ m,F (none,m)=pure (some m))→SI k₀ a₀ st'→1≤n'→n'≤nrem→NonIncK κ (arrOf st') n' →
   wpS M A E s (reverseSlice' 0 (0+n') >>= fun _=>forIn [n':nrem] (none,n') f >>= F) Q st':=fun hf g1 g0 hF I' q1 q2 hd=>by
  rw [Nat.zero_add]
  refine wpS_bind (lR I' fun st4 I4 e4=>wpS_bind (q9 L hf g1 g0 hn q1 q2 I4 (by rw [e4]; exact tq (zB1 q2 (I'.size▸hn)) hd) fun m a b c _=>?_))
  rw [hF]; exact wpS_pure (fin m st4 I4 a b c)
 have hlt':n < nrem:=Nat.lt_of_le_of_ne hn2 e
 have go:∀ {α:Type} {c:Prop} [Decidable c] {i j:Nat} {X:StateT SortSt Sem α} {F:Option Bool→StateT SortSt Sem α} {Q:α→SortSt→Prop},(c ↔ n > 1)→i=0→j=n - 1→wpS M A E s (F (some true)) Q st→F (some false)=(reverseSlice' 0 (0+n) >>= fun _=>X) →
   (∀ st2,SI k₀ a₀ st2→NonIncK κ (arrOf st2) (n+1)→wpS M A E s X Q st2)→wpS M A E s (if c then ltAt' i j >>= F else X) Q st:=fun hc hi hj ht hF hX=>by
  subst hi hj
  have dn:∀ {ys:Array Keyed},KK κ ys=KK κ (arrOf st)→NonIncK κ (arrOf st) n→NonIncK κ ys (n+1):=fun e h=>(mV e).2 (gZ h (KeyOrd.kle_of_klt hlt))
  split
  ·refine wpS_bind (eT L I (Nat.lt_of_lt_of_le (Nat.zero_lt_of_lt hlt') hn) (Nat.lt_of_le_of_lt (Nat.sub_le _ _) (Nat.lt_of_lt_of_le hlt' hn)) fun b eb=>?_)
   cases b
   ·have eqs:∀ k,k < n→KK κ (arrOf st) k=KK κ (arrOf st) (n - 1):=fun k hk=>KeyOrd.kle_antisymm (hs k (n - 1) (Nat.le_sub_one_of_lt hk) (Nat.sub_one_lt_of_lt hn1)) (KeyOrd.kle_trans eb (hs 0 k (Nat.zero_le _) hk))
    rw [hF,Nat.zero_add]
    exact wpS_bind (lR I fun st' I' e'=>hX st' I' (dn (by rw [e']; exact rk (zB1 hn2 hz) fun k _ hk=>eqs k hk) fun i j hij hj=>by rw [eqs i (Nat.lt_of_le_of_lt hij hj),eqs j hj]; exact KeyOrd.kle_refl _))
   ·exact ht
  ·rename_i hc'
   have:n=1:=Nat.le_antisymm (Nat.le_of_not_lt fun q=>hc' (hc.mpr q)) hn1
   exact hX st I (dn rfl fun i j hij hj=>by rw [this] at hj; obtain rfl:=Nat.lt_one_iff.mp hj; obtain rfl:=Nat.le_zero.mp hij; exact KeyOrd.kle_refl _)
 refine go Iff.rfl rfl (by rw [Nat.zero_add]) (wpS_pure (fin n st I hn1 hn2 hs)) rfl fun st2 I2 d2=>?_
 refine wpS_bind (wpS_lift (wpAny_rule ⟨rfl,?_⟩))
 have one:∀ {xs:Array Keyed} {x:Nat},EqB κ xs (x - (0+1)) x:=fun {xs x} k a b=>congrArg (KK κ xs) (zn a b)
 refine wpS_bind (wpS_forRange (I:=fun x c st'=>∃ q,c=(none,x,q)∧SI k₀ a₀ st'∧NonIncK κ (arrOf st') x∧EqB κ (arrOf st') (x - (q+1)) x) ?_ ?_ ⟨0,rfl,I2,d2,one⟩)
 ·rintro x c st' hx1 hx2 ⟨q,rfl,I',d',e'⟩
  have hxa:=Nat.lt_of_lt_of_le hx2 hn
  have hx0:x - 1 < a₀.size:=Nat.lt_of_le_of_lt (Nat.sub_le _ _) hxa
  have z0:0+x=x:=Nat.zero_add x
  refine wpS_bind (eT L I' (z0.symm▸hxa) (z0.symm▸hx0) fun b eb=>?_)
  dsimp only at eb
  rw [z0] at eb
  cases b
  ·refine wpS_bind (eT L I' (z0.symm▸hx0) (z0.symm▸hxa) fun b eb'=>?_)
   dsimp only at eb'
   rw [z0] at eb'
   cases b
   ·have ek:KK κ (arrOf st') x=KK κ (arrOf st') (x - 1):=KeyOrd.kle_antisymm eb' eb
    refine wpS_pure ⟨q+1,rfl,I',gZ d' eb',fun k a b=>?_⟩
    rw [Nat.add_sub_cancel,ek]
    rcases Nat.lt_or_ge k x with z | z
    ·exact e' k (Ac a) z
    ·rw [Nat.le_antisymm (Nat.le_of_lt_succ b) z,ek]
   ·exact wpS_pure (jP I' (z0.symm▸Nat.le_of_lt hxa) (z0.symm▸e') fun st3 I3 k3=>
     turn (fun _=>rfl) (fun _=>rfl) (fun _=>rfl) (fun _=>rfl) I3 (zB1 (Nat.succ_le_succ (Nat.zero_le _)) hx1) (Nat.le_of_lt hx2) ((mV k3).2 d'))
  ·exact jP I' (z0.symm▸Nat.le_of_lt hxa) (z0.symm▸e') fun st3 I3 k3=>wpS_pure ⟨0,rfl,I3,(mV k3).2 (gZ d' (KeyOrd.kle_of_klt eb)),one⟩
 ·rintro c st' ⟨q,rfl,I',d',e'⟩
  rw [Nat.max_eq_right hlt'] at d' e'
  have z0:0+max (n+1) nrem=nrem:=by rw [Nat.zero_add,Nat.max_eq_right hlt']
  have z1:max (n+1) nrem=nrem:=Nat.max_eq_right hlt'
  exact jP I' (z0.symm▸hn) (z0.symm▸e') fun st3 I3 k3=>turn (fun _=>rfl) (fun _=>rfl) (fun _=>rfl) (fun _=>rfl) I3 (z1.symm▸h1) (zB2 z1) (z1.symm▸(mV k3).2 d')
end
end Mine
end
noncomputable section
namespace Mine
open PySem PySem.Calls PyProof.Rows PySem.W
section
variable {M:Model} {A:Around} {s:Shared} {k₀:SortKind} {a₀:Array Keyed} {st:SortSt} {E:Value→Shared→Prop} {κ:KKd}
theorem pX {xs:Array Keyed} {k l:Nat} (hk:k < xs.size) (hl:l≤k) (h:SortedToK κ xs k) (a:∀ i,i < l→κ.kle (KK κ xs i) (KK κ xs k)) (b:∀ i,l≤i→i < k→κ.kle (KK κ xs k) (KK κ xs i)):SortedToK κ (bubble xs k (k - l)) (k+1):=fun i j hij hj=>by
 rw [KK_bubble hk (Nat.sub_le _ _),KK_bubble hk (Nat.sub_le _ _),Nat.sub_sub_self hl]
 have hj:=Nat.le_of_lt_succ hj
 rcases Nat.lt_trichotomy i l with qi | rfl | qi
 ·rw [if_neg (Nat.ne_of_lt qi),if_neg fun z=>Nat.lt_asymm z.1 qi]
  rcases Nat.lt_trichotomy j l with qj | rfl | qj
  ·rw [if_neg (Nat.ne_of_lt qj),if_neg fun z=>Nat.lt_asymm z.1 qj]; exact h i j hij (Nat.lt_of_lt_of_le qj hl)
  ·rw [if_pos rfl]; exact a i qi
  ·rw [if_neg (Nat.ne_of_gt qj),if_pos ⟨qj,hj⟩]; exact h i (j - 1) (Nat.le_sub_one_of_lt (Nat.lt_trans qi qj)) (Nat.lt_of_lt_of_le (Nat.sub_one_lt_of_lt qj) hj)
 ·rw [if_pos rfl]
  rcases Nat.lt_or_ge i j with qj | qj
  ·rw [if_neg (Nat.ne_of_gt qj),if_pos ⟨qj,hj⟩]; exact b (j - 1) (Nat.le_sub_one_of_lt qj) (Nat.lt_of_lt_of_le (Nat.sub_one_lt_of_lt qj) hj)
  ·obtain rfl:=Nat.le_antisymm hij qj; rw [if_pos rfl]; exact KeyOrd.kle_refl _
 ·have qj:l < j:=Nat.lt_of_lt_of_le qi hij
  rw [if_neg (Nat.ne_of_gt qi),if_pos ⟨qi,zB1 hij hj⟩,if_neg (Nat.ne_of_gt qj),if_pos ⟨qj,hj⟩]
  exact h (i - 1) (j - 1) (Nat.sub_le_sub_right hij 1) (Nat.lt_of_lt_of_le (Nat.sub_one_lt_of_lt qj) hj)
theorem zu {l r k x:Nat} (h:¬ l ≥ r) (hr:r≤k) (hf:r - l≤k - x):(l+r) / 2 < k∧l≤(l+r) / 2∧(l+r) / 2 < r∧(l+r) / 2 - l≤k - (x+1)∧r - ((l+r) / 2+1)≤k - (x+1):=
 have h:=Nat.not_le.mp h
 have a:(l+r) / 2 < r:=Nat.div_lt_of_lt_mul (Nat.two_mul r▸Nat.add_lt_add_right h r)
 have b:l≤(l+r) / 2:=(Nat.le_div_iff_mul_le Nat.two_pos).mpr (Nat.mul_two l▸Nat.add_le_add_left (Nat.le_of_lt h) l)
 ⟨Nat.lt_of_lt_of_le a hr,b,a,Nat.le_pred_of_lt (Nat.lt_of_lt_of_le (Nat.sub_lt_sub_right b a) hf),Nat.le_pred_of_lt (Nat.lt_of_lt_of_le (Nat.sub_lt_sub_left h (Nat.lt_succ_of_le b)) hf)⟩
theorem iL {n ok:Nat} {Q:Bool→SortSt→Prop} (L:wc M A s k₀ κ a₀) (hn:n≤a₀.size) (h1:1≤ok) (h2:ok≤n) (I:SI k₀ a₀ st) (hs:SortedToK κ (arrOf st) ok) (h:∀ st',SI k₀ a₀ st'→SortedToK κ (arrOf st') n→Q true st'):wpS M A E s (binarySort' 0 n ok) Q st:=by
 rw [binarySort'_eq]
 have hm:max ok 1=ok:=Nat.max_eq_left h1
 refine wpS_bind (wpS_forRange (I:=fun k c st'=>c=(none,())∧SI k₀ a₀ st'∧SortedToK κ (arrOf st') k) ?_ (fun c st' ⟨e,I',hs'⟩=>by subst e; rw [hm,Nat.max_eq_right h2] at hs'; exact wpS_pure (h st' I' hs')) ⟨rfl,I,hm.symm▸hs⟩)
 rintro k c st' hk1 hk2 ⟨rfl,I',hs'⟩
 have hka:=Nat.lt_of_lt_of_le hk2 hn
 have fin:∀ l,l≤k→(∀ i,i < l→κ.kle (KK κ (arrOf st') i) (KK κ (arrOf st') k))→(∀ i,l≤i→i < k→κ.kle (KK κ (arrOf st') k) (KK κ (arrOf st') i))→SI k₀ a₀ (setArr st' (bubble (arrOf st') (0+k) (0+k - (0+l))))∧SortedToK κ (arrOf (setArr st' (bubble (arrOf st') (0+k) (0+k - (0+l))))) (k+1):=fun l hl a b=>
  ⟨I'.setArr (bubble_perm _ _ _),by show SortedToK κ (bubble (arrOf st') (0+k) (0+k - (0+l))) (k+1); rw [Nat.zero_add,Nat.zero_add]; exact pX (I'.size▸hka) hl hs' a b⟩
 refine wpS_bind (wpS_forRange (I:=fun x c st''=>st''=st'∧∃ l r,c=(none,l,r)∧l≤r∧r≤k∧r - l≤k - x∧(∀ i,i < l→κ.kle (KK κ (arrOf st') i) (KK κ (arrOf st') k))∧∀ i,r≤i→i < k→κ.kle (KK κ (arrOf st') k) (KK κ (arrOf st') i)) ?_ ?_ ⟨rfl,0,k,rfl,Nat.zero_le _,Nat.le_refl _,Nat.le_refl _,fun i q=>absurd q (Nat.not_lt_zero _),fun i q z=>absurd z (Nat.not_lt.mpr q)⟩)
 ·rintro x c st'' _ _ ⟨rfl,l,r,rfl,hlr,hr,hf,a,b⟩
  dsimp only
  split
  ·rename_i q
   cases Nat.le_antisymm hlr q
   exact wpS_pure (wpS_bind (by rw [moveDown'_eq]; exact wpS_modify (wpS_pure ⟨rfl,fin l hr a b⟩)))
  ·rename_i q
   obtain ⟨m1,m2,m3,m4,m5⟩:=zu q hr hf
   refine wpS_bind (eT L I' (by rw [Nat.zero_add]; exact hka) (by rw [Nat.zero_add]; exact Nat.lt_trans m1 hka) fun bb e=>?_)
   rw [Nat.zero_add,Nat.zero_add] at e
   cases bb
   ·exact wpS_pure ⟨rfl,_,r,rfl,m3,hr,m5,fun i hi=>KeyOrd.kle_trans (hs' i _ (Nat.le_of_lt_succ hi) m1) e,b⟩
   ·exact wpS_pure ⟨rfl,l,_,rfl,m2,Nat.le_of_lt m1,m4,a,fun i hi hk=>KeyOrd.kle_trans (KeyOrd.kle_of_klt e) (hs' _ i hi hk)⟩
 ·rintro c st'' ⟨rfl,l,r,rfl,hlr,hr,hf,a,b⟩
  have:l=r:=Nat.le_antisymm hlr (by have:r - l≤k - max 0 k:=hf; rw [Nat.max_eq_right (Nat.zero_le _),Nat.sub_self] at this; exact Nat.sub_eq_zero_iff_le.mp (Nat.le_zero.mp this))
  subst this
  exact wpS_bind (by rw [moveDown'_eq]; exact wpS_modify (wpS_pure ⟨rfl,fin l hr a b⟩))
theorem iS {α:Type} {c:Prop} [Decidable c] {t e:StateT SortSt Sem α} {Q:α→SortSt→Prop} (h1:c→wpS M A E s t Q st) (h2:¬ c→wpS M A E s e Q st):wpS M A E s (if c then t else e) Q st:=by
 split
 ·exact h1 ‹_›
 ·exact h2 ‹_›
theorem pM {n:Nat} (h2:2≤n) (h:n < 64):minRun' n n 0=n:=by
 obtain ⟨f,rfl⟩:∃ f,n=f+2:=⟨n - 2,(Nat.sub_add_cancel h2).symm⟩
 rw [minRun'_succ,if_pos h]
theorem SI.out (I:SI k₀ a₀ st):∃ xs g,st=SortSt.mk' k₀ xs #[] g none∧xs.Perm a₀:=by
 obtain ⟨hp,hk,hf,hd⟩:=I
 obtain ⟨k,xs,p,g,f⟩:=st
 subst hk; subst hf; subst hd
 exact ⟨_,_,rfl,hp⟩
theorem lF {Q:Unit→SortSt→Prop} (L:wc M A s k₀ κ a₀) (I:SI k₀ a₀ st) (h2:2≤a₀.size) (hq:a₀.size < 64∨EqB κ (arrOf st) 0 a₀.size) (h:∀ st',(arrOf st').Perm a₀→failedOf st'=none→SortedToK κ (arrOf st') a₀.size→Q () st'):wpS M A E s sortRuns' Q st:=by
 refine wpS_bind (wpS_get ?_)
 extract_lets size mr lo
 have hs:size=a₀.size:=I.size
 have hm:a₀.size < 64→mr=size:=fun q=>pM (hs▸h2) (hs▸q)
 clear_value mr size
 subst hs
 refine wpS_bind (wpS_mono (wpS_forRange (I:=fun x c st'=>(x=0∧c=(none,0)∧st'=st)∨(c=(none,a₀.size)∧(arrOf st').Perm a₀∧failedOf st'=none∧(pendingOf st').size≤1∧SortedToK κ (arrOf st') a₀.size)) (Q:=fun c st'=>c=(none,a₀.size)∧(arrOf st').Perm a₀∧failedOf st'=none∧(pendingOf st').size≤1∧SortedToK κ (arrOf st') a₀.size) ?_ ?_ (.inl ⟨rfl,rfl,rfl⟩)) ?_)
 ·rintro x c st' _ hx (⟨rfl,rfl,rfl⟩ | ⟨rfl,R⟩)
  ·refine iS (fun hl=>absurd (zB1 h2 (hl:a₀.size≤0)) (by decide)) fun hl=>?_
   refine wpS_bind (lG (nrem:=a₀.size) L (Nat.le_refl _) (Nat.le_of_succ_le h2) I fun m st1 I1 hm1 hm2 hs1 hall=>?_)
   dsimp (zeta:=false) only
   extract_lets n jp force n'
   let RR:ForInStep (Option Unit×Nat)→SortSt→Prop:=fun r s''=>match r with
    | .done c'=>c'=(none,a₀.size)∧(arrOf s'').Perm a₀∧failedOf s''=none∧(pendingOf s'').size≤1∧SortedToK κ (arrOf s'') a₀.size
    | .yield c'=>(0+1=0∧c'=(none,0)∧s''=st')∨(c'=(none,a₀.size)∧(arrOf s'').Perm a₀∧failedOf s''=none∧(pendingOf s'').size≤1∧SortedToK κ (arrOf s'') a₀.size)
   have hjp:∀ n st1,SI k₀ a₀ st1→n=a₀.size→SortedToK κ (arrOf st1) a₀.size→wpS M A E s (jp () n) RR st1:=by
    intro n st1 I1 e hs1
    obtain ⟨xs,g,rfl,hp⟩:=I1.out
    subst e
    refine wpS_bind (wpS_get ?_)
    exact wpS_bind (wpS_modify (wpS_pure (.inr ⟨by rw [Nat.zero_add],hp,rfl,Nat.le_refl 1,hs1⟩)))
   refine wpS_mono (?_:wpS M A E s _ RR st1) fun r _ q=>by cases r <;> exact q
   refine iS (fun q=>?_) fun q=>?_
   ·refine wpS_bind (wpS_lift (wpAny_rule ⟨rfl,?_⟩))
    have q:m < mr:=q
    have hf:min (a₀.size - 0) mr=a₀.size:=hq.elim (fun hq=>by rw [hm hq]; exact Nat.min_self _) fun hq=>Nat.min_eq_left (Nat.le_of_lt ((hall hq).1▸q:a₀.size < mr))
    show wpS M A E s (binarySort' 0 (min (a₀.size - 0) mr) m >>= _) _ _
    rw [hf]
    exact wpS_bind (iL L (Nat.le_refl _) hm1 hm2 I1 hs1 fun st2 I2 hs2=>hjp _ st2 I2 hf hs2)
   ·have q:¬ m < mr:=q
    have e:m=a₀.size:=hq.elim (fun hq=>Nat.le_antisymm hm2 (Nat.le_of_not_lt fun z=>q (hm hq▸z))) fun hq=>(hall hq).1
    exact hjp m st1 I1 e (e▸hs1)
  ·exact iS (fun hl=>wpS_pure ⟨rfl,R⟩) fun hl=>absurd (Nat.le_refl a₀.size) hl
 ·rintro c st' (⟨q,_⟩ | q)
  ·exact absurd q (by rw [Nat.zero_max]; exact Nat.ne_of_gt (Nat.lt_of_lt_of_le (by decide) h2))
  ·exact q
 ·rintro c st' ⟨rfl,hp,hf,hd,hs⟩
  refine wpS_bind (wpS_forRange (I:=fun _ c st''=>c=(none,())∧st''=st') ?_ ?_ ⟨rfl,rfl⟩)
  ·rintro y c st1 _ _ ⟨rfl,rfl⟩
   refine wpS_bind (wpS_get ?_)
   exact iS (fun _=>wpS_pure (wpS_pure (h _ hp hf hs))) fun q'=>absurd hd q'
  ·rintro c st1 ⟨rfl,rfl⟩
   exact wpS_pure (h _ hp hf hs)
end
end Mine
end
noncomputable section
namespace Mine
open PySem PySem.Calls PyProof.Rows PySem.W
theorem wR:typeLookup (.type "set") "__len__"=pure (some (.builtin "set.__len__")):=by rw [typeLookup_type,builtinLookup_eq_fast]; kernel_rfl
section
variable {prog:Program} {w:World} {A:Around} {E:Value→Shared→Prop} {s:Shared} {S:Addr} {es:Array (Int×Value)} {L:Bool}
theorem uX {Q:Bool→Shared→Prop} (hT:s.TypeIs (.ref S) "set") (h:Q false s):wpAny (model prog w) A (Builtin.List.listLengthHint (.ref S)) Q E s:=by
 unfold Builtin.List.listLengthHint
 refine zC1 (wpAny_specialOf hT wR ?_)
 wp_delta
 refine zC1 (wpAny_isInstance hT sub_set_self ?_)
 refine (?_:wpAny _ A (typeOf (Value.ref S) >>= _) _ _ _)
 exact zC1 (wpAny_typeOf hT (wpAny_pure h))
theorem ip {Q:List Value→Shared→Prop} (hh:A.handled=none) (hL:L = !w.params.followText "set-order") (T:TS s.heap S es L)
  (h:∀ (out:List Value) h' d tk,out.Perm (es.toList.map (·.2))→aH s.heap h'→Q out { s with heap:=h',drawn:=d,toks:=tk }):wpAny (model prog w) A (collect (.ref S)) Q E s:=by
 have hn:es.size≤sizeLine:=by
  obtain ⟨o,ep,t,ho,hex,hd,T,hr,hl⟩:=T
  refine zB1 (?_:es.size≤511) (by decide)
  rcases T.msk with q | q | q | q <;> lia
 have T0:=T
 obtain ⟨o,ep,t,ho,hex,hd,_⟩:=T
 have hT:∀ s':Shared,s'.heap.get? S=some o→s'.TypeIs (.ref S) "set":=fun s' e=>⟨o,e,hex.1⟩
 have hSI:s.heap.objs.size≠S:=(dx ho).symm
 unfold collect
 refine zC1 (wpAny_runValue (codeAny_builtin PySem.F.entry_proto_collect ?_))
 rw [Around.under_plainId PySem.F.plain_proto_collect _]
 refine (?_:wpAny _ A.in1 (newList [] >>= fun l=>again (.builtin "list.__iadd__" ⟨[l,.ref S],[]⟩)) _ _ s)
 refine zC1 (wpAny_newObj_type ?_)
 refine zC2 ⟨plainId_quiet PySem.F.plain_list_iadd _,codeAny_builtin PySem.F.entry_list_iadd ?_⟩
 rw [Around.under_plainId PySem.F.plain_list_iadd _]
 refine (?_:wpAny _ A.in1 (Builtin.List.listExtendWith (.ref s.heap.objs.size) (.ref S) (.ref s.heap.objs.size)) _ _ _)
 have k1:=aA s.heap { cls:=.type "list",data:=.seq ([]:List Value).toArray }
 refine ql (R:=wants _ E) (C:=fun out=>out.Perm (es.toList.map (·.2))) (s:={ s with heap:=s.heap.push { cls:=.type "list",data:=.seq ([]:List Value).toArray } }) hh (Heap.get?_push_size _ rfl) hSI (.inl rfl) (hT _ (k1 _ _ ho)) (fun s' Q E k hq=>uX (hT _ (k _ _ (k1 _ _ ho))) hq) (fun Q E hQ=>?_) fun out h' d tk c' hC k hD=>?_
 ·refine uT hL (s:={ s with heap:=s.heap.push { cls:=.type "list",data:=.seq ([]:List Value).toArray } }) (?_:TS _ S es L) fun ord I fp wr St h' d py k2 hw hf W hst=>?_
  ·obtain ⟨o,ep,t,ho,q⟩:=T0; exact ⟨o,ep,t,k1 _ _ ho,q⟩
  have hl:ord.length=es.size:=by rw [py.length_eq,zA4,zB3]
  exact hQ ord I fp wr St h' d py (hl▸hn) k2 hw (fun q=>(hf _ q).elim (fun e=>by rw [Heap.get?_push_size _ rfl] at e; (injection e; done)) hSI) (hl▸W A.in1 hh) hst
 ·refine (?_:wpAny _ A (load s.heap.objs.size >>= _) _ _ _)
  refine zC1 (wpAny_load hD ?_)
  exact zC2 (h out h' d tk hC fun b ob e=>k b ob (dx e) (k1 _ _ e))
end
end Mine
end
noncomputable section
namespace Mine
open PySem PySem.Calls PyProof.Rows PySem.W
noncomputable abbrev gJ:Bool→SortKind:=sortPriv% PySem.Builtin.KeyKind.tuples
section
variable {prog:Program} {w:World} {A:Around} {E:Value→Shared→Prop} {s:Shared}
theorem zm {b:Bool} {p q:Value} {k m:Sc} {Q:Bool→Shared→Prop} (hp:wT k p=true) (hq:wT m q=true) (hk:(k.isLeft==m.isLeft)=true) (h:Q (ig k m) s):wpAny (model prog w) A (oneLt' b p q) Q E s:=
 bv (C:=fun k p=>(k.isLeft==m.isLeft)=true→Q (ig k m) s→wpAny (model prog w) A (oneLt' b p q) Q E s) hp
  (fun i t hk h=>bv (C:=fun m q=>(true==m.isLeft)=true→Q (ig (.inl i) m) s→wpAny (model prog w) A (oneLt' b (.int i t) q) Q E s) hq (fun j u _ h=>by
    cases b
    ·rw [oneLt'_eq]; exact zC1 (P.lt_int (wpAny_truthy_bool h))
    ·exact oneLt_int h) (fun _ _ hk=>nomatch hk) hk h)
  (fun x t hk h=>bv (C:=fun m q=>(false==m.isLeft)=true→Q (ig (.inr x) m) s→wpAny (model prog w) A (oneLt' b (.str x t) q) Q E s) hq (fun _ _ hk=>nomatch hk) (fun y u _ h=>by
    cases b
    ·rw [oneLt'_eq]; exact zC1 (lt_str (wpAny_truthy_bool h))
    ·exact oneLt_str h) hk h) hk h
set_option tactic.hygienic true in
theorem zC {b:Bool} {ks ms:List Sc} {c c':Addr} {Q:Bool→Shared→Prop} (hc:IsTupleKey (aB prog w) s.heap ks c) (hc':IsTupleKey (aB prog w) s.heap ms c') (hk:ltK ks ms=true) (h:Q (bG ks ms) s):wpAny (model prog w) A (keyLt' (gJ b) (.ref c) (.ref c')) Q E s:=by
 obtain ⟨o,items,n,ho,_,hd,hi⟩:=hc
 obtain ⟨o',items',n',ho',_,hd',hi'⟩:=hc'
 refine zC1 (listItems_at ho hd ?_)
 refine zC1 (listItems_at ho' hd' ?_)
 refine zC1 (wpAny_forIn_list _ (fun rest r s'=>r.1=none∧s'=s∧∃ ks ms vs us j,rest=(vs.zip us).zipIdx j∧ItemsAre (aB prog w) ks vs∧ItemsAre (aB prog w) ms us∧ltK ks ms=true∧Q (bG ks ms) s∧(decide (items.size < items'.size)=decide (vs.length < us.length))) _ ?_ ?_ _ _ ⟨rfl,rfl,ks,ms,items.toList,items'.toList,0,rfl,hi,hi',hk,h,rfl⟩)
 ·rintro v rest r s' ⟨hr,rfl,ks,ms,vs,us,j,e,hv,hu,hk,h,hsz⟩
  cases hv with
  | nil=>(injection e; done)
  | cons h1 hv=>
   cases hu with
   | nil=>(injection e; done)
   | cons h2 hu=>
    cases e
    refine zC1 ((aB prog w).eqBool h1 h2 ?_)
    rename_i k p ks vs m q ms us
    rw [zw] at hk
    rw [lex_cc] at h
    by_cases e:k=m
    ·rw [decide_eq_true e]
     rw [if_pos e] at hk h
     exact zC2 ⟨rfl,rfl,ks,ms,vs,us,j+1,rfl,hv,hu,hk,h,hsz.trans (decide_eq_decide.mpr Nat.succ_lt_succ_iff)⟩
    ·rw [decide_eq_false e]
     rw [if_neg e] at hk h
     exact zC1 (zm h1 h2 hk (zC2 (wpAny_pure h)))
 ·rintro ⟨r1,r2⟩ s' ⟨hr,rfl,ks,ms,vs,us,j,e,hv,hu,hk,h,hsz⟩
  subst hr
  refine zC2 ?_
  show Q (decide (items.size < items'.size)) s'
  rw [hsz]
  have:bG ks ms=decide (vs.length < us.length):=by
   cases hv with
   | nil=>cases hu <;> rfl
   | cons h1 hv=>
    cases hu with
    | nil=>rfl
    | cons h2 hu=>(injection e; done)
  rw [← this]; exact h
theorem r7 {α β:Type} {M:Model} {f:α→Sem β} {C:β→Prop}:∀ {l:List α} {Q:List β→Shared→Prop},(∀ a∈l,∀ Q:β→Shared→Prop,(∀ b,C b→Q b s)→wpAny M A (f a) Q E s)→(∀ bs,(∀ b∈bs,C b)→Q bs s)→wpAny M A (l.mapM f) Q E s
 | [],Q,_,h=>by rw [List.mapM_nil]; exact zC2 (h [] fun _ q=>nomatch q)
 | a :: l,Q,hf,h=>by
  rw [List.mapM_cons]
  refine zC1 (hf a (.head _) _ fun b hb=>zC1 (r7 (fun a q=>hf a (.tail _ q)) fun bs hbs=>zC2 (h _ fun b' q=>?_)))
  rcases List.mem_cons.mp q with rfl | q
  ·exact hb
  ·exact hbs _ q
theorem pf {α β:Type} {M:Model} {f:α→Sem β} {C:β→Prop} {xs:Array α} {Q:Array β→Shared→Prop} (hf:∀ a∈xs.toList,∀ Q:β→Shared→Prop,(∀ b,C b→Q b s)→wpAny M A (f a) Q E s) (h:∀ bs,(∀ b∈bs.toList,C b)→Q bs s):wpAny M A (xs.mapM f) Q E s:=by
 rw [Array.mapM_eq_mapM_toList]
 exact zC1 (r7 hf fun bs hb=>zC2 (h _ hb))
theorem uR {vs:Array Value} {Q:SortKind→Shared→Prop} (hv:∀ v∈vs.toList,∃ c x ks,v=.ref c∧IsTupleKey (aB prog w) s.heap (.inr x :: ks) c) (h:∀ b,Q (gJ b) s):wpAny (model prog w) A (keyKind' vs) Q E s:=by
 refine zC1 (pf (C:=fun r=>∃ x t,r=some (.str x t)) (fun v m Q hQ=>?_) fun fs hfs=>?_)
 ·obtain ⟨c,x,ks,rfl,k⟩:=hv v m
  have hT:=k.typeIs
  obtain ⟨o,items,n,ho,_,hd,hi⟩:=k
  refine zC1 (wpAny_typeOf hT ?_)
  refine zC1 (listItems_at ho hd (zC2 (hQ _ ?_)))
  obtain ⟨l⟩:=items
  cases hi with
  | cons hx _=>obtain ⟨t,rfl⟩:=Value.isStrOf_shape hx; exact ⟨x,t,rfl⟩
 ·have ha:fs.all (·.isSome)=true:=by
   rw [← Array.all_toList,List.all_eq_true]; intro f m; obtain ⟨x,t,rfl⟩:=hfs f m; rfl
  rw [if_pos ha]
  refine zC1 (wpAny_rule ?_)
  refine zC1 (zC1 (pf (C:=fun _=>True) (fun v m Q hQ=>?_) fun ts _=>?_))
  ·rw [Array.toList_filterMap] at m
   obtain ⟨f,mf,e⟩:=List.mem_filterMap.mp m
   obtain ⟨x,t,rfl⟩:=hfs f mf
   (injection e with e; subst e)
   exact wpAny_typeOf (typeIs_str s x t) (hQ _ trivial)
  ·split
   ·exact zC2 (zC2 (h _))
   ·exact zC2 (zC2 (h _))
end
end Mine
end
noncomputable section
namespace Mine
open PySem PySem.Calls PyProof.Rows PySem.W
theorem tf (a:Sc):ig a a=false:=by
 cases a with
 | inl i=>exact decide_eq_false (Int.lt_irrefl i)
 | inr x=>exact decide_eq_false (List.lt_irrefl _)
theorem uA {a b c:Sc} (h1:ig a b=true) (h2:ig b c=true):ig a c=true:=by
 cases a with
 | inl i=>cases b with
  | inl j=>cases c with
   | inl k=>exact decide_eq_true (Int.lt_trans (of_decide_eq_true h1) (of_decide_eq_true h2))
   | inr z=>rfl
  | inr y=>cases c with
   | inl k=>(injection h2; done)
   | inr z=>rfl
 | inr x=>cases b with
  | inl j=>(injection h1; done)
  | inr y=>cases c with
   | inl k=>(injection h2; done)
   | inr z=>exact decide_eq_true (List.lt_trans (of_decide_eq_true h1) (of_decide_eq_true h2))
theorem uB {a b:Sc} (h:a≠b) (h1:ig a b=false):ig b a=true:=by
 cases a with
 | inl i=>cases b with
  | inl j=>exact decide_eq_true (Int.lt_iff_le_and_ne.mpr ⟨Int.not_lt.mp (of_decide_eq_false h1),fun e=>h (congrArg _ e.symm)⟩)
  | inr y=>(injection h1; done)
 | inr x=>cases b with
  | inl j=>rfl
  | inr y=>
   refine decide_eq_true (Classical.byContradiction fun q=>h (congrArg _ ?_))
   have:=List.le_antisymm (List.not_lt.mp q) (List.not_lt.mp (of_decide_eq_false h1))
   obtain ⟨⟨x⟩⟩:=x; obtain ⟨⟨y⟩⟩:=y
   exact congrArg _ (congrArg _ this)
theorem je:∀ l:List Sc,bG l l=false
 | []=>rfl
 | k :: ks=>by rw [lex_cc,if_pos rfl]; exact je ks
theorem g6:∀ {a b c:List Sc},bG a b=true→bG b c=true→bG a c=true
 | [],[],_,h,_=>nomatch h
 | [],_ :: _,[],_,h=>nomatch h
 | [],_ :: _,_ :: _,_,_=>rfl
 | _ :: _,[],_,h,_=>nomatch h
 | _ :: _,_ :: _,[],_,h=>nomatch h
 | x :: a,y :: b,z :: c,h1,h2=>by
  rw [lex_cc] at h1 h2 ⊢
  by_cases e1:x=y
  ·subst e1
   rw [if_pos rfl] at h1
   by_cases e2:x=z
   ·rw [if_pos e2] at h2 ⊢; exact g6 h1 h2
   ·rw [if_neg e2] at h2 ⊢; exact h2
  ·rw [if_neg e1] at h1
   by_cases e2:y=z
   ·subst e2; rw [if_neg e1]; exact h1
   ·rw [if_neg e2] at h2
    have:=uA h1 h2
    rw [if_neg fun e=>by rw [e,tf] at this; (injection this; done)]; exact this
theorem g7:∀ {a b:List Sc},a≠b→bG a b=false→bG b a=true
 | [],[],h,_=>absurd rfl h
 | [],_ :: _,_,h=>nomatch h
 | _ :: _,[],_,_=>rfl
 | x :: a,y :: b,h,h1=>by
  rw [lex_cc] at h1 ⊢
  by_cases e:x=y
  ·subst e; rw [if_pos rfl] at h1 ⊢; exact g7 (fun e=>h (by rw [e])) h1
  ·rw [if_neg e] at h1; rw [if_neg (Ne.symm e)]; exact uB e h1
open Classical in
noncomputable def eJ (prog:Program) (w:World) (h:Heap):Value→Option (List Sc)
 | .ref c=>if q:∃ ks,IsTupleKey (aB prog w) h ks c then some q.choose else none
 | _=>none
theorem eV {prog:Program} {w:World} {h:Heap} {c:Addr} {ks:List Sc} (k:IsTupleKey (aB prog w) h ks c):eJ prog w h (.ref c)=some ks:=by
 have q:∃ ks,IsTupleKey (aB prog w) h ks c:=⟨ks,k⟩
 exact (dif_pos q).trans (congrArg some (q.choose_spec.inj k))
noncomputable def cJ (prog:Program) (w:World) (h:Heap):KKd where
 α:=List Sc
 blt:=bG
 irrefl:=je
 trans:=fun _ _ _=>g6
 negTrans:=fun a b c h=>by
  by_cases e:a=b
  ·subst e; exact .inr h
  ·cases q:bG a b with
   | true=>exact .inl rfl
   | false=>exact .inr (g6 (g7 e q) h)
 total:=fun a b h1 h2=>Classical.byContradiction fun e=>by rw [g7 e h1] at h2; (injection h2; done)
 keyOf:=eJ prog w h
 dflt:=[]
end Mine
end
noncomputable section
namespace Mine
open PySem PySem.Calls PyProof.Rows PySem.W
section
variable {prog:Program} {w:World} {A:Around} {E:Value→Shared→Prop} {s:Shared}
structure Ordered (prog:Program) (w:World) (h:Heap) (vs:List Value):Prop where
 keys:∀ v∈vs,∃ c x ks,v=.ref c∧IsTupleKey (aB prog w) h (.inr x :: ks) c
 lt:∀ c c' ks ms,.ref c∈vs→.ref c'∈vs→IsTupleKey (aB prog w) h ks c→IsTupleKey (aB prog w) h ms c'→ltK ks ms=true
theorem Ordered.move {h h':Heap} {vs ws:List Value} (O:Ordered prog w h vs) (p:ws.Perm vs) (k:∀ ks c,IsTupleKey (aB prog w) h ks c→IsTupleKey (aB prog w) h' ks c):Ordered prog w h' ws where
 keys:=fun v m=>let ⟨c,x,ks,e,q⟩:=O.keys v (p.mem_iff.mp m); ⟨c,x,ks,e,k _ _ q⟩
 lt:=fun c c' ks ms m m' q q'=>by
  obtain ⟨_,x,ks',e,z⟩:=O.keys _ (p.mem_iff.mp m)
  obtain ⟨_,x',ks'',e',z'⟩:=O.keys _ (p.mem_iff.mp m')
  (injection e with e; subst e); (injection e' with e'; subst e')
  rw [q.inj (k _ _ z),q'.inj (k _ _ z')]
  exact O.lt c c' _ _ (p.mem_iff.mp m) (p.mem_iff.mp m') z z'
theorem k8 {vs:List Value} {a:Array Keyed} (p:a.Perm (pairsOf vs)):(a.map (·.2)).toList.Perm vs:=by
 rw [Array.toList_map]
 refine ((Array.perm_iff_toList_perm.mp p).map _).trans (.of_eq ?_)
 rw [pairsOf_toList,List.map_snd_zip (Nat.le_refl _)]
theorem xk {vs:List Value} {b:Bool} (O:Ordered prog w s.heap vs):wc (model prog w) A s (gJ b) (cJ prog w s.heap) (pairsOf vs):=fun x y hx hy E Q h=>by
 rw [pairsOf_toList] at hx hy
 have mx:=(mem_zip_self hx).2
 have my:=(mem_zip_self hy).2
 refine av fun Z3 kZ3=>?_
 obtain ⟨c,t,ks,e,k⟩:=O.keys _ mx
 obtain ⟨c',t',ks',e',k'⟩:=O.keys _ my
 refine kZ3 ?_
 have ex:si (cJ prog w s.heap) x=.inr t :: ks:=by unfold si; exact e.symm▸congrArg (Option.getD · []) (eV k)
 have ey:si (cJ prog w s.heap) y=.inr t' :: ks':=by unfold si; rw [e']; exact congrArg (Option.getD · []) (eV k')
 rw [ex,ey] at h
 rw [e] at mx ⊢
 rw [e'] at my ⊢
 exact zC k k' (O.lt _ _ _ _ mx my k k') h
noncomputable def gf (prog:Program) (w:World) (h:Heap) (vs:List Value):Prop:=vs.Pairwise fun x y=>bG ((eJ prog w h y).getD []) ((eJ prog w h x).getD [])=false
theorem uD {h:Heap} {vs:List Value} {xs:Array Keyed} (p:xs.Perm (pairsOf vs)) (hs:SortedToK (cJ prog w h) xs (pairsOf vs).size):gf prog w h (xs.map (·.2)).toList:=by
 have self:∀ x∈xs.toList,x.1=x.2:=fun x m=>by
  have:=(Array.perm_iff_toList_perm.mp p).mem_iff.mp m
  rw [pairsOf_toList] at this
  exact (mem_zip_self this).1
 refine List.pairwise_iff_getElem.mpr fun i j hi hj hij=>?_
 rw [Array.toList_map,zA4,zB3] at hi hj
 have q:=hs i j (Nat.le_of_lt hij) (p.size_eq▸hj)
 have key:∀ (i:Nat) (hi:i < xs.size) (hi':i < (xs.map (·.2)).toList.length),KK (cJ prog w h) xs i=(eJ prog w h (xs.map (·.2)).toList[i]).getD []:=fun i hi hi'=>by
  rw [tY (getElem?_pos xs i hi)]
  unfold si
  rw [self _ (by simp)]
  simp only [Array.toList_map,List.getElem_map,Array.getElem_toList]
  rfl
 rw [← key i hi,← key j hj]
 exact q
theorem Ordered.same {h h':Heap} {vs:List Value} (O:Ordered prog w h vs) (k:∀ ks c,IsTupleKey (aB prog w) h ks c→IsTupleKey (aB prog w) h' ks c):∀ v∈vs,eJ prog w h' v=eJ prog w h v:=fun v m=>by
 obtain ⟨c,x,ks,rfl,q⟩:=O.keys v m
 rw [eV q,eV (k _ _ q)]
theorem gf.congr {h h':Heap} {vs:List Value} (r:gf prog w h' vs) (e:∀ v∈vs,eJ prog w h' v=eJ prog w h v):gf prog w h vs:=List.Pairwise.imp_of_mem (fun a b z=>by exact (e _ a)▸(e _ b)▸z) r
theorem tc {a:Addr} {vs:List Value} {n:Nat} {P:Fin→Shared→Prop} (ho:s.heap.get? a=some (seqObj "list" vs.toArray n)) (O:Ordered prog w s.heap vs) (zl:vs.length≤sizeLine) (hz:vs.length < 64∨∀ x∈vs,∀ y∈vs,eJ prog w s.heap x=eJ prog w s.heap y)
  (h:∀ out:Array Value,out.toList.Perm vs→gf prog w s.heap out.toList→P (.done (.ret .none)) { s with heap:=sortedHeap s.heap a vs out }):wpAny (model prog w) A (Builtin.«list.sort» ⟨[.ref a],[]⟩) P E s:=by
 rw [list_sort_plain]
 have ha:a < s.heap.objs.size:=Heap.lt_size ho
 refine zC1 (listItems_at ho rfl ?_)
 refine zC1 (listUpdate_at ho rfl ?_ (by rw [List.size_toArray]; exact zl))
 obtain ⟨e1,ho1⟩:∃ e1,(s.heap.update a (Obj.mapSeq fun _=>#[])).get? a=some (seqObj "list" #[] e1):=⟨_,get?_update_seq ho (fun _=>#[])⟩
 refine zC1 (seqEpoch_at ho1 rfl ?_)
 refine zC1 (wpAny_newTuple ?_ zl)
 refine zC1 (wpAny_newList ?_)
 refine wpAny_holding ?_
 have oth:∀ b o,b≠a→s.heap.get? b=some o→(((s.heap.update a (Obj.mapSeq fun _=>#[])).push (seqObj "tuple" vs.toArray 0)).push (seqObj "list" #[] 0)).get? b=some o:=fun b o q e=>Heap.get?_push_of_some _ (Heap.get?_push_of_some _ ((Heap.get?_update_other _ _ (Ne.symm q)).trans e))
 have ho6:(((s.heap.update a (Obj.mapSeq fun _=>#[])).push (seqObj "tuple" vs.toArray 0)).push (seqObj "list" #[] 0)).get? a=some (seqObj "list" #[] e1):=Heap.get?_push_of_some _ (Heap.get?_push_of_some _ ho1)
 have k6:∀ ks c,IsTupleKey (aB prog w) s.heap ks c→IsTupleKey (aB prog w) (((s.heap.update a (Obj.mapSeq fun _=>#[])).push (seqObj "tuple" vs.toArray 0)).push (seqObj "list" #[] 0)) ks c:=fun ks c k=>by
  obtain ⟨o,it,n',hc,hcl,r⟩:=k
  exact ⟨o,it,n',oth c o (fun q=>by subst q; replace hc:=ho▸hc; (injection hc with hc; subst hc); exact absurd (Value.type.inj hcl) (by decide)) hc,hcl,r⟩
 have O6:=O.move (.refl _) k6
 have same:=O.same k6
 refine (?_:wpAny (model prog w) A _ P E { s with heap:=((s.heap.update a (Obj.mapSeq fun _=>#[])).push (seqObj "tuple" vs.toArray 0)).push (seqObj "list" #[] 0) })
 dsimp only
 have fin:∀ st':SortSt,(arrOf st').Perm (pairsOf vs)→failedOf st'=none→SortedToK (cJ prog w (((s.heap.update a (Obj.mapSeq fun _=>#[])).push (seqObj "tuple" vs.toArray 0)).push (seqObj "list" #[] 0))) (arrOf st') (pairsOf vs).size→wpAny (model prog w) A (do
   let touched:=(← seqEpoch a) != e1
   Builtin.List.listUpdate (.ref a) fun _=>(arrOf st').map (·.2)
   if let some e:=failedOf st' then rule "list.sort.comparison-raised"; throw e
   if touched then rule "list.sort.modified"; raiseError "ValueError" "list modified during sort"
   ret .none) P E { s with heap:=((s.heap.update a (Obj.mapSeq fun _=>#[])).push (seqObj "tuple" vs.toArray 0)).push (seqObj "list" #[] 0) }:=fun st' hp hf hs=>by
  refine zC1 (seqEpoch_at ho6 rfl ?_)
  refine zC1 (listUpdate_at ho6 rfl ?_ (hsz2:=Nat.le_succ_of_le (by refine zB1 (zB2 ?_) zl; rw [Array.size_map,hp.size_eq,pairsOf_size])))
  refine hf.symm▸?_
  simp only [bne_self_eq_false,Bool.false_eq_true,if_false]
  exact zC2 (h _ (k8 hp) ((uD hp hs).congr fun v m=>same v ((k8 hp).mem_iff.mp m)))
 by_cases h2:vs.toArray.size < 2
 ·rw [if_pos h2,if_pos h2]
  refine zC1 (zC2 ?_)
  rw [StateT.run_pure]
  refine zC1 (zC2 ?_)
  refine fin (SortSt.mk' general' (vs.toArray.zip vs.toArray) #[] 7 none) (Array.Perm.refl _) rfl fun i j hij hj=>?_
  rw [pairsOf_size,← List.size_toArray] at hj
  obtain rfl:=Nat.le_zero.mp (Nat.le_of_lt_succ (Nat.lt_of_lt_of_le hj (Nat.le_of_lt_succ h2)))
  obtain rfl:=Nat.le_zero.mp hij
  exact KeyOrd.kle_refl _
 ·rw [if_neg h2,if_neg h2]
  refine zC1 (uR (fun v m=>O6.keys v m) fun b=>?_)
  refine zC1 (wpAny_mono (lF (k₀:=gJ b) (κ:=cJ prog w _) (a₀:=pairsOf vs) (st:=SortSt.mk' (gJ b) (vs.toArray.zip vs.toArray) #[] 7 none) (Q:=fun _ st'=>(arrOf st').Perm (pairsOf vs)∧failedOf st'=none∧SortedToK (cJ prog w _) (arrOf st') (pairsOf vs).size) (xk O6) ⟨Array.Perm.refl _,rfl,rfl,rfl⟩ (by rw [pairsOf_size]; simpa using h2) (by
   rw [pairsOf_size]
   refine hz.imp id fun hz k _ hk=>?_
   have at':∀ i,i < vs.length→∃ v∈vs,KK (cJ prog w (((s.heap.update a (Obj.mapSeq fun _=>#[])).push (seqObj "tuple" vs.toArray 0)).push (seqObj "list" #[] 0))) (vs.toArray.zip vs.toArray) i=(eJ prog w s.heap v).getD []:=fun i hi=>by
    refine ⟨vs[i],List.getElem_mem hi,?_⟩
    rw [tY (x:=(vs[i],vs[i])) (by simp [hi])]
    exact congrArg (Option.getD · []) (same _ (List.getElem_mem hi))
   obtain ⟨v,mv,ev⟩:=at' k hk
   obtain ⟨u,mu,eu⟩:=at' (vs.length - 1) (Nat.sub_one_lt_of_lt hk)
   exact ev.trans ((congrArg (Option.getD · []) (hz v mv u mu)).trans eu.symm)) fun st' a1 a2 a3=>⟨a1,a2,a3⟩) ?_ fun _ _ e=>e)
  rintro ⟨⟨⟩,st'⟩ s' ⟨rfl,hp,hf,hs⟩
  exact fin st' hp hf hs
end
end Mine
end
noncomputable section
namespace Mine
open PySem PySem.Calls PyProof.Rows PySem.W
section
variable {prog:Program} {w:World} {A:Around} {E:Value→Shared→Prop} {s:Shared} {S:Addr} {es:Array (Int×Value)} {L:Bool}
theorem pE {Q:Value→Shared→Prop} (hh:A.handled=none) (hL:L = !w.params.followText "set-order") (T:TS s.heap S es L) (O:Ordered prog w s.heap (es.toList.map (·.2))) (hz:es.size < 64)
  (h:∀ (out:Array Value) h' d tk b e,out.toList.Perm (es.toList.map (·.2))→gf prog w s.heap out.toList→aH s.heap h'→s.heap.get? b=none→kB s.heap (.ref b)→h'.get? b=some (seqObj "list" out e)→Q (.ref b) { s with heap:=h',drawn:=d,toks:=tk }):wpAny (model prog w) A (call (.builtin "sorted") [.ref S]) Q E s:=by
 refine Calls.call_function_entry kind_sorted plain_sorted entry_sorted (args_sorted1 _) ?_
 unfold Builtin.«sorted»
 refine wpAny_bind (m:=checkCount "sorted" 1 1 _) (zC2 ?_)
 refine zC1 (ip hh hL T fun vs h1 d tk p k=>?_)
 have vl:vs.length < 64:=by rw [p.length_eq,zA4,zB3]; exact hz
 refine zC1 (wpAny_newList ?_ (zB1 (Nat.le_of_lt vl) (by decide)))
 have k2:aH s.heap (h1.push (seqObj "list" vs.toArray 0)):=k.trans (aA _ _)
 have hoL:(h1.push (seqObj "list" vs.toArray 0)).get? h1.objs.size=some (seqObj "list" vs.toArray 0):=Heap.get?_push_size _ rfl
 have kk:∀ ks c,IsTupleKey (aB prog w) s.heap ks c→IsTupleKey (aB prog w) (h1.push (seqObj "list" vs.toArray 0)) ks c:=fun ks c ⟨o,vs,n,ho,r⟩=>⟨o,vs,n,k2 _ _ ho,r⟩
 have O2:=O.move p kk
 refine zC1 (wpAny_holding (wpAny_call_entry slot_list_sort ⟨_,hoL,rfl⟩ entry_list_sort (tc hoL O2 (zB1 (Nat.le_of_lt vl) (by decide)) (.inl vl) fun out po ro=>⟨_,rfl,?_⟩) (args_list_sort _)))
 have n0:s.heap.get? h1.objs.size=none:=aK k.live (ar _)
 obtain ⟨e,he⟩:=sortedHeap_at (out:=out) hoL
 refine zC2 ⟨_,rfl,h out _ d tk _ e (po.trans p) (ro.congr fun v m=>O.same kk v ((po.trans p).mem_iff.mp m)) (fun b o q=>?_) n0 (fun a b e ⟨o,q⟩=>by (injection e with e; subst e); exact Heap.lt_size (k b o q)) he⟩
 rw [sortedHeap_old (fun q'=>by subst q'; rw [n0] at q; (injection q; done)) (Heap.lt_size (k2 _ _ q))]
 exact k2 _ _ q
end
section
variable {Φ:Ct} [Hm Φ.fx] {s:Shared} {v u:Value} {x y z:V} {d:DV}
theorem uC {h:Heap} {vs:List Value} {r:List V} (hr:Φ.rps h vs r) (hw:∀ x∈r,j9 x=true) (R:gf Φ.fx.g.prog Φ.fx.g.w h vs):gD r:=by
 have key:∀ (i:Nat) (hi:i < r.length) (hi':i < vs.length),(eJ Φ.fx.g.prog Φ.fx.g.w h vs[i]).getD []=aQ r[i]:=fun i hi hi'=>by
  obtain ⟨v,ev,rv⟩:=hr.get (List.getElem?_eq_getElem hi)
  (injection (List.getElem?_eq_getElem hi').symm.trans ev with Xq; subst Xq)
  obtain ⟨c,e,k⟩:=gH (hw _ (List.getElem_mem hi)) rv
  rw [e,eV k]; rfl
 refine List.pairwise_iff_getElem.mpr fun i j hi hj hij=>?_
 have hl:=hr.length
 rw [← key i hi (hl▸hi),← key j hj (hl▸hj)]
 exact List.pairwise_iff_getElem.mp R i j (hl▸hi) (hl▸hj) hij
theorem mD {f:Str} {id:String} {fp pos sp spos:Pos} {e:Expr} {P:Shared→Value→Shared→Prop} {dd:V→Prop} (hx:aZ Φ.fx.env.scope.names f=true) (hF:bu.lookup f=some (.builtin id)) (hs:aZ Φ.fx.env.scope.names "set"=true) (hp:ao e=true) (h:Ev Φ (eval e Φ.fx.env) d)
  (st:∀ s v x E,Inv Φ s→Φ.rp s.heap v x→dd x→wpAny (model Φ.fx.g.prog Φ.fx.g.w) Φ.fx.A (call (.type "set") [v]) (fun u s₁=>wpAny (model Φ.fx.g.prog Φ.fx.g.w) Φ.fx.A (call (.builtin id) [u]) (P s) E s₁) E s) (hP:∀ s s₁ v s',aD s.heap s₁.heap→P s₁ v s'→P s v s') (hd:d dd) (I:Inv Φ s) :
  Φ.wp (eval (.Call (.Name f fp) [.Call (.Name "set" sp) [e] [] spos] [] pos) Φ.fx.env) (P s) s:=fun E=>by
 refine (?_:wpAny _ _ (eval (.Name f fp) Φ.fx.env >>= fun F=>callWith pos F [] (backTo pos (starEach [.Call (.Name "set" sp) [e] [] spos] Φ.fx.env)) []) _ _ s)
 refine zC1 (bT I hx hF ?_ E)
 refine callWith_builtin rfl (Calls.evalArgs_plain ?_)
 refine (?_:wpAny _ _ (eval (.Call (.Name "set" sp) [e] [] spos) Φ.fx.env >>= fun v=>holding [v] (pure []) >>= fun vs=>pure (v :: vs)) _ _ s)
 refine zC1 ?_
 refine (?_:wpAny _ _ (eval (.Name "set" sp) Φ.fx.env >>= fun F=>callWith spos F [] (backTo spos (starEach [e] Φ.fx.env)) []) _ _ s)
 refine zC1 (bT (v:=.type "set") I hs rfl ?_ E)
 refine PySem.callWith_type (by rw [aO hp]; rfl) ?_
 refine cT (qs:=[(e,d)]) (K:=fun xs=>okK (one xs some) dd) (fun q m=>by obtain rfl:=zA6 m; exact ⟨hp,h⟩) hd I fun vs xs s₁ I₁ k₁ hx rs=>aj hx fun x e hx=>?_
 refine ck (C:=fun vs=>wpAny _ _ (call (.type "set") ([]++vs) []) _ _ s₁) e rs fun v x' r e=>?_
 cases e
 exact wpAny_mono (st s₁ _ x E I₁ r hx) (fun u s₂ p=>zC1 (wpAny_holding (zC2 (zC2 (wpAny_mono p (fun _ _ q=>hP _ _ _ _ k₁ q) fun _ _ z=>z))))) fun _ _ z=>z
theorem lN {fp pos sp spos:Pos} {e:Expr} (hx:aZ Φ.fx.env.scope.names "sorted"=true) (hs:aZ Φ.fx.env.scope.names "set"=true) (hp:ao e=true) (h:Ev Φ (eval e Φ.fx.env) d) :
  EvN Φ (eval (.Call (.Name "sorted" fp) [.Call (.Name "set" sp) [e] [] spos] [] pos) Φ.fx.env) (fun K=>d fun x=>okK (dW x some) fun l=>(l.all j9&&decide (l.length≤az))=true∧(∀ x∈l,∀ y∈l,ltK (aQ x) (aQ y)=true)∧(∃ m:List V,m.length < 64∧∀ x∈l,x∈m)∧∀ r:List V,r.Nodup→(∀ y,y∈r ↔ y∈l)→gD r→K (.list r)):=fun K s hd I=>by
 refine mD (P:=fun s=>gE Φ s K) hx rfl hs hp h (fun s v x E I r hx=>?_) (fun _ _ _ _ k p=>p.lift k) hd I
 refine aj hx fun l e ⟨q,hlt,⟨few,hfl,hfw⟩,hK⟩=>?_
 refine bF (C:=fun x=>Φ.rp s.heap v x→wpAny _ _ (call (.type "set") [v]) _ E s) e (fun l' e r=>?_) r
 cases e
 have q:=zA2 q
 have hw:∀ x∈l,j9 x=true:=List.all_eq_true.mp q.1
 refine r.list_elim fun a o vs n _ ha hc hd hl=>?_
 have hu:=I.room
 have hsz:=aY hl
 refine gC (T:="list") (I.ok.hand Hm.no) hu (fun s' k=>⟨o,k _ _ ha,hc.1⟩) PySem.F.sub_list_set PySem.F.sub_list_frozenset (by decide) (hJ ⟨o,ha,hc.1,n,hd⟩) (qe hl hw hfw (Nat.lt_of_lt_of_le hfl (by decide))) fun h' tk hZ k=>?_
 obtain ⟨es,r,T,he,hr,hnd,hm⟩:=hZ
 rw [hsz,List.take_length] at hm
 have O:Ordered Φ.fx.g.prog Φ.fx.g.w h' (es.toList.map (·.2)):=by
  have kk:∀ y∈r,∀ v,Φ.rp s.heap v y→∃ c x ks,v=.ref c∧aQ y=.inr x :: ks∧IsTupleKey (aB Φ.fx.g.prog Φ.fx.g.w) h' (.inr x :: ks) c:=fun y my v ry=>by
   have hy:=hw y ((hm y).mp my)
   obtain ⟨c,e,z⟩:=gH hy ry
   obtain ⟨x,ks,eh⟩:=lh hy
   exact ⟨c,x,ks,e,eh,eh▸eU k z⟩
  refine ⟨fun v m=>?_,fun c c' ks ms m m' q q'=>?_⟩
  ·obtain ⟨y,my,ry⟩:=hr.of_mem m
   obtain ⟨c,x,ks,e,_,z⟩:=kk y my v ry
   exact ⟨c,x,ks,e,z⟩
  ·obtain ⟨y,my,ry⟩:=hr.of_mem m
   obtain ⟨y',my',ry'⟩:=hr.of_mem m'
   obtain ⟨_,x,ks',e,eh,z⟩:=kk y my _ ry
   obtain ⟨_,x',ms',e',eh',z'⟩:=kk y' my' _ ry'
   (injection e with e; subst e); (injection e' with e'; subst e')
   rw [q.inj z,q'.inj z',← eh,← eh']
   exact hlt y ((hm y).mp my) y' ((hm y').mp my')
 refine pE (s:={ s with heap:=h',toks:=tk }) (I.ok.hand Hm.no) rfl T O (by rw [oo hr]; exact Nat.lt_of_le_of_lt (hnd.length_le_of_subset (l₂:=few) fun y q=>hfw y ((hm y).mp q)) hfl) fun out h2 dr tk2 b e po ro k2 hb hnv ho=>?_
 obtain ⟨R,pR,rR⟩:=RpAll.perm po hr
 have nb:s.heap.get? b=none:=aK k.live hb
 have hRw:∀ x∈R,j9 x=true:=fun y q=>hw y ((hm y).mp (pR.mem_iff.mp q))
 refine ⟨⟨⟨I.base.stays.trans (k.trans k2),I.base.os,I.base.gens⟩,(k.trans k2).keeps,.list R,hK R (pR.nodup_iff.mpr hnd) (fun y=>pR.mem_iff.trans (hm y)) (uC (rR.keep k.keeps) hRw ro),.list (fun q=>?_) ho ⟨rfl,rfl⟩ rfl (rR.keep (k.trans k2).keeps)⟩,hnv.le fun b l=>k.keeps.live l⟩
 obtain ⟨o',e'⟩:=I.badLive q
 rw [nb] at e'; (injection e'; done)
theorem tK {fp pos sp spos:Pos} {e:Expr} (hx:aZ Φ.fx.env.scope.names "len"=true) (hs:aZ Φ.fx.env.scope.names "set"=true) (hp:ao e=true) (h:Ev Φ (eval e Φ.fx.env) d) :
  Ev Φ (eval (.Call (.Name "len" fp) [.Call (.Name "set" sp) [e] [] spos] [] pos) Φ.fx.env) (fun K=>d fun x=>okK ((fC x).map fun n=>.int n) K):=fun K s hd I=>by
 refine mD (P:=fun s=>Post Φ Φ.rp s K) hx rfl hs hp h (fun s v x E I r hx=>?_) (fun _ _ _ _ k p=>p.lift k) hd I
 refine aj hx fun z e kz=>map_elim (C:=fun z=>K z→_) e (fun n e kz=>?_) kz
 have fin:∀ {Kd:Type} [DecidableEq Kd] (kd:KeyKind Φ.fx.g.prog Φ.fx.g.w Kd) (S:Kd→Bool) (h':Heap) (tk:Nat),h'.SetOf kd s.heap.objs.size S n→aH s.heap h'→wpAny (model Φ.fx.g.prog Φ.fx.g.w) Φ.fx.A (call (.builtin "len") [.ref s.heap.objs.size]) (Post Φ Φ.rp s K) E { s with heap:=h',toks:=tk }:=fun kd S h' tk hS k=>
  xo (s:={ s with heap:=h',toks:=tk }) hS fun t tk'=>⟨⟨I.base.stays.trans k,I.base.os,I.base.gens⟩,k.keeps,_,kz,.int _ _⟩
 cases x with
 | str t=>
  refine cr e fun q e=>?_
  (injection e with e; subst e)
  refine r.str_elim fun tk=>?_
  have F:=lx (knd:=PySem.strKind Φ.fx.g.prog Φ.fx.g.w) (h₀:=s.heap) (S:=s.heap.objs.size) (P:=SignAt t) (ks:=t.cps.toList.map fun c=>(⟨#[c]⟩:Str)) (fun i v ⟨c,u,hc,e⟩=>⟨⟨#[c]⟩,by rw [List.getElem?_map,Array.getElem?_toList,hc]; rfl,by subst e; simp [PySem.strKind,Value.isStrOf],by subst e; rfl⟩) (by rw [zA4,zB3]; unfold scanBound; exact Nat.lt_of_le_of_lt q (by decide))
  have el:(ded ((t.cps.toList.map fun c=>(⟨#[c]⟩:Str)).take t.cps.size)).length=(ded t.cps.toList).length:=by
   rw [List.take_of_length_le (by rw [zA4,zB3]; exact Nat.le_refl _),xV (fun a b e=>by simpa using e),zA4]
  rw [zA4,zB3] at F
  exact gC (T:="str") (I.ok.hand Hm.no) I.room (fun s' k=>typeIs_str _ _ _) (by rw [isSubtype_type]; kernel_rfl) (by rw [isSubtype_type]; kernel_rfl) (by decide) uY F fun h' tk hZ k=>fin (PySem.strKind _ _) _ h' tk (el▸hZ) k
 | list l=>
  obtain ⟨is,ei,e⟩:=Option.bind_eq_some_iff.mp e
  refine cr e fun q e=>?_
  (injection e with e; subst e)
  refine r.list_elim fun a o vs n _ ha hc hd hl=>?_
  have hi:=dZ ei hl
  have hli:vs.size=is.length:=by rw [← zB3,hi.nums.symm,zA4]
  have F:=lx (knd:=intKind Φ.fx.g.prog Φ.fx.g.w) (h₀:=s.heap) (S:=s.heap.objs.size) (P:=fun i v=>vs[i]?=some v) (ks:=is) (fun i v e=>?_) (by unfold scanBound; exact Nat.lt_of_le_of_lt q (by decide))
  ·rw [← hli] at F
   exact gC (T:="list") (I.ok.hand Hm.no) I.room (fun s' k=>⟨o,k _ _ ha,hc.1⟩) PySem.F.sub_list_set PySem.F.sub_list_frozenset (by decide) (hJ ⟨o,ha,hc.1,n,hd⟩) F fun h' tk hZ k=>fin (intKind _ _) _ h' tk (by rw [hli,List.take_length] at hZ; exact hZ) k
  ·obtain ⟨t,et⟩:=hi.int_at i v (Array.getElem?_toList▸e)
   have hlt:i < is.length:=hli▸(Array.getElem?_eq_some_iff.mp e).1
   refine ⟨is.getD i 0,by rw [List.getElem?_eq_getElem hlt]; simp [hlt],?_,by subst et; rfl⟩
   subst et; simp [intKind,Value.isInt]
 | _=>(injection e; done)
end
end Mine
end
noncomputable section
namespace Mine
open PySem PySem.Calls PyProof.Rows PySem.W PySem.SetTable
theorem xG {es:Array (Int×Value)} {t:SetTable} (T:Tab t es) (hf:es.size≤t.mask) (h:Int):∃ j,t.freeSlot h=some (j,false)∧Way t h j∧¬ In t j∧j≤t.mask:=by
 obtain ⟨N,hN,hg⟩:=T.gap (T.sz▸hf) h 0
 obtain ⟨n,_,h2,h3⟩:=sB (hashAt:=fun _=>h+1) (h:=h) T.dm T.rise N (10 * turns t.mask) (pos t.mask h 0) hN (xB rfl) hg
 simp only [it_pos,Nat.zero_add] at h2 h3
 rcases h3 with ⟨h3,e⟩ | ⟨i,_,e,_⟩
 ·refine ⟨(pos t.mask h n).j,?_,⟨n,rfl,fun n' q=>(h2 n' q).imp fun _ z=>z.1⟩,h3,vM _ _ _⟩
  have e:t.probe (fun _=>h+1) h (t.probeStart h)=_:=e
  unfold SetTable.freeSlot
  rw [e]; rfl
 ·exact absurd e (by exact Int.ne_of_gt (Int.lt_add_one_of_le (Int.le_refl _)))
section
variable {prog:Program} {w:World} {A:Around} {E:Value→Shared→Prop} {s:Shared}
theorem xC {S:Addr} {es:Array (Int×Value)} {L:Bool} {k:Int} {tk:Tok} {Q:Bool→Shared→Prop} (T:TS s.heap S es L) (hel:ElemsOf (intKind prog w) es.toList) (hn:es.size < 200)
  (hold:(∃ e∈es.toList,(intKind prog w).is k e.2=true)→∀ tk,Q false { s with toks:=tk })
  (hnew:∀ h' es' tk',Heap.SameBut S s.heap h'→TS h' S es' L→es'.toList.Perm (((intKind prog w).hash k,.int k tk) :: es.toList)→(∀ e∈es.toList,¬ (intKind prog w).is k e.2=true)→Q true { s with heap:=h',toks:=tk' }) :
  wpAny (model prog w) A (setAdd S (.int k tk)) Q E s:=by
 obtain ⟨o,ep,t,ho,hex,hd,T,hr,hL⟩:=T
 have hf:=xq hr
 have hfit:=T.fits hf
 have hkey:(intKind prog w).is k (.int k tk)=true:=intKind_is _ _ _ _
 unfold setAdd
 refine wpAny_holding (zC1 ((intKind prog w).pyHash hkey ?_))
 refine wpAny_holding (zC1 (wpAny_setState_of ho hd hfit ?_))
 have hsc:byScan (.int k tk) es=true:=by
  unfold byScan
  refine zA3 ⟨zA3 ⟨rfl,decide_eq_true (by unfold scanBound; exact Nat.lt_of_lt_of_le hn (by decide))⟩,?_⟩
  rw [← Array.all_toList]
  exact List.all_eq_true.mpr fun e m=>(hel e m).2
 refine dp (c:=byScan (.int k tk) es=true) hsc ?_
 refine zC1 ?_
 unfold setAddByScan
 refine zC1 (wpAny_rule ?_)
 refine zC1 (wpAny_setScan_of hkey (s:={ s with toks:=s.toks+1 }) ho hd hfit hel ?_)
 cases hfi:es.toList.findIdx? (fun e=>(intKind prog w).is k e.2) with
 | some j=>
  refine zC2 (zC2 (hold ?_ _))
  obtain ⟨hj,q,_⟩:=List.findIdx?_eq_some_iff_getElem.mp hfi
  exact ⟨_,List.getElem_mem hj,q⟩
 | none=>
  have hno:∀ e∈es.toList,¬ (intKind prog w).is k e.2=true:=fun e m=>ne_true_of_eq_false (List.findIdx?_eq_none_iff.mp hfi e m)
  obtain ⟨j,ef,hw,hj,hl⟩:=xG T hf ((intKind prog w).hash k)
  obtain ⟨em,es1,T1⟩:=T.put (x:=Value.int k tk) hw hj hl
  have hz1:(insertAt es (t.put j).2 ((intKind prog w).hash k,Value.int k tk)).size=es.size+1:=T1.sz.symm.trans es1
  generalize hIs:insertAt es (t.put j).2 ((intKind prog w).hash k,Value.int k tk)=is at *
  generalize hT1:(t.put j).1=t1 at *
  have hr1:es.size * 5 < t1.mask * 3:=em.symm▸hr
  have hf1:is.size≤t1.mask:=by rw [hz1]; exact Nat.lt_of_mul_lt_mul_right (Nat.lt_of_lt_of_le hr1 (Nat.mul_le_mul_left _ (by decide:3≤5)))
  have hfit1:=T1.fits hf1
  have hlay:layNew t es ((intKind prog w).hash k) (.int k tk)=(is,t1,false,false):=by
   unfold layNew
   rw [ef]
   refine (?_:((insertAt es (t.put j).2 ((intKind prog w).hash k,Value.int k tk),(t.put j).1.orStandIn (insertAt es (t.put j).2 ((intKind prog w).hash k,Value.int k tk)).size,false,!(t.put j).1.fits (insertAt es (t.put j).2 ((intKind prog w).hash k,Value.int k tk)).size):Array (Int×Value)×SetTable×Bool×Bool)=_)
   rw [hIs,hT1,hfit1]
   unfold SetTable.orStandIn
   rw [if_pos hfit1]; rfl
  have hpe:is.toList.Perm (((intKind prog w).hash k,.int k tk) :: es.toList):=hIs▸im
  rw [hlay]
  have hz:is.size≤200:=hz1▸hn
  refine zC1 (zC2 ?_)
  extract_lets jp0 jp
  suffices hjp:wpAny (model prog w) A (jp true) (fun a s'=>wpAny (model prog w) A (match a with | some added=>pure added | none=>setAddHashedIn S (Value.int k tk) ((intKind prog w).hash k) 99999) Q E s') E { s with toks:=s.toks+1 } from
   wpAny_ite_split (fun _=>zC1 (wpAny_pure hjp)) fun _=>zC1 (wpAny_pure hjp)
  ·simp only [jp,jp0,if_true]
   refine zC1 (wpAny_storeSet_of (s:={ s with toks:=s.toks+1 }) ho hd ?_ (zB1 hz (by decide)))
   have hg1:(s.heap.update S (Obj.putSet is t1)).get? S=some { o with data:=.set is (ep+1) t1 }:=jq ho hd
   have sb1:Heap.SameBut S s.heap (s.heap.update S (Obj.putSet is t1)):=.update ..
   have hfu:=sC T1
   by_cases q:t1.mask * 3≤is.size * 5
   ·refine dp (c:=(!false&&t1.tooFull)=true) (by rw [hfu,decide_eq_true q]; rfl) ?_
    obtain ⟨m',e1,e2,e3,e4⟩:=sA T1.msk hr1 (hz1▸q) hn
    obtain ⟨t3,order,e5,e6,e7,T3,e8⟩:=sf (es:=is) e2 (hz1▸xq e3) t1.finger (movedTo t1 m') t1.led t1.plain
    have e9:t3.led=t1.led:=by
     obtain ⟨a,_,e5⟩:=Option.bind_eq_some_iff.mp e5
     cases e5; rfl
    have e10:(order.filterMap (is[·]?)).size=is.size:=by rw [← zB3,e7.length_eq,zB3]
    have hf3:t3.fits (order.filterMap (is[·]?)).size=true:=T3.fits (by rw [e10,hz1,e6]; exact xq e3)
    have hre:relayAll t1 is (grown is.size)=(order.filterMap (is[·]?),t3,false):=by
     unfold relayAll
     rw [show t1.relaid (is.map (·.1)) (grown is.size)=some (t3,order) from by rw [hz1]; exact (congrArg (fun z=>laid (z - 1) t1.finger (movedTo t1 (z - 1)) t1.led t1.plain _) e1).trans e5]
     refine if_pos (zA3 ⟨?_,hf3⟩)
     exact List.isPerm_iff.mpr e8
    rw [hre]
    refine zC1 (zC2 (zC1 (wpAny_storeSet_of (s:={ s with heap:=s.heap.update S (Obj.putSet is t1),toks:=s.toks+1 }) hg1 rfl (zC2 (zC2 ?_)) (zB1 (e10▸hz) (by decide)))))
    exact hnew _ _ _ (sb1.trans (.update _ S (Obj.putSet (order.filterMap (is[·]?)) t3))) ⟨_,_,_,jq hg1 rfl,hex,rfl,T3,by rw [e10,hz1,e6]; exact e3,e9.trans (hT1▸hL)⟩ (e7.trans hpe) hno
   ·exact bk (c:=(!false&&t1.tooFull)=true) (by rw [hfu,decide_eq_false q]; exact Bool.false_ne_true) (zC2 (zC2 (hnew _ is _ sb1 ⟨_,_,_,hg1,hex,rfl,T1,Nat.not_le.mp q,hT1▸hL⟩ hpe hno)))
theorem lr {ws vs:List Value} (p:ws.Perm vs):∀ {ns:List Int},IntsAre vs ns→∃ ms,ms.Perm ns∧IntsAre ws ms:=by
 induction p with
 | nil=>exact fun {ns} h=>⟨ns,.refl _,h⟩
 | cons x _ ih=>
  intro ns h
  cases h with | cons n t h=>
  obtain ⟨ms,q,z⟩:=ih h
  exact ⟨n :: ms,.cons _ q,.cons n t z⟩
 | swap x y l=>
  intro ns h
  cases h with | cons n t h=>cases h with | cons m u h=>exact ⟨m :: n :: _,.swap ..,.cons m u (.cons n t h)⟩
 | trans _ _ ih1 ih2=>
  intro ns h
  obtain ⟨ms,q,z⟩:=ih2 h
  obtain ⟨ks,q',z'⟩:=ih1 z
  exact ⟨ks,q'.trans q,z'⟩
theorem uW {vs:List Value} {ns:List Int} (h:IntsAre vs ns) (k:Int):k∈ns ↔ ∃ v∈vs,(intKind prog w).is k v=true:=by
 induction h with
 | nil=>exact ⟨nofun,fun ⟨_,m,_⟩=>nomatch m⟩
 | cons n t _ ih=>
  rw [List.mem_cons,ih]
  constructor
  ·rintro (rfl | ⟨v,m,q⟩)
   ·exact ⟨_,.head _,intKind_is _ _ _ _⟩
   ·exact ⟨v,.tail _ m,q⟩
  ·rintro ⟨v,m,q⟩
   rcases List.mem_cons.mp m with rfl | m
   ·exact .inl ((intKind prog w).inj _ _ _ q (intKind_is _ _ _ _))
   ·exact .inr ⟨v,m,q⟩
noncomputable def Aj (prog:Program) (w:World) (S:Addr) (ns:List Int) (i:Nat) (h:Heap):Prop:=
 ∃ es r,TS h S es (!w.params.followText "set-order")∧ElemsOf (intKind prog w) es.toList∧IntsAre (es.toList.map (·.2)) r∧r.Nodup∧∀ y,y∈r ↔ y∈ns.take i
theorem lq {es:Array (Int×Value)} {r:List Int} (h:IntsAre (es.toList.map (·.2)) r):es.size=r.length:=by
 rw [← h.nums,zA4,zA4,zB3]
theorem qf {h₀:Heap} {S:Addr} {vs:Array Value} {ns:List Int} (hi:IntsAre vs.toList ns) (hn:ns.length < 200):Fills prog w h₀ S (fun i v=>vs[i]?=some v) vs.size (Aj prog w S ns) where
 frame:=fun i h h' q e=>q.elim fun es q=>q.elim fun r q=>⟨es,r,q.1.to e,q.2⟩
 live:=fun i h q=>q.elim fun es q=>q.elim fun r q=>q.1.elim fun o q=>q.elim fun _ q=>q.elim fun _ q=>⟨o,q.1⟩
 start:=fun h ho=>⟨#[],[],⟨_,_,_,ho,⟨rfl,rfl,rfl⟩,rfl,tab0,Nat.zero_lt_succ 20,rfl⟩,fun e m=>(nomatch m),.nil,.nil,fun y=>⟨fun q=>(nomatch q),fun q=>(nomatch q)⟩⟩
 add:=fun i v s A hu hi' hp hk hZ Q E hQ=>by
  obtain ⟨es,R,T,he,hr,hd,hm⟩:=hZ
  obtain ⟨t,rfl⟩:=hi.int_at i v (Array.getElem?_toList▸hp)
  have hsz:vs.size=ns.length:=by rw [← zB3,← hi.nums,zA4]
  have hx:ns[i]?=some (ns.getD i 0):=by
   have:i < ns.length:=hsz▸hi'
   rw [List.getElem?_eq_getElem this]; simp [this]
  generalize ns.getD i 0=x at *
  have mem1:∀ y,y∈ns.take (i+1) ↔ y∈R∨y=x:=fun y=>by rw [List.take_add_one,hx,List.mem_append,hm]; simp
  have inR:x∈R ↔ ∃ e∈es.toList,(intKind prog w).is x e.2=true:=by
   rw [uW (prog:=prog) (w:=w) hr]
   exact ⟨fun ⟨v,m,q⟩=>(zA7 m).elim fun e z=>⟨e,z.1,z.2.symm▸q⟩,fun ⟨e,m,q⟩=>⟨_,List.mem_map.mpr ⟨e,m,rfl⟩,q⟩⟩
  have hlen:R.length≤ns.length:=hd.length_le_of_subset fun y q=>List.mem_of_mem_take ((hm y).mp q)
  refine xC T he (by rw [lq hr]; exact Nat.lt_of_le_of_lt hlen hn) (fun q tk=>?_) fun h' es' tk sb T' p q=>?_
  ·have q:=inR.mpr q
   exact hQ _ s.heap tk (.refl _ _) ⟨es,R,T,he,hr,hd,fun y=>by rw [mem1]; exact ⟨.inl,fun z=>z.elim id fun z=>z▸q⟩⟩
  ·obtain ⟨R',pR,rR⟩:=lr (p.map Prod.snd) (IntsAre.cons x t hr)
   refine hQ _ h' tk sb ⟨es',R',T',fun e me=>?_,rR,pR.nodup_iff.mpr (List.nodup_cons.mpr ⟨fun z=>?_,hd⟩),fun y=>?_⟩
   ·rcases List.mem_cons.mp (p.mem_iff.mp me) with rfl | me
    ·exact ⟨⟨x,intKind_is _ _ _ _,rfl⟩,rfl⟩
    ·exact he e me
   ·obtain ⟨e,me,ie⟩:=inR.mp z; exact q e me ie
   ·rw [pR.mem_iff,mem1,List.mem_cons]; exact or_comm
theorem nK {S:Addr} {es:Array (Int×Value)} {L:Bool} {ns:List Int} {Q:Value→Shared→Prop} (hh:A.handled=none) (hL:L = !w.params.followText "set-order") (T:TS s.heap S es L) (hI:IntsAre (es.toList.map (·.2)) ns) (hz:es.size < 64)
  (h:∀ (out:Array Value) (ns':List Int) h' d tk b e,IntsAre out.toList ns'→ns'.Perm ns→ns'.Pairwise (·≤·)→aH s.heap h'→s.heap.get? b=none→kB s.heap (.ref b)→h'.get? b=some (seqObj "list" out e)→Q (.ref b) { s with heap:=h',drawn:=d,toks:=tk }):wpAny (model prog w) A (call (.builtin "sorted") [.ref S]) Q E s:=by
 refine Calls.call_function_entry kind_sorted plain_sorted entry_sorted (args_sorted1 _) ?_
 unfold Builtin.«sorted»
 refine wpAny_bind (m:=checkCount "sorted" 1 1 _) (zC2 ?_)
 refine zC1 (ip hh hL T fun vs h1 d tk p k=>?_)
 have vl:vs.length < 64:=by rw [p.length_eq,zA4,zB3]; exact hz
 refine zC1 (wpAny_newList ?_ (zB1 (Nat.le_of_lt vl) (by decide)))
 have k2:aH s.heap (h1.push (seqObj "list" vs.toArray 0)):=k.trans (aA _ _)
 have hoL:(h1.push (seqObj "list" vs.toArray 0)).get? h1.objs.size=some (seqObj "list" vs.toArray 0):=Heap.get?_push_size _ rfl
 obtain ⟨ms,pm,hms⟩:=lr p hI
 refine zC1 (wpAny_holding (wpAny_call_entry slot_list_sort ⟨_,hoL,rfl⟩ entry_list_sort (list_sort_tree hoL hms vl fun out ns' a1 a2 a3=>⟨_,rfl,?_⟩) (args_list_sort _)))
 have n0:s.heap.get? h1.objs.size=none:=aK k.live (ar _)
 obtain ⟨e,he⟩:=sortedHeap_at (out:=out) hoL
 refine zC2 ⟨_,rfl,h out ns' _ d tk _ e a1 (a2.trans pm) a3 (fun b o q=>?_) n0 (fun a b e ⟨o,q⟩=>by (injection e with e; subst e); exact Heap.lt_size (k b o q)) he⟩
 rw [sortedHeap_old (fun q'=>by subst q'; rw [n0] at q; (injection q; done)) (Heap.lt_size (k2 _ _ q))]
 exact k2 _ _ q
end
section
variable {Φ:Ct} [Hm Φ.fx] {s:Shared} {d:DV}
theorem ku {fp pos sp spos:Pos} {e:Expr} (hx:aZ Φ.fx.env.scope.names "sorted"=true) (hs:aZ Φ.fx.env.scope.names "set"=true) (hp:ao e=true) (h:Ev Φ (eval e Φ.fx.env) d) :
  EvN Φ (eval (.Call (.Name "sorted" fp) [.Call (.Name "set" sp) [e] [] spos] [] pos) Φ.fx.env) (fun K=>d fun x=>okK (dW x bZ) fun is=>is.length < 64∧∀ r:List Int,r.Nodup→(∀ i,i∈r ↔ i∈is)→r.Pairwise (·≤·)→K (.list (r.map .int))):=fun K s hd I=>by
 refine mD (P:=fun s=>gE Φ s K) hx rfl hs hp h (fun s v x E I r hx=>?_) (fun _ _ _ _ k p=>p.lift k) hd I
 refine aj hx fun is e ⟨hz,hK⟩=>?_
 refine bF (C:=fun x=>Φ.rp s.heap v x→wpAny _ _ (call (.type "set") [v]) _ E s) e (fun l e r=>?_) r
 refine r.list_elim fun a o vs n _ ha hc hd hl=>?_
 have hi:=dZ e hl
 have hsz:vs.size=is.length:=by rw [← zB3,← hi.nums,zA4]
 refine gC (T:="list") (I.ok.hand Hm.no) I.room (fun s' k=>⟨o,k _ _ ha,hc.1⟩) PySem.F.sub_list_set PySem.F.sub_list_frozenset (by decide) (hJ ⟨o,ha,hc.1,n,hd⟩) (qf hi (Nat.lt_trans hz (by decide))) fun h' tk hZ k=>?_
 obtain ⟨es,r,T,he,hr,hnd,hm⟩:=hZ
 rw [hsz,List.take_length] at hm
 have hlen:r.length≤is.length:=hnd.length_le_of_subset fun y q=>(hm y).mp q
 refine nK (s:={ s with heap:=h',toks:=tk }) (I.ok.hand Hm.no) rfl T hr (by rw [lq hr]; exact Nat.lt_of_le_of_lt hlen hz) fun out ns' h2 dr tk2 b e a1 a2 a3 k2 hb hnv ho=>?_
 have nb:s.heap.get? b=none:=aK k.live hb
 refine ⟨⟨⟨I.base.stays.trans (k.trans k2),I.base.os,I.base.gens⟩,(k.trans k2).keeps,_,hK ns' (a2.nodup_iff.mpr hnd) (fun y=>a2.mem_iff.trans (hm y)) a3,.list (fun q=>?_) ho ⟨rfl,rfl⟩ rfl (lY a1)⟩,hnv.le fun b l=>k.keeps.live l⟩
 obtain ⟨o',e'⟩:=I.badLive q
 rw [nb] at e'; (injection e'; done)
end
end Mine
end
noncomputable section
namespace Mine
open PySem PySem.Calls PyProof.Rows PySem.W
section
variable {Φ:Ct} {s:Shared} {v u:Value} {x y z:V} {d d1 d2:DV}
theorem vg {pos:Pos}:Ev Φ (eval (.Dict [] [] pos) Φ.fx.env) (fun K=>K (.dict [])):=fun K s hd I E=>
 wpAny_Dict_empty (let gr:=Grown.push s { cls:=.type "dict",data:=.dict #[] } s.toks; ⟨I.base.grown gr,gr.keeps,_,hd,.dict I.fresh (Heap.get?_push_size _ rfl) ⟨rfl,rfl,rfl⟩ rfl⟩)
theorem uk {l:List V} (I:Inv Φ s) (e:gw x=some l) (r:Φ.rp s.heap v x):Φ.wp (call (.type "tuple") [v]) (Φ.Gives s (.tuple l)) s:=
 gW (C:=fun x l=>Φ.rp s.heap v x→Φ.wp (call (.type "tuple") [v]) (Φ.Gives s (.tuple l)) s) e
  (fun l hz r=>r.list_elim fun a o vs n _ ha hc hd hl E=>call_tuple_list ⟨_,ha,hc.1,_,hd⟩ (fun h' hk=>by
   have k2:aH s.heap (h'.push { cls:=.type "tuple",data:=.seq vs }):=fun b o e=>Heap.get?_push_of_some _ (hk b o e)
   refine ⟨j2 (tk:=s.toks) k2,.tuple (fun q=>?_) (Heap.get?_push_size _ rfl) rfl rfl (hl.keep k2.keeps)⟩
   obtain ⟨o',e'⟩:=I.badLive q
   exact ay (ar _) (hk _ _ e')) (by rw [aY hl]; exact cK hz))
  (fun l hz r=>r.tuple_elim fun a o vs n hb ha hc hd hl E=>call_tuple_same ⟨_,ha,hc,_,hd⟩ ⟨.refl _,.tuple hb ha hc hd hl⟩) r
theorem qp {fp pos:Pos} {qs:List (Expr×DV)} (hx:aZ Φ.fx.env.scope.names "tuple"=true) (hq:∀ q∈qs,ao q.1=true∧bg Φ q):Ev Φ (eval (.Call (.Name "tuple" fp) (qs.map Prod.fst) [] pos) Φ.fx.env) (fun K=>bo (qs.map Prod.snd) fun xs=>okK (opN .tupleOf xs) K):=
 j4 (op:=opN .tupleOf) hx rfl (.inr ⟨_,rfl⟩) hq fun s vs xs z I rs e=>ck (C:=fun vs=>Φ.wp (call (.type "tuple") vs) (Φ.Gives s z) s) e rs fun v x r e=>map_elim e fun l e=>uk I e r
theorem xI:∀ n:Nat,n < 100→(Str.ofString (toString ((n:Nat):Int))).cps.toList=figs n:=by decide +kernel
theorem B4:∀ a:Nat,a < 10→PySem.intText? ⟨#[48+a]⟩=some ((a:Nat):Int):=by decide +kernel
theorem B3:∀ a:Nat,a < 10→∀ b:Nat,b < 10→PySem.intText? ⟨#[48+a,48+b]⟩=some ((a * 10+b:Nat):Int):=by decide +kernel
theorem tw:∀ n:Nat,n < 100→n.log2 < 1920:=by decide +kernel
theorem y5 (e:qE x=some z) (r:Φ.rp s.heap v x):Φ.wp (call (.type "str") [v]) (Φ.Gives s z) s:=by
 cases x with
 | str t=>exact some_elim e (r.str_elim fun tk E=>P.str_of_str ⟨.refl _,.str t tk⟩)
 | int i=>
  refine if_elim e fun q=>r.int_elim fun tk E=>?_
  obtain ⟨n,rfl⟩:=Int.eq_ofNat_of_zero_le q.1
  have hn:n < 100:=Int.ofNat_lt.mp q.2
  exact P.str_of_int (tw n hn) ⟨.toks _ _,.text (xI n hn)⟩
 | _=>(injection e; done)
theorem qT {a:Nat} (h:bf a=true):∃ k,k < 10∧a=48+k:=by
 have h:=zA2 h
 have h1:=Nat.le_of_ble_eq_true h.1
 have h2:=Nat.le_of_ble_eq_true h.2
 exact ⟨a - 48,Nat.sub_lt_left_of_lt_add h1 (Nat.lt_succ_of_le h2),(Nat.add_sub_cancel' h1).symm⟩
theorem zG (e:nA x=some z) (r:Φ.rp s.heap v x):Φ.wp (call (.type "int") [v]) (Φ.Gives s z) s:=by
 cases x with
 | bool b=>exact some_elim e (r.bool_elim fun E=>call_int_bool ⟨.toks _ _,.int _ _⟩)
 | str t=>
  refine r.str_elim fun tk E=>?_
  have e:(match t.cps.toList with
   | [a]=>if bf a=true then some (PyData.int ((a - 48:Nat):Int)) else none
   | [a,b]=>if bf a=true∧bf b=true then some (.int (((a - 48) * 10+(b - 48):Nat):Int)) else none
   | _=>none)=some z:=e
  split at e
  ·rename_i a q
   refine if_elim e fun h=>?_
   obtain ⟨k,hk,rfl⟩:=qT h
   have:t=⟨#[48+k]⟩:=by rw [← d7 t,q]
   subst this
   rw [Nat.add_sub_cancel_left]
   exact KIN.call_text (B4 k hk) (show 1≤640 by decide) ⟨.toks _ _,.int _ _⟩
  ·rename_i q
   refine if_elim e fun h=>?_
   obtain ⟨k,hk,rfl⟩:=qT h.1
   obtain ⟨m,hm,rfl⟩:=qT h.2
   have:t=⟨#[48+k,48+m]⟩:=by rw [← d7 t,q]
   subst this
   rw [Nat.add_sub_cancel_left,Nat.add_sub_cancel_left]
   exact KIN.call_text (B3 k hk m hm) (show 2≤640 by decide) ⟨.toks _ _,.int _ _⟩
  ·(injection e; done)
 | _=>(injection e; done)
theorem lv:∀ (r:List Int) (a:Int),(r.foldl max a=a∨r.foldl max a∈r)∧a≤r.foldl max a∧∀ b∈r,b≤r.foldl max a
 | [],a=>⟨.inl rfl,Int.le_refl _,nofun⟩
 | b :: r,a=>by
  obtain ⟨h1,h2,h3⟩:=lv r (max a b)
  refine ⟨?_,Int.le_trans (Int.le_max_left a b) h2,fun c m=>(List.mem_cons.mp m).elim (fun e=>by rw [e]; exact Int.le_trans (Int.le_max_right a b) h2) (h3 c)⟩
  refine h1.elim (fun e=>?_) fun e=>.inr (.tail _ e)
  refine (?_:r.foldl max (max a b)=a∨r.foldl max (max a b)∈b :: r)
  rw [e]
  rcases Int.le_total a b with q | q
  ·rw [Int.max_eq_right q]; exact .inr (.head _)
  ·rw [Int.max_eq_left q]; exact .inl rfl
theorem xi {is:List Int} {m M:Int} (e:yl is=some m) (h1:M∈is) (h2:∀ a∈is,a≤M):M=m:=by
 cases is with
 | nil=>(injection e; done)
 | cons a r=>
  obtain rfl:=Option.some.inj e
  obtain ⟨q1,q2,q3⟩:=lv r a
  refine Int.le_antisymm ((List.mem_cons.mp h1).elim (fun e=>e▸q2) (q3 M)) (q1.elim (fun e=>e.symm▸h2 a (.head _)) fun e=>h2 _ (.tail _ e))
theorem zv [Hm Φ.fx] {l:List V} {is:List Int} {m:Int} (I:Inv Φ s) (e:bZ l=some is) (em:yl is=some m) (r:Φ.rp s.heap v (.list l)):Φ.wp (call (.builtin "max") [v]) (Φ.Gives s (.int m)) s:=by
 refine r.list_elim fun a o vs n _ ha hc hd hl E=>?_
 have hL:s.heap.IsList a vs:=⟨_,ha,hc.1,_,hd⟩
 have hi:=dZ e hl
 obtain ⟨xs,ex⟩:=hi.allInts.items
 have hns:is=xs.toList.map (·.1):=by rw [← hi.numsOf,← nums_intItems,← ex]
 have hsz:0 < xs.size:=by
  rw [← zB3,← List.length_map (f:=(·.1)),← hns]
  cases is with
  | nil=>(injection em; done)
  | cons=>exact Nat.zero_lt_succ _
 rw [show vs=intItems xs from ex] at hL
 refine max_intList (I.ok.hand Hm.no) hL hsz fun v h' tk hv hk=>?_
 obtain ⟨t,rfl⟩:=intItems_at hv
 obtain ⟨h1,h2⟩:=argBest_gt (numAt xs) (xs.size - 1)
 have hM:numAt xs (argBest (fun i j=>decide (numAt xs i > numAt xs j)) (xs.size - 1))=m:=xi em (by rw [hns,numAt_eq]; exact PySem.getD_mem (by rw [zA4,zB3]; exact Nat.lt_of_le_of_lt h1 (Nat.sub_lt hsz (by decide)))) fun a ha=>by
  rw [hns] at ha
  obtain ⟨j,hj,rfl⟩:=PySem.mem_getD ha
  rw [zA4,zB3] at hj
  rw [← numAt_eq]; exact h2 j (Nat.le_sub_one_of_lt hj)
 rw [hM]
 exact ⟨⟨hk,rfl,rfl⟩,.int _ _⟩
theorem mF {F:Value} {f:Str} {op:V→Option V} {fp pos:Pos} {e:Expr} (hx:aZ Φ.fx.env.scope.names f=true) (hF:bu.lookup f=some F) (hk:(∃ id,F=.builtin id)∨∃ T,F=.type T) (hp:ao e=true) (h:Ev Φ (eval e Φ.fx.env) d)
  (st:∀ s v x z,Inv Φ s→op x=some z→Φ.rp s.heap v x→Φ.wp (call F [v]) (Φ.Gives s z) s):Ev Φ (eval (.Call (.Name f fp) [e] [] pos) Φ.fx.env) (fun K=>d fun x=>okK (op x) K):=
 j4 (qs:=[(e,d)]) (op:=fun xs=>one xs op) hx hF hk (fun q m=>by obtain rfl:=zA6 m; exact ⟨hp,h⟩) fun s vs xs z I rs e=>ck (C:=fun vs=>Φ.wp (call F vs) (Φ.Gives s z) s) e rs fun v x r e=>st s v x z I e r
theorem u8 {fp pos:Pos} {e:Expr} (hx:aZ Φ.fx.env.scope.names "str"=true) (hp:ao e=true) (h:Ev Φ (eval e Φ.fx.env) d):Ev Φ (eval (.Call (.Name "str" fp) [e] [] pos) Φ.fx.env) (fun K=>d fun x=>okK (qE x) K):=
 mF hx rfl (.inr ⟨_,rfl⟩) hp h fun s v x z I e r=>y5 e r
theorem ve {fp pos:Pos} {e:Expr} (hx:aZ Φ.fx.env.scope.names "int"=true) (hp:ao e=true) (h:Ev Φ (eval e Φ.fx.env) d):Ev Φ (eval (.Call (.Name "int" fp) [e] [] pos) Φ.fx.env) (fun K=>d fun x=>okK (nA x) K):=
 mF hx rfl (.inr ⟨_,rfl⟩) hp h fun s v x z I e r=>zG e r
theorem zU [Hm Φ.fx] {fp pos:Pos} {e:Expr} (hx:aZ Φ.fx.env.scope.names "max"=true) (hp:ao e=true) (h:Ev Φ (eval e Φ.fx.env) d):Ev Φ (eval (.Call (.Name "max" fp) [e] [] pos) Φ.fx.env) (fun K=>d fun x=>okK (opN .max [x]) K):=
 mF (op:=fun x=>opN .max [x]) hx rfl (.inl ⟨_,rfl⟩) hp h fun s v x z I e r=>bF (f:=fun l=>(bZ l).bind fun is=>if is.length < 4000 then (yl is).map PyData.int else none) (C:=fun x=>Φ.rp s.heap v x→Φ.wp (call (.builtin "max") [v]) (Φ.Gives s z) s) e
  (fun l e r=>(Option.bind_eq_some_iff.mp e).elim fun is q=>cr q.2 fun _ e=>map_elim (C:=fun z=>Φ.wp (call (.builtin "max") [v]) (Φ.Gives s z) s) e fun m em=>zv I q.1 em r) r
theorem strValues_get (l:List (Str×Tok)) (i:Nat):(strValues l)[i]?=l[i]?.map fun p=>Value.str p.1 p.2:=by
 unfold strValues; exact List.getElem?_map
theorem lI (b:Addr) (l:List (Str×Tok)) (n:Nat) (x:Str) (t:Tok) (i:Nat) (hi:(l.map (·.1)).findIdx? (fun t=>decide (t=x))=some i) :
  Meets (Builtin.«tuple.index» ⟨[.ref b,.str x t],[]⟩) (fun A R s=>s.heap.get? b=some { cls:=.type "tuple",data:=.seq (strValues l).toArray n }∧R (.ok (.ret (.int i s.toks))) { s with toks:=s.toks+1 }):=by
 refine Meets.of_wp fun prog w A R s h=>?_
 obtain ⟨hl,h⟩:=h
 unfold Builtin.«tuple.index»
 refine zC1 (zC2 ?_)
 refine zC1 (zC1 (wpAny_seqItems hl rfl (zC2 ?_)))
 refine zC1 (zC2 (zC1 (zC2 (zC1 ?_))))
 rw [Std.Legacy.Range.forIn_eq_forIn_range']
 have hlen:(strValues l).toArray.size=l.length:=by rw [List.size_toArray]; unfold strValues; exact List.length_map ..
 obtain ⟨h1,h2⟩:=List.findIdx?_eq_some_iff_findIdx_eq.mp hi
 rw [zA4] at h1
 refine wpAny_forIn_list _ (fun rest r s'=>r=(none,())∧s'=s∧∃ k,k≤i∧rest=List.range' k (l.length - k)) _ ?_ ?_ _ _ ⟨rfl,rfl,0,Nat.zero_le _,by simp [Std.Legacy.Range.size,hlen]⟩
 ·rintro j rest r s' ⟨rfl,rfl,k,hk,e⟩
  have hkl:k < l.length:=Nat.lt_of_le_of_lt hk h1
  obtain ⟨m,hm⟩:∃ m,l.length - k=m+1:=⟨l.length - k - 1,(Nat.sub_add_cancel (Nat.sub_pos_of_lt hkl)).symm⟩
  rw [hm,List.range'_succ] at e
  obtain ⟨rfl,rfl⟩:=zA5 e
  have e1:(strValues l).toArray[j]?=some (.str l[j].1 l[j].2):=by rw [List.getElem?_toArray,strValues_get,List.getElem?_eq_getElem hkl]; rfl
  rw [e1]
  refine zC1 (wpAny_eqBool_str ?_)
  by_cases q:l[j].1=x
  ·have hji:i=j:=by
    refine Nat.le_antisymm ?_ hk
    rcases Nat.lt_or_ge j i with z | z
    ·have:=List.not_of_lt_findIdx (h2▸z)
     simp [q] at this
    ·exact z
   subst hji
   rw [decide_eq_true q,if_pos rfl]
   exact zC1 (zC1 (wpAny_mkInt (zC2 (zC2 (zC2 ⟨_,rfl,h⟩)))))
  ·rw [decide_eq_false q]
   refine zC2 ⟨rfl,rfl,j+1,?_,?_⟩
   ·rcases Nat.lt_or_ge j i with z | z
    ·exact z
    ·have:j=i:=Nat.le_antisymm hk z
     subst this
     have z:=List.findIdx?_eq_some_iff_getElem.mp hi
     obtain ⟨_,z,_⟩:=z
     simp at z
     exact absurd z q
   ·congr 1; grind
 ·rintro r s' ⟨rfl,rfl,k,hk,e⟩
  have:l.length - k≠0:=by lia
  exact absurd (congrArg List.length e) (by simp; exact this.symm)
theorem kR {h:Heap}:∀ {ts:List Str} {vs:List Value},Φ.rps h vs (ts.map .str)→∃ l:List (Str×Tok),vs=strValues l∧l.map (·.1)=ts
 | [],_,.nil=>⟨[],rfl,rfl⟩
 | t :: ts,_,.cons r rs=>by
  obtain ⟨l,rfl,e⟩:=kR rs
  exact r.str_elim fun tk=>⟨(t,tk) :: l,rfl,congrArg (t :: ·) e⟩
theorem vf {ts:List Str} {qs:List (Expr×DV)} {e:Expr} {kk:Nat} {tp apos pos:Pos} (hq:∀ q∈qs,ao q.1=true∧bg Φ q) (hts:∀ K,K (ts.map .str)→bo (qs.map Prod.snd) K) (hz:ts.length≤az) (hp:ao e=true) (hline:(apos.endLine==pos.line)=true) (h:Ev Φ (eval e Φ.fx.env) d) :
  Ev Φ (eval (.Call (.Attribute (.Tuple (qs.map Prod.fst) kk tp) "index" apos) [e] [] pos) Φ.fx.env) (fun K=>d fun x=>okK (qQ ts x) K):=fun K s hd I E=>by
 refine wpAny_Call_method rfl ?_ hline PySem.F.plainAttrs_tuple PySem.F.slot_tuple_index PySem.F.type_tuple_index ?_
 ·rw [aO hp]; rfl
 rw [arm_eval_Tuple]
 refine zC1 (wpAny_standAt (zC1 (wpAny_mono (dL hq (fun xs=>xs=ts.map .str) s (hts _ rfl) I E) (fun vs s₁ ⟨B,k,xs,hx,rs⟩=>?_) fun _ _ z=>z)))
 subst hx
 obtain ⟨l,rfl,el⟩:=kR rs
 have I₁:=I.keep B k
 refine wpAny_newObj_type ?_ (by refine (?_:(strValues l).toArray.size≤sizeLine); rw [List.size_toArray,rs.length,zA4]; exact cK hz)
 have gr:=Grown.push s₁ { cls:=.type "tuple",data:=.seq (strValues l).toArray } s₁.toks
 have I₂:=I₁.keep (I₁.base.grown gr) gr.keeps
 have hob:=Heap.get?_push_size s₁.heap (o:={ cls:=.type "tuple",data:=.seq (strValues l).toArray }) rfl
 refine ⟨⟨_,hob,rfl⟩,fun a q=>by (injection q with q; subst q); exact ⟨_,hob,rfl⟩,callWith_builtin ?_ ?_⟩
 ·rw [aO hp]; rfl
 refine cT (qs:=[(e,d)]) (K:=fun ys=>okK (one ys (qQ ts)) K) (fun q m=>by obtain rfl:=zA6 m; exact ⟨hp,h⟩) hd I₂ fun vs ys s₂ I₃ k₂ hy rs=>aj hy fun z e kz=>?_
 refine ck (C:=fun vs=>wpAny _ _ (call (.builtin "tuple.index") ([.ref s₁.heap.objs.size]++vs) []) _ _ s₂) e rs fun v y r2 e=>?_
 cases y with
 | str x=>
  refine map_elim (C:=fun z=>K z→_) e (fun i ei kz=>?_) kz
  refine r2.str_elim fun tk=>?_
  have hob2:=(k₂ _ _ hob).get (aU rfl)
  refine call_meets PySem.F.slot_tuple_index ⟨_,hob2,rfl⟩ PySem.F.entry_tuple_index (PySem.F.args_tuple_index_2 _ _) (lI _ l _ x tk i (el.symm▸ei)) ⟨hob2,?_⟩
  exact ⟨I₃.base.grown (.toks _ _),(k.trans gr.keeps).trans (k₂.trans (Grown.toks _ _).keeps),_,kz,.int _ _⟩
 | _=>(injection e; done)
end
end Mine
end
noncomputable section
namespace Mine
open PySem PySem.Calls PyProof.Rows PySem.W
noncomputable def dA (h:Heap) (L:Addr):Prop:=∃ o,h.get? L=some o∧o.cls=.type "frame"
section
variable {M:Model} {A:Around} {E:Value→Shared→Prop} {s₀ s:Shared} {m cm:Str→Option Value} {env:Env}
theorem BO {n:Str} {v:Value} {Q:Unit→Shared→Prop} (x:InCallC s₀ env.locals m env.cells cm s) (fr:dA s.heap env.locals) (hk:env.scope.kind=.function) (hl:env.kindOf n=some .local)
  (h:∀ s',InCallC s₀ env.locals (fun y=>if y=n then some v else m y) env.cells cm s'→dA s'.heap env.locals→Q () s'):wpAny M A (storeName env n v) Q E s:=by
 rw [storeName_local hl (by rw [hk]; rfl)]
 refine fT x.toInCall.ns fun h' hn' hs' hc'=>h _ ⟨⟨?_,hn',fun b o e=>?_,x.toInCall.fresh⟩,fun k c hc=>?_,x.apart,x.above⟩ ?_
 ·obtain ⟨h₁,tk,rfl⟩:=x.toInCall.same
  exact ⟨h',_,rfl⟩
 ·exact hs'.extBut b o (Nat.ne_of_lt (Nat.lt_of_lt_of_le (Heap.lt_size e) x.toInCall.fresh)) (x.toInCall.keep b o e)
 ·exact (x.cell k c hc).sameBut hs' (Nat.ne_of_gt (x.above k c (mem_of_lookup hc)))
 ·obtain ⟨o,e,c⟩:=fr
  obtain ⟨o',e',c'⟩:=hc' o e
  exact ⟨o',e',c'.trans c⟩
theorem BP {n:Str} {c:Addr} {v:Value} {Q:Unit→Shared→Prop} (x:InCallC s₀ env.locals m env.cells cm s) (fr:dA s.heap env.locals) (hk:env.scope.kind=.function) (hl:env.kindOf n=some .cell)
  (hc:env.cells.lookup n=some c)
  (h:∀ s',InCallC s₀ env.locals m env.cells (fun y=>if y=n then some v else cm y) s'→dA s'.heap env.locals→Q () s'):wpAny M A (storeName env n v) Q E s:=by
 have hLc:=x.above n c (mem_of_lookup hc)
 refine wpAny_storeName_cell hk hl hc (x.cell n c hc) fun h' hc' hs'=>h _ ⟨⟨?_,x.toInCall.ns.sameBut hs' (Nat.ne_of_lt hLc),fun b o e=>?_,x.toInCall.fresh⟩,fun k c' hk'=>?_,x.apart,x.above⟩ ?_
 ·obtain ⟨h₁,tk,rfl⟩:=x.toInCall.same
  exact ⟨h',_,rfl⟩
 ·exact hs'.extBut b o (Nat.ne_of_lt (Nat.lt_trans (Nat.lt_of_lt_of_le (Heap.lt_size e) x.toInCall.fresh) hLc)) (x.toInCall.keep b o e)
 ·by_cases hkn:k=n
  ·subst hkn
   rw [hc] at hk'; (injection hk' with hk'; subst hk')
   simpa using hc'
  ·rw [if_neg hkn]
   exact (x.cell k c' hk').sameBut hs' fun e=>hkn (name_of_addr x.apart (mem_of_lookup hk') (e▸mem_of_lookup hc))
 ·obtain ⟨o,e,hcl⟩:=fr
  exact ⟨o,hs'.extBut _ o (Nat.ne_of_lt hLc) e,hcl⟩
theorem eS (f:Str×Value→PUnit→Sem (ForInStep PUnit)) (hf:∀ n v u,f (n,v) u=(do storeName env n v; pure (.yield ⟨⟩))) (hk:env.scope.kind=.function) :
  ∀ (binds:List (Str×Value)) (m cm:Str→Option Value) (s:Shared) (Q:PUnit→Shared→Prop),InCallC s₀ env.locals m env.cells cm s→dA s.heap env.locals →
   (∀ x∈binds,env.kindOf x.1=some .local∨(env.kindOf x.1=some .cell∧(env.cells.lookup x.1).isSome=true)) →
   (∀ s',InCallC s₀ env.locals (bindL env.kindOf binds m) env.cells (bindC env.kindOf binds cm) s'→dA s'.heap env.locals→Q ⟨⟩ s')→wpAny M A (forIn binds ⟨⟩ f) Q E s
 | [],m,cm,s,Q,x,fr,_,h=>by rw [List.forIn_nil]; exact zC2 (h s x fr)
 | (n,v) :: r,m,cm,s,Q,x,fr,hkind,h=>by
  rw [List.forIn_cons,hf]
  have hr:∀ y∈r,env.kindOf y.1=some .local∨(env.kindOf y.1=some .cell∧(env.cells.lookup y.1).isSome=true):=fun y hy=>hkind y (List.mem_cons_of_mem _ hy)
  rcases hkind (n,v) List.mem_cons_self with hl | ⟨hl,hc⟩
  ·refine zC1 (zC1 (BO x fr hk hl fun s' x' fr'=>zC2 (eS f hf hk r _ _ s' Q x' fr' hr fun s'' x''=>h s'' ?_)))
   unfold bindL bindC; rw [if_pos hl,if_pos hl]; exact x''
  ·obtain ⟨c,hc⟩:=Option.isSome_iff_exists.mp hc
   have hnl:¬ env.kindOf n=some .local:=by rw [hl]; decide
   refine zC1 (zC1 (BP x fr hk hl hc fun s' x' fr'=>zC2 (eS f hf hk r _ _ s' Q x' fr' hr fun s'' x''=>h s'' ?_)))
   unfold bindL bindC; rw [if_neg hnl,if_neg hnl]; exact x''
theorem w9 {scope:Scope} {globals:Addr} {binds:List (Str×Value)} {qual:Str} {func:Option Addr} {code:Value} {builtins:Addr} {Q:Env→Shared→Prop}
  (hk:scope.kind=.function)
  (hkind:∀ x∈binds,scope.names.lookup x.1=some .local∨(scope.names.lookup x.1=some .cell∧((cellsFrom (s.heap.objs.size+1) scope.names []).lookup x.1).isSome=true))
  (hQ:∀ env,env=newEnv scope s.heap.objs.size globals (cellsFrom (s.heap.objs.size+1) scope.names []) qual func code none builtins →
   ∀ s',InCallC s env.locals (bindL env.kindOf binds fun _=>none) env.cells (bindC env.kindOf binds fun _=>none) s'→dA s'.heap env.locals→Q env s') :
  wpAny M A (newFunctionEnv scope globals [] binds qual func code none builtins) Q E s:=by
 simp only [newFunctionEnv,Option.isSome_none,Bool.false_eq_true,if_false]
 refine zC1 (wpAny_alloc ?_)
 refine zC1 (wpAny_layCells _ (fun name kind cells=>by cases hkc:kind==NameKind.cell <;> simp [hkc]) _ _ _ _ ?_)
 have ok:=cellsFrom_ok scope.names (s.heap.push { cls:=.type "frame",data:=.dict #[] }) (s.heap.objs.size+1) [] ⟨fun _ _ hm=>(nomatch hm),List.Pairwise.nil⟩ (by rw [Heap.size_push]; exact Nat.le_refl _)
 rw [Heap.size_push] at ok
 rw [show ({ s with heap:=s.heap.push { cls:=.type "frame",data:=.dict #[] } }:Shared).heap.objs.size=s.heap.objs.size+1 from Heap.size_push ..]
 refine zC1 (eS (s₀:=s) (env:=newEnv scope s.heap.objs.size globals (cellsFrom (s.heap.objs.size+1) scope.names []) qual func code none builtins)
  _ (fun _ _ _=>rfl) hk binds (fun _=>none) (fun _=>none) _ _
  ⟨⟨⟨_,_,rfl⟩,(Heap.Ns.new s.heap (.type "frame")).keeps (pushCells_keeps _ _),fun b o e=>pushCells_keeps _ _ b o (Heap.get?_push_of_some _ e),Nat.le_refl _⟩,
   fun n c hc=>(ok.empty n c (mem_of_lookup hc)).1,ok.apart,fun n c hm=>(ok.empty n c hm).2⟩
  ⟨_,pushCells_keeps _ _ _ _ (Heap.get?_push_size _ rfl),rfl⟩
  hkind fun s' x fr=>zC2 (hQ _ rfl s' x fr))
end
section
variable {prog:Program} {w:World} {A:Around} {s:Shared}
theorem Bf {R:Result→Shared→Prop} {a:Addr} {o:Obj} {fd:FuncData} {body:List Stmt} {vals:List Value} {binds:List (Str×Value)}
  (hroom:A.depth < recursionLimit) (ho:s.heap.get? a=some o) (hdata:o.data=.func fd) (hlim:s.heap.NoLimit) (hcd:s.heap.CodeRec fd.code fd.qualname)
  (hbody:fd.body=.stmts body) (hbind:bindArgs fd ⟨vals,[]⟩=pure binds) (hclo:fd.closure=[])
  (hkind:∀ x∈binds,fd.scope.names.lookup x.1=some .local∨(fd.scope.names.lookup x.1=some .cell∧((cellsFrom (s.heap.objs.size+1) fd.scope.names []).lookup x.1).isSome=true))
  (hco:fd.scope.isCoroutine=false) (hgen:fd.scope.isGenerator=false) (hk:fd.scope.kind=.function)
  (h:∀ s₁,InCallC s (callEnvC fd s.heap.objs.size a).locals (bindL (callEnvC fd s.heap.objs.size a).kindOf binds fun _=>none) (callEnvC fd s.heap.objs.size a).cells
    (bindC (callEnvC fd s.heap.objs.size a).kindOf binds fun _=>none) s₁→dA s₁.heap (callEnvC fd s.heap.objs.size a).locals →
   wpAny (model prog w) (A.deeper (callEnvC fd s.heap.objs.size a)) (execs body (callEnvC fd s.heap.objs.size a)) (fun f s'=>R (.ok (.ret (match f with | .ret v=>v | _=>.none))) s')
    (fun e s'=>wpAny (model prog w) (A.deeper (callEnvC fd s.heap.objs.size a)) (leaving (callEnvC fd s.heap.objs.size a) e) (fun _ s''=>R (.error e) s'') (fun e' s''=>R (.error e') s'') s') s₁) :
  codeAny (model prog w) A (.call (.ref a) ⟨vals,[]⟩) R s:=by
 refine codeAny_call_function hroom ho hdata hco hgen hbody hcd ?_
 rw [hbind,hclo]
 refine zC2 (w9 hk hkind fun env he s' x fr=>?_)
 subst he
 exact ⟨hlim.keeps x.toInCall.keep,codeAny_func (h s' x fr)⟩
end
end Mine
end
noncomputable section
namespace Mine
open PySem PySem.Calls PyProof.Rows PySem.W
theorem d0:∀ (names:List (Str×NameKind)) (n:Nat) (acc:List (Str×Addr)) (x:Str),((x,NameKind.cell)∈names∨(acc.lookup x).isSome=true)→((cellsFrom n names acc).lookup x).isSome=true
 | [],_,_,_,h=>by
  rcases h with h | h
  ·cases h
  ·exact h
 | (y,k) :: r,n,acc,x,h=>by
  unfold cellsFrom
  have more:∀ q:Str×Addr,(acc.lookup x).isSome=true→((q :: acc).lookup x).isSome=true:=fun q e=>by
   rw [List.lookup_cons]; split
   ·rfl
   ·exact e
  split
  ·refine d0 r _ _ x ?_
   rcases h with h | h
   ·rcases List.mem_cons.mp h with e | e
    ·(injection e with e; subst e); right; rw [List.lookup_cons]; simp
    ·exact .inl e
   ·exact .inr (more _ h)
  ·rename_i hk
   refine d0 r _ _ x ?_
   rcases h with h | h
   ·rcases List.mem_cons.mp h with e | e
    ·cases e; exact absurd rfl hk
    ·exact .inl e
   ·exact .inr h
theorem lD {kindOf:Str→Option NameKind} {x:Str} (hx:kindOf x=some .local):∀ (ps:List Str) (vs:List Value) (m:Str→Option Value),ps.Nodup→ps.length=vs.length →
  (∀ i:Nat,ps[i]?=some x→bindL kindOf (ps.zip vs) m x=vs[i]?)∧(x∉ps→bindL kindOf (ps.zip vs) m x=m x)
 | [],_,m,_,_=>⟨fun i e=>by simp at e,fun _=>by simp [bindL]⟩
 | p :: ps,[],m,_,e=>by simp at e
 | p :: ps,v :: vs,m,hn,e=>by
  obtain ⟨hp,hn'⟩:=List.nodup_cons.mp hn
  have ih:=fun m=>lD hx ps vs m hn' (Nat.succ.inj e)
  refine ⟨fun i ei=>?_,fun nx=>?_⟩
  ·refine (?_:bindL kindOf (ps.zip vs) _ x=_)
   cases i with
   | zero=>
    (injection ei with ei; subst ei)
    rw [(ih _).2 hp,if_pos hx]; exact if_pos rfl
   | succ i=>exact (ih _).1 i ei
  ·refine (?_:bindL kindOf (ps.zip vs) _ x=_)
   rw [(ih _).2 fun q=>nx (.tail _ q)]
   split
   ·exact if_neg fun q:x=p=>nx (q▸.head _)
   ·rfl
theorem lE {kindOf:Str→Option NameKind} {x:Str} (hx:kindOf x≠some .local):∀ (ps:List Str) (vs:List Value) (m:Str→Option Value),ps.Nodup→ps.length=vs.length →
  (∀ i:Nat,ps[i]?=some x→bindC kindOf (ps.zip vs) m x=vs[i]?)∧(x∉ps→bindC kindOf (ps.zip vs) m x=m x)
 | [],_,m,_,_=>⟨fun i e=>by simp at e,fun _=>by simp [bindC]⟩
 | p :: ps,[],m,_,e=>by simp at e
 | p :: ps,v :: vs,m,hn,e=>by
  obtain ⟨hp,hn'⟩:=List.nodup_cons.mp hn
  have ih:=fun m=>lE hx ps vs m hn' (Nat.succ.inj e)
  refine ⟨fun i ei=>?_,fun nx=>?_⟩
  ·refine (?_:bindC kindOf (ps.zip vs) _ x=_)
   cases i with
   | zero=>
    (injection ei with ei; subst ei)
    rw [(ih _).2 hp,if_neg hx]; exact if_pos rfl
   | succ i=>exact (ih _).1 i ei
  ·refine (?_:bindC kindOf (ps.zip vs) _ x=_)
   rw [(ih _).2 fun q=>nx (.tail _ q)]
   split
   ·rfl
   ·exact if_neg fun q:x=p=>nx (q▸.head _)
theorem fw:∀ (l:List Str) (n:Nat) (x:Str) (k:Nat),(l.zipIdx n).lookup x=some k→∃ j,k=n+j∧l[j]?=some x
 | [],_,_,_,e=>nomatch e
 | y :: r,n,x,k,e=>by
  rw [List.zipIdx_cons,List.lookup_cons] at e
  cases hb:x==y with
  | true=>replace e:=hb▸e; (injection e with e; subst e); rw [beq_iff_eq.mp hb]; exact ⟨0,rfl,rfl⟩
  | false=>
   rw [hb] at e
   obtain ⟨j,h1,h2⟩:=fw r (n+1) x k e
   exact ⟨j+1,by rw [h1,Nat.add_assoc,Nat.add_comm 1],h2⟩
structure FnAt (g:Gl) (a:Addr) (fn:Fn) (fd:FuncData) (body:List Stmt) (nms:List Str):Prop where
 at':∃ o:Obj,g.h0.get? a=some o∧o.data=.func fd
 bd:fd.body=.stmts body
 code:g.h0.CodeRec fd.code fd.qualname
 glo:fd.globals=mainGlobals
 blt:fd.builtins=builtinsNs
 clo:fd.closure=[]
 co:fd.scope.isCoroutine=false
 gen:fd.scope.isGenerator=false
 kind:fd.scope.kind=.function
 bind:∀ vals:List Value,vals.length=fn.npar→bindArgs fd ⟨vals,[]⟩=pure ((nms.take fn.npar).zip vals)
 nodup:nms.Nodup
 npar:fn.npar≤nms.length
 nslots:nms.length≤fn.nslots
 kinds:∀ x∈nms,fd.scope.names.lookup x=some .local∨fd.scope.names.lookup x=some .cell
noncomputable def kg (nms:List Str) (sc:List (Str×NameKind)) (L:Addr) (cs:List (Str×Addr)) (k:Nat):Pl:=match nms[k]? with
 | none=>.off
 | some x=>if sc.lookup x=some .local then .ns L x else match cs.lookup x with | some c=>.cell c | none=>.off
noncomputable def v4 (g:Gl) (A:Around) (fd:FuncData) (nms:List Str) (ns:Nat) (a L:Addr) (bad:Addr→Prop) (d:Nat) (hm nw:Bool):Fx:=
 { g:=g,A:=A.deeper (callEnvC fd L a),env:=callEnvC fd L a,ρ:=nms.zipIdx,pl:=kg nms fd.scope.names L (cellsFrom (L+1) fd.scope.names []),Mo:=bad,nf:=nms.length,ns:=ns,d:=d,hm:=hm,nw:=nw }
section
variable {g:Gl} {a:Addr} {fn:Fn} {fd:FuncData} {body:List Stmt} {nms:List Str}
theorem pl_cases (F:FnAt g a fn fd body nms) (L n:Nat) (k:Nat):(nms[k]?=none∧kg nms fd.scope.names L (cellsFrom n fd.scope.names []) k=.off)∨∃ x,nms[k]?=some x∧((fd.scope.names.lookup x=some .local∧kg nms fd.scope.names L (cellsFrom n fd.scope.names []) k=.ns L x) ∨
  (fd.scope.names.lookup x=some .cell∧∃ c,(cellsFrom n fd.scope.names []).lookup x=some c∧kg nms fd.scope.names L (cellsFrom n fd.scope.names []) k=.cell c)):=by
 unfold kg
 cases hk:nms[k]? with
 | none=>exact .inl ⟨rfl,rfl⟩
 | some x=>
  refine .inr ⟨x,rfl,(F.kinds x (List.mem_of_getElem? hk)).imp (fun h=>⟨h,if_pos h⟩) fun h=>⟨h,?_⟩⟩
  obtain ⟨c,hc⟩:=Option.isSome_iff_exists.mp (d0 fd.scope.names n [] x (.inl (mem_of_lookup h)))
  refine ⟨c,hc,(if_neg fun q=>?_).trans ?_⟩
  ·replace q:=h▸q; cases q
  ·rw [hc]
theorem AQ {d:Nat} {A:Around} {L:Addr} {bad:Addr→Prop} (F:FnAt g a fn fd body nms) (gr:Ground g) (ih:fK g (aq g.P d) d) {hm nw:Bool} (hand:nE hm A) (hroom:A.depth+(1+2 * d) < 990) (hunits:A.units+(3+4 * d)+100 < cLine)
  (above:∀ x c,(cellsFrom (L+1) fd.scope.names []).lookup x=some c→L < c) (apart:(cellsFrom (L+1) fd.scope.names []).Pairwise fun x y=>x.2≠y.2) (hb0:∀ b,bad b→g.h0.get? b=none) :
  FxOk (v4 g A fd nms fn.nslots a L bad d hm nw) where
 gr:=gr
 hand:=hand
 kind:=F.kind
 globals:=F.glo
 builtins:=F.blt
 vis:=fun x k hx=>by
  obtain ⟨j,rfl,hj⟩:=fw nms 0 x k hx
  rw [Nat.zero_add]
  rcases pl_cases F L (L+1) j with ⟨q,_⟩ | ⟨y,q,z⟩ <;> rw [hj] at q <;> cases q
  exact z.imp (fun z=>⟨z.1,z.2⟩) fun ⟨z,c,hc,zp⟩=>⟨.inl z,c,hc,zp⟩
 inj:=fun k j e hne=>by
  rcases pl_cases F L (L+1) k with ⟨_,q⟩ | ⟨x,qk,zk⟩
  ·exact absurd q hne
  rcases pl_cases F L (L+1) j with ⟨_,q⟩ | ⟨y,qj,zj⟩
  ·exact absurd (e.trans q) hne
  have e:kg nms fd.scope.names L (cellsFrom (L+1) fd.scope.names []) k=kg nms fd.scope.names L (cellsFrom (L+1) fd.scope.names []) j:=e
  have:x=y:=by
   rcases zk with ⟨_,q⟩ | ⟨_,c,q1,q⟩ <;> rcases zj with ⟨_,q'⟩ | ⟨_,c',q1',q'⟩ <;> rw [q,q'] at e <;> cases e
   ·rfl
   ·exact name_of_addr apart (mem_of_lookup q1) (mem_of_lookup q1')
  subst this
  exact (List.getElem?_inj (List.getElem?_eq_some_iff.mp qk).1 F.nodup).mp (qk.trans qj.symm)
 apart:=fun k j b x c e1 e2=>by
  have e1:kg nms fd.scope.names L (cellsFrom (L+1) fd.scope.names []) k=.ns b x:=e1
  have e2:kg nms fd.scope.names L (cellsFrom (L+1) fd.scope.names []) j=.cell c:=e2
  rcases pl_cases F L (L+1) k with ⟨_,q⟩ | ⟨y,_,⟨_,q⟩ | ⟨_,_,_,q⟩⟩ <;> rw [q] at e1 <;> cases e1
  rcases pl_cases F L (L+1) j with ⟨_,q⟩ | ⟨y,_,⟨_,q⟩ | ⟨_,c',q1,q⟩⟩ <;> rw [q] at e2 <;> cases e2
  exact Nat.ne_of_lt (above y _ q1)
 offs:=fun k hk=>by
  rcases pl_cases F L (L+1) k with ⟨_,q⟩ | ⟨y,q,_⟩
  ·exact q
  ·exact absurd (List.getElem?_eq_some_iff.mp q).1 (Nat.not_lt.mpr hk)
 nfs:=F.nslots
 room:=by refine (?_:A.depth+1+2 * d < 990); lia
 units:=by refine (?_:A.units+3+4 * d+100 < cLine); lia
 call:=ih
 mo0:=hb0
end
end Mine
end
noncomputable section
namespace Mine
open PySem PySem.Calls PyProof.Rows PySem.W
section
variable {g:Gl} {a:Addr} {fn:Fn} {fd:FuncData} {body:List Stmt} {nms:List Str}
theorem vK {d:Nat} {A:Around} {s:Shared} {bad:Addr→Prop} {vals:List Value} {G0:Gs} {oa0:Nat→Option Addr} {K:Option V→Gs→Prop} {R:Result→Shared→Prop} {hm nw:Bool} (F:FnAt g a fn fd body nms) (gr:Ground g) (ih:fK g (aq g.P d) d)
  (hand:nE hm A) (hfrs:fS g A s.heap) (hroom:A.depth+(1+2 * d) < 990) (hunits:A.units+(3+4 * d)+100 < cLine) (B:Base g s) (hbad:∀ b,bad b→aW s.heap b) (hb0:∀ b,bad b→g.h0.get? b=none) (hlen:vals.length=fn.npar) (hG:G0.length=fn.nslots)
  (hoa:∀ k b,oa0 k=some b→k=0∧aW s.heap b∧g.h0.get? b=none∧¬ bad b)
  (hsl:∀ k,k < fn.npar→eM g (fun b=>bad b∨∃ k,oa0 k=some b) s.heap (oa0 k) vals[k]? (getSlot G0 k)) (hun:∀ k,¬ k < fn.npar→getSlot G0 k=.unset∧oa0 k=none) (sim:∀ L,ExB (v4 g A fd nms fn.nslots a L bad d hm nw) (execs body (callEnvC fd L a)) (exs g.P.sup (aq g.P d) fn.body)) (hb:exs g.P.sup (aq g.P d) fn.body G0 K)
  (hR:∀ s' (Φ':Ct) f fl,(fl=none→Inv Φ' s')→Base g s'→Φ'.fx.g=g→Φ'.fx.Mo=bad→Φ'.fx.nw=nw→(∀ b o,s.heap.get? b=some o→(∀ k,oa0 k≠some b)→bA s'.heap b o)→(∀ k b,Φ'.oa k=some b→isI (getSlot Φ'.G k)→oa0 k=some b)→x2 Φ' s s'.heap f fl→K fl Φ'.G →
   R (.ok (.ret (match f with | .ret v=>v | _=>.none))) s')
  (hX:∀ s' c e G',c < g.nc→Base g s'→(∀ b o,s.heap.get? b=some o→(∀ k,oa0 k≠some b)→bA s'.heap b o)→ExcAt s'.heap s.heap e (.ref (g.cls c)) .none→K (some (eP c)) G'→R (.error (.ref e)) s'):codeAny (model g.prog g.w) A (.call (.ref a) ⟨vals,[]⟩) R s:=by
 obtain ⟨o,ho,hd⟩:=F.at'
 have dead:∀ a,s.heap.objs.size≤a→s.heap.get? a=none:=fun a ha=>by
  cases e:s.heap.get? a with
  | none=>rfl
  | some o=>exact absurd (Heap.lt_size e) (Nat.not_lt.mpr ha)
 have cok:=cellsFrom_ok fd.scope.names (s.heap.push { cls:=.type "frame",data:=.dict #[] }) (s.heap.objs.size+1) [] ⟨fun _ _ hm=>(nomatch hm),List.Pairwise.nil⟩ (by rw [Heap.size_push]; exact Nat.le_refl _)
 rw [Heap.size_push] at cok
 have above:∀ x c,(cellsFrom (s.heap.objs.size+1) fd.scope.names []).lookup x=some c→s.heap.objs.size < c:=fun x c hx=>(cok.empty x c (mem_of_lookup hx)).2
 have ok:=AQ (bad:=bad) (hm:=hm) (nw:=nw) F gr ih hand hroom hunits above cok.apart hb0
 have hkc:∀ x∈nms,fd.scope.names.lookup x=some .local∨(fd.scope.names.lookup x=some .cell∧((cellsFrom (s.heap.objs.size+1) fd.scope.names []).lookup x).isSome=true):=fun x hx=>(F.kinds x hx).imp id fun h=>⟨h,d0 _ _ _ _ (.inl (mem_of_lookup h))⟩
 refine Bf (o:=o) (fd:=fd) (body:=body) (binds:=(nms.take fn.npar).zip vals) (by refine (?_:A.depth < 1000); omega) (B.stays _ _ ho) hd (gr.nolim.keeps fun b o e=>B.stays b o e) (F.code.keeps fun b o e=>B.stays b o e) F.bd (F.bind vals hlen) F.clo
  (fun x hx=>hkc x.1 (List.mem_of_mem_take (List.of_mem_zip hx).1)) F.co F.gen F.kind (fun s₁ ic fcl=>?_)
 let fx:Fx:=v4 g A fd nms fn.nslots a s.heap.objs.size bad d hm nw
 have sim:ExB fx (execs body fx.env) (exs g.P.sup (aq g.P d) fn.body):=sim s.heap.objs.size
 have plDead:∀ k b,(fx.pl k).addr=some b→s.heap.get? b=none:=fun k b e=>by
  have e:(kg nms fd.scope.names s.heap.objs.size (cellsFrom (s.heap.objs.size+1) fd.scope.names []) k).addr=some b:=e
  rcases pl_cases F s.heap.objs.size (s.heap.objs.size+1) k with ⟨_,q⟩ | ⟨y,_,⟨_,q⟩ | ⟨_,c,q1,q⟩⟩ <;> rw [q] at e <;> (first | (injection e; done) | (injection e with e; subst e))
  ·exact dead _ (Nat.le_refl _)
  ·exact dead _ (Nat.le_of_lt (above y _ q1))
 have kp:aH s.heap s₁.heap:=ic.toInCall.keep
 obtain ⟨hs₁,tk₁,es₁⟩:=ic.toInCall.same
 have notOwn:∀ b,aW s.heap b→(∀ k,oa0 k≠some b)→¬ (Ct.mk fx oa0 G0).own b:=fun b l n q=>by
  rcases q with ⟨k,q⟩ | ⟨k,q⟩
  ·obtain ⟨o,e⟩:=l; rw [plDead k b q] at e; (injection e; done)
  ·exact n k q
 have mk:eQ (fun b=>bad b∨∃ k,oa0 k=some b) (Ct.mk fx oa0 G0).bad s.heap s₁.heap:=fun b o e _ n=>⟨fun q=>q.elim (fun q=>n (.inl q)) (notOwn b ⟨o,e⟩ fun k q=>n (.inr ⟨k,q⟩)),kp b o e⟩
 have hpar:(nms.take fn.npar).length=vals.length:=by rw [List.length_take,hlen]; exact Nat.min_eq_left F.npar
 have hpnd:(nms.take fn.npar).Nodup:=F.nodup.sublist (List.take_sublist _ _)
 have inPar:∀ k x,nms[k]?=some x→k < fn.npar→(nms.take fn.npar)[k]?=some x:=fun k x hk hlt=>by rw [List.getElem?_take_of_lt hlt]; exact hk
 have notPar:∀ k x,nms[k]?=some x→¬ k < fn.npar→x∉nms.take fn.npar:=fun k x hk hge hm=>by
  obtain ⟨j,hj⟩:=List.getElem?_of_mem hm
  have hjl:j < fn.npar:=Nat.lt_of_lt_of_le (List.getElem?_eq_some_iff.mp hj).1 (List.length_take_le _ _)
  rw [List.getElem?_take_of_lt hjl] at hj
  exact hge ((List.getElem?_inj (List.getElem?_eq_some_iff.mp hj).1 F.nodup).mp (hj.trans hk.symm)▸hjl)
 have slot:∀ k,∃ v,be s₁.heap (fx.pl k) v∧(k < fn.npar→v=vals[k]?)∧(¬ k < fn.npar→v=none):=fun k=>by
  rcases pl_cases F s.heap.objs.size (s.heap.objs.size+1) k with ⟨e,q⟩ | ⟨x,hk,⟨h1,q⟩ | ⟨h1,c,h2,q⟩⟩
  ·exact ⟨none,by refine (?_:be _ (kg _ _ _ _ _) _); rw [q]; rfl,fun hlt=>absurd hlt (Nat.not_lt.mpr (zB1 F.npar (List.getElem?_eq_none_iff.mp e))),fun _=>rfl⟩
  ·have bl:=lD (kindOf:=(callEnvC fd s.heap.objs.size a).kindOf) (x:=x) h1 (nms.take fn.npar) vals (fun _=>none) hpnd hpar
   exact ⟨_,by refine (?_:be _ (kg _ _ _ _ _) _); rw [q]; exact ⟨_,ic.toInCall.ns,rfl⟩,fun hlt=>bl.1 k (inPar k x hk hlt),fun hge=>bl.2 (notPar k x hk hge)⟩
  ·have bc:=lE (kindOf:=(callEnvC fd s.heap.objs.size a).kindOf) (x:=x) (fun z=>by have z:fd.scope.names.lookup x=some .local:=z; rw [h1] at z; cases z) (nms.take fn.npar) vals (fun _=>none) hpnd hpar
   exact ⟨_,by refine (?_:be _ (kg _ _ _ _ _) _); rw [q]; exact ic.cell x c h2,fun hlt=>bc.1 k (inPar k x hk hlt),fun hge=>bc.2 (notPar k x hk hge)⟩
 obtain ⟨l,hl,fl⟩:=hfrs
 have fr₁':gQ g.h0 s₁.heap (callEnvC fd s.heap.objs.size a :: l):=fun env m=>by
  cases m with
  | head=>
   obtain ⟨o',e',c'⟩:=fcl
   obtain ⟨on,_,_,en,dn,_⟩:=ic.toInCall.ns
   (injection e'.symm.trans en with Xq; subst Xq)
   exact ⟨by refine (?_:fd.scope.kind≠_); rw [F.kind]; exact nofun,_,o',rfl,aK (fun l=>B.stays.live l) (ar _),e',c',fun vs q=>nomatch dn.symm.trans q⟩
  | tail _ m=>exact (fl.keep kp.keeps) env m
 have hAf:fx.A.frames=some (callEnvC fd s.heap.objs.size a :: l):=by refine (?_:(A.deeper (callEnvC fd s.heap.objs.size a)).frames=_); unfold Around.deeper; rw [hl]; rfl
 have fr₁:fS g fx.A s₁.heap:=⟨_,hAf,fr₁'⟩
 have I₁:Inv ⟨fx,oa0,G0⟩ s₁:=by
  refine ⟨ok,⟨fun b o e=>kp b o (B.stays b o e),by rw [es₁]; exact B.os,by rw [es₁]; exact B.gens⟩,fun k=>?_,fun b q=>?_,fun k j b e1 e2=>(hoa k b e1).1.trans (hoa j b e2).1.symm,fun k b e j q=>?_,hG,fun b q=>kp.live (hbad b q),fr₁⟩
  ·obtain ⟨v,r,h1,h2⟩:=slot k
   refine ⟨v,r,?_⟩
   by_cases hlt:k < fn.npar
   ·rw [h1 hlt]; exact (hsl k hlt).map mk fun b _ o e _=>kp b o e
   ·rw [h2 hlt,(hun k hlt).1]; exact ⟨(hun k hlt).2,rfl⟩
  ·rcases q with ⟨k,q⟩ | ⟨k,q⟩
   ·have hn:=plDead k b q
    refine ⟨?_,aK (fun l=>B.stays.live l) hn,fun z=>by obtain ⟨o,e⟩:=hbad b z; rw [hn] at e; (injection e; done)⟩
    obtain ⟨v,r,_⟩:=slot k
    have q:(fx.pl k).addr=some b:=q
    generalize fx.pl k=pl at r q
    cases pl with
    | ns a' x=>(injection q with q; subst q); obtain ⟨m,⟨o',_,_,ho',_⟩,_⟩:=r; exact ⟨o',ho'⟩
    | cell c=>(injection q with q; subst q); obtain ⟨o',ho',_⟩:=r; exact ⟨o',ho'⟩
    | off=>(injection q; done)
   ·obtain ⟨_,l,h0,nb⟩:=hoa k b q
    exact ⟨kp.live l,h0,nb⟩
  ·obtain ⟨o,e⟩:=(hoa k b e).2.1
   rw [plDead j b q] at e; (injection e; done)
 refine wpAny_mono (sim oa0 G0 K s₁ hb I₁) (fun f s' ⟨oa',G',fl,I',B',t,hf,hk⟩=>hR s' ⟨fx,oa',G'⟩ f fl (fun q=>I' (.inl q)) B' rfl rfl rfl (fun b o e n=>t.keep b o (kp b o e) (notOwn b ⟨o,e⟩ n)) (fun k b e q=>(t.inst k b e q).1) (hf.lift fun b l=>kp.live l) hk) fun v s' ⟨oa',G',c,e,hv,hc,I',t,xa,hk⟩=>?_
 subst hv
 have fr':=I'.fr.of hAf
 exact pP (lo:=s.heap) hAf fr'.funs rfl (fun b l=>t.live b (kp.live l)) (xa.le fun b l=>kp.live l) fun h' n x=>hX { s' with heap:=h' } c e G' hc (cN (s:=s) (s₁:=s') B I'.base fr' n) (fun b o e nn=>oF (s:=s) (s₁:=s') (t.keep b o (kp b o e) (notOwn b ⟨o,e⟩ nn)) ⟨o,e⟩ fr' n) x hk
end
end Mine
end
noncomputable section
namespace Mine
open PySem PySem.Calls PyProof.Rows PySem.W
section
variable {g:Gl}
theorem oV {α:Type} {l r:List α} {k:Nat} {x:α} (h:l[k]?=some x) (d:α):(l++r).getD k d=x:=by
 rw [List.getD_eq_getElem?_getD,List.getElem?_append_left (List.getElem?_eq_some_iff.mp h).1,h]; rfl
theorem oU {α:Type} {l:List α} {k n:Nat} {d:α} (h:l.length≤k):(l++List.replicate n d).getD k d=d:=by
 rw [List.getD_eq_getElem?_getD,List.getElem?_append_right h,List.getElem?_replicate]; split <;> rfl
noncomputable def kA (g:Gl) (d:Nat) (a:Addr) (fn:Fn) (fd:FuncData) (body:List Stmt) (nms:List Str) (safe nw:Bool):Prop:=∀ hm A L bad,(hm=true→safe=true)→ExB (v4 g A fd nms fn.nslots a L bad d hm nw) (execs body (callEnvC fd L a)) (exs g.P.sup (aq g.P d) fn.body)
structure InitAt (g:Gl) (d:Nat) (fn:Fn):Prop where
 it:∃ fI fd body nms,findIn g.K (.ref g.C) "__init__"=some (some (.ref fI))∧typeIn g.K (.ref fI)=some (.type "function")∧FnAt g fI fn fd body nms∧kA g d fI fn fd body nms false false
theorem zf {a d:Nat} (h:a+2 * (d+1) < 990):a+(1+2 * d) < 990:=Nat.add_comm (2 * d) 1▸Nat.lt_of_succ_lt h
theorem ze {a d:Nat} (h:a+2 * (d+1) < 990):a+1+(1+2 * d) < 990:=Nat.add_comm (2 * d) 1▸(Nat.add_right_comm a (2 * d) 1▸h:a+1+2 * d+1 < 990)
theorem zd {a d c:Nat} (h:a+4 * (d+1)+100 < c):a+(3+4 * d)+100 < c:=Nat.add_comm (4 * d) 3▸Nat.lt_of_succ_lt (h:a+4 * d+103+1 < c)
theorem zc {a d c:Nat} (h:a+4 * (d+1)+100 < c):a+1+(3+4 * d)+100 < c:=Nat.add_comm (4 * d) 3▸(Nat.add_right_comm a (4 * d) 1▸h:a+1+4 * d+3+100 < c)
theorem cX {D b:Addr} {k:Nat} (e:(if k=0 then some D else none)=some b):k=0∧b=D:=by
 by_cases q:k=0
 ·exact ⟨q,(Option.some.inj ((if_pos q).symm.trans e)).symm⟩
 ·exact nomatch (if_neg q).symm.trans e
theorem w7 {l:List V} (h:l.length=5):noX (kI l)=true:=by
 cases l with
 | nil=>exact nomatch h
 | cons x l=>cases l with
  | nil=>exact nomatch h
  | cons=>rfl
theorem uV {l:List V} (h:l.length=5):su (l.map fun x=>(PyData.none,x))=true:=by
 cases l with
 | nil=>exact nomatch h
 | cons=>rfl
theorem zJ (l:List V):(l.map fun x=>(PyData.none,x)).map (·.2)=l:=List.map_map.trans (List.map_id l)
theorem nR {d:Nat} (gr:Ground g) (hfn:∀ f fn,g.P.fns[f]?=some fn→fn.init=false→∃ fd body nms,FnAt g (g.fn f) fn fd body nms∧kA g d (g.fn f) fn fd body nms (g.safe f) (g.newf f)) (hin:∀ f fn,g.P.fns[f]?=some fn→fn.init=true→g.fn f=g.C∧g.safe f=false∧InitAt g d fn) (ih:fK g (aq g.P d) d) :
  fK g (aq g.P (d+1)) (d+1):=fun hm f args K A s bad vals hc hand hsafe hroom hunits B hfr hbad hb0 hvals=>by
 refine aj hc fun fn hf ⟨hlen,hb⟩=>?_
 have hva:=hvals.length
 cases hi:fn.init with
 | false=>
  rw [hi,if_neg Bool.false_ne_true,Nat.add_zero] at hlen
  obtain ⟨fd,body,nms,F,sim⟩:=hfn f fn hf hi
  have e0:dc fn args=args.map .v++List.replicate (fn.nslots - fn.npar) .unset:=by unfold dc; rw [hi]; rfl
  have hml:(args.map Slot.v).length=fn.npar:=by rw [zA4,hlen]
  refine wpAny_call (vK (oa0:=fun _=>none) (nw:=g.newf f) F gr ih hand hfr (zf hroom) (zd hunits) B hbad hb0 (hva.trans hlen) ?_ (fun k b e=>nomatch e) (fun k hk=>?_) (fun k hk=>⟨?_,rfl⟩) (fun L=>sim hm A L bad hsafe) hb (fun s' Φ' f' fl I' B' hg hm hnw kk ki hfl hk=>?_) fun s' c e G' hc B' kk x hk=>?_)
  ·rw [e0,zB5,hml,List.length_replicate]; exact Nat.add_sub_cancel' (zB1 F.npar F.nslots)
  ·have hka:k < args.length:=hlen▸hk
   obtain ⟨v,hv,rv⟩:=hvals.get (List.getElem?_eq_getElem hka)
   rw [show getSlot (dc fn args) k=.v args[k] by rw [e0]; exact oV (by rw [List.getElem?_map,List.getElem?_eq_getElem hka]; rfl) _,hv]
   exact ⟨rfl,v,rfl,rv.map fun b o e _ n=>⟨fun q=>q.elim n fun ⟨_,q⟩=>(nomatch q),e⟩⟩
  ·rw [e0]; exact oU (hml▸Nat.not_lt.mp hk)
  ·rw [hi,if_neg Bool.false_ne_true] at hk
   cases fl with
   | none=>subst hfl; exact ⟨B',fun b o e=>kk b o e fun k q=>(nomatch q),_,hk,rfl,.none,fun _ a b q=>nomatch q⟩
   | some y=>obtain ⟨nx,v,rfl,r,nv⟩:=hfl; subst hg; exact ⟨B',fun b o e=>kk b o e fun k q=>(nomatch q),_,hk,nx,r.map fun b o e _ n=>⟨fun q=>n (.inl (hm▸q)),e⟩,fun q=>nv (hnw▸q)⟩
  ·rw [hi,if_neg Bool.false_ne_true] at hk
   exact ⟨B',fun b o e=>kk b o e fun k q=>(nomatch q),c,e,rfl,hc,hk,x⟩
 | true=>
  rw [hi,if_pos rfl] at hlen
  obtain ⟨hC,hsf,⟨fI,fd,body,nms,h1,h2,F,sim⟩⟩:=hin f fn hf hi
  have hm0:hm=false:=by cases hm with | false=>rfl | true=>exact absurd (hsafe rfl) (by rw [hsf]; exact Bool.false_ne_true)
  subst hm0
  rw [hC]
  have X:=gr.frag.keeps B.stays
  have e0:dc fn args=(.ownI [] :: args.map .v)++List.replicate (fn.nslots - fn.npar) .unset:=by unfold dc; rw [hi]; rfl
  have hml:(Slot.ownI [] :: args.map Slot.v).length=fn.npar:=by rw [zB4,zA4,hlen]
  have kp:aH s.heap ((s.heap.push emptyDict).push (instObj g.C s.heap.objs.size)):=(aA _ _).trans (aA _ _)
  have hD:((s.heap.push emptyDict).push (instObj g.C s.heap.objs.size)).get? s.heap.objs.size=some emptyDict:=Heap.get?_push_of_some _ (Heap.get?_push_size _ rfl)
  have hX:((s.heap.push emptyDict).push (instObj g.C s.heap.objs.size)).get? (s.heap.objs.size+1)=some (instObj g.C s.heap.objs.size):=by rw [← Heap.size_push s.heap emptyDict]; exact Heap.get?_push_size _ rfl
  have nb:∀ b,bad b→b < s.heap.objs.size:=fun b q=>(hbad b q).elim fun o e=>Heap.lt_size e
  have nd:¬ bad s.heap.objs.size:=fun q=>Nat.lt_irrefl _ (nb _ q)
  have nx:¬ bad (s.heap.objs.size+1):=fun q=>Nat.not_lt.mpr (Nat.le_succ _) (nb _ q)
  refine wpAny_call (make_core (makes_of X gr.cls.makes) (looks_findIn X h1) (fun self=>bind_fn X self h2) (.inl rfl) ?_)
  refine vK (oa0:=fun k=>if k=0 then some s.heap.objs.size else none) (nw:=false) F gr ih hand (hfr.keep kp.keeps) (ze hroom) (zc hunits) ⟨B.stays.trans kp,B.os,B.gens⟩ (fun b q=>kp.live (hbad b q)) hb0 (by rw [zB4,hva]; exact hlen) ?_ (fun k b e=>?_) (fun k hk=>?_) (fun k hk=>⟨?_,?_⟩) (fun L=>sim false _ L bad nofun) hb (fun s' Φ' f' fl I' B' hg hm hnw kk ki hfl hk=>?_) fun s' c e G' hc B' kk x hk=>?_
  ·rw [e0,zB5,hml,List.length_replicate]; exact Nat.add_sub_cancel' (zB1 F.npar F.nslots)
  ·obtain rfl:=(cX e).2
   exact ⟨(cX e).1,⟨_,hD⟩,aK (fun l=>B.stays.live l) (ar s.heap),nd⟩
  ·cases k with
   | zero=>
    rw [show getSlot (dc fn args) 0=.ownI [] by rw [e0]; rfl,if_pos rfl]
    exact ⟨_,.ref (s.heap.objs.size+1),rfl,rfl,_,_,[],rfl,rfl,(fun q=>q.elim nx fun ⟨k,q⟩=>Nat.succ_ne_self _ (cX q).2),hX,hD,⟨⟨rfl,rfl,rfl⟩,#[],0,rfl,rfl,fun j e h=>by simp at h⟩,(fun j b m e=>by simp at e),.nil⟩
   | succ k=>
    have hka:k < args.length:=Nat.lt_of_succ_lt_succ (show k+1 < args.length+1 by rw [hlen]; exact hk)
    obtain ⟨v,hv,rv⟩:=hvals.get (List.getElem?_eq_getElem hka)
    rw [show getSlot (dc fn args) (k+1)=.v args[k] by rw [e0]; exact oV (by refine (?_:(args.map Slot.v)[k]?=_); rw [List.getElem?_map,List.getElem?_eq_getElem hka]; rfl) _,if_neg (Nat.succ_ne_zero k)]
    exact ⟨rfl,v,hv,rv.map fun b o e _ n=>⟨fun q=>q.elim n fun ⟨j,q⟩=>Nat.ne_of_lt (Heap.lt_size e) (cX q).2,kp b o e⟩⟩
  ·rw [e0]; exact oU (hml▸Nat.not_lt.mp hk)
  ·exact if_neg fun q=>hk (by rw [q,← hlen]; exact Nat.succ_pos _)
  ·rw [hi,if_pos rfl] at hk
   have no:∀ b,b≠s.heap.objs.size→∀ k,(if k=0 then some s.heap.objs.size else none)≠some b:=fun b n k q=>n (cX q).2
   cases fl with
   | some y=>exact absurd hk.1 (by rw [hfl.1]; exact fun q=>nomatch q)
   | none=>
    subst hfl
    have I':=I' rfl
    refine ⟨rfl,aj hk fun l el ⟨hl5,kl⟩=>?_⟩
    have sl:=gX el
    obtain ⟨a',u,ha,pr,b,o,ws,hu,hba,hnb,hbo,ho,hF,hnl,hl⟩:=mZ I' sl id
    obtain rfl:=(cX (ki 0 a' ha (by rw [sl]; trivial))).2
    subst hba hg
    exact ⟨B',fun b o e=>kk b o (kp b o e) (no b fun q=>Nat.lt_irrefl _ (q▸Heap.lt_size e)),_,kl,w7 hl5,
     .inst (l:=l) nx nd ((kk _ _ hX (no _ (Nat.succ_ne_self _))).get fE) ho hF hnl (uV hl5) (zJ l) (hl.map fun b o e _ n=>⟨fun q=>n (.inl (hm▸q)),e⟩),fun _=>fj (Nat.le_succ _)⟩
  ·rw [hi,if_pos rfl] at hk
   exact ⟨B',fun b o eb=>kk b o (kp b o eb) fun k q=>Nat.ne_of_lt (Heap.lt_size eb) (cX q).2,c,e,rfl,hc,hk.2,x.le fun b l=>kp.live l⟩
end
end Mine
end
noncomputable section
namespace Mine
open PySem PySem.Calls PyProof.Rows PySem.W
noncomputable def bU (fx:Fx):Sx:=⟨fx.env.scope.names,fx.ρ,fx.nf,fx.ns,fx.hm,fx.nw⟩
noncomputable def ah (fx:Fx) (p:Pz) (x:Expr) (d:D):Prop:=match p with
 | .val=>∀ oa G,Ev ⟨fx,oa,G⟩ (eval x fx.env) (d G)
 | .test=>∀ oa G,EvT ⟨fx,oa,G⟩ (isTrue x fx.env (eval x fx.env)) (tst (d G))
 | .new=>∀ oa G,EvN ⟨fx,oa,G⟩ (eval x fx.env) (d G)
 | .src st T=>∀ oa G,fv ⟨fx,oa,G⟩ T st x (fun K=>d G fun v=>okK (bM v) K)
 | .asg y py sp=>∀ k,TgtOk fx.ρ fx.env y k→ExB fx (exec (.Assign [.Name y py] x sp) fx.env) (fun G K=>d G fun v=>K none (G.set k (.v v)))
noncomputable def eN (g:Gl) (n:Nat) (t:Kid) (d:D):Prop:=∀ fx,fx.g=g→fx.d=n→bU fx=t.1→ah fx t.2.1 t.2.2 d
inductive Kids (g:Gl) (n:Nat):List Kid→List D→Prop
 | nil:Kids g n [] []
 | cons {t:Kid} {ts:List Kid} {d:D} {ds:List D}:eN g n t d→Kids g n ts ds→Kids g n (t :: ts) (d :: ds)
section
variable {g:Gl} {n:Nat} {ds:List D} {C:List D→Prop} {t u w:Kid}
@[elab_as_elim] theorem Kids.n0 (h:Kids g n [] ds) (k:C []):C ds:=by cases h; exact k
@[elab_as_elim] theorem Kids.nc {ts:List Kid} (h:Kids g n (t :: ts) ds) (k:∀ d ds,eN g n t d→Kids g n ts ds→C (d :: ds)):C ds:=by cases h with | cons a b=>exact k _ _ a b
@[elab_as_elim] theorem Kids.n1 (h:Kids g n [t] ds) (k:∀ d,eN g n t d→C [d]):C ds:=h.nc fun d ds a b=>b.n0 (k d a)
@[elab_as_elim] theorem Kids.n2 (h:Kids g n [t,u] ds) (k:∀ d e,eN g n t d→eN g n u e→C [d,e]):C ds:=h.nc fun d ds a b=>b.n1 fun e c=>k d e a c
@[elab_as_elim] theorem Kids.n3 (h:Kids g n [t,u,w] ds) (k:∀ d e f,eN g n t d→eN g n u e→eN g n w f→C [d,e,f]):C ds:=h.nc fun d ds a b=>b.n2 fun e f c q=>k d e f a c q
theorem Kids.pairs {X:Sx} {p:Pz} {xs:List Expr}:∀ {ds:List D},Kids g n (xs.map fun x=>(X,p,x)) ds→∃ qs:List (Expr×D),qs.map Prod.fst=xs∧qs.map Prod.snd=ds∧∀ q∈qs,eN g n (X,p,q.1) q.2:=by
 induction xs with
 | nil=>intro ds h; exact h.n0 ⟨[],rfl,rfl,fun _ m=>nomatch m⟩
 | cons x xs ih=>
  intro ds h
  refine h.nc fun d ds a b=>?_
  obtain ⟨qs,e1,e2,hq⟩:=ih b
  exact ⟨(x,d) :: qs,congrArg (x :: ·) e1,congrArg (d :: ·) e2,fun q m=>by cases m with | head=>exact a | tail _ m=>exact hq q m⟩
end
section
variable {g:Gl} {n:Nat} {ds:List D} {fx:Fx} {xs:List Expr}
theorem Kids.vals (h:Kids g n (xs.map fun x=>(bU fx,.val,x)) ds) (hg:fx.g=g) (hn:fx.d=n):∃ qs:Gs→List (Expr×DV),(∀ G,(qs G).map Prod.fst=xs∧(qs G).map Prod.snd=ds.map (· G))∧∀ oa G,∀ q∈qs G,q.1∈xs∧bg ⟨fx,oa,G⟩ q:=by
 obtain ⟨qs,rfl,rfl,hq⟩:=h.pairs
 refine ⟨fun G=>qs.map fun q=>(q.1,q.2 G),fun G=>⟨by rw [List.map_map]; rfl,by rw [List.map_map,List.map_map]; rfl⟩,fun oa G q m=>?_⟩
 obtain ⟨q',m',rfl⟩:=zA7 m
 exact ⟨List.mem_map.mpr ⟨q',m',rfl⟩,hq q' m' fx hg hn rfl oa G⟩
theorem Kids.items (h:Kids g n (xs.map fun x=>(bU fx,.val,x)) ds) (hg:fx.g=g) (hn:fx.d=n) (hp:cF xs=true):∃ qs:Gs→List (Expr×DV),(∀ G,(qs G).map Prod.fst=xs∧(qs G).map Prod.snd=ds.map (· G))∧∀ oa G,∀ q∈qs G,ao q.1=true∧bg ⟨fx,oa,G⟩ q:=by
 obtain ⟨qs,h1,h2⟩:=h.vals hg hn
 exact ⟨qs,h1,fun oa G q m=>⟨List.all_eq_true.mp hp _ (h2 oa G q m).1,(h2 oa G q m).2⟩⟩
theorem Kids.tests (h:Kids g n (xs.map fun x=>(bU fx,.test,x)) ds) (hg:fx.g=g) (hn:fx.d=n):∃ qs:Gs→List (Expr×DV),(∀ G,(qs G).map Prod.fst=xs∧(qs G).map Prod.snd=ds.map (· G))∧∀ oa G,∀ q∈qs G,EvT ⟨fx,oa,G⟩ (isTrue q.1 fx.env (eval q.1 fx.env)) (tst q.2):=by
 obtain ⟨qs,rfl,rfl,hq⟩:=h.pairs
 refine ⟨fun G=>qs.map fun q=>(q.1,q.2 G),fun G=>⟨by rw [List.map_map]; rfl,by rw [List.map_map,List.map_map]; rfl⟩,fun oa G q m=>?_⟩
 obtain ⟨q',m',rfl⟩:=zA7 m
 exact hq q' m' fx hg hn rfl oa G
theorem Kids.node {nb:Bool} {f:List Expr→Expr} {op:List V→(V→Prop)→Prop} (h:Kids g n (xs.map fun x=>(bU fx,.val,x)) ds) (hg:fx.g=g) (hn:fx.d=n) (hp:cF xs=true)
  (k:∀ oa G (qs:List (Expr×DV)),(∀ q∈qs,ao q.1=true∧bg ⟨fx,oa,G⟩ q)→EvC ⟨fx,oa,G⟩ nb (eval (f (qs.map Prod.fst)) fx.env) (fun K=>bo (qs.map Prod.snd) fun xs=>op xs K)):∀ oa G,EvC ⟨fx,oa,G⟩ nb (eval (f xs) fx.env) (fun K=>bY ds G fun xs=>op xs K):=fun oa G=>by
 obtain ⟨qs,h1,h2⟩:=h.items hg hn hp
 have q:=k oa G (qs G) (h2 oa G)
 rw [(h1 G).1,(h1 G).2] at q
 rw [jY]
 exact q
end
theorem cz {x:Expr} {f:Str×Pos→Bool} {C:Expr→Prop} (h:(bQ x).any f=true) (k:∀ n p,f (n,p)=true→C (.Name n p)):C x:=
 if hi:x.ctorIdx=23 then Expr.Name.elim (motive_1:=fun x=>(bQ x).any f=true→C x) x hi (fun n p h=>k n p h) h else by
  unfold bQ at h; rw [dif_neg hi] at h; (injection h; done)
theorem xt {x:Expr} {f:List Expr×Nat×Pos→Bool} {C:Expr→Prop} (h:(ri x).any f=true) (k:∀ xs k p,f (xs,k,p)=true→C (.Tuple xs k p)):C x:=
 if hi:x.ctorIdx=25 then Expr.Tuple.elim (motive_1:=fun x=>(ri x).any f=true→C x) x hi (fun xs j p h=>k xs j p h) h else by
  unfold ri at h; rw [dif_neg hi] at h; (injection h; done)
theorem Bw {x:Expr} {f:List Expr×Pos→Bool} {C:Expr→Prop} (h:(wJ x).any f=true) (k:∀ xs p,f (xs,p)=true→C (.List xs p)):C x:=
 if hi:x.ctorIdx=24 then Expr.List.elim (motive_1:=fun x=>(wJ x).any f=true→C x) x hi (fun xs p h=>k xs p h) h else by
  unfold wJ at h; rw [dif_neg hi] at h; (injection h; done)
theorem Bv {x:Expr} {f:Expr×Expr×Pos→Bool} {C:Expr→Prop} (h:(wI x).any f=true) (k:∀ v s p,f (v,s,p)=true→C (.Subscript v s p)):C x:=
 if hi:x.ctorIdx=21 then Expr.Subscript.elim (motive_1:=fun x=>(wI x).any f=true→C x) x hi (fun v s p h=>k v s p h) h else by
  unfold wI at h; rw [dif_neg hi] at h; (injection h; done)
theorem BX {x:Expr} {f:Option Expr×Option Expr×Option Expr×Pos→Bool} {C:Expr→Prop} (h:(x6 x).any f=true) (k:∀ l u st p,f (l,u,st,p)=true→C (.Slice l u st p)):C x:=
 if hi:x.ctorIdx=26 then Expr.Slice.elim (motive_1:=fun x=>(x6 x).any f=true→C x) x hi (fun l u st p h=>k l u st p h) h else by
  unfold x6 at h; rw [dif_neg hi] at h; (injection h; done)
theorem tW {x:Expr} {f:Expr×List Expr×List Keyword×Pos→Bool} {C:Expr→Prop} (h:(kD x).any f=true) (k:∀ u xs ks p,f (u,xs,ks,p)=true→C (.Call u xs ks p)):C x:=
 if hi:x.ctorIdx=16 then Expr.Call.elim (motive_1:=fun x=>(kD x).any f=true→C x) x hi (fun u xs ks p h=>k u xs ks p h) h else by
  unfold kD at h; rw [dif_neg hi] at h; (injection h; done)
theorem tX {x:Expr} {f:Expr×Str×Pos→Bool} {C:Expr→Prop} (h:(kE x).any f=true) (k:∀ o n q,f (o,n,q)=true→C (.Attribute o n q)):C x:=
 if hi:x.ctorIdx=20 then Expr.Attribute.elim (motive_1:=fun x=>(kE x).any f=true→C x) x hi (fun o n q h=>k o n q h) h else by
  unfold kE at h; rw [dif_neg hi] at h; (injection h; done)
theorem AM {x:Expr} {f:List (Option Expr)×List Expr×Pos→Bool} {C:Expr→Prop} (h:(tT x).any f=true) (k:∀ ks vs p,f (ks,vs,p)=true→C (.Dict ks vs p)):C x:=
 if hi:x.ctorIdx=6 then Expr.Dict.elim (motive_1:=fun x=>(tT x).any f=true→C x) x hi (fun ks vs p h=>k ks vs p h) h else by
  unfold tT at h; rw [dif_neg hi] at h; (injection h; done)
theorem Ev.evC {Φ:Ct} {t:Sem Value} {d:DV} (h:Ev Φ t d):EvC Φ false t d:=fun K s hd I E=>wpAny_mono (h K s hd I E) (fun _ _ p=>⟨p,nofun⟩) fun _ _ z=>z
theorem EvN.evC {Φ:Ct} {b:Bool} {t:Sem Value} {d:DV} (h:EvN Φ t d):EvC Φ b t d:=fun K s hd I E=>wpAny_mono (h K s hd I E) (fun _ _ p=>⟨p.1,fun _=>p.2⟩) fun _ _ z=>z
@[elab_as_elim] theorem l1 {α:Type} {xs:List α} {f:α→Bool} {C:List α→Prop} (h:(iH xs).any f=true) (k:∀ y,f y=true→C [y]):C xs:=by
 match xs,h with
 | [],h=>(injection h; done)
 | [y],h=>exact k y h
 | _ :: _ :: _,h=>(injection h; done)
@[elab_as_elim] theorem l2 {α:Type} {xs:List α} {f:α×α→Bool} {C:List α→Prop} (h:(two? xs).any f=true) (k:∀ y z,f (y,z)=true→C [y,z]):C xs:=by
 match xs,h with
 | [],h=>(injection h; done)
 | [y],h=>(injection h; done)
 | [y,z],h=>exact k y z h
 | _ :: _ :: _ :: _,h=>(injection h; done)
@[elab_as_elim] theorem ln {α:Type} {xs:List α} {C:List α→Prop} (h:xs.isEmpty=true) (k:C []):C xs:=by
 cases xs with
 | nil=>exact k
 | cons=>(injection h; done)
theorem a2 {a b:Bool} (h:(a&&b)=true):a=true∧b=true:=zA2 h
theorem fH {α:Type} {o:Option α} {f:α→Bool} (h:o.any f=true):∃ a,o=some a∧f a=true:=by
 cases o with
 | none=>(injection h; done)
 | some a=>exact ⟨a,rfl,h⟩
end Mine
end
noncomputable section
namespace Mine
open PySem PySem.Calls PyProof.Rows PySem.W
theorem kS:∀ {l m:List V},qC l m=true→m=l
 | [],[],_=>rfl
 | [],_ :: _,h=>nomatch h
 | _ :: _,[],h=>nomatch h
 | x :: l,y :: m,h=>by
  have h:=zA2 h
  rw [kS h.2]
  have h:=h.1
  cases x with
  | str s=>cases y with | str t=>rw [eq_of_beq h] | _=>(injection h; done)
  | _=>(injection h; done)
theorem uP {x y:V} (h:yo x y=true):y=x:=by
 cases x with
 | tuple l=>cases y with | tuple m=>rw [kS h] | _=>(injection h; done)
 | int i=>cases y with | int j=>rw [eq_of_beq h] | _=>(injection h; done)
 | str s=>cases y with | str t=>rw [eq_of_beq h] | _=>(injection h; done)
 | _=>(injection h; done)
theorem nu {x:Expr} {f:Const×Nat×Pos→Bool} {C:Expr→Prop} (h:(fZ x).any f=true) (k:∀ c k p,f (c,k,p)=true→C (.Constant c k p)):C x:=
 if hi:x.ctorIdx=19 then Expr.Constant.elim (motive_1:=fun x=>(fZ x).any f=true→C x) x hi (fun c j p h=>k c j p h) h else by
  unfold fZ at h; rw [dif_neg hi] at h; (injection h; done)
theorem BZ {x:Expr} {f:Expr×Operator×Expr×Pos→Bool} {C:Expr→Prop} (h:(x8 x).any f=true) (k:∀ l o r p,f (l,o,r,p)=true→C (.BinOp l o r p)):C x:=
 if hi:x.ctorIdx=2 then Expr.BinOp.elim (motive_1:=fun x=>(x8 x).any f=true→C x) x hi (fun l o r p h=>k l o r p h) h else by
  unfold x8 at h; rw [dif_neg hi] at h; (injection h; done)
theorem Bz {x:Expr} {f:Expr×List CmpOp×List Expr×Pos→Bool} {C:Expr→Prop} (h:(wM x).any f=true) (k:∀ l o r p,f (l,o,r,p)=true→C (.Compare l o r p)):C x:=
 if hi:x.ctorIdx=15 then Expr.Compare.elim (motive_1:=fun x=>(wM x).any f=true→C x) x hi (fun l o r p h=>k l o r p h) h else by
  unfold wM at h; rw [dif_neg hi] at h; (injection h; done)
theorem yr {x:Expr} {f:BoolOp×List Expr×Pos→Bool} {C:Expr→Prop} (h:(pp x).any f=true) (k:∀ o xs p,f (o,xs,p)=true→C (.BoolOp o xs p)):C x:=
 if hi:x.ctorIdx=0 then Expr.BoolOp.elim (motive_1:=fun x=>(pp x).any f=true→C x) x hi (fun o xs p h=>k o xs p h) h else by
  unfold pp at h; rw [dif_neg hi] at h; (injection h; done)
theorem lUn {x:Expr} {f:UnaryOp×Expr×Pos→Bool} {C:Expr→Prop} (h:(vUn x).any f=true) (k:∀ o y p,f (o,y,p)=true→C (.UnaryOp o y p)):C x:=
 if hi:x.ctorIdx=3 then Expr.UnaryOp.elim (motive_1:=fun x=>(vUn x).any f=true→C x) x hi (fun o y p h=>k o y p h) h else by
  unfold vUn at h; rw [dif_neg hi] at h; (injection h; done)
theorem lIf {x:Expr} {f:Expr×Expr×Expr×Pos→Bool} {C:Expr→Prop} (h:(vIf x).any f=true) (k:∀ t y z p,f (t,y,z,p)=true→C (.IfExp t y z p)):C x:=
 if hi:x.ctorIdx=5 then Expr.IfExp.elim (motive_1:=fun x=>(vIf x).any f=true→C x) x hi (fun t y z p h=>k t y z p h) h else by
  unfold vIf at h; rw [dif_neg hi] at h; (injection h; done)
theorem AN {x:Expr} {f:Expr×List Comprehension×Scope×Pos→Bool} {C:Expr→Prop} (h:(tU x).any f=true) (k:∀ y gs sc p,f (y,gs,sc,p)=true→C (.ListComp y gs sc p)):C x:=
 if hi:x.ctorIdx=8 then Expr.ListComp.elim (motive_1:=fun x=>(tU x).any f=true→C x) x hi (fun y gs sc p h=>k y gs sc p h) h else by
  unfold tU at h; rw [dif_neg hi] at h; (injection h; done)
theorem kh {X:Sx} {nm:Str} {x:Expr} {f:List Expr→Bool} {C:Expr→Prop} (h:nCall X nm x f=true) (k:∀ q xs p,aZ X.sc nm=true→f xs=true→C (.Call (.Name nm q) xs [] p)):C x:=
 tW (by unfold nCall at h; exact h) fun u xs ks p h=>cz (C:=fun u=>C (.Call u xs ks p)) h fun n q h=>by
  have e:n=nm:=eq_of_beq (a2 h).1
  subst e
  exact ln (C:=fun ks=>C (.Call (.Name n q) xs ks p)) (a2 (a2 (a2 h).2).2).1 (k q xs p (a2 (a2 h).2).1 (a2 (a2 (a2 h).2).2).2)
theorem bL {X:Sx} {nm:Str} {x:Expr} {f:Expr→Bool} {C:Expr→Prop} (h:cu X nm x f=true) (k:∀ q y p,aZ X.sc nm=true→f y=true→C (.Call (.Name nm q) [y] [] p)):C x:=
 kh h fun q xs p hg h=>l1 (C:=fun xs=>C (.Call (.Name nm q) xs [] p)) h fun y h=>k q y p hg h
theorem nt {x:Expr} {f:Expr→Str→List Expr→Bool} {C:Expr→Prop} (h:mCall x f=true) (k:∀ y nm q xs p,(q.endLine==p.line)=true→f y nm xs=true→C (.Call (.Attribute y nm q) xs [] p)):C x:=
 tW (by unfold mCall at h; exact h) fun u xs ks p h=>tX (C:=fun u=>C (.Call u xs ks p)) h fun y nm q h=>ln (C:=fun ks=>C (.Call (.Attribute y nm q) xs ks p)) (a2 h).1 (k y nm q xs p (a2 (a2 h).2).1 (a2 (a2 h).2).2)
theorem mm {X:Sx} {k:List Kid→Bool} {nm:Str} {x:Expr} {C:Expr→Prop} (h:nq X k nm x=true) (f:∀ y q e p,(q.endLine==p.line)=true→bV y=true→ao e=true→k [(X,.val,y),(X,.val,e)]=true→C (.Call (.Attribute y nm q) [e] [] p)):C x:=
 nt h fun y n q xs p hl h=>by
  have e:n=nm:=eq_of_beq (a2 h).1
  subst e
  exact l1 (C:=fun xs=>C (.Call (.Attribute y n q) xs [] p)) (a2 (a2 h).2).2 fun z hz=>f y q z p hl (a2 (a2 h).2).1 (a2 hz).1 (a2 hz).2
theorem rB {fx:Fx} {scope:Scope} {x x':Str} {C:Addr} {Y:Addr→Prop} (hk:fx.env.scope.kind=.function):bU (aF fx scope C x x' Y)=(bU fx).comp scope x x':=by
 unfold Sx.comp bU
 have:(aF fx scope C x x' Y).env.scope.names=iu fx.env.scope.names scope.names:=c7 hk
 rw [this]
 rfl
theorem hV {fx:Fx} {scope:Scope} {x x':Str} (ok:FxOk fx) (h:mH (bU fx) scope x x'=true):CompOk fx scope x x':=by
 obtain ⟨h1,h⟩:=a2 h
 obtain ⟨h2,h⟩:=a2 h
 obtain ⟨h3,h⟩:=a2 h
 obtain ⟨h5,h⟩:=a2 h
 obtain ⟨h6,h⟩:=a2 h
 obtain ⟨h7,h8⟩:=a2 h
 have h5:=List.all_eq_true.mp h5
 have h6:=List.all_eq_true.mp h6
 have h7:=List.all_eq_true.mp h7
 have fr:∀ n,(n,NameKind.free)∈scope.names→(fx.env.kindOf n=some .cell∨fx.env.kindOf n=some .free)∧∃ k,fx.ρ.lookup n=some k:=fun n hn=>by
  rcases (Bool.or_eq_true _ _).mp (h7 _ hn) with q | q
  ·exact absurd rfl (bne_iff_ne.mp q)
  ·obtain ⟨q1,q2⟩:=a2 q
   exact ⟨((Bool.or_eq_true _ _).mp q1).imp eq_of_beq eq_of_beq,Option.isSome_iff_exists.mp q2⟩
 refine ⟨eq_of_beq h1,eq_of_beq h2,eq_of_beq h3,fun y hy=>bne_iff_ne.mp (h5 y hy),fun y hy hl=>((Bool.or_eq_true _ _).mp (h6 y hy)).elim (fun q=>absurd hl (bne_iff_ne.mp q)) eq_of_beq,fun n hn=>(fr n hn).1,fun n hn=>?_,of_decide_eq_true h8⟩
 obtain ⟨q,k,hk⟩:=fr n hn
 rcases ok.vis n k hk with ⟨z,_⟩ | ⟨_,c,hc,_⟩
 ·rcases q with q | q <;> rw [z] at q <;> cases q
 ·exact ⟨c,hc⟩
theorem kj {Z:Zx} {X:Sx} {f:Nat} {x:Expr} {k:List Expr→Bool} {C:Expr→Prop} (h:cCall Z X f x k=true) (h':∀ n q xs p,Z.fns.lookup n=some f→aZ X.sc n=true→(X.hm=true→Z.safe f=true)→k xs=true→C (.Call (.Name n q) xs [] p)):C x:=
 tW (by unfold cCall at h; exact h) fun u xs ks p h=>cz (C:=fun u=>C (.Call u xs ks p)) h fun n q h=>by
  obtain ⟨h1,h⟩:=a2 h
  obtain ⟨h2,h⟩:=a2 h
  obtain ⟨h3,h⟩:=a2 h
  exact ln (C:=fun ks=>C (.Call (.Name n q) xs ks p)) (a2 h).1 (h' n q xs p (eq_of_beq h1) h2 (fun e=>by rw [e] at h3; exact h3) (a2 h).2)
section
variable (Z:Zx) (o:Op) (k:List Kid→Bool) (X:Sx)
end
structure GOk (g:Gl) (Z:Zx):Prop where
 fns:g.fns=Z.fns
 cons:g.cons=Z.cons
 flds:g.flds=Z.flds
 clss:g.clss=Z.clss
 nc:g.nc=Z.nc
 sup:g.P.sup=Z.sup
 safe:g.safe=Z.safe
 newf:g.newf=Z.newf
 cf:g.fn Z.cf=g.C
 keep:∀ x f,Z.fns.lookup x=some f→keepIn g.K (.ref (g.fn f))=true
 meths:∀ x f,Z.meths.lookup x=some f→x∉g.flds∧findIn g.K (.ref g.C) x=some (some (.ref (g.fn f)))∧typeIn g.K (.ref (g.fn f))=some (.type "function")∧keepIn g.K (.ref (g.fn f))=true
section
variable {g:Gl} {n:Nat} {Z:Zx} {o:Op} {k:List Kid→Bool} {ds:List D} {fx:Fx} {x:Expr}
theorem fq {b:Bool} (e:fx.hm=b) (h:(!b)=true):Hm fx:=⟨by rw [e]; cases b with | false=>rfl | true=>(injection h; done)⟩
theorem a2e {a b:Bool} {C:Prop} (h:(a&&b)=true) (k:a=true→b=true→C):C:=k (a2 h).1 (a2 h).2
theorem rV {α β:Type} {o:Option α} {f:α→β} {K:β→Prop}:okK (o.map f) K=okK o fun a=>K (f a):=by cases o <;> rfl
theorem Bd {Φ:Ct} {t:Sem Value} {d:DV} (h:FxOk Φ.fx→Ev Φ t d):Ev Φ t d:=fun K s hd I=>h I.ok K s hd I
theorem pQ {ts:List D} {ifs:List Expr} (h:Kids fx.g fx.d (ifs.map fun x=>(bU fx,.test,x)) ts):∀ oa G,EvT ⟨fx,oa,G⟩ (eE ifs fx.env) (cw true ts G):=fun oa G=>by
 obtain ⟨qs,h1,h2⟩:=h.tests rfl rfl
 have q:=nX (Φ:=⟨fx,oa,G⟩) (h2 oa G)
 rw [(h1 G).1,(h1 G).2,← hY] at q
 exact q
theorem fX {env:Env}:∀ xs:List Expr,evalEach xs env=xs.map fun x=>eval x env
 | []=>rfl
 | x :: r=>congrArg (eval x env :: ·) (fX r)
theorem lC {b:Bool} {xs:List Expr} {p:Pos} (hne:(!xs.isEmpty)=true) (h:Kids fx.g fx.d (xs.map fun x=>(bU fx,.val,x)) ds):∀ oa G,Ev ⟨fx,oa,G⟩ (eval (.BoolOp (bop b) xs p) fx.env) (fun K=>cw b ds G fun c=>K (.bool c)):=fun oa G=>by
 obtain ⟨qs,h1,h2⟩:=h.vals rfl rfl
 have q:=oZ (Φ:=⟨fx,oa,G⟩) (b:=b) (pos:=p) (fun q m=>(h2 oa G q m).2) fun e=>by have:=(h1 G).1; rw [e] at this; rw [← this] at hne; (injection hne; done)
 rw [show (qs G).map (fun q=>eval q.1 fx.env)=xs.map fun x=>eval x fx.env by rw [← (h1 G).1,List.map_map]; rfl,(h1 G).2,← hY] at q
 have e:eval (.BoolOp (bop b) xs p) fx.env=boolOp p (bop b) (xs.map fun x=>eval x fx.env):=by
  rw [arm_eval_BoolOp,fX]
 rw [e]
 exact q
theorem zN {t:Sem Flow} {Y:B} (h:FxOk fx→ExB fx t Y):ExB fx t Y:=fun oa G K s hd I=>h I.ok oa G K s hd I
theorem jG {b:Bool} {xs:List Expr} {p:Pos} {w:Sem Value} (h:Kids fx.g fx.d (xs.map fun x=>(bU fx,.test,x)) ds):∀ oa G,EvT ⟨fx,oa,G⟩ (isTrue (.BoolOp (bop b) xs p) fx.env w) (cw b ds G):=fun oa G=>by
 obtain ⟨qs,h1,h2⟩:=h.tests rfl rfl
 have q:=nY (Φ:=⟨fx,oa,G⟩) (b:=b) (h2 oa G)
 rw [(h1 G).1,(h1 G).2,← hY] at q
 exact q
noncomputable def Vt (p:Pz):Prop:=p=.val∨p=.test
theorem gp {p:Pz} {d:D} (hp:Vt p) (h:ah fx .val x d) (e:isTrue x fx.env (eval x fx.env)=(do let v ← eval x fx.env; standAt x.pos; holding [v] (truthy v))):ah fx p x d:=by
 rcases hp with rfl | rfl
 ·exact h
 ·exact fun oa G=>xO (h oa G) e
noncomputable def wG (fx:Fx) (b:Gs→V→Option Gs) (e:Expr) (ds:List D):Prop:=(∀ oa G,Ev ⟨fx,oa,G⟩ (eval e fx.env) (wz b ds G))∧∀ y py sp k,TgtOk fx.ρ fx.env y k→ExB fx (exec (.Assign [.Name y py] e sp) fx.env) (fun G K=>wz b ds G fun v=>K none (G.set k (.v v)))
theorem xX {b:Gs→V→Option Gs} {elt it T:Expr} {ifs:List Expr} {scope:Scope} {p:Pos} {m m':Str} [Hm fx] (hT:FxOk fx→∀ oa G,qx ⟨fx,oa,G⟩ scope T m m' b) (h1:mH (bU fx) scope m m'=true) (h3:bJ it=true) (hk:Kids fx.g fx.d ((bU fx,.src false T,it) :: ((bU fx).comp scope m m',.val,elt) :: ifs.map fun x=>((bU fx).comp scope m m',.test,x)) ds) :
  wG fx b (.ListComp elt [⟨T,it,ifs,0⟩] scope p) ds:=by
 refine hk.nc (C:=fun ds=>wG fx b (.ListComp elt [⟨T,it,ifs,0⟩] scope p) ds) fun ds1 dr a b'=>b'.nc (C:=fun dr=>wG fx b (.ListComp elt [⟨T,it,ifs,0⟩] scope p) (ds1 :: dr)) fun de ts b' c=>?_
 have he:FxOk fx→∀ C Y oa G,Ev ⟨aF fx scope C m m' Y,oa,G⟩ (eval elt (aF fx scope C m m' Y).env) (de G):=fun ok C Y oa G=>b' (aF fx scope C m m' Y) rfl rfl (rB ok.kind) oa G
 have ht:FxOk fx→∀ C Y oa G,EvT ⟨aF fx scope C m m' Y,oa,G⟩ (eE ifs (aF fx scope C m m' Y).env) (cw true ts G):=fun ok C Y oa G=>pQ (fx:=aF fx scope C m m' Y) (by rw [rB ok.kind]; exact c) oa G
 exact ⟨fun oa G=>Bd fun ok=>sJ (Φ:=⟨fx,oa,G⟩) (hV ok h1) (hT ok oa G) h3 (a fx rfl rfl rfl oa G) (he ok) (ht ok),fun y py sp k hy=>zN fun ok=>iP (py:=py) (hV ok h1) (hT ok) h3 (a fx rfl rfl rfl) (he ok) (ht ok) hy⟩
theorem sQ {j:Nat} (hk:∀ ts,k ts=true→Kids fx.g fx.d ts ds) (h:mK Z (.comp j) k (bU fx) .val x=true):(ah fx .val x (bp (aq fx.g.P fx.d) (.comp j) ds)∧isTrue x fx.env (eval x fx.env)=(do let v ← eval x fx.env; standAt x.pos; holding [v] (truthy v)))∧∀ y py sp,ah fx (.asg y py sp) x (bp (aq fx.g.P fx.d) (.comp j) ds):=by
 refine a2e h fun hh h=>?_
 have:Hm fx:=fq rfl hh
 refine AN (C:=fun x=>(ah fx .val x _∧isTrue x fx.env (eval x fx.env)=(do let v ← eval x fx.env; standAt x.pos; holding [v] (truthy v)))∧∀ y py sp,ah fx (.asg y py sp) x _) h fun elt gs scope p h=>l1 (C:=fun gs=>(ah fx .val (.ListComp elt gs scope p) _∧isTrue (.ListComp elt gs scope p) fx.env _=_)∧∀ y py sp,ah fx (.asg y py sp) (.ListComp elt gs scope p) _) h fun c h=>?_
 obtain ⟨T,it,ifs,asy⟩:=c
 refine a2e h fun e h=>?_
 obtain rfl:asy=0:=eq_of_beq e
 refine cz (C:=fun T=>(ah fx .val (.ListComp elt [⟨T,it,ifs,0⟩] scope p) _∧_=_)∧∀ y py sp,ah fx (.asg y py sp) (.ListComp elt [⟨T,it,ifs,0⟩] scope p) _) h fun m pm h=>a2e h fun h1 h=>a2e h fun e h=>a2e h fun h3 hh=>?_
 obtain rfl:=eq_of_beq e
 have q:=xX (b:=iB fx.nf) (p:=p) (fun ok oa G=>z7 (Φ:=⟨fx,oa,G⟩) (hV ok h1)) h1 h3 (hk _ hh)
 exact ⟨⟨q.1,rfl⟩,q.2⟩
noncomputable def B2 (o:Op):Bool:=match o with
 | .tuple=>true
 | .listOf=>true
 | .sorted=>true
 | .sortedSet=>true
 | .call _=>true
 | .meth _=>true
 | _=>false
noncomputable def nF (fx:Fx) (b:Bool) (x:Expr) (d:D):Prop:=∀ oa G,EvC ⟨fx,oa,G⟩ b (eval x fx.env) (d G)
noncomputable def Nw (fx:Fx) (b:Bool) (x:Expr) (d:D):Prop:=nF fx b x d∧isTrue x fx.env (eval x fx.env)=(do let v ← eval x fx.env; standAt x.pos; holding [v] (truthy v))
theorem kF (H:GOk fx.g Z) (hk:∀ ts,k ts=true→Kids fx.g fx.d ts ds) (hn:B2 o=true) (h:mK Z o k (bU fx) .val x=true) :
  Nw fx (Bp Z o) x (bp (aq fx.g.P fx.d) o ds):=by
 cases o with
 | tuple=>exact xt (C:=fun x=>Nw fx true x _) h fun xs j q h=>a2e h fun hl h=>⟨(hk _ h).node (f:=fun xs=>.Tuple xs j q) (op:=fun xs K=>okK (opN .tuple xs) K) rfl rfl hl fun oa G qs hq=>u7 hq,rfl⟩
 | listOf=>exact bL (C:=fun x=>Nw fx true x _) h fun q y r hx h=>⟨(hk _ (a2 h).2).n1 (C:=fun ds=>nF fx true _ (bp _ .listOf ds)) fun d a oa G=>(tJ (d:=d G) hx (a2 h).1 (a fx rfl rfl rfl oa G)).evC,rfl⟩
 | sorted=>exact bL (C:=fun x=>Nw fx true x _) h fun q y r hx h=>⟨(hk _ (a2 h).2).n1 (C:=fun ds=>nF fx true _ (bp _ .sorted ds)) fun d a oa G=>(tI (d:=d G) hx (a2 h).1 (a fx rfl rfl rfl oa G)).evC,rfl⟩
 | sortedSet=>
  refine a2e h fun hh h=>?_
  have:Hm fx:=fq rfl hh
  exact bL (C:=fun x=>Nw fx true x _) h fun q y r hx h=>⟨bL (C:=fun y=>nF fx true (.Call _ [y] [] r) _) h fun p1 z p2 hs h=>(hk _ (a2 h).2).n1 (C:=fun ds=>nF fx true _ (bp _ .sortedSet ds)) fun d a oa G=>(lN (Φ:=⟨fx,oa,G⟩) (d:=d G) hx hs (a2 h).1 (a fx rfl rfl rfl oa G)).evC,rfl⟩
 | call f=>
  refine kj (C:=fun x=>Nw fx (Z.newf f) x _) h fun n q xs r hf hx hs h=>⟨?_,rfl⟩
  have q:=(hk _ (a2 h).2).node (nb:=fx.g.newf f) (f:=fun xs=>.Call (.Name n q) xs [] r) (op:=fun xs K=>aq fx.g.P fx.d f xs fun y=>noX y=true∧K y) rfl rfl (a2 h).1 fun oa G qs hq=>xS (Φ:=⟨fx,oa,G⟩) hx (H.fns▸hf) (H.keep _ _ hf) (fun e=>by rw [H.safe]; exact hs e) hq
  rw [H.newf] at q
  exact q
 | meth f=>
  refine nt (C:=fun x=>Nw fx (Z.newf f) x _) h fun y nm q xs r hl h=>a2e h fun hs h=>a2e h fun e h=>a2e h fun hsf h=>a2e h fun hm h=>?_
  obtain ⟨m1,m2,m3,m4⟩:=H.meths _ _ (eq_of_beq hm)
  refine ln (C:=fun xs=>Nw fx (Z.newf f) (.Call _ xs [] r) _) e ⟨(hk _ h).n1 (C:=fun ds=>nF fx (Z.newf f) _ (bp _ (.meth f) ds)) fun d a oa G=>?_,rfl⟩
  have q:=xP (Φ:=⟨fx,oa,G⟩) (d:=d G) hs hl m1 m2 m3 m4 (fun e=>by rw [H.safe]; have e:fx.hm=true:=e; have hsf:(!fx.hm||Z.safe f)=true:=hsf; rw [e] at hsf; exact hsf) (a fx rfl rfl rfl oa G)
  rw [H.newf] at q
  exact q
 | _=>(injection hn; done)
theorem rD {Φ:Ct}:∀ {es:List Expr} {ts:List Str},lW es ts=true→∃ qs:List (Expr×DV),qs.map Prod.fst=es∧(∀ q∈qs,ao q.1=true∧bg Φ q)∧(∀ K:List V→Prop,K (ts.map .str)→bo (qs.map Prod.snd) K)∧True
 | [],[],_=>⟨[],rfl,nofun,fun K h=>h,trivial⟩
 | [],_ :: _,h=>nomatch h
 | _ :: _,[],h=>nomatch h
 | e :: es,t :: ts,h=>by
  have h:=zA2 h
  obtain ⟨qs,h1,h2,h3,h4⟩:=rD (Φ:=Φ) h.2
  subst h1
  refine nu (C:=fun e=>∃ qs':List (Expr×DV),qs'.map Prod.fst=e :: qs.map Prod.fst∧(∀ q∈qs',ao q.1=true∧bg Φ q)∧(∀ K:List V→Prop,K ((t :: ts).map .str)→bo (qs'.map Prod.snd) K)∧True) h.1 fun c k p hc=>?_
  refine ⟨(.Constant c k p,fun K=>K (.str t)) :: qs,rfl,fun q m=>?_,fun K hK=>h3 _ hK,trivial⟩
  rcases List.mem_cons.mp m with rfl | m
  ·exact ⟨rfl,v8 hc⟩
  ·exact h2 q m
theorem tR {p:Pz} (H:GOk fx.g Z) (hp:Vt p) (hk:∀ ts,k ts=true→Kids fx.g fx.d ts ds) (h:mK Z o k (bU fx) p x=true):ah fx p x (bp (aq fx.g.P fx.d) o ds):=by
 cases o with
 | lit v=>
  refine ((Bool.or_eq_true _ _).mp h).elim (fun h=>nu (C:=fun x=>ah fx p x _) h fun c j q h=>gp hp (fun oa G=>v8 (a2 h).1) rfl) fun h=>cz (C:=fun x=>ah fx p x _) h fun m q h=>a2e h fun hx h=>a2e h fun e h=>?_
  obtain ⟨y,e1,e2⟩:=fH e
  obtain rfl:=uP e2
  exact gp hp (fun oa G=>vi hx (H.cons▸e1)) rfl
 | var j=>exact cz (C:=fun x=>ah fx p x _) h fun m q h=>a2e h fun e h=>gp hp (fun oa G=>zQ (eq_of_beq e) (a2 h).1) rfl
 | bin op=>
  refine BZ (C:=fun x=>ah fx p x _) h fun l op' r q h=>a2e h fun e hh=>?_
  obtain rfl:=of_decide_eq_true e
  exact gp hp ((hk _ hh).n2 (C:=fun ds=>ah fx .val _ (bp _ (.bin op) ds)) fun d e a b oa G=>zY (d1:=d G) (d2:=e G) (a fx rfl rfl rfl oa G) (b fx rfl rfl rfl oa G)) rfl
 | cmp c=>
  refine Bz (C:=fun x=>ah fx p x _) h fun l ops rs q h=>l1 (C:=fun ops=>ah fx p (.Compare l ops rs q) _) h fun c' h=>a2e h fun e hh=>?_
  obtain rfl:=of_decide_eq_true e
  refine l1 (C:=fun rs=>ah fx p (.Compare l _ rs q) _) hh fun r h=>a2e h fun hs h=>(hk _ h).n2 (C:=fun ds=>ah fx p _ (bp _ (.cmp c) ds)) fun d e a b=>?_
  rcases hp with rfl | rfl
  ·exact fun oa G=>v9 (d1:=d G) (d2:=e G) hs (a fx rfl rfl rfl oa G) (b fx rfl rfl rfl oa G)
  ·exact fun oa G=>ur (d1:=d G) (d2:=e G) hs (a fx rfl rfl rfl oa G) (b fx rfl rfl rfl oa G)
 | chain lt=>
  refine Bz (C:=fun x=>ah fx p x _) h fun l ops rs q h=>l2 (C:=fun ops=>ah fx p (.Compare l ops rs q) _) h fun c c' h=>a2e h fun e h=>a2e h fun e' hh=>?_
  obtain rfl:=of_decide_eq_true e
  obtain rfl:=of_decide_eq_true e'
  refine l2 (C:=fun rs=>ah fx p (.Compare l _ rs q) _) hh fun r r' h=>a2e h fun hs h=>(hk _ h).n3 (C:=fun ds=>ah fx p _ (bp _ (.chain lt) ds)) fun d e f a b c=>?_
  rcases hp with rfl | rfl
  ·exact fun oa G=>vj (d1:=d G) (d2:=e G) (d3:=f G) hs (a fx rfl rfl rfl oa G) (b fx rfl rfl rfl oa G) (c fx rfl rfl rfl oa G)
  ·exact fun oa G=>px (d1:=d G) (d2:=e G) (d3:=f G) hs (a fx rfl rfl rfl oa G) (b fx rfl rfl rfl oa G) (c fx rfl rfl rfl oa G)
 | and=>
  refine yr (C:=fun x=>ah fx p x _) h fun b xs q h=>a2e h fun e h=>a2e h fun hn hh=>?_
  obtain rfl:=of_decide_eq_true e
  rcases hp with rfl | rfl
  ·exact lC (b:=true) hn (hk _ hh)
  ·exact jG (b:=true) (hk _ hh)
 | or=>
  refine yr (C:=fun x=>ah fx p x _) h fun b xs q h=>a2e h fun e h=>a2e h fun hn hh=>?_
  obtain rfl:=of_decide_eq_true e
  rcases hp with rfl | rfl
  ·exact lC (b:=false) hn (hk _ hh)
  ·exact jG (b:=false) (hk _ hh)
 | not=>
  refine lUn (C:=fun x=>ah fx p x _) h fun u y q h=>a2e h fun e hh=>?_
  obtain rfl:=of_decide_eq_true e
  refine (hk _ hh).n1 (C:=fun ds=>ah fx p _ (bp _ .not ds)) fun d a=>?_
  rcases hp with rfl | rfl
  ·exact fun oa G=>zS (d:=d G) (a fx rfl rfl rfl oa G)
  ·exact fun oa G=>um (d:=d G) (a fx rfl rfl rfl oa G)
 | neg=>
  refine lUn (C:=fun x=>ah fx p x _) h fun u y q h=>a2e h fun e h=>a2e h fun i hh=>?_
  obtain rfl:=of_decide_eq_true e
  rcases hp with rfl | rfl
  ·exact (hk _ hh).n1 (C:=fun ds=>ah fx .val _ (bp _ .neg ds)) fun d a oa G=>zT (d:=d G) (a fx rfl rfl rfl oa G)
  ·(injection i; done)
 | ite=>
  refine lIf (C:=fun x=>ah fx p x _) h fun c a b q h=>(hk _ h).n3 (C:=fun ds=>ah fx p _ (bp _ .ite ds)) fun d e f a b c=>?_
  rcases hp with rfl | rfl
  ·exact fun oa G=>zW (d1:=d G) (d2:=e G) (d3:=f G) (a fx rfl rfl rfl oa G) (b fx rfl rfl rfl oa G) (c fx rfl rfl rfl oa G)
  ·exact fun oa G=>uq (d1:=d G) (d2:=e G) (d3:=f G) (a fx rfl rfl rfl oa G) (b fx rfl rfl rfl oa G) (c fx rfl rfl rfl oa G)
 | tuple=>exact (kF (o:=.tuple) H hk rfl h).elim fun a b=>gp hp (fun oa G=>(a oa G).ev) b
 | list=>exact Bw (C:=fun x=>ah fx p x _) h fun xs q h=>a2e h fun hl h=>gp hp (fun oa G=>((hk _ h).node (nb:=false) (f:=fun xs=>.List xs q) (op:=fun xs K=>okK (opN .list xs) K) rfl rfl hl (fun oa G qs hq=>(xQ hq).evC) oa G).ev) rfl
 | sub=>exact Bv (C:=fun x=>ah fx p x _) h fun v s q h=>gp hp ((hk _ h).n2 (C:=fun ds=>ah fx .val _ (bp _ .sub ds)) fun d e a b oa G=>zR (d1:=d G) (d2:=e G) (a fx rfl rfl rfl oa G) (b fx rfl rfl rfl oa G)) rfl
 | slice bl bh=>
  refine Bv (C:=fun x=>ah fx p x _) h fun v s q h=>BX (C:=fun s=>ah fx p (.Subscript v s q) _) h fun lo hi st q' h=>a2e h fun e0 h=>a2e h fun e1 h=>a2e h fun e2 hh=>?_
  obtain rfl:=eq_of_beq e1
  obtain rfl:=eq_of_beq e2
  obtain rfl:st=none:=Option.isNone_iff_eq_none.mp e0
  refine gp hp ?_ rfl
  cases lo with
  | none=>cases hi with
   | none=>exact (hk _ hh).n1 (C:=fun ds=>ah fx .val _ (bp _ (.slice false false) ds)) fun d a oa G=>gz (d1:=d G) (a fx rfl rfl rfl oa G) jz jz
   | some e'=>exact (hk _ hh).n2 (C:=fun ds=>ah fx .val _ (bp _ (.slice false true) ds)) fun d e a b oa G=>gz (d1:=d G) (a fx rfl rfl rfl oa G) jz (jy (d:=e G) (b fx rfl rfl rfl oa G))
  | some e'=>cases hi with
   | none=>exact (hk _ hh).n2 (C:=fun ds=>ah fx .val _ (bp _ (.slice true false) ds)) fun d e a b oa G=>gz (d1:=d G) (a fx rfl rfl rfl oa G) (jy (d:=e G) (b fx rfl rfl rfl oa G)) jz
   | some e'=>exact (hk _ hh).n3 (C:=fun ds=>ah fx .val _ (bp _ (.slice true true) ds)) fun d e f a b c oa G=>gz (d1:=d G) (a fx rfl rfl rfl oa G) (jy (d:=e G) (b fx rfl rfl rfl oa G)) (jy (d:=f G) (c fx rfl rfl rfl oa G))
 | attr j=>exact tX (C:=fun x=>ah fx p x _) h fun y nm q h=>a2e h fun hs h=>a2e h fun e h=>gp hp ((hk _ h).n1 (C:=fun ds=>ah fx .val _ (bp _ (.attr j) ds)) fun d a oa G=>xT (Φ:=⟨fx,oa,G⟩) (d:=d G) hs (by rw [H.flds]; exact eq_of_beq e) (a fx rfl rfl rfl oa G)) rfl
 | comp j=>exact (sQ (Z:=Z) hk h).1.elim fun a b=>gp hp a b
 | isinst t=>
  refine kh (C:=fun x=>ah fx p x _) h fun q xs r hx h=>l2 (C:=fun xs=>ah fx p (.Call _ xs [] r) _) h fun y z h=>a2e h fun hl h=>cz (C:=fun z=>ah fx p (.Call _ [y,z] [] r) _) h fun T pT h=>a2e h fun hT h=>a2e h fun ht hh=>?_
  obtain ⟨T',e1,e2⟩:=fH ht
  have e2:T=Str.ofString T':=eq_of_beq e2
  subst e2
  refine gp hp ((hk _ hh).n1 (C:=fun ds=>ah fx .val _ (bp _ (.isinst t) ds)) fun d a oa G=>?_) rfl
  have z:=zX (Φ:=⟨fx,oa,G⟩) (fp:=q) (pos:=r) (pT:=pT) (q:=(y,d G)) e1 hx hT hl (a fx rfl rfl rfl oa G)
  have e:(fun K=>d G fun x=>okK (isT x t) fun b=>K (.bool b))=bp (aq fx.g.P fx.d) (.isinst t) [d] G:=funext fun K=>congrArg (d G) (funext fun x=>rV.symm)
  exact e▸z
 | len=>exact bL (C:=fun x=>ah fx p x _) h fun q y r hx h=>gp hp ((hk _ (a2 h).2).n1 (C:=fun ds=>ah fx .val _ (bp _ .len ds)) fun d a oa G=>zV (q:=(y,d G)) hx ⟨(a2 h).1,a fx rfl rfl rfl oa G⟩) rfl
 | lenSet=>
  refine a2e h fun hh h=>?_
  have:Hm fx:=fq rfl hh
  exact bL (C:=fun x=>ah fx p x _) h fun q y r hx h=>gp hp (bL (C:=fun y=>ah fx .val (.Call _ [y] [] r) _) h fun p1 z p2 hs h=>(hk _ (a2 h).2).n1 (C:=fun ds=>ah fx .val _ (bp _ .lenSet ds)) fun d a oa G=>tK (Φ:=⟨fx,oa,G⟩) (d:=d G) hx hs (a2 h).1 (a fx rfl rfl rfl oa G)) rfl
 | isExc c tb=>
  refine kh (C:=fun x=>ah fx p x _) h fun q xs r hx h=>l2 (C:=fun xs=>ah fx p (.Call _ xs [] r) _) h fun y z h=>a2e h fun hl h=>cz (C:=fun z=>ah fx p (.Call _ [y,z] [] r) _) h fun T pT h=>a2e h fun hT h=>a2e h fun hc h=>a2e h fun ht hh=>?_
  have hc:fx.g.clss.lookup T=some c∨(T="ValueError"∧c=fx.g.nc):=by
   rw [H.clss,H.nc]
   exact ((Bool.or_eq_true _ _).mp hc).imp eq_of_beq fun q=>⟨eq_of_beq (a2 q).1,eq_of_beq (a2 q).2⟩
  have ht:∀ e,e < fx.g.nc→tb[e]?=some (fx.g.P.sup e c):=fun e q=>by
   rw [H.sup]
   exact eq_of_beq (List.all_eq_true.mp ht e (List.mem_range.mpr (H.nc▸q)))
  refine gp hp ((hk _ hh).n1 (C:=fun ds=>ah fx .val _ (bp _ (.isExc c tb) ds)) fun d a oa G=>?_) rfl
  have z:=vc (Φ:=⟨fx,oa,G⟩) (fp:=q) (pos:=r) (pT:=pT) (q:=(y,d G)) hx hT hl hc ht (a fx rfl rfl rfl oa G)
  have e:(fun K=>d G fun x=>okK ((jv x).bind fun e=>tb[e]?) fun b=>K (.bool b))=bp (aq fx.g.P fx.d) (.isExc c tb) [d] G:=funext fun K=>congrArg (d G) (funext fun x=>rV.symm)
  exact e▸z
 | edict=>exact AM (C:=fun x=>ah fx p x _) h fun ks vs q h=>a2e h fun h1 h=>a2e h fun h2 h=>ln (C:=fun ks=>ah fx p (.Dict ks vs q) _) h1 (ln (C:=fun vs=>ah fx p (.Dict [] vs q) _) h2 (gp hp ((hk _ h).n0 (C:=fun ds=>ah fx .val _ (bp _ .edict ds)) fun oa G=>vg) rfl))
 | tupleOf=>exact kh (C:=fun x=>ah fx p x _) h fun q xs r hx h=>gp hp (fun oa G=>((hk _ (a2 h).2).node (nb:=false) (f:=fun xs=>.Call (.Name "tuple" q) xs [] r) (op:=fun xs K=>okK (opN .tupleOf xs) K) rfl rfl (a2 h).1 (fun oa G qs hq=>(qp hx hq).evC) oa G).ev) rfl
 | sortedSetI=>
  refine a2e h fun hh h=>?_
  have:Hm fx:=fq rfl hh
  exact bL (C:=fun x=>ah fx p x _) h fun q y r hx h=>gp hp (bL (C:=fun y=>ah fx .val (.Call _ [y] [] r) _) h fun p1 z p2 hs h=>(hk _ (a2 h).2).n1 (C:=fun ds=>ah fx .val _ (bp _ .sortedSetI ds)) fun d a oa G=>(ku (Φ:=⟨fx,oa,G⟩) (d:=d G) hx hs (a2 h).1 (a fx rfl rfl rfl oa G)).ev) rfl
 | strOf=>exact bL (C:=fun x=>ah fx p x _) h fun q y r hx h=>gp hp ((hk _ (a2 h).2).n1 (C:=fun ds=>ah fx .val _ (bp _ .strOf ds)) fun d a oa G=>u8 (d:=d G) hx (a2 h).1 (a fx rfl rfl rfl oa G)) rfl
 | intOf=>exact bL (C:=fun x=>ah fx p x _) h fun q y r hx h=>gp hp ((hk _ (a2 h).2).n1 (C:=fun ds=>ah fx .val _ (bp _ .intOf ds)) fun d a oa G=>ve (d:=d G) hx (a2 h).1 (a fx rfl rfl rfl oa G)) rfl
 | max=>
  refine a2e h fun hh h=>?_
  have:Hm fx:=fq rfl hh
  exact bL (C:=fun x=>ah fx p x _) h fun q y r hx h=>gp hp ((hk _ (a2 h).2).n1 (C:=fun ds=>ah fx .val _ (bp _ .max ds)) fun d a oa G=>zU (Φ:=⟨fx,oa,G⟩) (d:=d G) hx (a2 h).1 (a fx rfl rfl rfl oa G)) rfl
 | split=>exact mm (C:=fun x=>ah fx p x _) h fun y q e r hl hs he h=>gp hp ((hk _ h).n2 (C:=fun ds=>ah fx .val _ (bp _ .split ds)) fun d e a b oa G=>u9 (d1:=d G) (d2:=e G) hs he hl (a fx rfl rfl rfl oa G) (b fx rfl rfl rfl oa G)) rfl
 | index ts=>
  refine nt (C:=fun x=>ah fx p x _) h fun y nm q xs r hl h=>a2e h fun e h=>a2e h fun ht hxs=>?_
  obtain rfl:=eq_of_beq e
  refine xt (C:=fun y=>ah fx p (.Call (.Attribute y _ q) xs [] r) _) ht fun es kk tp ht=>l1 (C:=fun xs=>ah fx p (.Call (.Attribute (.Tuple es kk tp) _ q) xs [] r) _) hxs fun e h=>a2e h fun he h=>gp hp ((hk _ h).n1 (C:=fun ds=>ah fx .val _ (bp _ (.index ts) ds)) fun d a oa G=>?_) rfl
  obtain ⟨hz,ht⟩:=zA2 ht
  obtain ⟨qs,rfl,hq,hts,_⟩:=rD (Φ:=⟨fx,oa,G⟩) ht
  exact vf (Φ:=⟨fx,oa,G⟩) (d:=d G) hq hts (zB1 (Nat.le_of_ble_eq_true hz) (by decide)) he hl (a fx rfl rfl rfl oa G)
 | listOf=>exact (kF (o:=.listOf) H hk rfl h).elim fun a b=>gp hp (fun oa G=>(a oa G).ev) b
 | sorted=>exact (kF (o:=.sorted) H hk rfl h).elim fun a b=>gp hp (fun oa G=>(a oa G).ev) b
 | sortedSet=>exact (kF (o:=.sortedSet) H hk rfl h).elim fun a b=>gp hp (fun oa G=>(a oa G).ev) b
 | call f=>exact (kF (o:=.call f) H hk rfl h).elim fun a b=>gp hp (fun oa G=>(a oa G).ev) b
 | join=>exact mm (C:=fun x=>ah fx p x _) h fun y q e r hl hs he h=>gp hp ((hk _ h).n2 (C:=fun ds=>ah fx .val _ (bp _ .join ds)) fun d e a b oa G=>xR (d1:=d G) (d2:=e G) hs he hl (a fx rfl rfl rfl oa G) (b fx rfl rfl rfl oa G)) rfl
 | count=>exact mm (C:=fun x=>ah fx p x _) h fun y q e r hl hs he h=>gp hp ((hk _ h).n2 (C:=fun ds=>ah fx .val _ (bp _ .count ds)) fun d e a b oa G=>vh (d1:=d G) (d2:=e G) hs he hl (a fx rfl rfl rfl oa G) (b fx rfl rfl rfl oa G)) rfl
 | meth f=>exact (kF (o:=.meth f) H hk rfl h).elim fun a b=>gp hp (fun oa G=>(a oa G).ev) b
 | _=>(injection h; done)
end
end Mine
end
noncomputable section
namespace Mine
open PySem PySem.Calls PyProof.Rows PySem.W
section
variable {g:Gl} {n:Nat} {Z:Zx} {o:Op} {k:List Kid→Bool} {ds:List D} {fx:Fx} {x:Expr}
theorem sS {f:Str} {st:Bool} {T:Expr} {op:List V→Option V} (h:Av k (bU fx) f x=true) [Hm fx] (hk:∀ ts,k ts=true→Kids fx.g fx.d ts ds)
  (hs:∀ oa G fp pos (qs:List (Expr×DV)),aZ fx.env.scope.names f=true→(∀ q∈qs,ao q.1=true∧bg ⟨fx,oa,G⟩ q)→fv ⟨fx,oa,G⟩ T st (.Call (.Name f fp) (qs.map Prod.fst) [] pos) (fun K=>bo (qs.map Prod.snd) fun xs=>okK (op xs) fun z=>okK (bM z) K)) :
  ∀ oa G,fv ⟨fx,oa,G⟩ T st x (fun K=>bY ds G fun xs=>okK (op xs) fun z=>okK (bM z) K):=by
 refine kh (C:=fun x=>∀ oa G,fv ⟨fx,oa,G⟩ T st x (fun K=>bY ds G fun xs=>okK (op xs) fun z=>okK (bM z) K)) h fun q xs p hg h oa G=>?_
 obtain ⟨qs,h1,h2⟩:=(hk _ (a2 h).2).items rfl rfl (a2 h).1
 have z:=hs oa G q p (qs G) hg (h2 oa G)
 rw [(h1 G).1,(h1 G).2,← jY] at z
 exact z
theorem Ae {y:Str} {py sp:Pos} (H:GOk fx.g Z) (hk:∀ ts,k ts=true→Kids fx.g fx.d ts ds) (h:yM Z o k (bU fx) x=true):ah fx (.asg y py sp) x (bp (aq fx.g.P fx.d) o ds):=by
 exact ((Bool.or_eq_true _ _).mp h).elim (fun h=>a2e h fun hn h k hT=>ly (gk hn) hT (tR H (.inl rfl) hk h)) fun h=>a2e h fun hc h=>Op.comp.elim (motive:=fun o=>mK Z o k (bU fx) .val x=true→ah fx (.asg y py sp) x (bp (aq fx.g.P fx.d) o ds)) o (eq_of_beq hc) (fun j h=>(sQ hk h).2 y py sp) h
theorem y6 {st:Bool} {T:Expr} (H:GOk fx.g Z) (hk:∀ ts,k ts=true→Kids fx.g fx.d ts ds) (h:yL Z o k (bU fx) (.src st T) x=true):ah fx (.src st T) x (bp (aq fx.g.P fx.d) o ds):=by
 obtain ⟨hh,h'⟩:=a2 h
 clear h
 have h:=h'
 clear h'
 have:Hm fx:=fq rfl hh
 have go:mK Z o k (bU fx) .val x=true→ah fx (.src st T) x (bp (aq fx.g.P fx.d) o ds):=fun h oa G=>AH (Φ:=⟨fx,oa,G⟩) (tR H (.inl rfl) hk h oa G)
 cases o with
 | own j=>
  replace h:=a2 h
  have hs:=h.1
  replace h:=h.2
  cases st with
  | true=>(injection hs; done)
  | false=>
   refine cz (C:=fun x=>ah fx (.src false T) x _) h fun m p h2=>?_
   clear h
   have h:=h2
   clear h2
   exact fun oa G=>wQ (Φ:=⟨fx,oa,G⟩) (eq_of_beq (a2 h).1) (a2 (a2 h).2).1
 | range=>exact sS (op:=opN .range) h hk fun oa G fp pos qs hg hq=>ta (Φ:=⟨fx,oa,G⟩) hg hq
 | zip=>
  refine xt (C:=fun T=>ah fx (.src st T) x _) h fun es j p h2=>?_
  clear h
  have h:=h2
  clear h2
  exact sS (op:=opN .zip) h hk fun oa G fp pos qs hg hq=>wP (Φ:=⟨fx,oa,G⟩) hg hq
 | _=>exact go h
theorem w6 {t:Kid} (H:GOk g Z) (hk:∀ ts,k ts=true→Kids g n ts ds) (h:yL Z o k t.1 t.2.1 t.2.2=true):eN g n t (bp (aq g.P n) o ds):=fun fx hg hn hX=>by
 subst hg hn
 obtain ⟨X,p,x⟩:=t
 subst hX
 cases p with
 | val=>exact tR H (.inl rfl) hk h
 | test=>exact tR H (.inr rfl) hk h
 | new=>exact a2e h fun hn h oa G=>((kF H hk (by cases o <;> first | rfl | (injection hn; done)) h).1 oa G).evN hn
 | src st T=>exact y6 H hk h
 | asg y py sp=>exact Ae H hk h
noncomputable def kJ (g:Gl) (n:Nat) (cs:List Ck) (ds:List D):Prop:=∀ ts,pS cs ts=true→Kids g n ts ds
theorem kJ.nil:kJ g n [] []:=fun ts h=>by
 cases ts with
 | nil=>exact .nil
 | cons=>(injection h; done)
theorem kJ.cons {c:Ck} {d:D} {cs:List Ck} (h1:∀ t,c t=true→eN g n t d) (h2:kJ g n cs ds):kJ g n (c :: cs) (d :: ds):=fun ts h=>by
 cases ts with
 | nil=>(injection h; done)
 | cons t r=>exact .cons (h1 t (a2 h).1) (h2 r (a2 h).2)
theorem BR (H:GOk g Z) (e:E):∀ t,x0 Z e t=true→eN g n t (ev (aq g.P n) e):=
 E.rec (motive_1:=fun e=>∀ t,x0 Z e t=true→eN g n t (ev (aq g.P n) e)) (motive_2:=fun es=>kJ g n (E.rec_1 (motive_1:=fun _=>Ck) (motive_2:=fun _=>List Ck) (fun o _ ih t=>yL Z o (pS ih) t.1 t.2.1 t.2.2) [] (fun _ _ i is=>i :: is) es) (E.rec_1 (motive_1:=fun _=>D) (motive_2:=fun _=>List D) (fun o _ ih=>bp (aq g.P n) o ih) [] (fun _ _ i is=>i :: is) es))
  (fun o es ih t h=>w6 H ih h) .nil (fun e es i is=>.cons i is) e
theorem yd (H:GOk g Z):∀ es:List E,kJ g n (es.map (x0 Z)) (es.map (ev (aq g.P n)))
 | []=>.nil
 | e :: r=>.cons (BR H e) (yd H r)
end
theorem mT {fx:Fx} {m:Str} {j:Nat} (h:pw (bU fx) m j=true):TgtOk fx.ρ fx.env m j:=
 ⟨eq_of_beq (a2 h).1,fun e=>by
  have h:=(a2 h).2
  have e:(bU fx).sc.lookup m=some .free:=e
  replace h:=e▸h; (injection h; done)⟩
theorem lU {fx:Fx}:∀ {es:List Expr} {js:List Nat},mS (bU fx) es js=true→TgtsOk fx.ρ fx.env es js
 | [],js,h=>ln (C:=fun js=>TgtsOk fx.ρ fx.env [] js) h .nil
 | t :: r,js,h=>cz (C:=fun t=>TgtsOk fx.ρ fx.env (t :: r) js) h fun m p h=>by
  cases js with
  | nil=>(injection h; done)
  | cons j q=>exact .cons (mT (a2 h).1) (lU (a2 h).2)
theorem xu {x:Stmt} {f:Expr→Expr→Pos→Bool} {C:Stmt→Prop} (h:rj x f=true) (k:∀ t v p,f t v p=true→C (.Assign [t] v p)):C x:=
 if hi:x.ctorIdx=5 then Stmt.Assign.elim (motive_2:=fun x=>rj x f=true→C x) x hi (fun ts v p h=>l1 (C:=fun ts=>C (.Assign ts v p)) h fun t h=>k t v p h) h else by
  unfold rj at h; replace h:=(dif_neg hi)▸h; (injection h; done)
theorem By {x:Stmt} {f:Expr→Bool} {C:Stmt→Prop} (h:wL x f=true) (k:∀ e p,f e=true→C (.Expr e p)):C x:=
 if hi:x.ctorIdx=24 then Stmt.Expr.elim (motive_2:=fun x=>wL x f=true→C x) x hi (fun e p h=>k e p h) h else by
  unfold wL at h; replace h:=(dif_neg hi)▸h; (injection h; done)
theorem yq {x:Stmt} {f:Expr→Bool} {C:Stmt→Prop} (h:t9 x f=true) (k:∀ e p,f e=true→C (.Return (some e) p)):C x:=
 if hi:x.ctorIdx=3 then Stmt.Return.elim (motive_2:=fun x=>t9 x f=true→C x) x hi (fun e p h=>by
  cases e with
  | none=>(injection h; done)
  | some e=>exact k e p h) h else by
  unfold t9 at h; replace h:=(dif_neg hi)▸h; (injection h; done)
theorem BY {x:Stmt} {f:Expr→List Stmt→List Stmt→Bool} {C:Stmt→Prop} (h:x7 x f=true) (k:∀ c a b p,f c a b=true→C (.If c a b p)):C x:=
 if hi:x.ctorIdx=12 then Stmt.If.elim (motive_2:=fun x=>x7 x f=true→C x) x hi (fun c a b p h=>k c a b p h) h else by
  unfold x7 at h; replace h:=(dif_neg hi)▸h; (injection h; done)
theorem Bx {x:Stmt} {f:Expr→Expr→List Stmt→Bool} {C:Stmt→Prop} (h:wK x f=true) (k:∀ T it body p,f T it body=true→C (.For T it body [] p)):C x:=
 if hi:x.ctorIdx=9 then Stmt.For.elim (motive_2:=fun x=>wK x f=true→C x) x hi (fun T it body el p h=>ln (C:=fun el=>C (.For T it body el p)) (a2 h).1 (k T it body p (a2 h).2)) h else by
  unfold wK at h; replace h:=(dif_neg hi)▸h; (injection h; done)
theorem lRs {x:Stmt} {f:Expr→Bool} {C:Stmt→Prop} (h:vRs x f=true) (k:∀ e p,f e=true→C (.Raise (some e) none p)):C x:=
 if hi:x.ctorIdx=16 then Stmt.Raise.elim (motive_2:=fun x=>vRs x f=true→C x) x hi (fun e c p h=>by
  have h:(c.isNone&&e.any f)=true:=h
  obtain ⟨h1,h2⟩:=a2 h
  obtain rfl:c=none:=Option.isNone_iff_eq_none.mp h1
  obtain ⟨e',rfl,h3⟩:=fH h2
  exact k e' p h3) h else by
  unfold vRs at h; replace h:=(dif_neg hi)▸h; (injection h; done)
theorem BW {x:Stmt} {f:Stmt→Option Expr→Option Str→List Stmt→Bool} {C:Stmt→Prop} (h:x5 x f=true) (k:∀ b t n hb hp p,f b t n hb=true→C (.Try [b] [.ExceptHandler t n hb hp] [] [] p)):C x:=
 if hi:x.ctorIdx=17 then Stmt.Try.elim (motive_2:=fun x=>x5 x f=true→C x) x hi (fun bd hs el fi p h=>ln (C:=fun el=>C (.Try bd hs el fi p)) (a2 h).1 (ln (C:=fun fi=>C (.Try bd hs [] fi p)) (a2 (a2 h).2).1 (l1 (C:=fun bd=>C (.Try bd hs [] [] p)) (a2 (a2 h).2).2 fun b h=>l1 (C:=fun hs=>C (.Try [b] hs [] [] p)) h fun hd h=>by
  obtain ⟨t,n,hb,hp⟩:=hd
  exact k b t n hb hp p h))) h else by
  unfold x5 at h; replace h:=(dif_neg hi)▸h; (injection h; done)
theorem lHd {h:ExceptHandler} {f:Str→Bool} {C:ExceptHandler→Prop} (q:vHd h f=true) (k:∀ n np kk kp rp hp,f n=true→C (.ExceptHandler (some (.Name n np)) none [.Return (some (.Constant .none kk kp)) rp] hp)):C h:=by
 obtain ⟨t,n,hb,hp⟩:=h
 refine a2e q fun h1 q1=>a2e q1 fun h2 q2=>?_
 obtain rfl:n=none:=Option.isNone_iff_eq_none.mp h1
 obtain ⟨t,rfl,q3⟩:=fH q2
 refine cz (C:=fun t=>C (.ExceptHandler (some t) none hb hp)) q3 fun n np q=>?_
 refine l1 (C:=fun hb=>C (.ExceptHandler _ none hb hp)) h2 fun b h2=>yq (C:=fun b=>C (.ExceptHandler _ none [b] hp)) h2 fun e rp h2=>nu (C:=fun e=>C (.ExceptHandler _ none [.Return (some e) rp] hp)) h2 fun c kk kp h2=>?_
 obtain rfl:c=.none:=eq_of_beq h2
 exact k n np kk kp rp hp q
theorem AL {x:Stmt} {f:Stmt→Str→Str→Bool} {C:Stmt→Prop} (h:tS x f=true) (k:∀ b n n' np np' kk kk' kp kp' rp rp' hp hp' p,f b n n'=true→C (.Try [b] [.ExceptHandler (some (.Name n np)) none [.Return (some (.Constant .none kk kp)) rp] hp,.ExceptHandler (some (.Name n' np')) none [.Return (some (.Constant .none kk' kp')) rp'] hp'] [] [] p)):C x:=
 if hi:x.ctorIdx=17 then Stmt.Try.elim (motive_2:=fun x=>tS x f=true→C x) x hi (fun bd hs el fi p h=>a2e h fun h1 h=>a2e h fun h2 h=>ln (C:=fun el=>C (.Try bd hs el fi p)) h1 (ln (C:=fun fi=>C (.Try bd hs [] fi p)) h2 (l1 (C:=fun bd=>C (.Try bd hs [] [] p)) h fun b h=>l2 (C:=fun hs=>C (.Try [b] hs [] [] p)) h fun a a' h=>
  lHd (C:=fun a=>C (.Try [b] [a,a'] [] [] p)) h fun n np kk kp rp hp h=>lHd (C:=fun a'=>C (.Try [b] [_,a'] [] [] p)) h fun n' np' kk' kp' rp' hp' h=>k b n n' np np' kk kk' kp kp' rp rp' hp hp' p h))) h else by
  unfold tS at h; rw [dif_neg hi] at h; (injection h; done)
section
variable {g:Gl} {n:Nat} {Z:Zx} {o:SOp} {k:List Kid→Bool} {ds:List D} {fx:Fx} {ca cb:CkS} {YA YB:B}
noncomputable def SOk (g:Gl) (n:Nat) (c:CkS) (Y:B):Prop:=∀ fx sts,fx.g=g→fx.d=n→FxTop fx→c (bU fx) sts=true→ExB fx (execs sts fx.env) Y
noncomputable abbrev wh (W Y:B):B:=fun G K=>W G fun fl G'=>match fl with | none=>Y G' K | some x=>K (some x) G'
noncomputable def MOk (g:Gl) (n:Nat) (c:CkM) (W:B):Prop:=∀ fx sts rest Y,fx.g=g→fx.d=n→FxTop fx→(∀ r,rest r=true→ExB fx (execs r fx.env) Y)→c (bU fx) sts rest=true→ExB fx (execs sts fx.env) (wh W Y)
theorem jJ {xs:List Expr} (h:(cF xs&&k (xs.map fun x=>(bU fx,.val,x)))=true) (hk:∀ ts,k ts=true→Kids fx.g fx.d ts ds) {C:B→Prop} {W:List V→Gs→(Option V→Gs→Prop)→Prop}
  (f:∀ qs:Gs→List (Expr×DV),(∀ G,(qs G).map Prod.fst=xs)→(∀ oa G,∀ q∈qs G,ao q.1=true∧bg ⟨fx,oa,G⟩ q)→C (fun G K=>bo ((qs G).map Prod.snd) fun ys=>W ys G K)):C (fun G K=>bY ds G fun ys=>W ys G K):=by
 obtain ⟨qs,e1,e2⟩:=(hk _ (a2 h).2).items rfl rfl (a2 h).1
 have z:=f qs (fun G=>(e1 G).1) e2
 rwa [show (fun (G:Gs) (K:Option V→Gs→Prop)=>bo ((qs G).map Prod.snd) fun ys=>W ys G K)=fun G K=>bY ds G fun ys=>W ys G K from funext fun G=>funext fun K=>by rw [(e1 G).2,jY]] at z
theorem zH {a b:Bool} (h:(!a||b)=true) (e:a=true):b=true:=by rw [e] at h; exact h
theorem wN {x:Stmt} (H:GOk fx.g Z) (top:FxTop fx) (hk:∀ ts,k ts=true→Kids fx.g fx.d ts ds) (ha:SOk fx.g fx.d ca YA) (hb:SOk fx.g fx.d cb YB) (h:wB Z o k ca cb (bU fx) x=true):ExB fx (exec x fx.env) (gM fx.g.P.sup (aq fx.g.P fx.d) o ds YA YB):=by
 cases o with
 | assign j=>exact xu (C:=fun x=>ExB fx (exec x fx.env) _) h fun t v p h=>cz (C:=fun t=>ExB fx (exec (.Assign [t] v p) fx.env) _) h fun m q h=>(hk _ (a2 h).2).n1 (C:=fun ds=>ExB fx _ (gM _ _ (.assign j) ds YA YB)) fun d a=>a fx rfl rfl rfl j (mT (a2 h).1)
 | assignM js=>
  refine a2e h fun hh h=>?_
  have:Hm fx:=fq rfl hh
  exact xu (C:=fun x=>ExB fx (exec x fx.env) _) h fun t v p h=>xt (C:=fun t=>ExB fx (exec (.Assign [t] v p) fx.env) _) h fun es j q h=>a2e h fun h1 h=>(hk _ (a2 h).2).n1 (C:=fun ds=>ExB fx _ (gM _ _ (.assignM js) ds YA YB)) fun d a=>qo (a2 h).1 (lU h1) (a fx rfl rfl rfl)
 | ownL j=>exact xu (C:=fun x=>ExB fx (exec x fx.env) _) h fun t v p h=>cz (C:=fun t=>ExB fx (exec (.Assign [t] v p) fx.env) _) h fun m q h=>a2e h fun h1 h=>Bw (C:=fun v=>ExB fx (exec (.Assign [_] v p) fx.env) _) h fun xs q' h=>jJ (C:=fun Y=>ExB fx _ Y) (W:=fun xs G K=>xs.length≤az∧K none (G.set j (.ownL xs))) h hk fun qs e1 e2=>xL (mT h1) e1 e2
 | setAttr i j=>exact xu (C:=fun x=>ExB fx (exec x fx.env) _) h fun t v p h=>tX (C:=fun t=>ExB fx (exec (.Assign [t] v p) fx.env) _) h fun u nm q h=>cz (C:=fun u=>ExB fx (exec (.Assign [.Attribute u nm q] v p) fx.env) _) h fun m q' h=>a2e h fun h1 h=>a2e h fun h2 h=>a2e h fun h3 h=>a2e h fun h4 h=>(hk _ h).n1 (C:=fun ds=>ExB fx _ (gM _ _ (.setAttr i j) ds YA YB)) fun d a=>qm (eq_of_beq h1) h2 (by rw [H.flds]; exact eq_of_beq h3) h4 (a fx rfl rfl rfl)
 | setAttrN i j=>exact xu (C:=fun x=>ExB fx (exec x fx.env) _) h fun t v p h=>tX (C:=fun t=>ExB fx (exec (.Assign [t] v p) fx.env) _) h fun u nm q h=>cz (C:=fun u=>ExB fx (exec (.Assign [.Attribute u nm q] v p) fx.env) _) h fun m q' h=>a2e h fun h1 h=>a2e h fun h2 h=>a2e h fun h3 h=>a2e h fun h4 h=>(hk _ h).n1 (C:=fun ds=>ExB fx _ (gM _ _ (.setAttrN i j) ds YA YB)) fun d a=>nQ (eq_of_beq h1) h2 (by rw [H.flds]; exact eq_of_beq h3) h4 (a fx rfl rfl rfl)
 | call f=>exact By (C:=fun x=>ExB fx (exec x fx.env) _) h fun e p h=>kj (C:=fun e=>ExB fx (exec (.Expr e p) fx.env) _) h fun n q xs r hf hx hs h=>jJ (C:=fun Y=>ExB fx _ Y) (W:=fun xs G K=>aq fx.g.P fx.d f xs fun y=>if noX y=true then isNone y=true∧K none G else K (some y) G) h hk fun qs e1 e2=>xN e1 hx (H.fns▸hf) (H.keep _ _ hf) (fun e=>by rw [H.safe]; exact hs e) e2
 | append j=>
  refine By (C:=fun x=>ExB fx (exec x fx.env) _) h fun e p h=>nt (C:=fun e=>ExB fx (exec (.Expr e p) fx.env) _) h fun y nm q xs r hl h=>a2e h fun e h=>a2e h fun h1 hh=>?_
  have e:nm="append":=eq_of_beq e
  subst e
  exact cz (C:=fun y=>ExB fx (exec (.Expr (.Call (.Attribute y _ q) xs [] r) p) fx.env) _) hh fun m pm h2=>l1 (C:=fun xs=>ExB fx (exec (.Expr (.Call _ xs [] r) p) fx.env) _) h1 fun y h=>(hk _ (a2 h).2).n1 (C:=fun ds=>ExB fx _ (gM _ _ (.append j) ds YA YB)) fun d a=>tH (eq_of_beq (a2 h2).1) (a2 h2).2 (a2 h).1 hl (a fx rfl rfl rfl)
 | ret=>
  refine yq (C:=fun x=>ExB fx (exec x fx.env) _) h fun e p h=>?_
  cases hnw:fx.nw with
  | true=>rw [show (bU fx).nw=true from hnw] at h; exact (hk _ h).n1 (C:=fun ds=>ExB fx _ (gM _ _ .ret ds YA YB)) fun d a=>xK (a fx rfl rfl rfl)
  | false=>rw [show (bU fx).nw=false from hnw] at h; exact (hk _ h).n1 (C:=fun ds=>ExB fx _ (gM _ _ .ret ds YA YB)) fun d a=>zO hnw (a fx rfl rfl rfl)
 | tryCC f' f c j=>
  refine BW (C:=fun x=>ExB fx (exec x fx.env) _) h fun b t n hb' hp p h=>a2e h fun hh h=>?_
  have:Hm fx:=fq rfl hh
  obtain ⟨t,rfl,h⟩:=fH h
  refine cz (C:=fun t=>ExB fx (exec (.Try [b] [.ExceptHandler (some t) n hb' hp] [] [] p) fx.env) _) h fun C pC h=>a2e h fun h1 h=>a2e h fun h2 h=>?_
  obtain ⟨n,rfl,h⟩:=fH h
  refine a2e h fun h3 h=>a2e h fun h4 h=>a2e h fun h5 h=>a2e h fun h6 h=>?_
  refine yq (C:=fun b=>ExB fx (exec (.Try [b] _ [] [] p) fx.env) _) h fun e rp h=>a2e h fun hnw h=>kj (C:=fun e=>ExB fx (exec (.Try [.Return (some e) rp] _ [] [] p) fx.env) _) h fun gnm gq gs gr hg hgx hgs h=>?_
  refine l1 (C:=fun gs=>ExB fx (exec (.Try [.Return (some (.Call _ gs [] gr)) rp] _ [] [] p) fx.env) _) h fun e h=>a2e h fun _ h=>kj (C:=fun e=>ExB fx (exec (.Try [.Return (some (.Call _ [e] [] gr)) rp] _ [] [] p) fx.env) _) h fun fnm q xs r hf hx hs h=>?_
  refine jJ (C:=fun Y=>ExB fx _ Y) (W:=fun xs G K=>aq fx.g.P fx.d f xs fun y=>match jv y with
   | none=>aq fx.g.P fx.d f' [y] fun z=>noX z=true∧K (some z) G
   | some d=>fx.g.P.sup d c=true∧YA (G.set j (.v y)) fun fl G'=>(match fl with | some x=>noX x=true | none=>False)∧K fl (G'.set j .unset)) h hk fun qs e1 e2=>?_
  exact u3 top e1 hx (H.fns▸hf) (H.keep _ _ hf) hgx (H.fns▸hg) (H.keep _ _ hg) (Bool.not_eq_true' _▸hnw) h1 (by rw [H.clss]; exact eq_of_beq h2) (eq_of_beq h3) (eq_of_beq h4) (fun e=>by replace h5:=e▸h5; (injection h5; done)) e2 fun A ef ed eu=>ha { fx with A:=A,hm:=true } _ rfl rfl (by obtain ⟨o,L,a,b⟩:=top.top; exact ⟨o,L,ef.trans a,b⟩) h6
 | try2 f c c'=>
  refine AL (C:=fun x=>ExB fx (exec x fx.env) _) h fun b C C' np np' kk kk' kp kp' rp rp' hp hp' p h=>a2e h fun hh h=>a2e h fun h1 h=>a2e h fun h2 h=>a2e h fun h3 h=>a2e h fun h4 h=>?_
  have:Hm fx:=fq rfl hh
  refine yq (C:=fun b=>ExB fx (exec (.Try [b] _ [] [] p) fx.env) _) h fun e rp h=>a2e h fun hnw h=>kj (C:=fun e=>ExB fx (exec (.Try [.Return (some e) rp] _ [] [] p) fx.env) _) h fun fnm q xs r hf hx hs h=>?_
  refine jJ (C:=fun Y=>ExB fx _ Y) (W:=fun xs G K=>aq fx.g.P fx.d f xs fun y=>match jv y with
   | none=>K (some y) G
   | some d=>(fx.g.P.sup d c||fx.g.P.sup d c')=true∧K (some .none) G) h hk fun qs e1 e2=>?_
  exact xJ top e1 hx (H.fns▸hf) (H.keep _ _ hf) (Bool.not_eq_true' _▸hnw) h1 (by rw [H.clss]; exact eq_of_beq h2) h3 (by rw [H.clss]; exact eq_of_beq h4) e2
 | ite=>exact BY (C:=fun x=>ExB fx (exec x fx.env) _) h fun c a b p h=>a2e h fun h1 h=>(hk _ h1).n1 (C:=fun ds=>ExB fx _ (gM _ _ .ite ds YA YB)) fun d q=>Bb (q fx rfl rfl rfl) (ha fx _ rfl rfl top (a2 h).1) (hb fx _ rfl rfl top (a2 h).2)
 | forS j=>
  refine a2e h fun hh h=>?_
  have:Hm fx:=fq rfl hh
  exact Bx (C:=fun x=>ExB fx (exec x fx.env) _) h fun T it body p h=>a2e h fun h2 h=>a2e h fun h3 h=>cz (C:=fun T=>ExB fx (exec (.For T it body [] p) fx.env) _) h fun m q h=>(hk _ (a2 h).2).n1 (C:=fun ds=>ExB fx _ (gM _ _ (.forS j) ds YA YB)) fun d a=>v6 h2 (uy (mT (a2 h).1)) (a fx rfl rfl rfl) fun X=>ha (fx.mo X) _ rfl rfl ⟨top.top⟩ h3
 | forM js=>
  refine a2e h fun hh h=>?_
  have:Hm fx:=fq rfl hh
  exact Bx (C:=fun x=>ExB fx (exec x fx.env) _) h fun T it body p h=>a2e h fun h2 h=>a2e h fun h3 h=>xt (C:=fun T=>ExB fx (exec (.For T it body [] p) fx.env) _) h fun es j q h=>(hk _ (a2 h).2).n1 (C:=fun ds=>ExB fx _ (gM _ _ (.forM js) ds YA YB)) fun d a=>v6 h2 (ux (lU (a2 h).1)) (a fx rfl rfl rfl) fun X=>ha (fx.mo X) _ rfl rfl ⟨top.top⟩ h3
 | raise c=>
  refine a2e h fun hh h=>?_
  have:Hm fx:=fq rfl hh
  refine lRs (C:=fun x=>ExB fx (exec x fx.env) _) h fun e p h=>tW (C:=fun e=>ExB fx (exec (.Raise (some e) none p) fx.env) _) h fun u xs ks r h=>cz (C:=fun u=>ExB fx (exec (.Raise (some (.Call u xs ks r)) none p) fx.env) _) h fun n q h=>a2e h fun h1 h=>a2e h fun h2 h=>a2e h fun h3 h=>ln (C:=fun ks=>ExB fx (exec (.Raise (some (.Call _ xs ks r)) none p) fx.env) _) h3 (l1 (C:=fun xs=>ExB fx (exec (.Raise (some (.Call _ xs [] r)) none p) fx.env) _) h fun z h=>nu (C:=fun z=>ExB fx (exec (.Raise (some (.Call _ [z] [] r)) none p) fx.env) _) h fun c' kk cp e=>?_)
  cases c' with
  | str t=>exact u6 h1 (by rw [H.clss]; exact eq_of_beq h2)
  | _=>(injection e; done)
 | _=>(injection h; done)
theorem xj (H:GOk g Z) (hk:∀ ts,k ts=true→Kids g n ts ds) (ha:SOk g n ca YA) (hb:SOk g n cb YB):MOk g n (wC Z o k ca cb) (gM g.P.sup (aq g.P n) o ds YA YB):=fun fx sts rest Y hg hn top hr h=>by
 subst hg hn
 have go:∀ {o:SOp},Bo (wB Z o k ca cb (bU fx)) rest sts=true→ExB fx (execs sts fx.env) (wh (gM fx.g.P.sup (aq fx.g.P fx.d) o ds YA YB) Y):=fun {o} h=>by
  cases sts with
  | nil=>(injection h; done)
  | cons x r=>exact xM (wN H top hk ha hb (a2 h).1) (hr r (a2 h).2)
 cases o with
 | freeze j=>exact tG (hr sts h)
 | _=>exact go h
theorem vQ:SOk g n (fun _ sts=>sts.isEmpty) (fun G K=>K none G):=fun fx sts _ _ _ h=>ln (C:=fun sts=>ExB fx (execs sts fx.env) _) h zP
theorem vI {c:CkM} {W Y:B} {is:CkS} (h1:MOk g n c W) (h2:SOk g n is Y):SOk g n (fun X sts=>c X sts (is X)) (wh W Y):=fun fx sts hg hn top h=>h1 fx sts (is (bU fx)) Y hg hn top (fun r q=>h2 fx r hg hn top q) h
theorem BQ (H:GOk g Z) (s:S):MOk g n (Au Z s) (ex g.P.sup (aq g.P n) s):=
 S.rec (motive_1:=fun s=>MOk g n (Au Z s) (ex g.P.sup (aq g.P n) s))
  (motive_2:=fun l=>SOk g n (S.rec_1 (motive_1:=fun _=>CkM) (motive_2:=fun _=>CkS) (fun o es _ _ a b X sts rest=>wC Z o (pS (es.map (x0 Z))) a b X sts rest) (fun _ sts=>sts.isEmpty) (fun _ _ i is X sts=>i X sts (is X)) l)
   (S.rec_1 (motive_1:=fun _=>B) (motive_2:=fun _=>B) (fun o es _ _ x y=>gM g.P.sup (aq g.P n) o (es.map (ev (aq g.P n))) x y) (fun G K=>K none G) (fun _ _ i is G K=>i G fun fl G'=>match fl with | none=>is G' K | some x=>K (some x) G') l))
  (fun o es a b ha hb=>xj H (yd H es) ha hb) vQ (fun s l i is=>vI i is) s
theorem yc (H:GOk g Z):∀ l:List S,SOk g n (chkSs Z l) (exs g.P.sup (aq g.P n) l)
 | []=>vQ
 | s :: r=>vI (BQ H s) (yc H r)
end
end Mine
end
noncomputable section
namespace Mine
open PySem PySem.Calls PyProof.Rows PySem.W
section
variable {prog:Program} {w:World} {A:Around} {E:Value→Shared→Prop} {s:Shared} {K:Frag} {x C D:Addr} {ox:Obj} {name:Str}
structure XCls (K:Frag) (D:Addr):Prop where
 ga:findIn K (.ref D) "__getattribute__"=some (some (.builtin "BaseException.__getattribute__"))
 gh:findIn K (.ref D) "__getattr__"=some none
 exc:mroIn K D (.type "BaseException")=some true
 dct:hasDictIn K D=true
 att:findIn K (.ref D) "__class__"=some (some (.builtin "object.__class__"))
 obj:mroIn K D (.type "object")=some true
set_option tactic.hygienic true in
theorem gA {K:Frag} {h:Heap} {M:Model} (X:K.In h) (hdct:hasDictIn K D=true):Looks M h (isType (.ref D)) true:=by
 obtain ⟨cdD,hcD,_⟩:=any_some hdct
 unfold clsIn at hcD
 split at hcD
 ·rename_i c' d' cd' sl' ho
  intro A' Q' E' s' k q
  skip
  exact zC1 (wpAny_loadPart (k _ _ (X _ _ ho)) (wpAny_pure q))
 ·(injection hcD; done)
theorem uM {Q:Option Value→Shared→Prop} (X:K.In s.heap) (I:InstAt s.heap x ox D none) (c:XCls K D) (hn:specialIn K (.builtin "object.__class__") "__get__"=some (some (.builtin "getset_descriptor.__get__"))) (htk:takesIn K (.builtin "object.__class__")=some true)
  (h:Q (some (.ref D)) { s with toks:=s.toks+1 }):wpAny (model prog w) A (getAttr? (.ref x) "__class__") Q E s:=by
 have hf:findObj K D none "__class__"=some (.bind (.builtin "getset_descriptor.__get__") (.builtin "object.__class__")):=by
  obtain ⟨cd,hc,_⟩:=any_some c.dct
  unfold findObj
  rw [hc,Option.bind_some,c.att,Option.bind_some]
  refine (?_:(specialIn K (.builtin "object.__class__") "__get__").bind _=_)
  rw [hn,Option.bind_some]
  refine (?_:(takesIn K (.builtin "object.__class__")).bind _=_)
  rw [htk]; rfl
 have call_ga:∀ (tk:Tok) (R:Result→Shared→Prop) (A:Around) (s:Shared),K.In s.heap→InstAt s.heap x ox D none→R (.ok (.ret (.ref D))) s→codeAny (model prog w) A (.call (.builtin "BaseException.__getattribute__") ⟨[.ref x,.str "__class__" tk],[]⟩) R s:=fun tk R A s X I hR=>by
  have hk:builtinKind "BaseException.__getattribute__"=some .slot:=by decide +kernel
  have hsplit:splitId "BaseException.__getattribute__"=some ("BaseException", "__getattribute__"):=by decide +kernel
  have ha:=F.args_bexc_ga (.ref x) (.str "__class__" tk)
  obtain ⟨hh,g,dr,t,os⟩:=s
  have L0:=I.type (M:=model prog w)
  have L1:=looks_mroIn (M:=model prog w) X c.exc
  have L2:=looks_find (M:=model prog w) X I hf
  have LI:Looks (model prog w) hh (isInstance (.ref x) (.type "BaseException")) true:=L0.andThen L1
  refine codeAny_call_builtin F.attr_ValueError.ga.plain F.entry_bexc_ga ?_
  simp only [checkBuiltinCall,hk,hsplit]
  refine zC1 (LI.at ?_)
  simp only [Bool.not_true,Bool.false_eq_true,if_false]
  unfold argsOk at ha
  have rest:wpAny (model prog w) A.in1 (Builtin.«object.__getattribute__» { pos:=[Value.ref x,Value.str (Str.ofString "__class__") tk] })
    (fun fin s'=>match fin with | .done f=>R (.ok f) s' | .again c'=>c'.quiet=true∧codeAny (model prog w) A c' R s') (fun e s'=>R (.error e) s') { heap:=hh,gens:=g,drawn:=dr,toks:=t,os:=os }:=by
   unfold Builtin.«object.__getattribute__»
   refine wpAny_bind (m:=slotArgs "__getattribute__" 1 _) (zC2 ?_)
   refine wpAny_bind (m:=Builtin.ObjectAttr.attrName _) (zC2 ?_)
   refine zC1 (L0.at (zC1 (L2.at ?_)))
   refine zC1 (wpAny_holding (wpAny_call (class_get (ox:=ox) (od:=none) X I c.obj ?_)))
   exact wpAny_pure hR
  generalize Manifest.signature? "BaseException.__getattribute__"=sgn at ha ⊢
  cases sgn with
  | none=>exact wpAny_pure rest
  | some sig=>
   simp only at ha ⊢
   rw [ha]
   exact wpAny_pure rest
 obtain ⟨hh,g,dr,t,os⟩:=s
 have L0:=I.type (M:=model prog w)
 have L1:=looks_findIn (M:=model prog w) X c.ga
 have L2:=looks_findIn (M:=model prog w) X c.gh
 unfold getAttr? getAttrBy?
 refine zC1 (wpAny_mkText (zC1 (wpAny_attempt ?_)))
 skip
 refine wpAny_holding (zC1 (L0.at (zC1 (L1.at ?_))))
 have hx2:(onTheHeap (Value.ref D)&&Value.builtin "BaseException.__getattribute__"==Value.builtin "object.__getattribute__")=false:=by
  have:(Value.builtin "BaseException.__getattribute__"==Value.builtin "object.__getattribute__")=false:=by decide +kernel
  rw [this]; rfl
 simp only [hx2,Bool.false_eq_true,if_false]
 unfold getAttrByItsOwn hookBefore
 refine zC1 ?_
 refine dp (rfl:onTheHeap (Value.ref D)=true) ?_
 refine L2.at ?_
 refine zC1 (wpAny_attempt (wpAny_holding ?_))
 refine (?_:wpAny _ _ (boundAndCalled _ _ _) _ _ _)
 unfold boundAndCalled
 rw [F.attr_ValueError.ga.bind]
 simp only [pure_bind]
 refine wpAny_call (call_ga _ _ _ _ X I ?_)
 exact handed_on rfl (wpAny_pure h)
theorem vV {c:Value} {Q:Value→Shared→Prop} (X:K.In s.heap) (I:InstAt s.heap x ox D none) (co:XCls K D) (hn:specialIn K (.builtin "object.__class__") "__get__"=some (some (.builtin "getset_descriptor.__get__"))) (htk:takesIn K (.builtin "object.__class__")=some true)
  (hty:∀ (M:Model) h',K.In h'→Looks M h' (typeOf c) (.type "type")) (his:∀ (M:Model) h',K.In h'→Looks M h' (isType c) true)
  (hne:(Value.ref D==c)=false) (hsub:∀ (M:Model) h',K.In h'→Looks M h' (isSubtype (.ref D) c) false) (h:Q (.bool false) { s with toks:=s.toks+1 }):wpAny (model prog w) A (call (.builtin "isinstance") [.ref x,c]) Q E s:=by
 refine call_isinstance (S:=fun _ R s=>(K.In s.heap∧InstAt s.heap x ox D none)∧R (.ok (.ret (.bool false))) { s with toks:=s.toks+1 }) (fun prog w A R s hs=>isinstance_outer ?_ (by intro q; (injection q; done))) ⟨⟨X,I⟩,h⟩
 obtain ⟨⟨X,I⟩,h⟩:=hs
 have hisD:=gA (M:=model prog w) X co.dct
 have L1:=hty (model prog w) _ X
 have L2:=his (model prog w) _ X
 have L3:=hsub (model prog w) _ X
 obtain ⟨h0,g,d,tt,os⟩:=s
 have L0:=I.type (M:=model prog w)
 have LI:Looks (model prog w) h0 (isInstance (.ref x) c) false:=L0.andThen L3
 skip
 refine zC1 (L0.at ?_)
 refine fy (fun q=>by rw [hne] at q; exact Bool.noConfusion q) ?_
 refine zC1 (L1.at ?_)
 refine dp (by decide) ?_
 k_delta "plainIsInstance"
 refine zC1 (zC1 (L2.at ?_))
 simp only [Bool.not_true,Bool.false_eq_true,if_false]
 refine zC1 (LI.at ?_)
 simp only [Bool.false_eq_true,if_false]
 refine zC1 (uM X I co hn htk ?_)
 refine zC1 (hisD.at ?_)
 simp only [Bool.not_true,Bool.false_eq_true,if_false]
 refine zC1 (wpAny_rule ?_)
 refine L3.at ?_
 first
  | exact wpAny_pure h
  | exact zC2 (wpAny_pure h)
  | exact zC1 (zC2 (wpAny_pure h))
theorem yj {c:Value} {Q:Value→Shared→Prop} (X:K.In s.heap) (I:InstAt s.heap x ox D none)
  (hty:∀ (M:Model) h',K.In h'→Looks M h' (typeOf c) (.type "type")) (his:∀ (M:Model) h',K.In h'→Looks M h' (isType c) true)
  (hsub:∀ (M:Model) h',K.In h'→Looks M h' (isSubtype (.ref D) c) true) (h:Q (.bool true) s):wpAny (model prog w) A (call (.builtin "isinstance") [.ref x,c]) Q E s:=by
 refine call_isinstance (S:=fun _ R s=>(K.In s.heap∧InstAt s.heap x ox D none)∧R (.ok (.ret (.bool true))) s) (fun prog w A R s hs=>isinstance_outer ?_ (by intro q; (injection q; done))) ⟨⟨X,I⟩,h⟩
 refine av fun Z7 kZ7=>?_
 obtain ⟨⟨X,I⟩,h⟩:=hs
 refine kZ7 ?_
 have L1:=hty (model prog w) _ X
 have L2:=his (model prog w) _ X
 have L3:=hsub (model prog w) _ X
 refine av fun Z8 kZ8=>?_
 obtain ⟨h0,g,d,tt,os⟩:=s
 refine kZ8 ?_
 have L0:=I.type (M:=model prog w)
 have LI:Looks (model prog w) h0 (isInstance (.ref x) c) true:=L0.andThen L3
 unfold Builtin.«isinstance.nested»
 refine zC1 (L0.at ?_)
 by_cases q:(Value.ref D==c)=true
 ·rw [if_pos q]
  refine zC1 (wpAny_rule ?_)
  first
   | exact wpAny_pure h
   | exact zC2 (wpAny_pure h)
   | (refine zC1 ?_; exact zC2 (wpAny_pure h))
 ·rw [if_neg q]
  refine zC1 (L1.at ?_)
  refine dp (by decide) ?_
  k_delta "plainIsInstance"
  refine zC1 (zC1 (L2.at ?_))
  simp only [Bool.not_true,Bool.false_eq_true,if_false]
  refine zC1 (LI.at ?_)
  refine dp rfl ?_
  exact zC2 (wpAny_pure h)
theorem pK {e:Addr} {oe:Obj} {b:Bool} {Q:Bool→Shared→Prop} (X:K.In s.heap) (he:s.heap.get? e=some oe) (hcls:oe.cls=.ref D)
  (hty:∀ (M:Model) h',K.In h'→Looks M h' (typeOf (.ref C)) (.type "type")) (hex:∀ (M:Model) h',K.In h'→Looks M h' (isExcClass (.ref C)) true) (hsub:∀ (M:Model) h',K.In h'→Looks M h' (isSubtype (.ref D) (.ref C)) b) (hq:Q b s) :
  wpAny (model prog w) A (excMatches (.ref e) (.ref C)) Q E s:=by
 have L1:=hty (model prog w) _ X
 have L2:=hex (model prog w) _ X
 have L3:=hsub (model prog w) _ X
 have LT:Looks (model prog w) s.heap (isInstance (.ref C) (.type "tuple")) false:=L1.andThen (.of_pure tc_notTuple)
 have L0:Looks (model prog w) s.heap (typeOf (.ref e)) (.ref D):=hcls▸(Looks.ld he).andThen .now
 unfold excMatches
 refine zC1 (LT.here ?_)
 simp only [Bool.false_eq_true,if_false,pure_bind,List.forIn_cons,List.forIn_nil,bind_assoc]
 refine zC1 (L2.here ?_)
 simp only [Bool.not_true,Bool.false_eq_true,if_false,pure_bind]
 refine zC1 (L0.here ?_)
 refine zC1 (L3.here ?_)
 cases b
 ·exact wpAny_pure hq
 ·exact wpAny_pure hq
end
structure XClss (g:Gl):Prop where
 raises:∀ c,c < g.nc→jL g c
 catches:∀ c c',c < g.nc→c' < g.nc→jN g c c' (g.P.sup c c')
 isi:∀ c c',c < g.nc→c'≤g.nc→yR g c (iF g c') (g.P.sup c c')
theorem Ba {g:Gl} (X:g.K.In g.h0) (hn:specialIn g.K (.builtin "object.__class__") "__get__"=some (some (.builtin "getset_descriptor.__get__"))) (htk:takesIn g.K (.builtin "object.__class__")=some true)
  (hcls:∀ c,c < g.nc→lQ g.K g.P.sup g.nc g.cls c=true) (hr:∀ c,c < g.nc→jL g c):XClss g:=by
 have un:∀ c,c < g.nc→XCls g.K (g.cls c)∧mroIn g.K (g.cls c) (.type "BaseException")=some true∧typeIn g.K (.ref (g.cls c))=some (.type "type")∧mroIn g.K (g.cls c) (.type "ValueError")=some (g.P.sup c g.nc)∧g.P.sup c c=true∧∀ c',c' < g.nc→mroIn g.K (g.cls c) (.ref (g.cls c'))=some (g.P.sup c c'):=fun c hc=>by
  refine av fun Z9 kZ9=>?_
  obtain ⟨h1,e⟩:=a2 (hcls c hc)
  obtain ⟨h0,e⟩:=a2 e
  obtain ⟨h2,e⟩:=a2 e
  obtain ⟨h3,e⟩:=a2 e
  obtain ⟨h4,e⟩:=a2 e
  obtain ⟨h5,e⟩:=a2 e
  obtain ⟨h6,e⟩:=a2 e
  obtain ⟨h7,e⟩:=a2 e
  obtain ⟨h9,h8⟩:=a2 e
  refine kZ9 ?_
  exact ⟨⟨eq_of_beq h1,eq_of_beq h0,eq_of_beq h5,h2,eq_of_beq h3,eq_of_beq h4⟩,eq_of_beq h5,eq_of_beq h6,eq_of_beq h7,h9,fun c' q=>eq_of_beq (List.all_eq_true.mp h8 c' (List.mem_range.mpr q))⟩
 refine ⟨hr,fun c c' hc hc'=>?_,fun c c' hc hc'=>?_⟩
 ·intro A E Q s e o st he hcl hq
  refine av fun Z12 kZ12=>?_
  obtain ⟨a1,a2,a3,a4,a6,a5⟩:=un c hc
  obtain ⟨b1,b2,b3,b4,b6,b5⟩:=un c' hc'
  refine kZ12 ?_
  refine pK (K:=g.K) (X.keeps st) he hcl (fun M h' X'=>looks_typeIn X' b3) (fun M h' X'=>?_) (fun M h' X'=>looks_mroIn X' (a5 c' hc')) hq
  exact (gA X' b1.dct).andThen (looks_mroIn X' b2)
 ·intro A E Q s e o st he hcl hdi hfl hq
  obtain ⟨a1,a2,a3,a4,a6,a5⟩:=un c hc
  have I:InstAt s.heap e o (g.cls c) none:=⟨he,hcl,by obtain ⟨vs,hv⟩:=hfl; unfold notCls; rw [hv],by rw [hdi]; trivial⟩
  unfold iF
  by_cases hv:c'=g.nc
  ·rw [if_pos hv]
   have hty:∀ (M:Model) h',g.K.In h'→Looks M h' (typeOf (.type "ValueError")) (.type "type"):=fun M h' _=>.of_pure rfl
   have his:∀ (M:Model) h',g.K.In h'→Looks M h' (isType (.type "ValueError")) true:=fun M h' _=>.of_pure rfl
   cases hb:g.P.sup c c' with
   | true=>rw [hb] at hq; exact yj (K:=g.K) (X.keeps st) I hty his (fun M h' X'=>looks_mroIn X' (by rw [a4,← hv,hb])) (hq s.toks)
   | false=>rw [hb] at hq; exact vV (K:=g.K) (X.keeps st) I a1 hn htk hty his rfl (fun M h' X'=>looks_mroIn X' (by rw [a4,← hv,hb])) (hq _)
  ·rw [if_neg hv]
   have hc'':c' < g.nc:=Nat.lt_of_le_of_ne hc' hv
   obtain ⟨b1,b2,b3,b4,b6,b5⟩:=un c' hc''
   cases hb:g.P.sup c c' with
   | true=>rw [hb] at hq; exact yj (K:=g.K) (X.keeps st) I (fun M h' X'=>looks_typeIn X' b3) (fun M h' X'=>gA X' b1.dct) (fun M h' X'=>looks_mroIn X' (by rw [a5 c' hc'',hb])) (hq s.toks)
   | false=>
    rw [hb] at hq
    refine vV (K:=g.K) (X.keeps st) I a1 hn htk (fun M h' X'=>looks_typeIn X' b3) (fun M h' X'=>gA X' b1.dct) ?_ (fun M h' X'=>looks_mroIn X' (by rw [a5 c' hc'',hb])) (hq _)
    cases hne:(Value.ref (g.cls c)==Value.ref (g.cls c')) with
    | false=>rfl
    | true=>
     have:=Value.ref.inj (eq_of_beq hne)
     have q':=a5 c' hc''
     replace q':=hb▸a6▸(a5 c hc)▸this.symm▸q'
     (injection q'; done)
theorem y1 {g:Gl} {A:Around} {fx:Fx} {h:Heap} (e:fx.A=A.deeper fx.env) (f:fS g fx.A h):FxTop fx:=by
 obtain ⟨l,hl,q⟩:=f
 replace hl:=e▸hl
 have hl':A.frames.map (fx.env :: ·)=some l:=hl
 cases ha:A.frames with
 | none=>replace hl':=ha▸hl'; (injection hl'; done)
 | some outer=>
  replace hl':=ha▸hl'
  (injection hl' with hl'; subst hl')
  obtain ⟨_,L,_,hf,_⟩:=q fx.env (.head _)
  exact ⟨outer,L,by rw [e]; exact hl,hf⟩
end Mine
end
noncomputable section
namespace Mine
open PySem PySem.Calls PyProof.Rows PySem.W
set_option tactic.hygienic true in
theorem gL {K:Frag} {h:Heap} {a:Addr} {m:Str→Option Value} {x:Str} {r:Option Value} (X:K.In h) (n:h.Ns a m) (e:nsIn K a x=some r):m x=r:=by
 unfold nsIn at e
 split at e
 ·rename_i c d es p sl ho
  obtain ⟨o,es',ep,ho',hd,hs,hf⟩:=n
  rw [X _ _ ho] at ho'
  (injection ho' with ho'; subst ho')
  (injection hd with hd; subst hd)
  rw [← hf x]
  unfold nsFind findBy
  rw [← Array.find?_toList]
  split at e
  ·rename_i en he; (injection e with e; subst e); rw [he]; rfl
  ·rename_i he
   split at e
   ·(injection e; done)
   ·(injection e with e; subst e); rw [he]; rfl
 ·(injection e; done)
theorem pi {ps:List Str}:∀ {vals:List Value},ps.length=vals.length→∀ n∈ps,((ps.zip vals).lookup n).isSome=true:=by
 induction ps with
 | nil=>intro vals _ n hn; cases hn
 | cons p ps ih=>
  intro vals h n hn
  cases vals with
  | nil=>(injection h; done)
  | cons v vals=>
   rw [List.zip_cons_cons,List.lookup_cons]
   cases hb:n==p with
   | true=>rfl
   | false=>
    rcases List.mem_cons.mp hn with rfl | hn
    ·simp at hb
    ·exact ih (Nat.succ.inj h) n hn
theorem oW {α β:Type} {f g:α→Option β}:∀ {l:List α},(∀ x∈l,f x=g x)→l.filterMap f=l.filterMap g
 | [],_=>rfl
 | a :: l,h=>by rw [List.filterMap_cons,List.filterMap_cons,h a (.head _),oW fun x hx=>h x (.tail _ hx)]
theorem pj {ps:List Str}:∀ {vals:List Value},ps.Nodup→ps.length=vals.length→ps.filterMap (fun n=>((ps.zip vals).lookup n).map (n,·))=ps.zip vals:=by
 induction ps with
 | nil=>intro vals _ _; rfl
 | cons p ps ih=>
  intro vals hn h
  cases vals with
  | nil=>(injection h; done)
  | cons v vals=>
   obtain ⟨h1,h2⟩:=List.nodup_cons.mp hn
   rw [List.zip_cons_cons,List.filterMap_cons]
   simp only [List.lookup_cons,beq_self_eq_true,Option.map_some]
   congr 1
   refine Eq.trans (oW fun n hnm=>?_) (ih h2 (Nat.succ.inj h))
   have:(n==p)=false:=beq_false_of_ne fun e=>h1 (e▸hnm)
   rw [this]
theorem pc {α β γ:Type} {l:List α} {b:β} {f:α→β→Sem (ForInStep β)} {g:β→Sem γ} {r:Sem γ} (h:l=[]) (k:g b=r):(forIn l b f >>= g)=r:=by subst h; exact k
theorem nS {fd:FuncData} {ps:List Str} {vals:List Value} (h1:fd.params.posonlyargs=[]) (h2:fd.params.args.map (·.arg)=ps) (h3:fd.params.kwonlyargs=[]) (h4:fd.params.vararg=none) (h5:fd.params.kwarg=none)
  (h6:fd.defaults=.none) (hn:ps.Nodup) (hl:vals.length=ps.length):bindArgs fd ⟨vals,[]⟩=pure (ps.zip vals):=by
 have hm:(List.filter (fun n=>(List.lookup n (ps.zip vals)).isNone) ps)=[]:=by
  rw [List.filter_eq_nil_iff]
  intro n hn
  rw [Option.isNone_iff_eq_none]
  exact Option.isSome_iff_ne_none.mp (pi hl.symm n hn)
 obtain ⟨nm,qn,⟨po,as,va,ko,kd,kw,df⟩,body,sc,gl,cl,dfs,kdf,doc,pm,an,cd,ct,bl⟩:=fd
 obtain rfl:po=[]:=h1
 obtain rfl:ko=[]:=h3
 obtain rfl:va=none:=h4
 obtain rfl:kw=none:=h5
 obtain rfl:dfs=.none:=h6
 have h2:as.map Arg.arg=ps:=h2
 have e1:(decide (vals.length > ([]++as.map Arg.arg).length)&&true)=false:=by rw [List.nil_append,h2,hl,Bool.and_true]; exact decide_eq_false (Nat.lt_irrefl _)
 have e2:(!(List.filter (fun n=>(List.lookup n (([]++as.map Arg.arg).zip vals)).isNone) (([]++as.map Arg.arg).take (([]++as.map Arg.arg).length - (([]:List Value).drop (([]:List Value).length - ([]++as.map Arg.arg).length)).length))).isEmpty)=false:=by
  rw [List.nil_append,h2,List.drop_nil,List.length_nil,Nat.sub_zero,List.take_length,hm]; rfl
 have e4:(([]++as.map Arg.arg).drop (([]++as.map Arg.arg).length - (([]:List Value).drop (([]:List Value).length - ([]++as.map Arg.arg).length)).length)).zip (([]:List Value).drop (([]:List Value).length - ([]++as.map Arg.arg).length))=[]:=by rw [List.drop_nil,List.zip_nil_right]
 have e3:(([]++as.map Arg.arg)++[]).filterMap (fun n=>(List.lookup n (([]++as.map Arg.arg).zip vals)).map (n,·))=ps.zip vals:=by
  rw [List.append_nil,List.nil_append,h2,pj hn hl.symm]
 exact (if_neg (Bool.eq_false_iff.mp e1)).trans ((if_neg (Bool.eq_false_iff.mp e2)).trans (pc e4 (pc rfl (congrArg pure e3))))
theorem xY {K:Frag} {h:Heap} {cd:Value} {q:Str} (X:K.In h) (e:mI K cd q=true):h.CodeRec cd q:=by
 unfold mI at e
 split at e
 ·split at e
  ·rename_i ho
   split at e
   ·rename_i hv
    have:=eq_of_beq e
    subst this
    exact ⟨_,_,_,_,rfl,X _ _ ho,rfl,hv⟩
   ·(injection e; done)
  ·(injection e; done)
 ·(injection e; done)
theorem y9 {g:Gl} {Z:Zx} {d:Nat} {a:Addr} {fn:Fn} {fd:FuncData} {body:List Stmt} {nms:List Str} {safe nw:Bool} (H:GOk g Z) (h1:chkSs Z fn.body ⟨fd.scope.names,nms.zipIdx,nms.length,fn.nslots,false,nw⟩ body=true) (h2:(!safe||chkSs Z fn.body ⟨fd.scope.names,nms.zipIdx,nms.length,fn.nslots,true,nw⟩ body)=true) :
  kA g d a fn fd body nms safe nw:=fun hm A L bad hs oa G K s hd I=>by
 have top:FxTop (v4 g A fd nms fn.nslots a L bad d hm nw):=y1 (A:=A) rfl I.fr
 refine yc (n:=d) H fn.body (v4 g A fd nms fn.nslots a L bad d hm nw) body rfl rfl top ?_ oa G K s hd I
 cases hm with
 | false=>exact h1
 | true=>exact zH h2 (hs rfl)
set_option tactic.hygienic true in
theorem sF {g:Gl} {K:Frag} {Z:Zx} {a:Addr} {fn:Fn} {nms:List Str} {safe nw:Bool} (H:GOk g Z) (X:K.In g.h0) (e0:qS K a=true) (e:jH Z fn nms safe nw (fG K a)=true):∃ fd body nms,FnAt g a fn fd body nms∧∀ d,kA g d a fn fd body nms safe nw:=by
 unfold qS at e0
 unfold fG at e
 split at e0
 ·rename_i c d fd sl ho
  rw [ho] at e
  dsimp only at e
  split at e
  ·rename_i body hb
   obtain ⟨h1,e0⟩:=a2 e0
   obtain ⟨h2,e0⟩:=a2 e0
   obtain ⟨h3,e0⟩:=a2 e0
   obtain ⟨h4,h13⟩:=a2 e0
   obtain ⟨h5,e⟩:=a2 e
   obtain ⟨h6,e⟩:=a2 e
   obtain ⟨h7,e⟩:=a2 e
   obtain ⟨h8,e⟩:=a2 e
   obtain ⟨h9,e⟩:=a2 e
   obtain ⟨h10,e⟩:=a2 e
   obtain ⟨h11,e⟩:=a2 e
   obtain ⟨h12,e⟩:=a2 e
   obtain ⟨h14,e⟩:=a2 e
   obtain ⟨h15,e⟩:=a2 e
   obtain ⟨h16,e⟩:=a2 e
   obtain ⟨h17,e⟩:=a2 e
   obtain ⟨h18,h19⟩:=a2 e
   have h14:=oH h14
   have h15:=of_decide_eq_true h15
   refine ⟨fd,body,nms,⟨⟨_,X _ _ ho,rfl⟩,hb,xY X h1,eq_of_beq h2,eq_of_beq h3,List.isEmpty_iff.mp h4,Bool.not_eq_true' _▸h5,Bool.not_eq_true' _▸h6,eq_of_beq h7,fun vals hv=>?_,h14,h15,of_decide_eq_true h16,fun x m=>((Bool.or_eq_true _ _).mp (List.all_eq_true.mp h17 x m)).imp eq_of_beq eq_of_beq⟩,fun d=>y9 H h18 h19⟩
   refine nS (List.isEmpty_iff.mp h8) (eq_of_beq h9) (List.isEmpty_iff.mp h10) (Option.isNone_iff_eq_none.mp h11) (Option.isNone_iff_eq_none.mp h12) ?_ (h14.sublist (List.take_sublist _ _)) (by rw [List.length_take,hv]; exact (Nat.min_eq_left h15).symm)
   cases hd:fd.defaults <;> rw [hd] at h13 <;> first | rfl | (injection h13; done)
  ·(injection e; done)
 ·(injection e0; done)
theorem rG {g:Gl} {bad:Addr→Prop} {h:Heap}:∀ {us:List Value} {l:List V},mU us l=true→RpAll g bad h us l
 | [],[],_=>.nil
 | [],_ :: _,e=>nomatch e
 | _ :: _,[],e=>nomatch e
 | u :: us,v :: l,e=>by
  obtain ⟨e1,e2⟩:=a2 e
  refine .cons ?_ (rG e2)
  cases v with
  | str t=>obtain ⟨t,rfl⟩:=Value.isStrOf_shape e1; exact .str _ _
  | _=>(injection e1; done)
theorem vr {g:Gl} {u:Value} {v:V} (X:g.K.In g.h0) (e:o9 g.K u v=true):∀ (bad:Addr→Prop) h,aH g.h0 h→(∀ a,bad a→g.h0.get? a=none)→Rp g bad h u v:=fun bad h st hb=>by
 cases v with
 | tuple l=>
  cases u with
  | ref a=>
   have e:(match g.K.lookup a with | some ⟨c,_,.seq vs _,_⟩=>c==.type "tuple"&&mU vs.toList l | _=>false)=true:=e
   split at e
   ·rename_i ho
    obtain ⟨e1,e2⟩:=a2 e
    have hx:=X _ _ ho
    exact .tuple (fun q=>by rw [hb _ q] at hx; (injection hx; done)) (st _ _ hx) (eq_of_beq e1) rfl (rG e2)
   ·(injection e; done)
  | _=>(injection e; done)
 | int j=>obtain ⟨t,rfl⟩:=Value.isInt_shape e; exact .int _ _
 | str l=>obtain ⟨t,rfl⟩:=Value.isStrOf_shape e; exact .str _ _
 | _=>(injection e; done)
theorem Bk:bu.all (fun p=>bootBuiltins p.1==some p.2&&p.1 != ("__name__" : Str))=true:=by decide +kernel
theorem z8 {g:Gl} (e:qX g.K g.C g.flds=true):ClsOk g:=by
 obtain ⟨h1,e⟩:=a2 e
 obtain ⟨h2,e⟩:=a2 e
 obtain ⟨h3,e⟩:=a2 e
 obtain ⟨h4,e⟩:=a2 e
 obtain ⟨h5,e⟩:=a2 e
 obtain ⟨h6,e⟩:=a2 e
 obtain ⟨h7,e⟩:=a2 e
 exact ⟨eq_of_beq h1,eq_of_beq h2,eq_of_beq h3,h4,h5,fun x m=>eq_of_beq (List.all_eq_true.mp h6 x m),h7,of_decide_eq_true (a2 e).1,of_decide_eq_true (a2 e).2⟩
theorem zI {g:Gl} {Z:Zx} (e1:g.fns=Z.fns) (e2:g.cons=Z.cons) (e3:g.flds=Z.flds) (e4:g.clss=Z.clss) (e5:g.nc=Z.nc) (e6:g.P.sup=Z.sup) (e7:g.safe=Z.safe) (e8:g.newf=Z.newf) (e9:g.fn Z.cf=g.C) (h1:Z.fns.all (fun p=>keepIn g.K (.ref (g.fn p.2)))=true) (h2:Z.meths.all (vX g.K g.C g.flds g.fn)=true):GOk g Z:=
 ⟨e1,e2,e3,e4,e5,e6,e7,e8,e9,fun x f e=>List.all_eq_true.mp h1 _ (PySem.mem_of_lookup e),fun x f e=>by
  obtain ⟨q1,q⟩:=a2 (List.all_eq_true.mp h2 _ (PySem.mem_of_lookup e))
  obtain ⟨q2,q⟩:=a2 q
  exact ⟨fun m=>by rw [List.elem_iff.mpr m] at q1; exact (nomatch q1),eq_of_beq q2,eq_of_beq (a2 q).1,(a2 q).2⟩⟩
set_option tactic.hygienic true in
theorem tB {g:Gl} (X:g.K.In g.h0) (hm:g.h0.Ns mainGlobals g.mg) (hb:g.h0.Ns builtinsNs g.mb) (hl:g.h0.NoLimit) (hbt:∀ x:Str,x≠"__name__"→g.mb x=bootBuiltins x) (h0:(g.K.lookup sysModules).isSome=true) (hc:qX g.K g.C g.flds=true)
  (h1:g.fns.all (fun p=>nsIn g.K mainGlobals p.1==some (some (.ref (g.fn p.2))))=true) (h3:g.cons.all (qV g.K)=true) (h4:bu.all (fun p=>nsIn g.K mainGlobals p.1==some none)=true)
  (h5:g.clss.all (fun p=>decide (p.2 < g.nc)&&nsIn g.K mainGlobals p.1==some (some (.ref (g.cls p.2))))=true) (hx:XClss g):Ground g where
 main:=hm
 blt:=hb
 nolim:=hl
 sysm:=(Option.isSome_iff_exists.mp h0).elim fun o e=>⟨o,X _ _ e⟩
 frag:=X
 cls:=z8 hc
 fns:=fun x f e=>gL X hm (eq_of_beq (List.all_eq_true.mp h1 _ (PySem.mem_of_lookup e)))
 cons:=fun x v e=>by
  have q:=List.all_eq_true.mp h3 _ (PySem.mem_of_lookup e)
  unfold qV at q
  split at q
  ·rename_i u hu; exact ⟨u,gL X hm ((vO ..).symm.trans hu),vr X q⟩
  ·(injection q; done)
 blts:=fun x v e=>by
  have q:=a2 (List.all_eq_true.mp Bk _ (PySem.mem_of_lookup e))
  exact ⟨gL X hm (eq_of_beq (List.all_eq_true.mp h4 _ (PySem.mem_of_lookup e))),(hbt x (bne_iff_ne.mp q.2)).trans (eq_of_beq q.1)⟩
 clss:=fun x c e=>by
  have q:=a2 (List.all_eq_true.mp h5 _ (PySem.mem_of_lookup e))
  exact ⟨of_decide_eq_true q.1,gL X hm (eq_of_beq q.2)⟩
 raises:=hx.raises
 catches:=hx.catches
 isi:=hx.isi
theorem jF {g:Gl} (gr:Ground g) (hfn:∀ f fn,g.P.fns[f]?=some fn→fn.init=false→∃ fd body nms,FnAt g (g.fn f) fn fd body nms∧∀ d,kA g d (g.fn f) fn fd body nms (g.safe f) (g.newf f)) (hin:∀ f fn,g.P.fns[f]?=some fn→fn.init=true→g.fn f=g.C∧g.safe f=false∧∀ d,InitAt g d fn):∀ d,fK g (aq g.P d) d
 | 0=>fun hm f args K A s bad vals hc=>hc.elim
 | d+1=>nR gr (fun f fn h hi=>(hfn f fn h hi).elim fun fd q=>q.elim fun body q=>q.elim fun nms q=>⟨fd,body,nms,q.1,q.2 d⟩) (fun f fn h hi=>(hin f fn h hi).imp id fun q=>q.imp id fun q=>q d) (jF gr hfn hin d)
end Mine
end
noncomputable section
namespace Mine
open PySem PySem.Calls PyProof.Rows PySem.W
theorem pW (xs:List WData):WShape.hasItems [] xs .int=true→∃ is:List Int,xs=is.map .int:=by
 induction xs with
 | nil=>exact fun _=>⟨[],rfl⟩
 | cons x xs ih=>
  intro h
  have h:=a2 (b:=WShape.hasItems [] xs .int) h
  have h1:=h.1
  cases x with
  | int i=>exact (ih h.2).elim fun is e=>⟨i :: is,congrArg _ e⟩
  | _=>(injection h1; done)
noncomputable def zZ (v:Option WData):Bool:=match (match (match v with | some (.bool b)=>some (WData.bool (!b)) | _=>none) with | some (.bool false)=>some (WData.bool false) | some (.bool true)=>some (WData.bool true) | _=>none) with | some (.bool true)=>true | _=>false
noncomputable def Be (b:Bool):Bool:=match some (WData.bool b) with | some (.bool true)=>true | _=>false
theorem tg:same (.bool true) (.bool true)=true:=by simp only [same,beq_self_eq_true]
theorem zz {xs:List WData} (h:(WTm.and (.not (.lt (.lit (.int (63:Nat))) (.len (.arg 0)))) (.lit (.bool true))).holds [] { args:=[.list xs] }=true):xs.length≤63:=by
 have h:zZ (some (.bool (decide (((63:Nat):Int) < (xs.length:Int)))))=true:=h
 by_cases hq:((63:Nat):Int) < (xs.length:Int)
 ·rw [decide_eq_true hq] at h; (injection h; done)
 ·omega
theorem zg {l:OpenLaw} (hm:l.most=some 63) (hb:l.bound=none):l.pre=.and (.not (.lt (.lit (.int (63:Nat))) (.len (.arg 0)))) (.lit (.bool true)):=by
 unfold OpenLaw.pre; rw [hm,hb]
theorem te {l:OpenLaw} (hm:l.most=some 63) (hb:l.bound=none) {args:List WData} (h:l.row.claim.pre args=true):∃ is:List Int,args=[.list (is.map .int)]∧is.length≤63:=by
 have h:=a2 (a:=WShape.hasAll [] args [.list .int]) (b:=l.pre.holds [] { args:=args }) h
 rw [zg hm hb] at h
 cases args with
 | nil=>(injection h.1; done)
 | cons x r=>
  have h1:=a2 (a:=WShape.has [] x (.list .int)) h.1
  cases r with
  | cons y r=>(injection h1.2; done)
  | nil=>
   have h2:=h1.1
   cases x with
   | list xs=>
    have h2:(WShape.hasItems [] xs .int||false)=true:=h2
    rw [Bool.or_false] at h2
    refine (pW xs h2).elim fun is e=>⟨is,congrArg (fun xs=>[WData.list xs]) e,?_⟩
    have:=zz h.2
    rw [e,zA4] at this
    exact this
   | _=>(injection h2; done)
set_option tactic.hygienic true in
theorem th {g:Gl} {P:Params} (is:List Int):∀ vs:List Value,WellAll P g.h0 vs (is.map .int)→RpAll g (fun _=>False) g.h0 vs (is.map .int):=by
 induction is with
 | nil=>intro vs w; cases w; exact .nil
 | cons i is ih=>
  intro vs w
  cases w with
  | cons w ws=>cases w with
   | int _ t=>exact .cons (.int i t) (ih _ ws)
set_option tactic.hygienic true in
theorem uQ {l:OpenLaw} (hm:l.most=some 63) (hb:l.bound=none) {g:Gl} {f d:Nat} {cl:Str→Option Addr} {mean:ExcName→Option Value} {s₁:Shared} {args:List WData} {vals:List Value} {Pm:Params}
  (call:fK g (aq g.P d) d) (hg:g.prog=l.row.prog) (h0:g.h0=s₁.heap) (ho:g.os=s₁.os) (hgn:s₁.gens=#[]) (hd:d≤40)
  (hpre:l.row.claim.pre args=true) (hwl:WellAll Pm s₁.heap vals args)
  (plain:∀ scr:List Int,scr.length≤63→aq g.P d f [.list (scr.map .int)] fun y=>y=.bool true) :
  wpAny (model l.row.prog g.w) callerA (PySem.call (.ref (g.fn f)) vals) (fun v s'=>GoodWG l.row.claim cl mean args s₁ (.ok (.ret v)) s') (fun e s'=>GoodWG l.row.claim cl mean args s₁ (.error e) s') s₁:=by
 obtain ⟨is,rfl,hlen⟩:=te hm hb hpre
 cases hwl with
 | cons w ws=>
 cases ws
 cases w with
 | list ha hws=>
 rename_i a vs
 have rp:RpAll g (fun _=>False) s₁.heap [.ref a] [.list (is.map .int)]:=by
  rw [← h0] at hws ha ⊢
  exact .cons (.list id ha ⟨rfl,rfl⟩ rfl (by rw [List.toList_toArray]; exact th _ _ hws)) .nil
 have B:Base g s₁:=⟨by rw [h0]; exact fun b o e=>e,ho.symm,hgn⟩
 have w:=call false f [.list (is.map .int)] _ callerA s₁ (fun _=>False) [.ref a] (plain is hlen) (fun _=>rfl) nofun (by refine (?_:1+claimMargin+2 * d < 990); have:claimMargin=300:=rfl; lia)
  (by refine (?_:4+4 * d+100 < cLine); have:(1000:Nat)≤cLine:=(by decide +kernel); lia) B ⟨_,rfl,fun env m=>nomatch m⟩ (fun a q=>q.elim) (fun a q=>q.elim) rp
 rw [hg] at w
 refine wpAny_mono w (fun v s' p=>?_) fun _ _ ⟨_,_,c,e,_,_,q,_⟩=>nomatch q
 obtain ⟨B',_,y,rfl,_,r,_⟩:=p
 refine r.bool_elim ?_
 refine GoodW.toG ⟨.inl ⟨_,.bool true,[],rfl,fun cls=>rfl,ReadsW.bool true,(by
  refine (?_:(WShape.has [] (.bool true) .bool&&(WTm.eq .res (.lit (.bool true))).holds [] _)=true)
  refine zA3 ⟨rfl,?_⟩
  exact congrArg Be tg),fun _=>⟨List.nodup_nil,fun a ha=>(nomatch ha)⟩⟩,?_,B'.os.trans ho,B'.gens⟩
 have:=B'.stays
 rw [h0] at this
 exact fun b o e=>this b o e
end Mine
end
noncomputable section
namespace Mine.L15
open PySem PySem.Calls PyProof.Rows PySem.W
theorem tM:@jI mB 0 fns nms wH=true:=by kernel_rfl
theorem BH:jI 0 fns nms wH=true:=sH▸tM
theorem qR {K:Frag}:∀ {i:Nat} {fns:List Fn} {n:List (List Str)} {A:List Addr} {b:List (Option gG)},jI i fns n b=true→A.map (fG K)=b→∀ {f:Nat} {fn:Fn},fns[f]?=some fn→A.getD f 0∈A∧∃ m,jH Z fn m (safe (i+f)) (newf (i+f)&&!fn.init) (fG K (A.getD f 0))=true
 | _,[],_,_,_,_,_,_,_,h=>nomatch h
 | _,_ :: _,[],_,_,e,_,_,_,_=>nomatch e
 | _,_ :: _,_ :: _,_,[],e,_,_,_,_=>nomatch e
 | _,_ :: _,_ :: _,[],_ :: _,_,q,_,_,_=>nomatch q
 | i,fn :: r,n :: m,a :: A,b :: B,e,q,0,_,h=>by
  (injection h with h; subst h)
  obtain ⟨q1,q2⟩:=zA5 q
  refine ⟨.head _,n,?_⟩
  refine (?_:jH Z fn n _ _ (fG K a)=true)
  rw [q1]; exact (a2 e).1
 | i,fn :: r,n :: m,a :: A,b :: B,e,q,f+1,_,h=>by
  obtain ⟨q1,q2⟩:=zA5 q
  rw [show i+(f+1)=i+1+f from (Nat.succ_add i f).symm]
  exact (qR (a2 e).2 q2 (f:=f) h).imp (.tail _) id
theorem sR {K:Frag}:∀ {n:Nat},mJ K n=true→∀ {c:Nat},c < n→lQ K sup 8 (fun c=>clsA.getD c 0) c=true
 | n+1,e,c,h=>by
  by_cases q:c=n
  ·subst q; exact (a2 e).1
  ·exact sR (a2 e).2 (Nat.lt_of_le_of_ne (Nat.le_of_lt_succ h) q)
theorem xD:(List.range 36).all (fun f=>(fns[f]?).all fun fn=>if fn.init=true then f==8 else fnB.getD f 0==fnA.getD f 0)=true:=rfl
theorem sx {f:Nat} {fn:Fn} (h:fns[f]?=some fn):(if fn.init=true then f==8 else fnB.getD f 0==fnA.getD f 0)=true:=by
 have:=List.all_eq_true.mp xD f (List.mem_range.mpr (List.getElem?_eq_some_iff.mp h).1)
 rw [h] at this
 exact this
noncomputable def yg (p:Program) (x:Str):Bool:=(ownsOf p).any fun o=>o.name==x&&(o.bm==[.type "ValueError",.type "Exception",.type "BaseException",.type "object"]&&o.newId=="ValueError.__new__")
theorem uE {g:Gl} {p:Program} {x:Str} {c:Nat} (own:∀ o∈ownsOf p,∃ C,OwnClsQ o.name C o.bm o.newId g.mg g.h0) (hx:yg p x=true) (hc:g.mg x=some (.ref (g.cls c))):jL g c:=by
 obtain ⟨o,ho,hq⟩:=List.any_eq_true.mp hx
 have h1:=eq_of_beq (a2 hq).1
 have h2:=eq_of_beq (a2 (a2 hq).2).1
 have h3:=eq_of_beq (a2 (a2 hq).2).2
 obtain ⟨C,O⟩:=own o ho
 have hb:=O.bound
 rw [h1,hc] at hb
 cases hb
 obtain ⟨bm,N,nm,q,bs,hdct,sn,sub,ab,col,dd,k0,k1,k2,k3,k5,mN,hC,hN,hqn,T⟩:=O.obj
 rw [h3] at hC
 rw [h2] at T
 exact ⟨nm,q,N,bs,bm,_,hdct,sn,sub,ab,col,dd,k0,k1,k2,k3,k5, "ValueError", "ValueError.__new__",_,mN,PySem.F.excBase_ValueError,T.tail.hasType PySem.F.excBase_ValueError.hasBase,hqn _ (.head _),hC,hN,T.tail⟩
theorem vy:∀ c,c < 8→clsN.any (fun p=>p.2==c&&clsN.lookup p.1==some c)=true:=by decide
theorem x1 {g:Gl} {q:Program} (KX:g.K.In g.h0) (e:chk g.K=true) (hbd:fnB.map (fG g.K)=wH) (hf:g.fn=fun f=>fnA.getD f 0) (hC:g.C=mchA) (hfl:g.flds=fldN) (hfn:g.fns=fnN) (hcn:g.cons=conN) (hP:g.P=prog) (hcl:g.clss=clsN) (hnc:g.nc=8) (hcs:g.cls=fun c=>clsA.getD c 0) (hsf:g.safe=safe) (hnw:g.newf=newf) (hm:g.h0.Ns mainGlobals g.mg) (hb:g.h0.Ns builtinsNs g.mb) (hl:g.h0.NoLimit) (hbt:∀ x:Str,x≠"__name__"→g.mb x=bootBuiltins x)
  (own:∀ o∈ownsOf q,∃ C,OwnClsQ o.name C o.bm o.newId g.mg g.h0) (hq:clsN.all (fun p=>yg q p.1)=true) (d:Nat):Ground g∧fK g (aq g.P d) d:=by
 obtain ⟨e1,e⟩:=a2 e
 obtain ⟨e2,e⟩:=a2 e
 obtain ⟨e3,e⟩:=a2 e
 obtain ⟨e4,e⟩:=a2 e
 obtain ⟨e5,e⟩:=a2 e
 obtain ⟨e6,e⟩:=a2 e
 obtain ⟨e7,e⟩:=a2 e
 obtain ⟨e8,e⟩:=a2 e
 obtain ⟨e9,e⟩:=a2 e
 obtain ⟨e10,e⟩:=a2 e
 obtain ⟨e11,e⟩:=a2 e
 obtain ⟨e12,e⟩:=a2 e
 obtain ⟨e13,e14⟩:=a2 e
 simp only [vO] at e3 e5 e11
 have hsup:g.P.sup=sup:=by rw [hP]; rfl
 have cn:∀ x c,clsN.lookup x=some c→g.mg x=some (.ref (g.cls c)):=fun x c h=>by
  rw [hcs]
  exact gL KX hm (eq_of_beq (a2 (List.all_eq_true.mp e11 _ (PySem.mem_of_lookup h))).2)
 have xc:XClss g:=Ba KX (eq_of_beq e12) (eq_of_beq e13) (fun c h=>by rw [hsup,hnc,hcs]; exact sR e14 (hnc▸h)) fun c h=>by
  obtain ⟨p,mp,hp⟩:=List.any_eq_true.mp (vy c (hnc▸h))
  obtain ⟨h1,h2⟩:=a2 hp
  exact uE own (List.all_eq_true.mp hq _ mp) (cn _ _ (eq_of_beq h2))
 have gr:Mine.Ground g:=tB KX hm hb hl hbt e1 (by rw [hC,hfl]; exact e2) (by rw [hfn,hf]; exact e3) (by rw [hcn]; exact e4) e5 (by rw [hcl,hnc,hcs]; exact e11) xc
 have ok:GOk g Z:=zI hfn hcn hfl hcl hnc hsup hsf hnw (by rw [hf,hC]; rfl) (by rw [hf]; exact e6) (by rw [hC,hfl,hf]; exact e7)
 refine ⟨gr,jF gr (fun f fn h hi=>?_) (fun f fn h hi=>?_) d⟩
 ·rw [hP] at h
  obtain ⟨mb,m,q⟩:=qR BH hbd h
  have mb:=List.all_eq_true.mp e10 _ mb
  have i:=sx h
  rw [hi,if_neg Bool.false_ne_true] at i
  rw [eq_of_beq i,hi,Nat.zero_add,Bool.not_false,Bool.and_true] at q
  rw [eq_of_beq i] at mb
  rw [hsf,hnw]
  exact sF ok KX (by rw [hf]; exact mb) (by rw [hf]; exact q)
 ·rw [hP] at h
  obtain ⟨mb,m,q⟩:=qR BH hbd h
  have mb:=List.all_eq_true.mp e10 _ mb
  have i:=sx h
  rw [hi,if_pos rfl] at i
  obtain rfl:=eq_of_beq i
  rw [hi,Nat.zero_add,Bool.not_true,Bool.and_false] at q
  obtain ⟨fd,body,nm,F,sm⟩:=sF (g:=g) ok KX mb q
  exact ⟨by rw [hf,hC]; rfl,by rw [hsf]; rfl,fun d=>⟨181,fd,body,nm,by rw [hC]; exact eq_of_beq e8,eq_of_beq e9,F,sm d⟩⟩
end Mine.L15
end
noncomputable section
namespace Mine
open PySem
noncomputable def evs (cf:ad) (es:List E):List D:=E.rec_1 (motive_1:=fun _=>D) (motive_2:=fun _=>List D) (fun o _ ih=>bp cf o ih) [] (fun _ _ i is=>i :: is) es
noncomputable def exi (sup:Nat→Nat→Bool) (cf:ad) (l:List S):B:=S.rec_1 (motive_1:=fun _=>B) (motive_2:=fun _=>B) (fun o es _ _ x y=>gM sup cf o (es.map (ev cf)) x y) (fun G K=>K none G) (fun _ _ i is G K=>i G fun fl G'=>match fl with | none=>is G' K | some x=>K (some x) G') l
section
variable {sup:Nat→Nat→Bool} {cf:ad} {G:Gs} {K:Option V→Gs→Prop} {e a b c:E} {es:List E} {r:List S} {v x y z:V} {o:Op} {k:Nat} {t u:Bool}
noncomputable def Val (cf:ad) (G:Gs) (e:E) (v:V):Prop:=∀ K,K v→ev cf e G K
noncomputable def gP (cf:ad) (G:Gs) (es:List E) (vs:List V):Prop:=∀ K,K vs→bY (evs cf es) G K
noncomputable def bq (cf:ad) (b:Bool) (G:Gs) (es:List E) (t:Bool):Prop:=∀ K,K t→cw b (evs cf es) G K
theorem aL {α:Type} {o:Option α} {z:α} {K:α→Prop} (e:o=some z) (h:K z):okK o K:=by rw [e]; exact h
theorem ix {α:Type} {v:α} (K:α→Prop) (h:K v):K v:=h
theorem gP.nil:gP cf G [] []:=ix
noncomputable def pO (o:Op):Bool:=match o with
 | .bin _ | .neg | .tuple | .list | .sub | .slice _ _ | .attr _ | .isinst _ | .len | .listOf | .lenSet | .index _ | .strOf | .intOf | .max | .isExc _ _ | .edict | .tupleOf | .range | .zip=>true
 | _=>false
theorem Bc (h:pO o=true) {ds:List D} {K:V→Prop} (q:bY ds G fun xs=>okK (opN o xs) K):bp cf o ds G K:=by
 cases o <;> first | exact q | exact nomatch h
theorem gP.cons {vs:List V} (h:Val cf G e v) (hs:gP cf G es vs):gP cf G (e :: es) (v :: vs):=fun K k=>h _ (hs _ k)
theorem gP.one (h:Val cf G e v):gP cf G [e] [v]:=.cons h .nil
theorem gP.two (h:Val cf G a x) (h':Val cf G b y):gP cf G [a,b] [x,y]:=.cons h (.cons h' .nil)
theorem aa {vs:List V} (hv:gP cf G es vs) (e:opN o vs=some z) (ho:pO o=true:=by exact rfl):Val cf G (.nd o es) z:=fun K k=>Bc ho (hv _ (aL e k))
theorem ac {o:CmpOp} (h:Val cf G a x) (h':Val cf G b y) (e:aS o x y=some t):Val cf G (.nd (.cmp o) [a,b]) (.bool t):=fun K k=>h _ (h' _ (aL e k))
theorem ak {f:Nat} {vs:List V} (hv:gP cf G es vs) (h:∀ K,K v→cf f vs K) (hn:noX v=true:=by rfl):Val cf G (.nd (.call f) es) v:=fun K k=>hv _ (h _ ⟨hn,k⟩)
theorem bC {f:Nat} (hv:Val cf G e x) (hi:nz x=true) (h:∀ K,K v→cf f [x] K) (hn:noX v=true:=by rfl):Val cf G (.nd (.meth f) [e]) v:=fun K k=>hv _ ⟨hi,h _ ⟨hn,k⟩⟩
theorem au (h:Val cf G a (.bool t)):Val cf G (.nd .not [a]) (.bool (!t)):=fun K k=>h _ k
theorem bq.nil {b:Bool}:bq cf b G [] b:=fun _ h=>h
theorem bq.go {b:Bool} (h:Val cf G a (.bool b)) (hs:bq cf b G es t):bq cf b G (a :: es) t:=fun K k=>h _ (by refine (?_:if b=b then _ else _); rw [if_pos rfl]; exact hs _ k)
theorem bq.stop {b:Bool} (h:Val cf G a (.bool (!b))):bq cf b G (a :: es) (!b):=fun K k=>h _ (by refine (?_:if (!b)=b then _ else _); rw [if_neg (by cases b <;> decide)]; exact k)
theorem bq.and {t u:Bool} (h:Val cf G a (.bool t)) (hs:t=true→bq cf true G es u):bq cf true G (a :: es) (t&&u):=by
 cases t
 ·exact .stop (b:=true) h
 ·exact .go h (hs rfl)
theorem bq.or {t u:Bool} (h:Val cf G a (.bool t)) (hs:t=false→bq cf false G es u):bq cf false G (a :: es) (t||u):=by
 cases t
 ·exact .go h (hs rfl)
 ·exact .stop (b:=false) h
theorem bq.one (h:Val cf G a (.bool t)):bq cf true G [a] t:=by
 have:=bq.and (es:=[]) h fun _=>.nil
 rwa [Bool.and_true] at this
theorem bq.one' (h:Val cf G a (.bool t)):bq cf false G [a] t:=by
 have:=bq.or (es:=[]) h fun _=>.nil
 rwa [Bool.or_false] at this
theorem aT (h:bq cf true G es t):Val cf G (.nd .and es) (.bool t):=fun K k=>h _ k
theorem aE (h:bq cf false G es t):Val cf G (.nd .or es) (.bool t):=fun K k=>h _ k
theorem iT (h:Val cf G c (.bool t)) (h1:t=true→Val cf G a v) (h2:t=false→Val cf G b v):Val cf G (.nd .ite [c,a,b]) v:=fun K k=>h _ (by
 refine (?_:if t=true then _ else _)
 cases t
 ·exact h2 rfl K k
 ·exact h1 rfl K k)
theorem vx {α:Type} {e:E} {ts:List E} {b:Gs→V→Option Gs} {g:α→V} {H:α→Gs} {p:α→Bool} {f:α→V} {ws:List α}:∀ (ys:List V),(∀ w∈ws,b G (g w)=some (H w))→(∀ w∈ws,bq cf true (H w) ts (p w))→(∀ w∈ws,p w=true→Val cf (H w) e (f w))→∀ K:List V→Prop,K (ys++(ws.filter p).map f)→jC (ev cf e) (evs cf ts) b G (ws.map g) fun zs=>K (ys++zs):=by
 induction ws with
 | nil=>exact fun ys _ _ _ K h=>h
 | cons x xs ih=>
  intro ys hb ht he K h
  refine aL (hb x (.head _)) (ht x (.head _) _ ?_)
  have ih:=fun ys=>ih ys (fun x m=>hb x (.tail _ m)) (fun x m=>ht x (.tail _ m)) fun x m=>he x (.tail _ m)
  cases hp:p x with
  | false=>
   rw [List.filter_cons_of_neg (by rw [hp]; exact Bool.false_ne_true)] at h
   exact ih ys K h
  | true=>
   rw [List.filter_cons_of_pos hp] at h
   refine he x (.head _) hp _ ?_
   have e1:(fun zs=>K (ys++(f x :: zs)))=fun zs=>K ((ys++[f x])++zs):=funext fun zs=>by rw [List.append_assoc]; rfl
   refine (?_:jC (ev cf e) (evs cf ts) b G (xs.map g) fun zs=>K (ys++(f x :: zs)))
   rw [e1]
   exact ih (ys++[f x]) K (by rw [List.append_assoc]; exact h)
theorem ci {α:Type} {s e:E} {ts:List E} {g:α→V} {p:α→Bool} {f:α→V} {ws:List α} (hs:Val cf G s x) (hq:bM x=some (ws.map g)) (ht:∀ w∈ws,bq cf true (G.set k (.v (g w))) ts (p w)) (he:∀ w∈ws,p w=true→Val cf (G.set k (.v (g w))) e (f w)) :
  Val cf G (.nd (.comp k) (s :: e :: ts)) (.list ((ws.filter p).map f)):=fun K h=>hs _ (aL hq (vx [] (fun _ _=>rfl) ht he (fun ys=>K (.list ys)) h))
theorem Ag {α:Type} (ws:List α):ws.filter (fun _=>true)=ws:=List.filter_eq_self.mpr fun _ _=>rfl
theorem aG {α:Type} {s e:E} {g f:α→V} {ws:List α} (hs:Val cf G s x) (hq:bM x=some (ws.map g)) (he:∀ w∈ws,Val cf (G.set k (.v (g w))) e (f w)) :
  Val cf G (.nd (.comp k) [s,e]) (.list (ws.map f)):=by
 have q:=ci (ts:=[]) (p:=fun _=>true) (f:=f) hs hq (fun _ _=>.nil) fun x m _=>he x m
 rw [Ag] at q
 exact q
theorem exi_eq:∀ l:List S,exi sup cf l=exs sup cf l
 | []=>rfl
 | s :: r=>funext fun G=>funext fun K=>by
  refine (?_:ex sup cf s G (fun fl G'=>match fl with | none=>exi sup cf r G' K | some x=>K (some x) G')=_)
  rw [exi_eq r]; rfl
theorem mC {r:List S}:∀ l:List S,exs sup cf (l++r)=fun G K=>exs sup cf l G (fun fl G'=>match fl with | none=>exs sup cf r G' K | some x=>K (some x) G')
 | []=>rfl
 | s :: l=>by
  funext G K
  refine (?_:ex sup cf s G (fun fl G'=>match fl with | none=>exs sup cf (l++r) G' K | some x=>K (some x) G')=_)
  rw [mC l]; rfl
theorem iR (h:K none G):exs sup cf [] G K:=h
theorem ag (h:Val cf G e v) (n:exs sup cf r (G.set k (.v v)) K):exs sup cf (.mk (.assign k) [e] [] [] :: r) G K:=h _ n
theorem kM {ks:List Nat} {G':Gs} (h:Val cf G e v) (hs:cj ks G v=some G') (n:exs sup cf r G' K):exs sup cf (.mk (.assignM ks) [e] [] [] :: r) G K:=h _ (aL hs n)
theorem ai (h:Val cf G e v) (n:K (some v) G) (hn:noX v=true:=by rfl):exs sup cf (.mk .ret [e] [] [] :: r) G K:=h _ ⟨hn,n⟩
theorem bz {A B:List S} (h:Val cf G c (.bool t)) (h1:t=true→exs sup cf (A++r) G K) (h2:t=false→exs sup cf (B++r) G K):exs sup cf (.mk .ite [c] A B :: r) G K:=h _ (by
 refine (?_:if t=true then exi sup cf A G _ else exi sup cf B G _)
 rw [exi_eq,exi_eq]
 cases t
 ·have:=h2 rfl; rw [mC] at this; exact this
 ·have:=h1 rfl; rw [mC] at this; exact this)
theorem aV {A B:List S} (h:Val cf G c (.bool true)) (h1:exs sup cf (A++r) G K):exs sup cf (.mk .ite [c] A B :: r) G K:=bz h (fun _=>h1) fun q=>nomatch q
theorem bW {A:List S} (h:Val cf G c (.bool false)) (h1:exs sup cf r G K):exs sup cf (.mk .ite [c] A [] :: r) G K:=bz h (fun q=>nomatch q) fun _=>h1
theorem vA (n:exs sup cf r (G.set k (.ownL [])) K):exs sup cf (.mk (.ownL k) [] [] [] :: r) G K:=⟨Nat.zero_le _,n⟩
theorem dG {l:List V} (hl:eF G k=some l) (h:Val cf G e v) (hz:l.length < az) (n:exs sup cf r (G.set k (.ownL (l++[v]))) K):exs sup cf (.mk (.append k) [e] [] [] :: r) G K:=aL hl (h _ ⟨hz,n⟩)
theorem jO {l:List V} (hl:eF G k=some l) (n:exs sup cf r (G.set k (.v (.list l))) K):exs sup cf (.mk (.freeze k) [] [] [] :: r) G K:=aL hl n
theorem sD {b:Gs→V→Option Gs} {A:B} {P:List V→Gs→Prop} (done:∀ G,P [] G→K none G) (turn:∀ x l G,P (x :: l) G→(∀ G',P l G'→qd b A l G' K)→okK (b G x) fun G'=>A G' fun fl G''=>match fl with | none=>qd b A l G'' K | some y=>noX y=true∧K (some y) G''):∀ xs G,P xs G→qd b A xs G K
 | [],G,h=>done G h
 | x :: l,G,h=>turn x l G h (sD done turn l)
theorem vB {op:SOp} {b:Gs→V→Option Gs} {s:E} {body:List S} {xs:List V} {P:List V→Gs→Prop} (hop:∀ ds X Y G K,(iI ds G fun x=>okK (bM x) fun xs=>qd b X xs G K)→gM sup cf op ds X Y G K) (hs:Val cf G s v) (hq:bM v=some xs) (h0:P xs G) (done:∀ G,P [] G→exs sup cf r G K)
  (turn:∀ x l G Kt,P (x :: l) G→(∀ G',P l G'→Kt none G')→(∀ y G',noX y=true→K (some y) G'→Kt (some y) G')→okK (b G x) fun G'=>exs sup cf body G' Kt):exs sup cf (.mk op [s] body [] :: r) G K:=by
 have q:=hop [ev cf s] (exi sup cf body) (exi sup cf []) G (fun fl G'=>match fl with | none=>exs sup cf r G' K | some x=>K (some x) G') (hs _ (aL hq (by
  rw [exi_eq]
  exact sD (P:=P) (K:=fun fl G'=>match fl with | none=>exs sup cf r G' K | some x=>K (some x) G') done (fun x l G h n=>turn x l G (fun fl G''=>match fl with | none=>qd b (exs sup cf body) l G'' (fun fl G'=>match fl with | none=>exs sup cf r G' K | some x=>K (some x) G') | some y=>noX y=true∧K (some y) G'') h n fun _ _ h h'=>⟨h,h'⟩) xs G h0)))
 exact q
theorem tP {s:E} {body:List S} {xs:List V} {P:List V→Gs→Prop} (hs:Val cf G s v) (hq:bM v=some xs) (h0:P xs G) (done:∀ G,P [] G→exs sup cf r G K)
  (turn:∀ x l G Kt,P (x :: l) G→(∀ G',P l G'→Kt none G')→(∀ y G',noX y=true→K (some y) G'→Kt (some y) G')→exs sup cf body (G.set k (.v x)) Kt):exs sup cf (.mk (.forS k) [s] body [] :: r) G K:=vB (P:=P) (fun _ _ _ _ _ h=>h) hs hq h0 done turn
theorem qy {s:E} {body:List S} {xs:List V} {ks:List Nat} {P:List V→Gs→Prop} (hs:Val cf G s v) (hq:bM v=some xs) (h0:P xs G) (done:∀ G,P [] G→exs sup cf r G K)
  (turn:∀ x l G Kt,P (x :: l) G→(∀ G',P l G'→Kt none G')→(∀ y G',noX y=true→K (some y) G'→Kt (some y) G')→okK (cj ks G x) fun G'=>exs sup cf body G' Kt):exs sup cf (.mk (.forM ks) [s] body [] :: r) G K:=vB (P:=P) (fun _ _ _ _ _ h=>h) hs hq h0 done turn
theorem tQ {s:E} {xs:List V} {c:E} {p:V→Bool} {I:Gs→Prop} (hs:Val cf G s v) (hq:bM v=some xs) (h0:I G) (hI:∀ G x,I G→I (G.set k (.v x))) (hc:∀ G x,I G→x∈xs→Val cf (G.set k (.v x)) c (.bool (!p x))) (hT:xs.all p=true→∀ G,I G→exs sup cf r G K) (hF:xs.all p=false→∀ G,I G→K (some (.bool false)) G) :
  exs sup cf (.mk (.forS k) [s] [.mk .ite [c] [.mk .ret [.nd (.lit (.bool false)) []] [] []] []] [] :: r) G K:=by
 refine tP (P:=fun l G=>I G∧(∀ x∈l,x∈xs)∧l.all p=xs.all p) hs hq ⟨h0,fun _ m=>m,rfl⟩ (fun G ⟨i,_,e⟩=>hT e.symm G i) fun x l G Kt ⟨i,m,e⟩ nx rt=>?_
 have e:(p x&&l.all p)=xs.all p:=e
 refine bz (hc G x i (m x (.head _))) (fun q=>ai (v:=.bool false) (fun _ h=>h) (rt _ _ rfl (hF ?_ _ (hI G x i)))) fun q=>iR (nx _ ⟨hI G x i,fun y z=>m y (.tail _ z),?_⟩)
 ·rw [← e,show p x=false by cases h:p x with | false=>rfl | true=>rw [h] at q; (injection q; done)]; rfl
 ·rw [← e,show p x=true by cases h:p x with | true=>rfl | false=>rw [h] at q; (injection q; done)]; rfl
end
end Mine
end
noncomputable section
namespace Mine.L15
open PySem
noncomputable def step (cf:ad):ad:=fun f args K=>okK (fns[f]?) fun fn=>args.length+(if fn.init=true then 1 else 0)=fn.npar∧exs sup cf fn.body (dc fn args) fun fl G=>
 if fn.init=true then (match fl with | none=>okK (dB G 0) fun l=>l.length=5∧K (kI l) | some y=>noX y=false∧K y) else K (fl.getD .none)
theorem run {cf:ad} {f:Nat} {fn:Fn} {args:List V} {K:V→Prop} (hf:fns[f]?=some fn) (hi:fn.init=false) (hl:args.length=fn.npar) (h:exs sup cf fn.body (args.map .v++List.replicate (fn.nslots - fn.npar) .unset) fun fl _=>K (fl.getD .none)):step cf f args K:=by
 unfold step
 rw [hf]
 refine ⟨by rw [hi,if_neg Bool.false_ne_true]; exact hl,?_⟩
 rw [hi,show dc fn args=args.map .v++List.replicate (fn.nslots - fn.npar) .unset by unfold dc; rw [hi]; rfl]
 exact h
theorem bn {n:Nat} (h:n≤5000):n≤az:=zB1 h (by decide)
theorem bD {l:List V} (h:l.length≤5000):bM (.list l)=some l:=if_pos (bn h)
theorem om {l:List Nat} (h:l.length≤5000):bM (text l)=some (br l):=if_pos (bn h)
theorem fO {l:List V} (h:l.length≤5000):opN .len [.list l]=some (.int l.length):=by
 refine (?_:(bM (.list l)).map _=_); rw [bD h]; rfl
theorem vS {l:List V} (h:l.length≤5000):opN .len [.tuple l]=some (.int l.length):=by
 refine (?_:(bO l l).map _=_); rw [show bO l l=some l from if_pos (bn h)]; rfl
theorem nh {s:Str} (h:s.cps.toList.length≤5000):opN .len [.str s]=some (.int s.cps.toList.length):=by
 refine (?_:(bO s.cps.toList (br s.cps.toList)).map _=_)
 rw [show bO s.cps.toList (br s.cps.toList)=some (br s.cps.toList) from if_pos (bn h)]
 refine (?_:some (PyData.int ((s.cps.toList.map _).length:Nat))=_); rw [zA4]
theorem BG {a b:Int} (h:a < b):aS .Lt (.int a) (.int b)=some true:=congrArg some (decide_eq_true h)
theorem wD {a b:Int} (h:¬ a < b):aS .Lt (.int a) (.int b)=some false:=congrArg some (decide_eq_false h)
theorem Cd {a b:Int} (h:b < a):aS .Gt (.int a) (.int b)=some true:=congrArg some (decide_eq_true h)
theorem Bg {a b:Int} (h:¬ b < a):aS .Gt (.int a) (.int b)=some false:=congrArg some (decide_eq_false h)
theorem qt {a b:Int}:aS .Eq (.int a) (.int b)=some (a==b):=rfl
theorem pb {a b:Int}:aS .NotEq (.int a) (.int b)=some (!(a==b)):=rfl
theorem ji {α:Type} {l:List α} {f:α→V} {i:Int} {x:α} (hz:l.length≤5000) (h0:0≤i) (e:l[i.toNat]?=some x):pU l f (.int i)=some (f x):=by
 refine (?_:(if l.length≤az then _ else none)=_)
 rw [if_pos (bn hz),if_pos h0,e]; rfl
theorem cI {l:List V} {i:Int} {x:V} (hz:l.length≤5000) (h0:0≤i) (e:l[i.toNat]?=some x):opN .sub [.list l,.int i]=some x:=ji hz h0 e
theorem ng {l:List V} {i:Int} {x:V} (hz:l.length≤5000) (h0:0≤i) (e:l[i.toNat]?=some x):opN .sub [.tuple l,.int i]=some x:=ji hz h0 e
theorem vR {l:List Nat} {i:Int} {c:Nat} (hz:l.length≤5000) (h0:0≤i) (e:l[i.toNat]?=some c):opN .sub [text l,.int i]=some (text [c]):=ji (f:=fun c=>text [c]) hz h0 e
theorem aP (a:Int) {b:Int} (h:0 < b):0≤a.fmod b:=Int.fmod_nonneg_of_pos a h
theorem bj (a:Int) {b:Int} (h:0 < b):a.fmod b < b:=Int.fmod_lt_of_pos a h
theorem b9 {a b:Int} (h:0 < b):opN (.bin .Mod) [.int a,.int b]=some (.int (a.fmod b)):=if_neg (Int.ne_of_gt h)
theorem jc {a b:Int} (h:0 < b) (h':b≤1000000):opN (.bin .FloorDiv) [.int a,.int b]=some (.int (a.fdiv b)):=if_neg (by grind)
theorem kH {a b:Int} (h:b.natAbs≤1000000∨a.natAbs≤1000000):opN (.bin .Mult) [.int a,.int b]=some (.int (a * b)):=if_pos h
noncomputable def kf (scr:List Int):V:=.list (scr.map .int)
noncomputable def a7 (scr:List Int) (k:Int):Int:=if k < scr.length then scr.getD k.toNat 0 else 0
noncomputable def S20 (cf:ad):Prop:=∀ scr k K,scr.length≤63→0≤k→K (.int (a7 scr k))→cf 20 [kf scr,.int k] K
theorem p20 (cf:ad):S20 (step cf):=fun scr k K hs h0 h=>by
 refine run (fn:=f20) rfl rfl rfl ?_
 have hl:(scr.map PyData.int).length≤5000:=by exact zB1 (zB2 (List.length_map _)) (zB1 hs (by decide))
 have hv:Val cf [.v (kf scr),.v (.int k)] (.nd .len [vv 0]) (.int scr.length):=aa (.one ix) (by rw [← List.length_map (f:=PyData.int) (as:=scr)]; exact fO hl)
 by_cases hk:k < scr.length
 ·refine aV (ac ix hv (BG hk)) (ai (aa (.two ix ix) (cI (x:=.int (a7 scr k)) hl h0 ?_)) h)
  have hk':k.toNat < scr.length:=by exact (Int.toNat_lt ‹_›).mpr hk
  rw [List.getElem?_map,List.getElem?_eq_getElem hk']
  unfold a7
  rw [if_pos hk,List.getD_eq_getElem?_getD,List.getElem?_eq_getElem hk']; rfl
 ·refine bW (ac ix hv (wD hk)) (ai (v:=.int (a7 scr k)) ?_ h)
  unfold a7
  rw [if_neg hk]
  exact ix
noncomputable def xh (c k:Int):Int:=(c * 48271+7919 * k).fmod 1000003
noncomputable def S21 (cf:ad):Prop:=∀ c k K,K (.int (xh c k))→cf 21 [.int c,.int k] K
theorem p21 (cf:ad):S21 (step cf):=fun c k K h=>run (fn:=f21) rfl rfl rfl (ai (aa (.two (aa (.two (aa (.two ix ix) (kH (.inl (by decide)))) (aa (.two ix ix) (kH (.inr (by decide))))) rfl) ix) (b9 (by decide))) h)
noncomputable def vOk (x:V):Bool:=match x with
 | .str s=>PyData.strOk s&&decide (s.cps.toList.length≤1000)
 | .dict kvs=>kvs.isEmpty
 | _=>true
noncomputable def isB (x:V) (t:Nat):Bool:=(isT x t).getD false
theorem fA {cf:ad} {G:Gs} {a:E} {x:V} {t:Nat} (h:Val cf G a x) (hx:vOk x=true):Val cf G (.nd (.isinst t) [a]) (.bool (isB x t)):=aa (.one h) (by
 refine (?_:(isT x t).map PyData.bool=some (.bool ((isT x t).getD false)))
 cases x with
 | dict kvs=>rw [show isT (.dict kvs) t=some false from if_pos hx]; rfl
 | _=>rfl)
theorem d6 {cf:ad} {G:Gs} {a:E} {kvs:List (V×V)} {t:Nat} (h:Val cf G a (.dict kvs)) (hx:kvs.isEmpty=true):Val cf G (.nd (.isinst t) [a]) (.bool false):=aa (.one h) (by refine (?_:(isT (.dict kvs) t).map _=_); rw [show isT (.dict kvs) t=some false from if_pos hx]; rfl)
noncomputable def low (c:Nat):Bool:=abc.cps.toList.elem c
noncomputable def lX (x:V):List Nat:=match x with
 | .str s=>s.cps.toList
 | _=>[]
noncomputable def alB (x:V):Bool:=match x with
 | .str s=>decide (s.cps.toList.length≤4)&&s.cps.toList.all low
 | _=>false
noncomputable def S0 (cf:ad):Prop:=∀ x K,vOk x=true→K (.bool (alB x))→cf 0 [x] K
theorem p0 (cf:ad):S0 (step cf):=fun x K hx h=>by
 refine run (fn:=f0) rfl rfl rfl ?_
 cases x with
 | str s=>
  have hl:s.cps.toList.length≤5000:=zB1 (of_decide_eq_true (zA2 hx).2) (by decide)
  refine bz (t:=decide ((4:Int) < s.cps.toList.length)) (aE (.go (au (t:=true) ix) (.one' (ac (aa (.one ix) (nh hl)) ix rfl)))) (fun q=>ai (v:=.bool false) ix ?_) fun q=>?_
  ·rw [show alB (.str s)=false from (Bool.and_eq_false_iff).mpr (.inl (decide_eq_false (by have:=of_decide_eq_true q; lia)))] at h
   exact h
  ·have hle:s.cps.toList.length≤4:=by have:=of_decide_eq_false q; lia
   have e:alB (.str s)=s.cps.toList.all low:=by show (decide _&&_)=_; rw [decide_eq_true hle]; rfl
   rw [e] at h
   have e2:(br s.cps.toList).all (fun v=>(lX v).all low)=s.cps.toList.all low:=by
    unfold br
    rw [List.all_map]
    exact congrArg (List.all _) (funext fun c=>Bool.and_true _)
   refine tQ (xs:=br s.cps.toList) (p:=fun v=>(lX v).all low) (I:=fun G=>∃ t,G=[.v (.str s),t]) ix (if_pos (bn hl)) ⟨_,rfl⟩ (fun G x ⟨t,e⟩=>⟨.v x,e▸rfl⟩) (fun G x ⟨t,e⟩ m=>?_) (fun q G _=>ai (v:=.bool true) ix ?_) fun q G _=>?_
   ·subst e
    obtain ⟨c,_,rfl⟩:=zA7 m
    exact ac ix ix (congrArg (fun b=>some (!b)) (Bool.and_true _).symm)
   ·rw [← e2,q] at h; exact h
   ·rw [← e2,q] at h; exact h
 | dict kvs=>exact aV (aE (.stop (b:=false) (au (t:=false) (d6 ix hx)))) (ai (v:=.bool false) ix h)
 | _=>exact aV (aE (.stop (b:=false) (au (t:=false) ix))) (ai (v:=.bool false) ix h)
noncomputable def wholeL (l:List V):List Nat:=lX (l.getD 0 .none)++lX (l.getD 1 .none)++lX (l.getD 2 .none)
noncomputable def asB (x:V):Bool:=match x with
 | .tuple l=>(l.length==3)&&(l.all alB&&((ded (wholeL l)).length==(wholeL l).length))
 | _=>false
noncomputable def tOk (x:V):Bool:=match x with
 | .tuple l=>l.all vOk&&decide (l.length≤1000)
 | x=>vOk x
theorem zt {s:Str} (hz:s.cps.toList.length≤1000):opN .lenSet [.str s]=some (.int (ded s.cps.toList).length):=by
 have e:fC (.str s)=some (ded s.cps.toList).length:=if_pos (by rw [← zB3]; exact Nat.lt_of_le_of_lt hz (by decide))
 refine (?_:(fC (.str s)).map _=_)
 rw [e]; rfl
theorem qM {a b:Str} (h:(a.cps.toList++b.cps.toList).length≤5000):opN (.bin .Add) [.str a,.str b]=some (text (a.cps.toList++b.cps.toList)):=if_pos (bn h)
theorem qY {x:V} (h:alB x=true):∃ s,x=.str s∧s.cps.toList.length≤4:=by
 cases x with
 | str s=>exact ⟨s,rfl,of_decide_eq_true (zA2 h).1⟩
 | _=>(injection h; done)
noncomputable def S1 (cf:ad):Prop:=∀ x K,tOk x=true→K (.bool (asB x))→cf 1 [x] K
theorem p1 (cf:ad) (h0:S0 cf):S1 (step cf):=fun x K hx h=>by
 refine run (fn:=f1) rfl rfl rfl ?_
 cases x with
 | tuple l=>
  obtain ⟨ho,hl⟩:=zA2 hx
  have hl:l.length≤5000:=zB1 (of_decide_eq_true hl) (by decide)
  refine bz (t:=!((l.length:Int)==3)) (aE (.go (au (t:=true) ix) (.one' (ac (aa (.one ix) (vS hl)) ix pb)))) (fun q=>ai (v:=.bool false) ix ?_) fun q=>?_
  ·rw [show asB (.tuple l)=false from (Bool.and_eq_false_iff).mpr (.inl (beq_eq_false_iff_ne.mpr fun e=>by rw [e] at q; (injection q; done)))] at h
   exact h
  ·obtain ⟨a,b,c,rfl⟩:∃ a b c,l=[a,b,c]:=by
    rcases l with _ | ⟨a,_ | ⟨b,_ | ⟨c,_ | ⟨d,l⟩⟩⟩⟩
    ·(injection q; done)
    ·(injection q; done)
    ·(injection q; done)
    ·exact ⟨a,b,c,rfl⟩
    ·have:((a :: b :: c :: d :: l).length:Int)=3:=by simpa using q
     rw [zB4,zB4,zB4,zB4] at this
     lia
   refine tQ (xs:=[a,b,c]) (p:=alB) (I:=fun G=>∃ t,G=[.v (.tuple [a,b,c]),t,.unset]) ix rfl ⟨_,rfl⟩ (fun G x ⟨t,e⟩=>⟨.v x,e▸rfl⟩) (fun G x ⟨t,e⟩ m=>?_) (fun q G ⟨t,e⟩=>?_) fun q G _=>?_
   ·subst e
    exact au (ak (.one ix) fun K h=>h0 x K (List.all_eq_true.mp ho x m) h)
   ·subst e
    have q':=List.all_eq_true.mp q
    obtain ⟨s,rfl,l1⟩:=qY (q' a (.head _))
    obtain ⟨t,rfl,l2⟩:=qY (q' b (.tail _ (.head _)))
    obtain ⟨u,rfl,l3⟩:=qY (q' c (.tail _ (.tail _ (.head _))))
    have e1:(s.cps.toList++t.cps.toList).length≤8:=by exact zB1 (zB2 zB5) (Nat.add_le_add l1 l2)
    have e2:(s.cps.toList++t.cps.toList++u.cps.toList).length≤12:=by exact zB1 (zB2 zB5) (Nat.add_le_add e1 l3)
    have ea:(⟨(s.cps.toList++t.cps.toList).toArray⟩:Str).cps.toList=s.cps.toList++t.cps.toList:=rfl
    refine ag (v:=text (s.cps.toList++t.cps.toList++u.cps.toList)) (aa (.two (aa (.two ix ix) (qM (zB1 e1 (by decide)))) ix) (qM (a:=⟨(s.cps.toList++t.cps.toList).toArray⟩) (zB1 e2 (by decide)))) ?_
    refine ai (ac (aa (.one ix) (zt (s:=⟨(s.cps.toList++t.cps.toList++u.cps.toList).toArray⟩) (zB1 e2 (by decide)))) (aa (.one ix) (nh (s:=⟨(s.cps.toList++t.cps.toList++u.cps.toList).toArray⟩) (zB1 e2 (by decide)))) qt) ?_
    have e3:asB (.tuple [.str s,.str t,.str u])=(((ded (s.cps.toList++t.cps.toList++u.cps.toList)).length:Int)==((s.cps.toList++t.cps.toList++u.cps.toList).length:Int)):=by
     refine (?_:(true&&(List.all _ alB&&_))=_)
     rw [q,Bool.eq_iff_iff]
     simp [wholeL,lX]
     lia
    rw [e3] at h
    exact h
   ·rw [show asB (.tuple [a,b,c])=false from by refine (?_:(true&&(List.all _ alB&&_))=_); rw [q]; rfl] at h
    exact h
 | dict kvs=>exact aV (aE (.stop (b:=false) (au (t:=false) (d6 ix hx)))) (ai (v:=.bool false) ix h)
 | _=>exact aV (aE (.stop (b:=false) (au (t:=false) ix))) (ai (v:=.bool false) ix h)
theorem dk {cf:ad} {G:Gs} {K:Option V→Gs→Prop} {c:Nat} {r:List S} (h:K (some (eP c)) G):exs sup cf (.mk (.raise c) [] [] [] :: r) G K:=h
noncomputable def S2 (cf:ad):Prop:=∀ x K,tOk x=true→(asB x=true→K .none)→(asB x=false→K (eP 1))→cf 2 [x] K
theorem p2 (cf:ad) (h1:S1 cf):S2 (step cf):=fun x K hx ht hf=>run (fn:=f2) rfl rfl rfl (bz (au (ak (.one ix) fun K h=>h1 x K hx h)) (fun q=>dk (hf (by cases e:asB x with | false=>rfl | true=>rw [e] at q; (injection q; done)))) fun q=>iR (ht (by cases e:asB x with | true=>rfl | false=>rw [e] at q; (injection q; done))))
theorem cV (x:Str):PyData.strOk x=x.cps.toList.all (· < 0x110000):=by unfold PyData.strOk; rw [Array.all_toList]
theorem okS {s:Str} (h:PyData.strOk s=true):da (.str s)=true:=by
 refine (?_:(PyData.strOk s&&_)=true)
 rw [h]; rfl
theorem fQ {s t:Str} (hs:PyData.strOk s=true) (ht:PyData.strOk t=true):aS .Eq (.str s) (.str t)=some (s==t):=if_pos (by rw [okS hs,okS ht]; rfl)
theorem yN {s t:Str} (hs:PyData.strOk s=true) (ht:PyData.strOk t=true):aS .NotEq (.str s) (.str t)=some (!(s==t)):=congrArg (Option.map (!·)) (fQ hs ht)
theorem m7:PyData.strOk kOn=true:=by rw [cV]; rfl
theorem cM:PyData.strOk kOpen=true:=by rw [cV]; rfl
theorem bR:PyData.strOk kClose=true:=by rw [cV]; rfl
theorem wZ:PyData.strOk k0=true:=by rw [cV]; rfl
theorem zx {c:Nat} (h:low c=true):c < 0x110000:=by
 have:∀ x∈abc.cps.toList,x < 0x110000:=by decide
 exact this c (List.elem_iff.mp h)
theorem fD {l:List Nat} (h:∀ c∈l,low c=true):PyData.strOk ⟨l.toArray⟩=true:=by
 rw [cV]
 exact List.all_eq_true.mpr fun c m=>decide_eq_true (zx (h c m))
theorem dU {b:Bool} (h:(!b)=true):b=false:=by cases b with | false=>rfl | true=>(injection h; done)
theorem bS {b:Bool} (h:(!b)=false):b=true:=by cases b with | true=>rfl | false=>(injection h; done)
noncomputable def sg (a b c:List Nat):V:=.tuple [text a,text b,text c]
noncomputable def cg (a b c:List Nat) (x:Nat):Str:=if a.elem x=true then kOpen else if b.elem x=true then kClose else if c.elem x=true then kOn else k0
noncomputable def kdV (a b c:List Nat) (x:V):Str:=match x with
 | .str t=>(match t.cps.toList with | [d]=>cg a b c d | _=>k0)
 | _=>k0
theorem xy (a b c:List Nat) (x:Nat):PyData.strOk (cg a b c x)=true:=by
 unfold cg
 split
 ·exact cM
 split
 ·exact bR
 split
 ·exact m7
 ·exact wZ
theorem AO (a b c:List Nat) (x:V):PyData.strOk (kdV a b c x)=true:=by
 unfold kdV
 split
 ·split
  ·exact xy ..
  ·exact wZ
 ·exact wZ
theorem Cc {c:Nat} {l:List Nat}:aS .In (text [c]) (text l)=some (l.elem c):=rfl
noncomputable def S3 (cf:ad):Prop:=∀ a b c x K,vOk x=true→K (.str (kdV a b c x))→cf 3 [sg a b c,x] K
set_option tactic.hygienic true in
theorem p3 (cf:ad):S3 (step cf):=fun a b c v K hv h=>by
 refine run (fn:=f3) rfl rfl rfl ?_
 cases v with
 | str t=>
  have hl:t.cps.toList.length≤5000:=zB1 (of_decide_eq_true (zA2 hv).2) (by decide)
  refine bz (t:=!((t.cps.toList.length:Int)==1)) (aE (.go (au (t:=true) ix) (.one' (ac (aa (.one ix) (nh hl)) ix pb)))) (fun q=>ai (v:=.str k0) ix ?_) fun q=>?_
  ·rw [show kdV a b c (.str t)=k0 from by
    refine (?_:(match t.cps.toList with | [d]=>cg a b c d | _=>k0)=k0)
    split
    ·rename_i d e; replace q:=e▸q; (injection q; done)
    ·rfl] at h
   exact h
  obtain ⟨x,rfl⟩:∃ x,t=⟨[x].toArray⟩:=by
   obtain ⟨⟨l⟩⟩:=t
   rcases l with _ | ⟨x,_ | ⟨y,l⟩⟩
   ·(injection q; done)
   ·exact ⟨x,rfl⟩
   ·have:(((⟨⟨x :: y :: l⟩⟩:Str).cps.toList.length:Nat):Int)=1:=by simpa using q
    have:((x :: y :: l).length:Int)=1:=this
    rw [zB4,zB4] at this
    exact absurd (Int.le_of_eq this) (Int.not_le.mpr (Int.ofNat_lt.mpr (Nat.lt_succ_of_le (Nat.le_add_left _ _))))
  have h:K (.str (cg a b c x)):=h
  refine qy (xs:=[.tuple [text a,.str kOpen],.tuple [text b,.str kClose],.tuple [text c,.str kOn]]) (v:=.list [.tuple [text a,.str kOpen],.tuple [text b,.str kClose],.tuple [text c,.str kOn]])
   (P:=fun xs G=>(xs=[.tuple [text a,.str kOpen],.tuple [text b,.str kClose],.tuple [text c,.str kOn]]∨(a.elem x=false∧xs=[.tuple [text b,.str kClose],.tuple [text c,.str kOn]])∨(a.elem x=false∧b.elem x=false∧xs=[.tuple [text c,.str kOn]])∨(a.elem x=false∧b.elem x=false∧c.elem x=false∧xs=[]))∧∃ s t,G=[.v (sg a b c),.v (text [x]),s,t])
   ix rfl ⟨.inl rfl,_,_,rfl⟩ (fun G ⟨q,s,t,e⟩=>?_) fun y l' G Kt ⟨q,s,t,e⟩ nx rt=>?_
  ·subst e
   rcases q with q | ⟨_,q⟩ | ⟨_,_,q⟩ | ⟨h1,h2,h3,_⟩
   ·(injection q; done)
   ·(injection q; done)
   ·(injection q; done)
   ·refine ai ix ?_
    unfold cg at h
    replace h:=h3▸h2▸h1▸h
    exact h
  ·subst e
   have go:∀ (l:List Nat) (k:Str),(l.elem x=true→K (.str k))→(l.elem x=false→Kt none [.v (sg a b c),.v (text [x]),.v (text l),.v (.str k)])→exs sup cf BC [.v (sg a b c),.v (text [x]),.v (text l),.v (.str k)] Kt:=fun l k h1 h2=>
    bz (ac ix ix Cc) (fun q=>ai ix (rt _ _ rfl (h1 q))) fun q=>iR (h2 q)
   unfold cg at h
   rcases q with q | ⟨h1,q⟩ | ⟨h1,h2,q⟩ | ⟨_,_,_,q⟩
   ·cases q
    exact go a kOpen (fun q=>by rw [if_pos q] at h; exact h) fun q=>nx _ ⟨.inr (.inl ⟨q,rfl⟩),_,_,rfl⟩
   ·cases q
    exact go b kClose (fun q=>by rw [h1,if_neg Bool.false_ne_true,if_pos q] at h; exact h) fun q=>nx _ ⟨.inr (.inr (.inl ⟨h1,q,rfl⟩)),_,_,rfl⟩
   ·cases q
    exact go c kOn (fun q=>by rw [h1,h2,if_neg Bool.false_ne_true,if_neg Bool.false_ne_true,if_pos q] at h; exact h) fun q=>nx _ ⟨.inr (.inr (.inr ⟨h1,h2,q,rfl⟩)),_,_,rfl⟩
   ·(injection q; done)
 | dict kvs=>exact aV (aE (.stop (b:=false) (au (t:=false) (d6 ix hv)))) (ai (v:=.str k0) ix h)
 | _=>exact aV (aE (.stop (b:=false) (au (t:=false) ix))) (ai (v:=.str k0) ix h)
noncomputable def rmB (R:Int) (x:V):Bool:=match x with
 | .int i=>decide (0≤i)&&decide (i < R)
 | _=>false
noncomputable def S4 (cf:ad):Prop:=∀ x R K,vOk x=true→K (.bool (rmB R x))→cf 4 [x,.int R] K
theorem p4 (cf:ad):S4 (step cf):=fun x R K hx h=>by
 refine run (fn:=f4) rfl rfl rfl ?_
 cases x with
 | int i=>
  refine ai (v:=.bool (rmB R (.int i))) (aT (.go ix (.go (au (t:=false) ix) (.one fun K h=>?_)))) h
  refine (?_:if decide (0≤i)=true then K (.bool (decide (i < R))) else K (.bool false))
  have h:K (.bool (decide (0≤i)&&decide (i < R))):=h
  cases e:decide (0≤i) with
  | true=>rw [e] at h; exact h
  | false=>rw [e] at h; exact h
 | bool b=>exact ai (v:=.bool false) (aT (.go ix (.stop (b:=true) (au (t:=true) ix)))) h
 | dict kvs=>exact ai (v:=.bool false) (aT (.stop (b:=true) (d6 ix hx))) h
 | _=>exact ai (v:=.bool false) (aT (.stop (b:=true) ix)) h
theorem tv {x:V} (h:tOk x=true):vOk x=true:=by
 cases x with
 | tuple l=>rfl
 | _=>exact h
noncomputable def lOk (x:V):Bool:=match x with
 | .list l=>decide (l.length≤4001)&&l.all tOk
 | x=>vOk x
noncomputable def iJ (x:V):Int:=match x with
 | .int i=>i
 | _=>0
theorem sw {R:Int}:∀ {l:List V},l.all (rmB R)=true→bZ l=some (l.map iJ)
 | [],_=>rfl
 | x :: r,h=>by
  obtain ⟨h1,h2⟩:=zA2 h
  cases x with
  | int i=>unfold bZ; rw [List.mapM_cons]; refine (?_:(bZ r).bind _=_); rw [sw h2]; rfl
  | _=>(injection h1; done)
noncomputable def arB (R:Int) (x:V):Bool:=match x with
 | .list l=>l.all (rmB R)&&((ded (l.map iJ)).length==l.length)
 | _=>false
noncomputable def S5 (cf:ad):Prop:=∀ x R K,lOk x=true→(∀ l,x=.list l→l.length≤1000)→K (.bool (arB R x))→cf 5 [x,.int R] K
theorem p5 (cf:ad) (h4:S4 cf):S5 (step cf):=fun x R K hx hz h=>by
 refine run (fn:=f5) rfl rfl rfl ?_
 cases x with
 | list l=>
  have hl:=hz l rfl
  have hl':l.length≤5000:=zB1 hl (by decide)
  have ho:=List.all_eq_true.mp (zA2 hx).2
  refine bW (au (t:=true) ix) (tQ (xs:=l) (p:=rmB R) (I:=fun G=>∃ t,G=[.v (.list l),.v (.int R),t]) ix (bD hl') ⟨_,rfl⟩ (fun G x ⟨t,e⟩=>⟨.v x,e▸rfl⟩) (fun G x ⟨t,e⟩ m=>?_) (fun q G ⟨t,e⟩=>?_) fun q G _=>?_)
  ·subst e
   exact au (ak (.two ix ix) fun K h=>h4 x R K (tv (ho x m)) h)
  ·subst e
   have e1:opN .lenSet [.list l]=some (.int (ded (l.map iJ)).length):=by
    have e:fC (.list l)=some (ded (l.map iJ)).length:=by
     refine (?_:(bZ l).bind _=_)
     rw [sw q]
     exact if_pos (by exact Nat.lt_succ_of_le (zB1 (zB2 (List.length_map _)) (zB1 hl (by decide))))
    refine (?_:(fC (.list l)).map _=_)
    rw [e]; rfl
   refine ai (ac (aa (.one ix) e1) (aa (.one ix) (fO hl')) qt) ?_
   rw [show arB R (.list l)=(((ded (l.map iJ)).length:Int)==(l.length:Int)) from by refine (?_:(l.all (rmB R)&&_)=_); rw [q,Bool.eq_iff_iff,Bool.true_and,beq_iff_eq,beq_iff_eq]; omega] at h
   exact h
  ·rw [show arB R (.list l)=false from by refine (?_:(l.all (rmB R)&&_)=_); rw [q]; rfl] at h
   exact h
 | dict kvs=>exact aV (au (t:=false) (d6 ix hx)) (ai (v:=.bool false) ix h)
 | _=>exact aV (au (t:=false) ix) (ai (v:=.bool false) ix h)
noncomputable def rH (k:Str) (x:V):Bool:=match x with
 | .str t=>t==k
 | _=>false
noncomputable def wyB (s0 s1 s2:List Nat) (R:Int) (x:V):Bool:=match x with
 | .tuple [a,b,c,d]=>rmB R b&&(rH kOn a&&((kdV s0 s1 s2 c==kOn)&&rmB R d))
 | .tuple [a,b,c,d,e]=>rmB R b&&(rmB R e&&((rH kOpen a&&((kdV s0 s1 s2 c==kOpen)&&rmB R d))||(rH kClose a&&(rmB R c&&(kdV s0 s1 s2 d==kClose)))))
 | _=>false
noncomputable def S6 (cf:ad):Prop:=∀ s0 s1 s2 R x K,tOk x=true→K (.bool (wyB s0 s1 s2 R x))→cf 6 [x,sg s0 s1 s2,.int R] K
theorem isS {x:V} (h:isB x 0=true) (hx:vOk x=true):∃ t,x=.str t∧PyData.strOk t=true:=by
 cases x with
 | str t=>exact ⟨t,rfl,(zA2 hx).1⟩
 | dict kvs=>replace h:=((by unfold isB; rw [show isT (.dict kvs) 0=some false from if_pos hx]; rfl):isB (.dict kvs) 0=false)▸h; (injection h; done)
 | _=>(injection h; done)
theorem qP {x:V} {k:Str} (h:isB x 0=false):rH k x=false:=by
 cases x with
 | str t=>(injection h; done)
 | _=>rfl
theorem p6 (cf:ad) (h3:S3 cf) (h4:S4 cf):S6 (step cf):=fun s0 s1 s2 R x K hx h=>by
 have r4:∀ {G a b x},Val cf G a x→Val cf G b (.int R)→vOk x=true→Val cf G (.nd (.call 4) [a,b]) (.bool (rmB R x)):=fun ha hb hx=>ak (.two ha hb) fun K h=>h4 _ R K hx h
 have r3:∀ {G a b x k},Val cf G a (sg s0 s1 s2)→Val cf G b x→vOk x=true→PyData.strOk k=true→Val cf G (.nd (.cmp .Eq) [.nd (.call 3) [a,b],ss k]) (.bool (kdV s0 s1 s2 x==k)):=fun {G a b x k} ha hb hx hs=>ac (ak (.two ha hb) fun K h=>h3 s0 s1 s2 x K hx h) ix (fQ (AO ..) hs)
 refine run (fn:=f6) rfl rfl rfl ?_
 cases x with
 | tuple l=>
  obtain ⟨ho,hl⟩:=zA2 hx
  have ho:=List.all_eq_true.mp ho
  have hl:l.length≤5000:=zB1 (of_decide_eq_true hl) (by decide)
  rcases l with _ | ⟨a,_ | ⟨b,_ | ⟨c,_ | ⟨d,r⟩⟩⟩⟩
  ·exact aV (aE (.go (au (t:=true) ix) (.stop (b:=false) ix))) (ai (v:=.bool false) ix h)
  ·exact aV (aE (.go (au (t:=true) ix) (.stop (b:=false) ix))) (ai (v:=.bool false) ix h)
  ·exact aV (aE (.go (au (t:=true) ix) (.stop (b:=false) ix))) (ai (v:=.bool false) ix h)
  ·exact aV (aE (.go (au (t:=true) ix) (.stop (b:=false) ix))) (ai (v:=.bool false) ix h)
  have oa:=ho a (.head _)
  have ob:=ho b (.tail _ (.head _))
  have oc:=ho c (.tail _ (.tail _ (.head _)))
  have od:=ho d (.tail _ (.tail _ (.tail _ (.head _))))
  have i0:Val cf [.v (.tuple (a :: b :: c :: d :: r)),.v (sg s0 s1 s2),.v (.int R)] (.nd .sub [vv 0,ii 0]) a:=aa (.two ix ix) (ng hl (by decide) rfl)
  have i1:Val cf [.v (.tuple (a :: b :: c :: d :: r)),.v (sg s0 s1 s2),.v (.int R)] (.nd .sub [vv 0,ii 1]) b:=aa (.two ix ix) (ng hl (by decide) rfl)
  have i2:Val cf [.v (.tuple (a :: b :: c :: d :: r)),.v (sg s0 s1 s2),.v (.int R)] (.nd .sub [vv 0,ii 2]) c:=aa (.two ix ix) (ng hl (by decide) rfl)
  have i3:Val cf [.v (.tuple (a :: b :: c :: d :: r)),.v (sg s0 s1 s2),.v (.int R)] (.nd .sub [vv 0,ii 3]) d:=aa (.two ix ix) (ng hl (by decide) rfl)
  have ln:Val cf [.v (.tuple (a :: b :: c :: d :: r)),.v (sg s0 s1 s2),.v (.int R)] (.nd .len [vv 0]) (.int (a :: b :: c :: d :: r).length):=aa (.one ix) (vS hl)
  have no:∀ {q:Bool},(wyB s0 s1 s2 R (.tuple (a :: b :: c :: d :: r))=false)→K (.bool false):=fun e=>by rw [e] at h; exact h
  refine bz (t:=!rmB R b) (aE (.go (au (t:=true) ix) (.go (ac ln ix (wD (by rw [zB4,zB4,zB4,zB4]; lia))) (.one' (au (r4 i1 ix ob)))))) (fun q=>ai (v:=.bool false) ix (no (q:=true) ?_)) fun q=>?_
  ·have q:=dU q
   rcases r with _ | ⟨e,_ | ⟨f,r⟩⟩
   ·refine (?_:(rmB R b&&_)=false); rw [q]; rfl
   ·refine (?_:(rmB R b&&_)=false); rw [q]; rfl
   ·rfl
  have hb:=bS q
  refine bz (t:=!isB a 0) (au (fA i0 oa)) (fun q=>ai (v:=.bool false) ix (no (q:=true) ?_)) fun q=>?_
  ·have q:=dU q
   rcases r with _ | ⟨e,_ | ⟨f,r⟩⟩
   ·refine (?_:(rmB R b&&(rH kOn a&&_))=false); rw [qP q,Bool.false_and,Bool.and_false]
   ·refine (?_:(rmB R b&&(_&&((rH kOpen a&&_)||(rH kClose a&&_))))=false); rw [qP q,qP q,Bool.false_and,Bool.false_and,Bool.or_false,Bool.and_false,Bool.and_false]
   ·rfl
  obtain ⟨t,rfl,st⟩:=isS (bS q) oa
  refine bz (t:=t==kOn) (ac i0 ix (fQ st m7)) (fun q=>?_) fun q=>?_
  ·obtain rfl:=eq_of_beq q
   rcases r with _ | ⟨e,r⟩
   ·refine ai (aT (.go ix (.and (r3 ix i2 oc m7) fun _=>.one (r4 i3 ix od)))) ?_
    rw [show wyB s0 s1 s2 R (.tuple [.str kOn,b,c,d])=((kdV s0 s1 s2 c==kOn)&&rmB R d) from by refine (?_:(rmB R b&&(kOn==kOn&&_))=_); rw [hb,beq_self_eq_true]; rfl] at h
    exact h
   ·refine ai (v:=.bool false) (aT (.stop (b:=true) (ac ln ix (qt.trans (congrArg some (beq_eq_false_iff_ne.mpr (by rw [zB4,zB4,zB4,zB4,zB4]; lia))))))) (no (q:=true) ?_)
    rcases r with _ | ⟨f,r⟩
    ·refine (?_:(rmB R b&&(_&&((kOn==kOpen&&_)||(kOn==kClose&&_))))=false); rw [show (kOn==kOpen)=false by decide,show (kOn==kClose)=false by decide,Bool.false_and,Bool.false_and,Bool.or_false,Bool.and_false,Bool.and_false]
    ·rfl
  ·rcases r with _ | ⟨e,_ | ⟨f,r⟩⟩
   ·refine aV (aE (.stop (b:=false) ix)) (ai (v:=.bool false) ix (no (q:=true) ?_))
    refine (?_:(rmB R b&&((t==kOn)&&_))=false); rw [q,Bool.false_and,Bool.and_false]
   ·have oe:=ho e (.tail _ (.tail _ (.tail _ (.tail _ (.head _)))))
    refine bz (t:=!rmB R e) (aE (.go ix (.one' (au (r4 ix ix oe))))) (fun q=>ai (v:=.bool false) ix (no (q:=true) ?_)) fun q=>?_
    ·refine (?_:(rmB R b&&(rmB R e&&_))=false); rw [dU q,Bool.false_and,Bool.and_false]
    have w:wyB s0 s1 s2 R (.tuple [.str t,b,c,d,e])=(((t==kOpen)&&((kdV s0 s1 s2 c==kOpen)&&rmB R d))||((t==kClose)&&(rmB R c&&(kdV s0 s1 s2 d==kClose)))):=by refine (?_:(rmB R b&&(rmB R e&&_))=_); rw [hb,bS q,Bool.true_and,Bool.true_and]; rfl
    rw [w] at h
    refine bz (t:=t==kOpen) (ac i0 ix (fQ st cM)) (fun q=>ai (aT (.and (r3 ix i2 oc cM) fun _=>.one (r4 i3 ix od))) ?_) fun q=>ai (aT (.and (ac i0 ix (fQ st bR)) fun _=>.and (r4 i2 ix oc) fun _=>.one (r3 ix i3 od bR))) ?_
    ·rw [q,eq_of_beq q,show (kOpen==kClose)=false by decide,Bool.false_and,Bool.or_false,Bool.true_and] at h; exact h
    ·rw [q,Bool.false_and,Bool.false_or] at h; exact h
   ·refine aV (aE (.stop (b:=false) (ac ln ix (pb.trans (congrArg (fun b=>some (!b)) (beq_eq_false_iff_ne.mpr (by rw [zB4,zB4,zB4,zB4,zB4,zB4]; lia))))))) (ai (v:=.bool false) ix (no (q:=true) rfl))
 | dict kvs=>exact aV (aE (.stop (b:=false) (au (t:=false) (d6 ix hx)))) (ai (v:=.bool false) ix h)
 | _=>exact aV (aE (.stop (b:=false) (au (t:=false) ix))) (ai (v:=.bool false) ix h)
noncomputable def awB (s0 s1 s2:List Nat) (R:Int) (x:V):Bool:=match x with
 | .list l=>decide (l.length≤4000)&&l.all (wyB s0 s1 s2 R)
 | _=>false
noncomputable def S7 (cf:ad):Prop:=∀ s0 s1 s2 R x K,lOk x=true→K (.bool (awB s0 s1 s2 R x))→cf 7 [x,sg s0 s1 s2,.int R] K
theorem p7 (cf:ad) (h6:S6 cf):S7 (step cf):=fun s0 s1 s2 R x K hx h=>by
 refine run (fn:=f7) rfl rfl rfl ?_
 cases x with
 | list l=>
  obtain ⟨hl,ho⟩:=zA2 hx
  have hl:l.length≤5000:=zB1 (of_decide_eq_true hl) (by decide)
  have ho:=List.all_eq_true.mp ho
  refine bz (t:=decide ((4000:Int) < l.length)) (aE (.go (au (t:=true) ix) (.one' (ac (aa (.one ix) (fO hl)) ix rfl)))) (fun q=>ai (v:=.bool false) ix ?_) fun q=>?_
  ·rw [show awB s0 s1 s2 R (.list l)=false from (Bool.and_eq_false_iff).mpr (.inl (decide_eq_false (by have:=of_decide_eq_true q; omega)))] at h
   exact h
  ·have e:awB s0 s1 s2 R (.list l)=l.all (wyB s0 s1 s2 R):=by show (decide _&&_)=_; rw [decide_eq_true (by have:=of_decide_eq_false q; omega)]; rfl
   rw [e] at h
   refine tQ (xs:=l) (p:=wyB s0 s1 s2 R) (I:=fun G=>∃ t,G=[.v (.list l),.v (sg s0 s1 s2),.v (.int R),t]) ix (bD hl) ⟨_,rfl⟩ (fun G x ⟨t,e⟩=>⟨.v x,e▸rfl⟩) (fun G x ⟨t,e⟩ m=>?_) (fun q G _=>ai (v:=.bool true) ix (q▸h)) fun q G _=>q▸h
   subst e
   exact au (ak (.cons ix (.two ix ix)) fun K h=>h6 s0 s1 s2 R x K (ho x m) h)
 | dict kvs=>exact aV (aE (.stop (b:=false) (au (t:=false) (d6 ix hx)))) (ai (v:=.bool false) ix h)
 | _=>exact aV (aE (.stop (b:=false) (au (t:=false) ix))) (ai (v:=.bool false) ix h)
end Mine.L15
end
noncomputable section
namespace Mine.L15
open PySem
theorem qU {α:Type} [DecidableEq α]:∀ (l a:List α),(l.foldl (fun a x=>if x∈a then a else a++[x]) a).length≤a.length+l.length∧((l.foldl (fun a x=>if x∈a then a else a++[x]) a).length=a.length+l.length ↔ l.Nodup∧∀ x∈l,x∉a)
 | [],a=>⟨Nat.le_refl _,fun _=>⟨List.nodup_nil,fun _ m=>nomatch m⟩,fun _=>rfl⟩
 | x :: l,a=>by
  rw [List.foldl_cons,zB4]
  by_cases h:x∈a
  ·rw [if_pos h]
   obtain ⟨h1,_⟩:=qU l a
   exact ⟨by exact zB1 h1 (Nat.add_le_add_left (Nat.le_add_right _ _) _),fun e=>by exact ⟨absurd (zB2 e.symm) (Nat.not_le.mpr (Nat.lt_of_le_of_lt h1 (Nat.add_lt_add_left (Nat.lt_succ_of_le (Nat.le_refl _)) _))),absurd (zB2 e.symm) (Nat.not_le.mpr (Nat.lt_of_le_of_lt h1 (Nat.add_lt_add_left (Nat.lt_succ_of_le (Nat.le_refl _)) _)))⟩,fun e=>absurd h (e.2 x (.head _))⟩
  ·rw [if_neg h]
   obtain ⟨h1,h2⟩:=qU l (a++[x])
   rw [zB5,List.length_singleton] at h1 h2
   refine ⟨by lia,?_⟩
   rw [show a.length+(l.length+1)=a.length+1+l.length by lia,h2,List.nodup_cons]
   exact ⟨fun e=>⟨⟨fun m=>e.2 x m (List.mem_append_right _ (.head _)),e.1⟩,fun y m=>by
    rcases List.mem_cons.mp m with rfl | m
    ·exact h
    ·exact fun q=>e.2 y m (List.mem_append_left _ q)⟩,fun e=>⟨e.1.2,fun y m q=>by
    rcases List.mem_append.mp q with q | q
    ·exact e.2 y (.tail _ m) q
    ·exact e.1.1 (zA6 q▸m)⟩⟩
theorem ded_len {α:Type} [DecidableEq α] (l:List α):((ded l).length==l.length)=decide l.Nodup:=by
 have h:=(qU l []).2
 rw [List.length_nil,Nat.zero_add] at h
 rw [Bool.eq_iff_iff,beq_iff_eq,decide_eq_true_iff]
 exact ⟨fun e=>(h.mp e).1,fun e=>h.mpr ⟨e,fun _ _ q=>nomatch q⟩⟩
structure SgOk (a b c:List Nat):Prop where
 la:a.length≤4
 lb:b.length≤4
 lc:c.length≤4
 lows:∀ x∈a++b++c,low x=true
 nodup:(a++b++c).Nodup
section
variable {a b c:List Nat} {x:Nat} (ok:SgOk a b c)
include ok
theorem SgOk.inC (h:x∈c):x∉a∧x∉b:=by
 have:=(List.nodup_append.mp ok.nodup).2.2
 exact ⟨fun q=>this x (List.mem_append_left _ q) x h rfl,fun q=>this x (List.mem_append_right _ q) x h rfl⟩
theorem SgOk.inB (h:x∈b):x∉a:=fun q=>(List.nodup_append.mp (List.nodup_append.mp ok.nodup).1).2.2 x q x h rfl
theorem xv (h:x∈a):cg a b c x=kOpen:=if_pos (List.elem_iff.mpr h)
theorem xz (h:x∈b):cg a b c x=kClose:=(if_neg fun q=>ok.inB h (List.elem_iff.mp q)).trans (if_pos (List.elem_iff.mpr h))
theorem xw (h:x∈c):cg a b c x=kOn:=(if_neg fun q=>(ok.inC h).1 (List.elem_iff.mp q)).trans ((if_neg fun q=>(ok.inC h).2 (List.elem_iff.mp q)).trans (if_pos (List.elem_iff.mpr h)))
theorem SgOk.lowA (h:x∈a):low x=true:=ok.lows x (List.mem_append_left _ (List.mem_append_left _ h))
theorem SgOk.lowB (h:x∈b):low x=true:=ok.lows x (List.mem_append_left _ (List.mem_append_right _ h))
theorem SgOk.lowC (h:x∈c):low x=true:=ok.lows x (List.mem_append_right _ h)
theorem lV {l:List Nat} (hl:l.length≤4) (h:∀ x∈l,low x=true):alB (text l)=true∧vOk (text l)=true:=
 ⟨zA3 ⟨decide_eq_true hl,List.all_eq_true.mpr h⟩,zA3 ⟨fD h,decide_eq_true (zB1 hl (by decide))⟩⟩
theorem ye:asB (sg a b c)=true∧tOk (sg a b c)=true:=by
 have ea:=lV ok ok.la fun x m=>ok.lowA m
 have eb:=lV ok ok.lb fun x m=>ok.lowB m
 have ec:=lV ok ok.lc fun x m=>ok.lowC m
 constructor
 ·refine (?_:(true&&((alB (text a)&&(alB (text b)&&(alB (text c)&&true)))&&((ded (a++b++c)).length==(a++b++c).length)))=true)
  rw [ea.1,eb.1,ec.1,ded_len,decide_eq_true ok.nodup]; rfl
 ·refine (?_:((vOk (text a)&&(vOk (text b)&&(vOk (text c)&&true)))&&true)=true)
  rw [ea.2,eb.2,ec.2]; rfl
end
noncomputable def In (R i:Int):Prop:=0≤i∧i < R
theorem fN {R i:Int} (h:In R i):rmB R (.int i)=true:=zA3 ⟨decide_eq_true h.1,decide_eq_true h.2⟩
inductive W where
 | on (a:Int) (c:Nat) (b:Int)
 | op (a:Int) (c:Nat) (b t:Int)
 | cl (a b:Int) (c:Nat) (t:Int)
noncomputable def W.l:W→List V
 | .on a c b=>[.str kOn,.int a,text [c],.int b]
 | .op a c b t=>[.str kOpen,.int a,text [c],.int b,.int t]
 | .cl a b c t=>[.str kClose,.int a,.int b,text [c],.int t]
noncomputable def W.v (w:W):V:=.tuple w.l
noncomputable def W.ok (s0 s1 s2:List Nat) (R:Int):W→Prop
 | .on a c b=>In R a∧c∈s2∧In R b
 | .op a c b t=>In R a∧c∈s0∧In R b∧In R t
 | .cl a b c t=>In R a∧In R b∧c∈s1∧In R t
section
variable {s0 s1 s2:List Nat} {R:Int} {w:W} (sk:SgOk s0 s1 s2) (ok:W.ok s0 s1 s2 R w)
include sk ok
theorem cU:∀ x∈w.l,a8 x=true∧vOk x=true:=by
 have k:∀ {s:Str},PyData.strOk s=true→s.cps.toList.length≤1000→a8 (.str s)=true∧vOk (.str s)=true:=fun h h'=>⟨h,zA3 ⟨h,decide_eq_true h'⟩⟩
 have t:∀ {c:Nat},low c=true→a8 (text [c])=true∧vOk (text [c])=true:=fun {c} h=>k (fD (l:=[c]) fun x m=>by obtain rfl:=zA6 m; exact h) (by refine (?_:1≤1000); decide)
 have i:∀ {i:Int},a8 (.int i)=true∧vOk (.int i)=true:=⟨rfl,rfl⟩
 have n:∀ x∈([]:List V),a8 x=true∧vOk x=true:=fun _ m=>nomatch m
 cases w with
 | on a c b=>exact zA1 ⟨k m7 (by decide),zA1 ⟨i,zA1 ⟨t (sk.lowC ok.2.1),zA1 ⟨i,n⟩⟩⟩⟩
 | op a c b t'=>exact zA1 ⟨k cM (by decide),zA1 ⟨i,zA1 ⟨t (sk.lowA ok.2.1),zA1 ⟨i,zA1 ⟨i,n⟩⟩⟩⟩⟩
 | cl a b c t'=>exact zA1 ⟨k bR (by decide),zA1 ⟨i,zA1 ⟨i,zA1 ⟨t (sk.lowB ok.2.2.1),zA1 ⟨i,n⟩⟩⟩⟩⟩
theorem AB:tOk w.v=true:=zA3 ⟨List.all_eq_true.mpr fun x m=>(cU sk ok x m).2,by cases w <;> rfl⟩
theorem BM:wyB s0 s1 s2 R w.v=true:=by
 cases w with
 | on a c b=>
  refine (?_:(rmB R (.int a)&&(kOn==kOn&&((cg s0 s1 s2 c==kOn)&&rmB R (.int b))))=true)
  rw [fN ok.1,fN ok.2.2,xw sk ok.2.1,beq_self_eq_true]; rfl
 | op a c b t=>
  refine (?_:(rmB R (.int a)&&(rmB R (.int t)&&((kOpen==kOpen&&((cg s0 s1 s2 c==kOpen)&&rmB R (.int b)))||_)))=true)
  rw [fN ok.1,fN ok.2.2.1,fN ok.2.2.2,xv sk ok.2.1,beq_self_eq_true]; rfl
 | cl a b c t=>
  refine (?_:(rmB R (.int a)&&(rmB R (.int t)&&((kClose==kOpen&&_)||(kClose==kClose&&(rmB R (.int b)&&(cg s0 s1 s2 c==kClose))))))=true)
  rw [fN ok.1,fN ok.2.1,fN ok.2.2.2,xz sk ok.2.2.1,beq_self_eq_true,show (kClose==kOpen)=false by decide]; rfl
end
noncomputable def bP (ws:List W):V:=.list (ws.map W.v)
theorem sV {s0 s1 s2:List Nat} {R:Int} {ws:List W} (sk:SgOk s0 s1 s2) (hl:ws.length≤4000) (ok:∀ w∈ws,W.ok s0 s1 s2 R w):awB s0 s1 s2 R (bP ws)=true∧lOk (bP ws)=true:=
 ⟨zA3 ⟨decide_eq_true (by rw [zA4]; exact hl),List.all_eq_true.mpr fun x m=>by
  obtain ⟨w,mw,rfl⟩:=zA7 m
  exact BM sk (ok w mw)⟩,zA3 ⟨decide_eq_true (by exact zB1 (zB2 (List.length_map _)) (zB1 hl (by decide))),List.all_eq_true.mpr fun x m=>by
  obtain ⟨w,mw,rfl⟩:=zA7 m
  exact AB sk (ok w mw)⟩⟩
noncomputable def ae (is:List Int):V:=.list (is.map .int)
structure RoomsOk (R:Int) (is:List Int):Prop where
 len:is.length≤40
 nodup:is.Nodup
 rooms:∀ i∈is,In R i
theorem ints_map (is:List Int):(is.map PyData.int).map iJ=is:=by
 rw [List.map_map]; exact List.map_id is
theorem jj (is:List Int) (h:is.length≤4001):lOk (ae is)=true:=zA3 ⟨decide_eq_true (by rw [zA4]; exact h),List.all_eq_true.mpr fun x m=>by
 obtain ⟨i,_,rfl⟩:=zA7 m; rfl⟩
theorem jK {R:Int} {is:List Int} (ok:RoomsOk R is):arB R (ae is)=true:=zA3 ⟨List.all_eq_true.mpr fun x m=>by
 obtain ⟨i,mi,rfl⟩:=zA7 m
 exact fN (ok.rooms i mi),by rw [ints_map,zA4,ded_len]; exact decide_eq_true ok.nodup⟩
section
variable {cf:ad} {G:Gs} {e:E} {k j:Nat} {l:List V} {r:List S} {K:Option V→Gs→Prop}
theorem kK {v:V} (hl:dB G k=some l) (h:Val cf G e v) (hv:kq v=false) (hj:l.length=j) (n:exs sup cf r (G.set k (.ownI (l++[v]))) K):exs sup cf (.mk (.setAttr k j) [e] [] [] :: r) G K:=h _ ⟨hv,aL hl ⟨hj,n⟩⟩
theorem fL (hl:dB G k=some l) (h:ev cf e G fun v=>l.length=j∧exs sup cf r (G.set k (.ownI (l++[v]))) K):exs sup cf (.mk (.setAttrN k j) [e] [] [] :: r) G K:=by
 refine (?_:ev cf e G fun x=>okK (dB G k) fun l=>l.length=j∧exs sup cf r (G.set k (.ownI (l++[x]))) K)
 rw [hl]
 exact h
theorem q8 {f:Nat} {es:List E} {vs:List V} (hv:gP cf G es vs) (h:cf f vs fun y=>if noX y=true then isNone y=true∧exs sup cf r G K else K (some y) G):exs sup cf (.mk (.call f) es [] [] :: r) G K:=by
 have e:es.map (ev cf)=evs cf es:=by
  clear hv
  induction es with
  | nil=>rfl
  | cons a es ih=>exact congrArg (ev cf a :: ·) ih
 refine (?_:bY (es.map (ev cf)) G fun xs=>cf f xs fun y=>if noX y=true then isNone y=true∧exs sup cf r G K else K (some y) G)
 rw [e]
 exact hv _ h
end
noncomputable def cO (sv:V) (R:Int) (st en:List Int) (r:List V):V:=kI [sv,.int R,ae st,ae en,.list r]
theorem jk:∀ is:List Int,bZ (is.map .int)=some is
 | []=>rfl
 | i :: r=>by unfold bZ; rw [List.map_cons,List.mapM_cons]; refine (?_:(bZ (r.map .int)).bind _=_); rw [jk r]; rfl
theorem sI {cf:ad} {G:Gs} {a:E} {is:List Int} {K:V→Prop} (h:Val cf G a (ae is)) (hz:is.length≤40) (k:∀ r:List Int,r.Perm is→r.Pairwise (·≤·)→K (ae r)):ev cf (.nd .sorted [a]) G K:=h _ (aL (z:=is) (jk is) ⟨by exact Nat.lt_of_le_of_lt hz (by decide),k⟩)
theorem jx {cf:ad} {G:Gs} {a:E} {l:List V} {K:V→Prop} (h:Val cf G a (.list l)) (k:(l.all j9&&decide (l.length≤az))=true∧(∀ x∈l,∀ y∈l,ltK (aQ x) (aQ y)=true)∧(∃ m:List V,m.length < 64∧∀ x∈l,x∈m)∧∀ r:List V,r.Nodup→(∀ y,y∈r ↔ y∈l)→gD r→K (.list r)):ev cf (.nd .sortedSet [a]) G K:=h _ (aL rfl k)
theorem vE {s0 s1 s2:List Nat} {R:Int} {w:W} (sk:SgOk s0 s1 s2) (ok:W.ok s0 s1 s2 R w):j9 w.v=true:=by
 have h:=List.all_eq_true.mpr fun x m=>(cU sk ok x m).1
 cases w <;> exact h
theorem bi {k m:Sc} {ks ms:List Sc} (h:k.isLeft=m.isLeft) (h':k=m→ltK ks ms=true):ltK (k :: ks) (m :: ms)=true:=by
 refine (?_:(if k=m then ltK ks ms else k.isLeft==m.isLeft)=true)
 by_cases e:k=m
 ·rw [if_pos e]; exact h' e
 ·rw [if_neg e,h]; exact beq_self_eq_true _
theorem vF (w u:W):ltK (aQ w.v) (aQ u.v)=true:=by
 have ne:∀ {s t:Str} {ks ms:List Sc},s≠t→ltK (.inr s :: ks) (.inr t :: ms)=true:=fun h=>bi rfl fun e=>absurd (Sum.inr.inj e) h
 cases w with
 | on a c b=>cases u with
  | on a' c' b'=>exact bi rfl fun _=>bi rfl fun _=>bi rfl fun _=>bi rfl fun _=>rfl
  | op a' c' b' t'=>exact ne (by decide)
  | cl a' b' c' t'=>exact ne (by decide)
 | op a c b t=>cases u with
  | on a' c' b'=>exact ne (by decide)
  | op a' c' b' t'=>exact bi rfl fun _=>bi rfl fun _=>bi rfl fun _=>bi rfl fun _=>bi rfl fun _=>rfl
  | cl a' b' c' t'=>exact ne (by decide)
 | cl a b c t=>cases u with
  | on a' c' b'=>exact ne (by decide)
  | op a' c' b' t'=>exact ne (by decide)
  | cl a' b' c' t'=>exact bi rfl fun _=>bi rfl fun _=>bi rfl fun _=>bi rfl fun _=>bi rfl fun _=>rfl
noncomputable def S8a (cf:ad):Prop:=∀ sv a b c d K,tOk sv=true→asB sv=false→K (eP 1)→cf 8 [sv,a,b,c,d] K
theorem p8a (cf:ad) (h2:S2 cf):S8a (step cf):=fun sv a b c d K ho hs h=>by
 refine (?_:_∧exs sup cf f8.body [.ownI [],.v sv,.v a,.v b,.v c,.v d] fun fl G=>(match fl with | none=>okK (dB G 0) fun l=>l.length=5∧K (kI l) | some y=>noX y=false∧K y))
 exact ⟨rfl,q8 (.one ix) (h2 sv _ ho (fun e=>by rw [hs] at e; (injection e; done)) fun _=>⟨rfl,h⟩)⟩
noncomputable def mcB (s0 s1 s2:List Nat) (rv stv env wsv:V):Bool:=rmB 41 rv&&(decide (1≤iJ rv)&&(arB (iJ rv) stv&&(arB (iJ rv) env&&awB s0 s1 s2 (iJ rv) wsv)))
noncomputable def mW (x:V):Prop:=∀ l,x=.list l→l.length≤1000
theorem p8c {cf:ad} {s0 s1 s2:List Nat} {rv stv env wsv:V} {K:Option V→Gs→Prop} (h2:S2 cf) (h4:S4 cf) (h5:S5 cf) (h7:S7 cf) (sk:SgOk s0 s1 s2) (o1:vOk rv=true) (o2:lOk stv=true) (o3:mW stv) (o4:lOk env=true) (o5:mW env) (o6:lOk wsv=true)
  (hF:mcB s0 s1 s2 rv stv env wsv=false→∀ G,K (some (eP 3)) G) (hT:mcB s0 s1 s2 rv stv env wsv=true→∀ R,rv=.int R→exs sup cf (f8.body.drop 3) [.ownI [],.v (sg s0 s1 s2),.v (.int R),.v stv,.v env,.v wsv] K) :
  exs sup cf f8.body [.ownI [],.v (sg s0 s1 s2),.v rv,.v stv,.v env,.v wsv] K:=by
 obtain ⟨q1,q2⟩:=ye sk
 refine q8 (.one ix) (h2 _ _ q2 (fun _=>⟨rfl,?_⟩) fun e=>by rw [q1] at e; (injection e; done))
 cases hr:rmB 41 rv with
 | false=>
  refine aV (aE (.stop (b:=false) (au (t:=false) (hr▸ak (vs:=[rv,.int 41]) (.two ix ix) fun K h=>h4 rv 41 K o1 h)))) (dk (hF ?_ _))
  unfold mcB; rw [hr]; rfl
 | true=>
  obtain ⟨R,rfl⟩:∃ R,rv=.int R:=by
   cases rv with
   | int i=>exact ⟨i,rfl⟩
   | _=>(injection hr; done)
  refine bz (t:=decide (R < 1)) (aE (.go (au (t:=true) (hr▸ak (vs:=[.int R,.int 41]) (.two ix ix) fun K h=>h4 (.int R) 41 K o1 h)) (.one' ix))) (fun q=>dk (hF ?_ _)) fun q=>?_
  ·unfold mcB; rw [hr,show decide (1≤iJ (.int R))=false from decide_eq_false (by have:=of_decide_eq_true q; refine (?_:¬ 1≤R); exact Int.not_le.mpr this)]; rfl
  have e:mcB s0 s1 s2 (.int R) stv env wsv=(arB R stv&&(arB R env&&awB s0 s1 s2 R wsv)):=by
   unfold mcB; rw [hr,show decide (1≤iJ (.int R))=true from decide_eq_true (by have:=of_decide_eq_false q; refine (?_:1≤R); exact Int.not_lt.mp this)]; rfl
  rw [e] at hF hT
  refine bz (t:=!(arB R stv&&(arB R env&&awB s0 s1 s2 R wsv))) ?_ (fun q=>dk (hF (dU q) _)) fun q=>hT (bS q) R rfl
  rw [Bool.not_and,Bool.not_and]
  exact aE (.or (au (ak (.two ix ix) fun K h=>h5 stv R K o2 o3 h)) fun _=>.or (au (ak (.two ix ix) fun K h=>h5 env R K o4 o5 h)) fun _=>.one' (au (ak (.cons ix (.two ix ix)) fun K h=>h7 s0 s1 s2 R wsv K o6 h)))
noncomputable def S8b (cf:ad):Prop:=∀ s0 s1 s2 rv stv env wsv K,SgOk s0 s1 s2→vOk rv=true→lOk stv=true→mW stv→lOk env=true→mW env→lOk wsv=true→mcB s0 s1 s2 rv stv env wsv=false→K (eP 3)→cf 8 [sg s0 s1 s2,rv,stv,env,wsv] K
theorem p8b (cf:ad) (h2:S2 cf) (h4:S4 cf) (h5:S5 cf) (h7:S7 cf):S8b (step cf):=fun s0 s1 s2 rv stv env wsv K sk o1 o2 o3 o4 o5 o6 hb h=>by
 refine (?_:_∧exs sup cf f8.body [.ownI [],.v (sg s0 s1 s2),.v rv,.v stv,.v env,.v wsv] fun fl G=>(match fl with | none=>okK (dB G 0) fun l=>l.length=5∧K (kI l) | some y=>noX y=false∧K y))
 exact ⟨rfl,p8c h2 h4 h5 h7 sk o1 o2 o3 o4 o5 o6 (fun _ G=>⟨rfl,h⟩) fun e=>by rw [hb] at e; (injection e; done)⟩
structure Held (st:List Int) (en:List Int) (ws:List V) (st' en':List Int) (r:List V):Prop where
 p1:st'.Perm st
 o1:st'.Pairwise (·≤·)
 p2:en'.Perm en
 o2:en'.Pairwise (·≤·)
 nd:r.Nodup
 mem:∀ y,y∈r ↔ y∈ws
 up:gD r
structure ah (s0 s1 s2:List Nat) (R:Int) (st en:List Int) (ws:List W):Prop where
 sk:SgOk s0 s1 s2
 r1:1≤R
 r2:R≤40
 st:RoomsOk R st
 en:RoomsOk R en
 len:ws.length≤4000
 ok:∀ w∈ws,W.ok s0 s1 s2 R w
 few:(ws.map W.v).length < 64∨∀ x∈ws.map W.v,∀ y∈ws.map W.v,x=y
theorem zK {l:List V} (h:l.length < 64∨∀ x∈l,∀ y∈l,x=y):∃ m:List V,m.length < 64∧∀ x∈l,x∈m:=by
 rcases h with h | h
 ·exact ⟨l,h,fun _ m=>m⟩
 ·cases l with
  | nil=>exact ⟨[],by decide,fun _ m=>m⟩
  | cons y l=>exact ⟨[y],(by refine (?_:1 < 64); decide),fun x m=>by rw [h x m y (.head _)]; exact .head _⟩
theorem ij {is:List Int} (h:is.length≤40):mW (ae is):=fun l e=>by
 rw [← PyData.list.inj e,zA4]; exact Nat.le_add_left_of_le h
noncomputable def S8 (cf:ad):Prop:=∀ s0 s1 s2 R st en ws K,ah s0 s1 s2 R st en ws→(∀ st' en' r,Held st en (ws.map W.v) st' en' r→K (cO (sg s0 s1 s2) R st' en' r))→cf 8 [sg s0 s1 s2,.int R,ae st,ae en,bP ws] K
theorem p8 (cf:ad) (h2:S2 cf) (h4:S4 cf) (h5:S5 cf) (h7:S7 cf):S8 (step cf):=fun s0 s1 s2 R st en ws K g h=>by
 refine (?_:_∧exs sup cf f8.body [.ownI [],.v (sg s0 s1 s2),.v (.int R),.v (ae st),.v (ae en),.v (bP ws)] fun fl G=>(match fl with | none=>okK (dB G 0) fun l=>l.length=5∧K (kI l) | some y=>noX y=false∧K y))
 have aw:=sV g.sk g.len g.ok
 have r1:=g.r1
 have r2:=g.r2
 have all:mcB s0 s1 s2 (.int R) (ae st) (ae en) (bP ws)=true:=by
  unfold mcB
  rw [fN (⟨by exact Int.le_trans (by decide) r1,by exact Int.lt_of_le_of_lt r2 (by decide)⟩:In 41 R),show decide (1≤iJ (.int R))=true from decide_eq_true r1]
  refine (?_:(true&&(true&&(arB R (ae st)&&(arB R (ae en)&&awB s0 s1 s2 R (bP ws)))))=true)
  rw [jK g.st,jK g.en,aw.1]; rfl
 have l1:=g.st.len
 have l2:=g.en.len
 refine ⟨rfl,p8c h2 h4 h5 h7 g.sk rfl (jj st (Nat.le_add_left_of_le l1)) (ij l1) (jj en (Nat.le_add_left_of_le l2)) (ij l2) aw.2 (fun e=>by rw [all] at e; (injection e; done)) fun _ R' e=>?_⟩
 (injection e with e; subst e)
 refine kK (l:=[]) rfl (v:=sg s0 s1 s2) ix rfl rfl (kK (l:=[_]) rfl (v:=.int R) ix rfl rfl (fL (l:=[_,_]) rfl ?_))
 refine sI (show Val cf _ (vv 3) (ae st) from ix) l1 fun st' p3 o3=>⟨rfl,fL (l:=[_,_,_]) rfl ?_⟩
 refine sI (show Val cf _ (vv 4) (ae en) from ix) l2 fun en' p4 o4=>⟨rfl,fL (l:=[_,_,_,_]) rfl ?_⟩
 have g3:=g.len
 refine jx (l:=ws.map W.v) ix ⟨zA3 ⟨List.all_eq_true.mpr fun x m=>?_,decide_eq_true (bn (by exact zB1 (zB2 (List.length_map _)) (zB1 g.len (by decide))))⟩,fun x mx y my=>?_,zK g.few,fun r hn hm hr=>⟨rfl,rfl,h st' en' r ⟨p3,o3,p4,o4,hn,hm,hr⟩⟩⟩
 ·obtain ⟨w,m',rfl⟩:=zA7 m
  exact vE g.sk (g.ok w m')
 ·obtain ⟨w,_,rfl⟩:=zA7 mx
  obtain ⟨u,_,rfl⟩:=zA7 my
  exact vF w u
section
variable {cf:ad} {sv:V} {R:Int} {st en:List Int} {r:List V} {K:V→Prop}
theorem fM {G:Gs} {e:E} {l:List V} (h:Val cf G e (.list l)) (hz:l.length≤5000):Val cf G (.nd .listOf [e]) (.list l):=aa (.one h) (show (bO l l).map _=_ by rw [show bO l l=some l from if_pos (bn hz)]; rfl)
theorem p9 (hn:noX sv=true) (h:K sv):step cf 9 [cO sv R st en r] K:=run (fn:=f9) rfl rfl rfl (ai ix h hn)
theorem p10 (h:K (.int R)):step cf 10 [cO sv R st en r] K:=run (fn:=f10) rfl rfl rfl (ai ix h)
theorem p11 (hz:st.length≤5000) (h:K (ae st)):step cf 11 [cO sv R st en r] K:=run (fn:=f11) rfl rfl rfl (ai (v:=ae st) (fM ix (by rw [zA4]; exact hz)) h)
theorem p12 (hz:en.length≤5000) (h:K (ae en)):step cf 12 [cO sv R st en r] K:=run (fn:=f12) rfl rfl rfl (ai (v:=ae en) (fM ix (by rw [zA4]; exact hz)) h)
theorem p13 (hz:r.length≤5000) (h:K (.list r)):step cf 13 [cO sv R st en r] K:=run (fn:=f13) rfl rfl rfl (ai (v:=.list r) (fM ix hz) h)
end
theorem c22 {cf:ad} {c:Nat} {i:Int} {t:Bool} {K:V→Prop} (hl:∀ K:V→Prop,K (.int 1)→okK (opN .count [.list [.bool (sup c 1),.bool (sup c 2),.bool (sup c 3),.bool (sup c 4),.bool (sup c 5),.bool (sup c 6),.bool (sup c 7)],.bool true]) K)
  (h1:∀ K:V→Prop,K (.list [.bool (sup c 1),.bool (sup c 2),.bool (sup c 3),.bool (sup c 4)])→ev cf (.nd .list [xx 1 (vv 0),xx 2 (vv 0),xx 3 (vv 0),xx 4 (vv 0)]) [.v (eP c),.v (.int i),.unset] K)
  (h2:∀ K:V→Prop,K (.list [.bool (sup c 1),.bool (sup c 2),.bool (sup c 3),.bool (sup c 4),.bool (sup c 5),.bool (sup c 6),.bool (sup c 7)])→ev cf (.nd (.bin .Add) [vv 2,.nd .list [xx 5 (vv 0),xx 6 (vv 0),xx 7 (vv 0)]]) [.v (eP c),.v (.int i),.v (.list [.bool (sup c 1),.bool (sup c 2),.bool (sup c 3),.bool (sup c 4)])] K)
  (h3:bq cf true [.v (eP c),.v (.int i),.v (.list [.bool (sup c 1),.bool (sup c 2),.bool (sup c 3),.bool (sup c 4),.bool (sup c 5),.bool (sup c 6),.bool (sup c 7)])] [.nd .sub [vv 2,vv 1],xx 0 (vv 0),xx 8 (vv 0)] t) (h:K (.bool t)):step cf 22 [eP c,.int i] K:=
 run (fn:=f22) rfl rfl rfl (ag h1 (ag h2 (ai (aT (.go (ac (x:=.int 1) (fun K h=>⟨rfl,hl K h⟩) ix rfl) h3)) h)))
noncomputable def S22 (cf:ad):Prop:=∀ K:V→Prop,K (.bool true)→cf 22 [eP 7,.int 6] K
theorem p22 (cf:ad):S22 (step cf):=fun K=>c22 ix ix ix ix
noncomputable def As:Str:=⟨#[114,101,102,117,115,101,100]⟩
noncomputable def p5V (a b c d e:V):V:=.tuple [a,b,c,d,e]
theorem jw {cf:ad}:∀ es:List E,es.map (ev cf)=evs cf es
 | []=>rfl
 | a :: es=>congrArg (ev cf a :: ·) (jw es)
section
variable {cf:ad} {sv a b c d:V} {K:V→Prop}
noncomputable def dH (sv:V) (R:Int) (st en:List Int) (ws:List W):V:=p5V sv (.int R) (ae st) (ae en) (bP ws)
end
theorem g9 {a b is:List Int} (ha:a.Perm is) (ha':a.Pairwise (·≤·)) (hb:b.Perm is) (hb':b.Pairwise (·≤·)):a=b:=
 List.Perm.eq_of_pairwise (le:=(·≤·)) (fun x y _ _ h h'=>Int.le_antisymm h h') ha' hb' (ha.trans hb.symm)
noncomputable def d5 (n:Nat) (x:V):Prop:=x.canLay0=true∧x.depth≤n
theorem aR {n:Nat} {x:V} (h:d5 n x) (hn:n≤64):da x=true:=zA3 ⟨h.1,decide_eq_true (zB1 h.2 hn)⟩
theorem nC:∀ {n:Nat} {l:List V},(∀ x∈l,d5 n x)→PyData.canLayAll0 l=true∧PyData.depthAll l≤n
 | n,[],_=>⟨rfl,Nat.zero_le _⟩
 | n,x :: l,h=>⟨zA3 ⟨(h x (.head _)).1,(nC fun y m=>h y (.tail _ m)).1⟩,Nat.max_le.mpr ⟨(h x (.head _)).2,(nC fun y m=>h y (.tail _ m)).2⟩⟩
theorem aC {n:Nat} {l:List V} (h:∀ x∈l,d5 n x):d5 (n+1) (.list l):=⟨(nC h).1,Nat.succ_le_succ (nC h).2⟩
theorem cR {n:Nat} {l:List V} (h:∀ x∈l,d5 n x):d5 (n+1) (.tuple l):=⟨(nC h).1,Nat.succ_le_succ (nC h).2⟩
theorem jr {x:V} (h:a8 x=true):d5 0 x:=by
 cases x with
 | int i=>exact ⟨rfl,Nat.le_refl _⟩
 | str s=>exact ⟨h,Nat.le_refl _⟩
 | _=>(injection h; done)
theorem j3 {s0 s1 s2:List Nat} {R:Int} {w:W} (sk:SgOk s0 s1 s2) (ok:W.ok s0 s1 s2 R w):d5 1 w.v:=cR fun x m=>jr (cU sk ok x m).1
theorem yO {x:V} (h:da x=true):aS .NotEq x x=some false:=by
 refine (?_:(eqO x x).map _=_)
 rw [show eqO x x=some (PyData.eqv x x) from if_pos (by rw [h]; rfl),PySem.SeqAt.eqv_refl x (zA2 h).1]; rfl
theorem vZ (l:List V):l.map (fun x:V=>x)=l:=List.map_id l
theorem wS {k m:Sc} (h:ig k m=false) (h':ig m k=false):k=m:=by
 cases k with
 | inl a=>cases m with
  | inl b=>have h:=of_decide_eq_false h; have h':=of_decide_eq_false h'; exact congrArg _ (by exact Int.le_antisymm (Int.not_lt.mp h') (Int.not_lt.mp h))
  | inr y=>(injection h; done)
 | inr x=>cases m with
  | inl b=>(injection h'; done)
  | inr y=>
   have h:=of_decide_eq_false h
   have h':=of_decide_eq_false h'
   have e:x.cps.toList=y.cps.toList:=List.le_antisymm h' h
   cases x; cases y
   exact congrArg _ (congrArg Str.mk (Array.toList_inj.mp e))
theorem oM:∀ {a b:List Sc},bG a b=false→bG b a=false→a=b
 | [],[],_,_=>rfl
 | [],_ :: _,h,_=>nomatch h
 | _ :: _,[],_,h=>nomatch h
 | k :: ks,m :: ms,h,h'=>by
  have h:(if k=m then bG ks ms else ig k m)=false:=h
  have h':(if m=k then bG ms ks else ig m k)=false:=h'
  by_cases e:k=m
  ·subst e
   rw [if_pos rfl] at h h'
   rw [oM h h']
  ·rw [if_neg e] at h
   rw [if_neg fun q=>e q.symm] at h'
   exact absurd (wS h h') e
theorem kOf_inj {x y:V} (hx:a8 x=true) (hy:a8 y=true) (e:kOf x=kOf y):x=y:=by
 cases x with
 | int i=>cases y with
  | int j=>rw [Sum.inl.inj e]
  | str t=>exact nomatch (show (Sum.inl i:Sc)=.inr t from e)
  | _=>(injection hy; done)
 | str s=>cases y with
  | int j=>exact nomatch (show (Sum.inr s:Sc)=.inl j from e)
  | str t=>rw [Sum.inr.inj e]
  | _=>(injection hy; done)
 | _=>(injection hx; done)
theorem keys_inj:∀ {l m:List V},(∀ x∈l,a8 x=true)→(∀ x∈m,a8 x=true)→l.map kOf=m.map kOf→l=m
 | [],[],_,_,_=>rfl
 | [],_ :: _,_,_,e=>nomatch e
 | _ :: _,[],_,_,e=>nomatch e
 | x :: l,y :: m,h,h',e=>by
  have e:=zA5 e
  rw [kOf_inj (h x (.head _)) (h' y (.head _)) e.1,keys_inj (fun x q=>h x (.tail _ q)) (fun x q=>h' x (.tail _ q)) e.2]
theorem sK:∀ {l m:List V},(∀ x∈l,a8 x=true)→(∀ x∈m,a8 x=true)→PyData.eqvAll l m=true→l=m
 | [],[],_,_,_=>rfl
 | [],_ :: _,_,_,e=>nomatch e
 | _ :: _,[],_,_,e=>nomatch e
 | x :: l,y :: m,h,h',e=>by
  obtain ⟨e1,e2⟩:=zA2 e
  have e1:x=y:=by
   have hx:=h x (.head _)
   have hy:=h' y (.head _)
   cases x with
   | int i=>cases y with
    | int j=>rw [beq_iff_eq.mp (e1:(i==j)=true)]
    | str t=>exact nomatch e1
    | _=>(injection hy; done)
   | str s=>cases y with
    | int j=>exact nomatch e1
    | str t=>rw [beq_iff_eq.mp (e1:(s==t)=true)]
    | _=>(injection hy; done)
   | _=>(injection hx; done)
  rw [e1,sK (fun x q=>h x (.tail _ q)) (fun x q=>h' x (.tail _ q)) e2]
section
variable {s0 s1 s2:List Nat} {R:Int} {ws:List W} (sk:SgOk s0 s1 s2) (ok:∀ w∈ws,W.ok s0 s1 s2 R w)
include sk ok
theorem uf {x y:V} (hx:x∈ws.map W.v) (hy:y∈ws.map W.v) (h:bG (aQ y) (aQ x)=false) (h':bG (aQ x) (aQ y)=false):x=y:=by
 obtain ⟨w,mw,rfl⟩:=zA7 hx
 obtain ⟨u,mu,rfl⟩:=zA7 hy
 exact congrArg PyData.tuple (keys_inj (fun x m=>(cU sk (ok w mw) x m).1) (fun x m=>(cU sk (ok u mu) x m).1) (oM h' h))
theorem kU {r r':List V} (hn:r.Nodup) (hm:∀ y,y∈r ↔ y∈ws.map W.v) (hr:gD r) (hn':r'.Nodup) (hm':∀ y,y∈r' ↔ y∈ws.map W.v) (hr':gD r'):r=r':=
 List.Perm.eq_of_pairwise (le:=fun x y=>bG (aQ y) (aQ x)=false) (fun x y mx my h h'=>uf sk ok ((hm x).mp mx) ((hm' y).mp my) h h') hr hr' ((List.perm_ext_iff_of_nodup hn hn').mpr fun y=>(hm y).trans (hm' y).symm)
theorem xU {x y:V} (hx:x∈ws.map W.v) (hy:y∈ws.map W.v) (h:PyData.eqv x y=true):x=y:=by
 obtain ⟨w,mw,rfl⟩:=zA7 hx
 obtain ⟨u,mu,rfl⟩:=zA7 hy
 exact congrArg PyData.tuple (sK (fun x m=>(cU sk (ok w mw) x m).1) (fun x m=>(cU sk (ok u mu) x m).1) h)
theorem dE {l:List V} (h:∀ x∈l,x∈ws.map W.v):∀ x∈l,d5 1 x:=fun x m=>by
 obtain ⟨w,mw,rfl⟩:=zA7 (h x m)
 exact j3 sk (ok w mw)
end
theorem xH {s0 s1 s2:List Nat} (sk:SgOk s0 s1 s2):d5 1 (sg s0 s1 s2):=cR fun x m=>by
 have t:∀ {l:List Nat},(∀ c∈l,low c=true)→d5 0 (text l):=fun h=>jr (x:=text _) (fD h)
 rcases List.mem_cons.mp m with rfl | m
 ·exact t fun c q=>sk.lowA q
 rcases List.mem_cons.mp m with rfl | m
 ·exact t fun c q=>sk.lowB q
 ·obtain rfl:=zA6 m; exact t fun c q=>sk.lowC q
structure MethOk (cf:ad):Prop where
 m9:∀ sv R st en r (K:V→Prop),noX sv=true→K sv→cf 9 [cO sv R st en r] K
 m10:∀ sv R st en r (K:V→Prop),K (.int R)→cf 10 [cO sv R st en r] K
 m11:∀ sv R st en r (K:V→Prop),st.length≤5000→K (ae st)→cf 11 [cO sv R st en r] K
 m12:∀ sv R st en r (K:V→Prop),en.length≤5000→K (ae en)→cf 12 [cO sv R st en r] K
 m13:∀ sv R st en (r:List V) (K:V→Prop),r.length≤5000→K (.list r)→cf 13 [cO sv R st en r] K
open Classical in
theorem oI:∀ {l m:List V},l.Nodup→(∀ x∈l,x∈m)→l.length≤m.length
 | [],_,_,_=>Nat.zero_le _
 | x :: l,m,nd,h=>by
  have nd:=List.nodup_cons.mp nd
  have mx:=h x (.head _)
  have q:=oI (m:=m.erase x) nd.2 fun y my=>(List.mem_erase_of_ne (a:=y) (b:=x) fun e=>nd.1 (by rw [← e]; exact my)).mpr (h y (.tail _ my))
  rw [List.length_erase_of_mem mx] at q
  have:=List.length_pos_of_mem mx
  rw [zB4]; lia
noncomputable def mOf (c s:Int) (i:Nat):Nat:=((c+s * (0+(i:Int))).fmod 26).toNat
noncomputable def ou (c s:Int) (n:Nat):List Nat:=(List.range n).map fun i=>97+mOf c s i
theorem vY (c s:Int) (i:Nat):mOf c s i < 26:=by
 have h1:=aP (c+s * (0+(i:Int))) (b:=26) (by decide)
 have h2:=bj (c+s * (0+(i:Int))) (b:=26) (by decide)
 unfold mOf; exact (Int.toNat_lt h1).mpr (Int.lt_of_lt_of_le h2 (by decide))
theorem wb:∀ m,m < 26→abc.cps.toList[m]?=some (97+m)∧low (97+m)=true:=by decide
noncomputable def fe (c:Int):Int:=1+2 * ((c.fdiv 26).fmod 5)
theorem wO:∀ q,q < 5→∀ d,d < 12→d≠0→((1+2 * q) * d) % 26≠0:=by decide
theorem ut (c:Int) (q i d:Nat):(c+(1+2 * (q:Int)) * (0+((i+d:Nat):Int))) - (c+(1+2 * (q:Int)) * (0+(i:Int)))=(((1+2 * q) * d:Nat):Int):=by
 rw [Int.zero_add,Int.zero_add,Int.natCast_add,Int.mul_add,Int.natCast_mul,Int.natCast_add,Int.natCast_mul]
 refine (?_:_=(1+2 * (q:Int)) * (d:Int))
 generalize (1+2 * (q:Int)) * (i:Int)=x
 generalize (1+2 * (q:Int)) * (d:Int)=y
 lia
theorem kW (c:Int) {n:Nat} (hn:n≤12):(ou c (fe c) n).Nodup:=by
 obtain ⟨q,hq⟩:=Int.eq_ofNat_of_zero_le (aP (c.fdiv 26) (b:=5) (by decide))
 have h2:=bj (c.fdiv 26) (b:=5) (by decide)
 unfold ou
 refine List.pairwise_map.mpr (List.Pairwise.imp_of_mem (fun {i j} mi mj hlt e=>?_) (List.pairwise_lt_range (n:=n)))
 obtain ⟨d,rfl⟩:=Nat.exists_eq_add_of_lt hlt
 have hj:=List.mem_range.mp mj
 have e:mOf c (fe c) i=mOf c (fe c) (i+(d+1)):=Nat.add_left_cancel e
 unfold mOf fe at e
 rw [hq] at e h2
 have e:(c+(1+2 * (q:Int)) * (0+((i+(d+1):Nat):Int))).fmod 26=(c+(1+2 * (q:Int)) * (0+(i:Int))).fmod 26:=by
  rw [← Int.toNat_of_nonneg (aP (c+(1+2 * (q:Int)) * (0+((i+(d+1):Nat):Int))) (b:=26) (by decide)),← e,Int.toNat_of_nonneg (aP _ (by decide))]
 rw [Int.fmod_eq_emod_of_nonneg _ (by decide),Int.fmod_eq_emod_of_nonneg _ (by decide),Int.emod_eq_emod_iff_emod_sub_eq_zero,ut] at e
 exact wO q (by grind) (d+1) (by clear e hq; grind) (Nat.succ_ne_zero d) (by exact_mod_cast e)
theorem rN (c s:Int) (n:Nat):∀ x∈ou c s n,low x=true:=fun x m=>by
 obtain ⟨i,_,rfl⟩:=zA7 m
 exact (wb _ (vY c s i)).2
theorem za {l:List Nat} {i j k:Nat} (hn:l.Nodup) (hl:∀ x∈l,low x=true) (h1:i≤4) (h2:i≤j) (h3:j≤k) (h4:j - i≤4) (h5:k - j≤4):SgOk (l.take i) ((l.drop i).take (j - i)) ((l.drop j).take (k - j)):=by
 have e:l.take i++(l.drop i).take (j - i)++(l.drop j).take (k - j)=l.take k:=by
  rw [← List.take_add,show i+(j - i)=j by exact Nat.add_sub_cancel' h2,← List.take_add,show j+(k - j)=k by exact Nat.add_sub_cancel' h3]
 refine ⟨zB1 (List.length_take_le _ _) h1,zB1 (List.length_take_le _ _) h4,zB1 (List.length_take_le _ _) h5,?_,?_⟩
 ·rw [e]; exact fun x m=>hl x (List.mem_of_mem_take m)
 ·rw [e]; exact hn.sublist (List.take_sublist _ _)
theorem rE:∀ l:List Nat,dR (l.map fun c=>text [c])=some (l.map fun c=>[c])
 | []=>rfl
 | c :: r=>by unfold dR; rw [List.map_cons,List.mapM_cons]; refine (?_:(dR (r.map fun c=>text [c])).bind _=_); rw [rE r]; rfl
theorem lj:∀ l:List Nat,aM [] (l.map fun c=>[c])=l
 | []=>rfl
 | [c]=>rfl
 | c :: d :: r=>congrArg (c :: ·) (lj (d :: r))
theorem nZ:∀ l:List Nat,((l.map fun c=>[c]).map List.length).sum=l.length
 | []=>rfl
 | c :: r=>by rw [List.map_cons,List.map_cons,List.sum_cons,nZ r,zB4]; exact Nat.add_comm _ _
theorem ui {cf:ad} {G:Gs} {a:E} {l:List Nat} (ha:Val cf G a (.list (l.map fun c=>text [c]))) (hz:l.length≤5000):Val cf G (.nd .join [ss k0,a]) (text l):=fun K h=>by
 refine ⟨rfl,ha _ (aL (z:=text l) ?_ h)⟩
 refine (?_:(dR (l.map fun c=>text [c])).bind _=_)
 rw [rE]
 show (if _ then some (text (aM [] (l.map fun c=>[c]))) else none)=_
 rw [lj]
 exact if_pos (by rw [nZ]; exact bn (by refine (?_:l.length+_ * 0≤5000); rw [Nat.mul_zero]; exact hz))
theorem dO {d n:Nat} {i:Int} (h0:0≤i) (h1:i.toNat≤n):sM d n (some (.int i))=some i.toNat:=by
 refine (?_:some (if 0≤i then min i.toNat n else _)=_)
 rw [if_pos h0,Nat.min_eq_left h1]
theorem eL {α:Type} {l:List α} {f:List α→V} {lo hi:Option V} {i j:Nat} (hz:l.length≤5000) (h1:sM 0 l.length lo=some i) (h2:sM l.length l.length hi=some j) (h:i≤j):qq f l lo hi=some (f ((l.drop i).take (j - i))):=by
 unfold qq
 rw [if_pos (bn hz),h1,h2]
 exact if_pos h
theorem vU {l:List Nat} {i j:Nat} (hz:l.length≤5000) (h:i≤j) (h1:j≤l.length):opN (.slice true true) [text l,.int i,.int j]=some (text ((l.drop i).take (j - i))):=eL (l:=l) (f:=text) hz (dO (i:=i) (Int.natCast_nonneg i) (zB1 h h1)) (dO (i:=j) (Int.natCast_nonneg j) h1) h
theorem r6 {l:List Nat} {j:Nat} (hz:l.length≤5000) (h1:j≤l.length):opN (.slice false true) [text l,.int j]=some (text (l.take j)):=eL (l:=l) (f:=text) (lo:=none) hz rfl (dO (i:=j) (Int.natCast_nonneg j) h1) (Nat.zero_le _)
theorem BF {l:List Nat} {i j k:Int} (hl:l.length≤12) (hn:l.Nodup) (lo:∀ x∈l,low x=true) (h0:0≤i) (h1:i≤4) (h2:0≤j) (h3:j≤4) (h4:0≤k) (h5:k≤4) (h6:i+j+k≤l.length):∃ a b c,SgOk a b c∧opN (.slice false true) [text l,.int i]=some (text a)∧opN (.slice true true) [text l,.int i,.int (i+j)]=some (text b)∧opN (.slice true true) [text l,.int (i+j),.int (i+j+k)]=some (text c):=by
 obtain ⟨i,rfl⟩:=Int.eq_ofNat_of_zero_le h0
 obtain ⟨j,rfl⟩:=Int.eq_ofNat_of_zero_le h2
 obtain ⟨k,rfl⟩:=Int.eq_ofNat_of_zero_le h4
 have h6:i+j+k≤l.length:=by lia
 have hz:l.length≤5000:=zB1 hl (by decide)
 have hj:i+j≤l.length:=zB1 (Nat.le_add_right _ _) h6
 refine ⟨_,_,_,za (i:=i) (j:=i+j) (k:=i+j+k) hn lo (Int.ofNat_le.mp h1) (Nat.le_add_right _ _) (Nat.le_add_right _ _) (by rw [Nat.add_sub_cancel_left]; exact Int.ofNat_le.mp h3) (by rw [Nat.add_sub_cancel_left]; exact Int.ofNat_le.mp h5),r6 hz (zB1 (Nat.le_add_right _ _) hj),?_,?_⟩
 ·exact vU (i:=i) (j:=i+j) hz (Nat.le_add_right _ _) hj
 ·exact vU (i:=i+j) (j:=i+j+k) hz (Nat.le_add_right _ _) h6
theorem rf {cf:ad} {G:Gs} {e:E} {c s:Int} {n:Nat} (hn:n≤12) (hr:bM (.list (a9 0 n))=some ((List.range n).map fun i:Nat=>.int (0+(i:Int)))) (h0:∀ i:Nat,Val cf (G.set 6 (.v (.int (0+(i:Int))))) (vv 0) (.int c)) (h1:∀ i:Nat,Val cf (G.set 6 (.v (.int (0+(i:Int))))) (vv 1) (.str abc)) (h2:∀ i:Nat,Val cf (G.set 6 (.v (.int (0+(i:Int))))) (vv 2) (.int s)) (h6:∀ i:Nat,Val cf (G.set 6 (.v (.int (0+(i:Int))))) (vv 6) (.int (0+(i:Int))))
  (hs:s.natAbs≤1000000) (hsrc:Val cf G e (.list (a9 0 n))):Val cf G (.nd .join [ss k0,.nd (.comp 6) [e,ww]]) (text (ou c s n)):=by
 refine ui ?_ (by unfold ou; rw [zA4,List.length_range]; exact Nat.le_add_left_of_le hn)
 have q:=aG (k:=6) (f:=fun i:Nat=>text [97+mOf c s i]) hsrc hr (e:=ww) fun i m=>aa (.two (h1 i) (aa (.two (aa (.two (h0 i) (aa (.two (h2 i) (h6 i)) (kH (.inr hs)))) rfl) ix) (b9 (by decide)))) (ji (f:=fun c=>text [c]) (by decide) (aP _ (by decide)) (wb _ (vY c s i)).1)
 unfold ou
 rw [List.map_map]
 exact q
noncomputable def SgS (n:Nat) (cf:ad):Prop:=∀ c:Int,∃ s0 s1 s2,SgOk s0 s1 s2∧∀ K,K (sg s0 s1 s2)→cf n [.int c] K
theorem l7 {l:List Int} {i:Int} (h0:0≤i) (h1:i < l.length):(l.map PyData.int)[i.toNat]?=some (.int (l.getD i.toNat 0)):=by
 have:i.toNat < l.length:=by exact (Int.toNat_lt ‹_›).mpr h1
 rw [List.getElem?_map,List.getD_eq_getElem?_getD,List.getElem?_eq_getElem this]; rfl
theorem rQ:(∀ i,i < 4→([1,1,2,0]:List Int).getD i 0≤2∧0≤([1,1,2,0]:List Int).getD i 0)∧∀ i,i < 5→([1,2,1,1,0]:List Int).getD i 0≤2∧0≤([1,2,1,1,0]:List Int).getD i 0:=by decide
theorem rK (c:Int):(fe c).natAbs≤1000000:=by
 have h1:=aP (c.fdiv 26) (b:=5) (by decide)
 have h2:=bj (c.fdiv 26) (b:=5) (by decide)
 unfold fe; lia
theorem iY (c s:Int) (n:Nat):(ou c s n).length=n:=by unfold ou; rw [zA4,List.length_range]
theorem p23 (cf:ad):SgS 23 (step cf):=fun c=>by
 have a1:=aP (c.fdiv 130) (b:=4) (by decide)
 have a2:=bj (c.fdiv 130) (b:=4) (by decide)
 have b1:=aP (c.fdiv 520) (b:=5) (by decide)
 have b2:=bj (c.fdiv 520) (b:=5) (by decide)
 have o1:=rQ.1 _ ((Int.toNat_lt a1).mpr a2)
 have o2:=rQ.2 _ ((Int.toNat_lt b1).mpr b2)
 have e1:=cI (l:=[.int 1,.int 1,.int 2,.int 0]) (by decide) a1 (l7 (l:=[1,1,2,0]) a1 a2)
 have e2:=cI (l:=[.int 1,.int 2,.int 1,.int 1,.int 0]) (by decide) b1 (l7 (l:=[1,2,1,1,0]) b1 b2)
 clear a1 a2 b1 b2
 generalize ([1,1,2,0]:List Int).getD ((c.fdiv 130).fmod 4).toNat 0=one at o1 e1
 generalize ([1,2,1,1,0]:List Int).getD ((c.fdiv 520).fmod 5).toNat 0=two at o2 e2
 have c2:=Int.le_of_lt_add_one (bj (c.fdiv 2600) (b:=2+1) (by decide))
 obtain ⟨x,y,z,ok,q1,q2,q3⟩:=BF (l:=ou c (fe c) 6) (i:=one) (j:=two) (k:=(c.fdiv 2600).fmod 3) (by rw [iY]; decide) (kW c (by decide)) (rN c _ 6) o1.2 (Int.le_trans o1.1 (by decide)) o2.2 (Int.le_trans o2.1 (by decide)) (aP _ (by decide)) (Int.le_trans c2 (by decide)) (by rw [iY]; exact Int.add_le_add (Int.add_le_add o1.1 o2.1) c2)
 refine ⟨x,y,z,ok,fun K h=>run (fn:=f23) rfl rfl rfl ?_⟩
 refine ag (v:=.str abc) ix (ag (v:=.int (fe c)) (aa (.two ix (aa (.two ix ix) (kH (.inr (by decide))))) rfl) ?_)
 refine ag (rf (c:=c) (s:=fe c) (n:=6) (by decide) rfl (fun i=>ix) (fun i=>ix) (fun i=>ix) (fun i=>ix) (rK c) ix) ?_
 refine ag (v:=.int one) (aa (.two ix ix) e1) (ag (v:=.int (one+two)) (aa (.two ix (aa (.two ix ix) e2)) rfl) ?_)
 exact ai (v:=sg x y z) (aa (.cons (aa (.two ix ix) q1) (.two (aa (.cons ix (.two ix ix)) q2) (aa (.cons ix (.two ix (aa (.two ix ix) rfl))) q3))) rfl) h
theorem m6 (c:Int):0≤1+c.fmod 4∧1+c.fmod 4≤4:=by
 have a1:=aP c (b:=4) (by decide)
 have a2:=bj c (b:=4) (by decide)
 lia
theorem p24 (cf:ad) (h20:SgS 23 cf):SgS 24 (step cf):=fun c=>by
 by_cases h3:(c.fdiv 7800).fmod 8=3
 ·have a:=m6 (c.fdiv 130)
  have b:=m6 (c.fdiv 520)
  have d:=m6 (c.fdiv 2600)
  obtain ⟨x,y,z,ok,q1,q2,q3⟩:=BF (l:=ou c (fe c) 12) (by rw [iY]; decide) (kW c (by decide)) (rN c _ 12) a.1 a.2 b.1 b.2 d.1 d.2 (by rw [iY]; exact Int.add_le_add (Int.add_le_add a.2 b.2) d.2)
  rw [← Int.add_assoc] at q2 q3
  rw [← Int.add_assoc] at q3
  refine ⟨x,y,z,ok,fun K h=>run (fn:=f24) rfl rfl rfl ?_⟩
  refine bW (ac (x:=.int ((c.fdiv 7800).fmod 8)) ix ix (pb.trans (by rw [h3]; rfl))) ?_
  refine ag (v:=.str abc) ix (ag (v:=.int (fe c)) (aa (.two ix (aa (.two ix ix) (kH (.inr (by decide))))) rfl) ?_)
  refine ag (rf (c:=c) (s:=fe c) (n:=12) (by decide) rfl (fun i=>ix) (fun i=>ix) (fun i=>ix) (fun i=>ix) (rK c) ix) ?_
  refine ag (v:=.int (1+(c.fdiv 130).fmod 4)) ix (ag (v:=.int (1+(c.fdiv 130).fmod 4+1+(c.fdiv 520).fmod 4)) ix ?_)
  exact ai (v:=sg x y z) (aa (.cons (aa (.two ix ix) q1) (.two (aa (.cons ix (.two ix ix)) q2) (aa (.cons ix (.two ix ix)) q3))) rfl) h
 ·obtain ⟨s0,s1,s2,ok,h⟩:=h20 c
  refine ⟨s0,s1,s2,ok,fun K hk=>run (fn:=f24) rfl rfl rfl (aV (ac (x:=.int ((c.fdiv 7800).fmod 8)) ix ix (pb.trans (congrArg some ?_))) (ai (ak (.one ix) h) hk))⟩
  rw [beq_eq_false_iff_ne.mpr h3]; rfl
theorem iD {l:List Nat} (h:l.length≤5000):opN .len [text l]=some (.int l.length):=nh (s:=⟨l.toArray⟩) h
theorem yP {l:List V} (hl:da (.list l)=true):aS .Eq (.list l) (.list [])=some l.isEmpty:=(if_pos (by rw [hl]; rfl)).trans (congrArg some (by cases l <;> rfl))
noncomputable def fh (cell:Int) (s:List Nat):Nat:=s.getD ((cell.fdiv 256).fmod s.length).toNat 0
theorem rP {cell:Int} {n:Nat} (h:0 < n):(cell.fmod n).toNat < n:=by
 have h1:=aP cell (b:=n) (Int.ofNat_lt.mpr h)
 have h2:=bj cell (b:=n) (Int.ofNat_lt.mpr h)
 exact (Int.toNat_lt ‹_›).mpr h2
theorem oC {cell:Int} {s:List Nat} (h:s≠[]):s[((cell.fdiv 256).fmod s.length).toNat]?=some (fh cell s):=by
 have:=rP (cell:=cell.fdiv 256) (List.length_pos_iff.mpr h)
 unfold fh
 rw [List.getD_eq_getElem?_getD,List.getElem?_eq_getElem this]; rfl
theorem cG {cell:Int} {s:List Nat} (h:s≠[]):fh cell s∈s:=List.mem_of_getElem? (oC h)
theorem jQ {cf:ad} {G:Gs} {e:E} {cell:Int} {s:List Nat} (he:Val cf G e (text s)) (h0:Val cf G (vv 0) (.int cell)) (hs:s≠[]) (hl:s.length≤4):Val cf G (.nd .sub [e,.nd (.bin .Mod) [.nd (.bin .FloorDiv) [vv 0,ii 256],.nd .len [e]]]) (text [fh cell s]):=
 have hp:=List.length_pos_iff.mpr hs
 have hz:s.length≤5000:=zB1 hl (by decide)
 aa (.two he (aa (.two (aa (.two h0 ix) (jc (by decide) (by decide))) (aa (.one he) (iD hz))) (b9 (Int.ofNat_lt.mpr hp)))) (vR hz (aP _ (Int.ofNat_lt.mpr hp)) (oC hs))
theorem gK {l:List Nat} (h:PyData.strOk ⟨l.toArray⟩=true):aS .NotEq (text l) (.str k0)=some (!l.isEmpty):=(yN h wZ).trans (congrArg (fun b=>some (!b)) (by
 cases l with
 | nil=>rfl
 | cons c r=>exact beq_eq_false_iff_ne.mpr fun e=>nomatch congrArg (fun s:Str=>s.cps.toList) e))
theorem xn {l:List V} (h:∀ x∈l,d5 1 x):aS .NotEq (.list l) (.list [])=some (!l.isEmpty):=congrArg (Option.map (!·)) (yP (aR (n:=2) (aC h) (by decide)):eqO (.list l) (.list [])=some l.isEmpty)
noncomputable def Ak (s0 s1 s2:List Nat) (R:Int) (v:V):Prop:=v=.none∨∃ w,W.ok s0 s1 s2 R w∧v=w.v
noncomputable def At:W→Prop
 | .op _ _ _ _=>True
 | _=>False
noncomputable def S25 (cf:ad):Prop:=∀ cell s0 s1 s2 R (os:List W) (most:Int),SgOk s0 s1 s2→1≤R→os.length≤100→(∀ w∈os,At w∧W.ok s0 s1 s2 R w)→∃ v,Ak s0 s1 s2 R v∧∀ K,K v→cf 25 [.int cell,sg s0 s1 s2,.int R,bP os,.int most] K
section
variable {cf:ad} {cell R most:Int} {s0 s1 s2:List Nat} {os:List W}
noncomputable def g25 (cell:Int) (s0 s1 s2:List Nat) (R:Int) (os:List W) (most a b t:Int):Gs:=[.v (.int cell),.v (sg s0 s1 s2),.v (.int R),.v (bP os),.v (.int most),.v (.int a),.v (.int b),.v (.int t)]
theorem eg {K:Option V→Gs→Prop} (a b t:Int) (fl:∀ x∈os.map W.v,d5 1 x):Val cf (g25 cell s0 s1 s2 R os most a b t) (.nd (.cmp .NotEq) [vv 3,.nd .list []]) (.bool (!(os.map W.v).isEmpty)):=ac (x:=.list (os.map W.v)) ix ix (xn fl)
theorem uG (sk:SgOk s0 s1 s2) (ok:∀ w∈os,At w∧W.ok s0 s1 s2 R w) (hl:os.length≤100) (fl:∀ x∈os.map W.v,d5 1 x) (h0:s0≠[]) {a b t:Int} (ha:In R a) (hb:In R b) (ht:In R t):∃ v,Ak s0 s1 s2 R v∧∀ (r:List S) (K:Option V→Gs→Prop),(∀ G,K (some v) G)→exs sup cf (yH++r) (g25 cell s0 s1 s2 R os most a b t) K:=by
 have q0:∀ {k:Int},Val cf (g25 cell s0 s1 s2 R os most a b t) (.nd (.cmp .Eq) [.nd (.bin .Mod) [.nd (.bin .FloorDiv) [vv 0,ii 1024],ii 3],ii k]) (.bool ((cell.fdiv 1024).fmod 3==k)):=fun K h=>h
 have last:∀ (r:List S) (K:Option V→Gs→Prop),(∀ G,K (some (W.v (.op a (fh cell s0) b t))) G)→exs sup cf (.mk .ret [.nd .tuple [ss kOpen,vv 5,.nd .sub [.nd .sub [vv 1,ii 0],.nd (.bin .Mod) [.nd (.bin .FloorDiv) [vv 0,ii 256],.nd .len [.nd .sub [vv 1,ii 0]]]],vv 6,vv 7]] [] [] :: r) (g25 cell s0 s1 s2 R os most a b t) K:=fun r K h=>
  ai (aa (.cons ix (.cons ix (.cons (jQ ix ix h0 sk.la) (.two ix ix)))) rfl) (h _)
 cases os with
 | nil=>
  refine ⟨_,.inr ⟨.op a (fh cell s0) b t,⟨ha,cG h0,hb,ht⟩,rfl⟩,fun r K h=>?_⟩
  exact bW (aT (.stop (b:=true) (eg (K:=K) a b t fl))) (bW (aT (.stop (b:=true) (eg (K:=K) a b t fl))) (last r K h))
 | cons w os=>
  obtain ⟨io,wo⟩:=ok w (.head _)
  cases w with
  | on=>cases io
  | cl=>cases io
  | op a' c' b' t'=>
   have hz:((W.op a' c' b' t' :: os).map W.v).length≤5000:=by exact zB1 (zB2 (List.length_map _)) (zB1 hl (by decide))
   have w0:Val cf (g25 cell s0 s1 s2 R (.op a' c' b' t' :: os) most a b t) (.nd .sub [vv 3,ii 0]) (W.v (.op a' c' b' t')):=aa (.two (x:=.list ((W.op a' c' b' t' :: os).map W.v)) ix ix) (cI hz (Int.le_refl _) rfl)
   by_cases c0:(cell.fdiv 1024).fmod 3=0
   ·refine ⟨_,.inr ⟨.op a' c' b t,⟨wo.1,wo.2.1,hb,ht⟩,rfl⟩,fun r K h=>?_⟩
    exact aV (aT (.go (eg (K:=K) a b t fl) (.go (by have:=q0 (k:=0); rw [c0] at this; exact this) .nil))) (ai (aa (.two (x:=.tuple [.str kOpen,.int a',text [c']]) (aa (.two w0 ix) rfl) ix) rfl) (h _))
   ·have n0:=q0 (k:=0)
    rw [beq_eq_false_iff_ne.mpr c0] at n0
    have s1:∀ {X:List S} {r K},exs sup cf r (g25 cell s0 s1 s2 R (.op a' c' b' t' :: os) most a b t) K→exs sup cf (.mk .ite [.nd .and [.nd (.cmp .NotEq) [vv 3,.nd .list []],.nd (.cmp .Eq) [.nd (.bin .Mod) [.nd (.bin .FloorDiv) [vv 0,ii 1024],ii 3],ii 0]]] X [] :: r) (g25 cell s0 s1 s2 R (.op a' c' b' t' :: os) most a b t) K:=fun {X r K} h=>bW (aT (.go (eg (K:=K) a b t fl) (.stop (b:=true) n0))) h
    by_cases c1:(cell.fdiv 1024).fmod 3=1
    ·refine ⟨_,.inr ⟨.op (R - 1 - a') c' b t,⟨⟨by have:=wo.1.2; lia,by have:=wo.1.1; lia⟩,wo.2.1,hb,ht⟩,rfl⟩,fun r K h=>s1 ?_⟩
     refine aV (aT (.go (eg (K:=K) a b t fl) (.go (by have:=q0 (k:=1); rw [c1] at this; exact this) .nil))) (ai (aa (.cons ix (.cons (aa (.two (x:=.int (R - 1)) ix (aa (.two w0 ix) rfl)) rfl) (.cons (aa (.two w0 ix) rfl) (.two ix ix)))) rfl) (h _))
    ·refine ⟨_,.inr ⟨.op a (fh cell s0) b t,⟨ha,cG h0,hb,ht⟩,rfl⟩,fun r K h=>s1 ?_⟩
     have n1:=q0 (k:=1)
     rw [beq_eq_false_iff_ne.mpr c1] at n1
     exact bW (aT (.go (eg (K:=K) a b t fl) (.stop (b:=true) n1))) (last r K h)
theorem tn (sk:SgOk s0 s1 s2) (ok:∀ w∈os,At w∧W.ok s0 s1 s2 R w) (hl:os.length≤100) (fl:∀ x∈os.map W.v,d5 1 x) (h1:s1≠[]) {a b t:Int} (ha:In R a) (hb:In R b) (ht:In R t):∃ v,Ak s0 s1 s2 R v∧∀ (r:List S) (K:Option V→Gs→Prop),(∀ G,K (some v) G)→exs sup cf (yG++r) (g25 cell s0 s1 s2 R os most a b t) K:=by
 have last:∀ (a b:Int) (r:List S) (K:Option V→Gs→Prop),(∀ G,K (some (W.v (.cl a b (fh cell s1) t))) G)→exs sup cf (.mk .ret [.nd .tuple [ss kClose,vv 5,vv 6,.nd .sub [.nd .sub [vv 1,ii 1],.nd (.bin .Mod) [.nd (.bin .FloorDiv) [vv 0,ii 256],.nd .len [.nd .sub [vv 1,ii 1]]]],vv 7]] [] [] :: r) (g25 cell s0 s1 s2 R os most a b t) K:=fun a b r K h=>
  ai (aa (.cons ix (.cons ix (.cons ix (.two (jQ ix ix h1 sk.lb) ix)))) rfl) (h _)
 have nn:=fun K=>eg (cf:=cf) (cell:=cell) (s0:=s0) (s1:=s1) (s2:=s2) (R:=R) (most:=most) (K:=K) a b t fl
 by_cases he:os=[]
 ·refine ⟨_,.inr ⟨.cl a b (fh cell s1) t,⟨ha,hb,cG h1,ht⟩,rfl⟩,fun r K h=>?_⟩
  subst he
  exact bW (aT (.stop (b:=true) (nn K))) (last a b r K h)
 ·have ne:(!(os.map W.v).isEmpty)=true:=by cases os with | nil=>exact absurd rfl he | cons=>rfl
  by_cases c0:0 < (cell.fdiv 1024).fmod 4
  ·have hlt:=rP (cell:=cell.fdiv 16) (List.length_pos_iff.mpr he)
   obtain ⟨io,wo⟩:=ok _ (List.getElem_mem hlt)
   have hw:(os.map W.v)[((cell.fdiv 16).fmod os.length).toNat]?=some (W.v os[((cell.fdiv 16).fmod os.length).toNat]):=by rw [List.getElem?_map,List.getElem?_eq_getElem hlt]; rfl
   generalize os[((cell.fdiv 16).fmod os.length).toNat]=w at io wo hw
   cases w with
   | on=>cases io
   | cl=>cases io
   | op a' c' b' t'=>
    refine ⟨_,.inr ⟨.cl b' t' (fh cell s1) t,⟨wo.2.2.1,wo.2.2.2,cG h1,ht⟩,rfl⟩,fun r K h=>?_⟩
    have hz:(os.map W.v).length≤5000:=by exact zB1 (zB2 (List.length_map _)) (zB1 hl (by decide))
    refine aV (aT (.go (ne▸nn K) (.go (ac (x:=.int ((cell.fdiv 1024).fmod 4)) ix ix (Cd c0)) .nil))) ?_
    refine kM (v:=.tuple [.int b',.int t']) (aa (.two (aa (.two (x:=.list (os.map W.v)) ix (aa (.two (x:=.int (cell.fdiv 16)) ix (aa (.one (v:=.list (os.map W.v)) ix) (fO hz))) (b9 (by rw [zA4]; have:=List.length_pos_iff.mpr he; exact Int.ofNat_lt.mpr this)))) (cI hz (by rw [zA4]; exact aP _ (by exact Int.ofNat_lt.mpr (List.length_pos_iff.mpr he))) (by rw [zA4]; exact hw))) ix) rfl) rfl (last b' t' r K h)
  ·refine ⟨_,.inr ⟨.cl a b (fh cell s1) t,⟨ha,hb,cG h1,ht⟩,rfl⟩,fun r K h=>?_⟩
   exact bW (aT (.go (ne▸nn K) (.stop (b:=true) (ac (x:=.int ((cell.fdiv 1024).fmod 4)) ix ix (Bg c0))))) (last a b r K h)
end
theorem p25 (cf:ad):S25 (step cf):=fun cell s0 s1 s2 R os most sk hR hl ok=>by
 have in':∀ x:Int,In R (x.fmod R):=fun x=>⟨aP x (by exact Int.lt_of_lt_of_le (by decide) hR),bj x (by exact Int.lt_of_lt_of_le (by decide) hR)⟩
 have fl:∀ x∈os.map W.v,d5 1 x:=fun x m=>by
  obtain ⟨w,mw,rfl⟩:=zA7 m
  exact j3 sk (ok w mw).2
 have hz:(os.map W.v).length≤5000:=by exact zB1 (zB2 (List.length_map _)) (zB1 hl (by decide))
 have start:∀ (K:V→Prop),(exs sup cf (f25.body.drop 3) (g25 cell s0 s1 s2 R os most ((cell.fdiv 4).fmod R) ((cell.fdiv 16).fmod R) ((cell.fdiv 64).fmod R)) fun fl _=>K (fl.getD .none))→step cf 25 [.int cell,sg s0 s1 s2,.int R,bP os,.int most] K:=fun K h=>
  run (fn:=f25) rfl rfl rfl (ag (aa (.two ix ix) (b9 (by exact Int.lt_of_lt_of_le (by decide) hR))) (ag (aa (.two ix ix) (b9 (by exact Int.lt_of_lt_of_le (by decide) hR))) (ag (aa (.two ix ix) (b9 (by exact Int.lt_of_lt_of_le (by decide) hR))) h)))
 have c1:Val cf (g25 cell s0 s1 s2 R os most ((cell.fdiv 4).fmod R) ((cell.fdiv 16).fmod R) ((cell.fdiv 64).fmod R)) (.nd .and [.nd (.cmp .Eq) [.nd (.bin .Mod) [vv 0,ii 4],ii 0],.nd (.cmp .Lt) [.nd .len [vv 3],vv 4],.nd (.cmp .NotEq) [.nd .sub [vv 1,ii 0],ss k0]]) (.bool ((cell.fmod 4==0)&&(decide (((os.map W.v).length:Int) < most)&&(!s0.isEmpty&&true)))):=
  aT (.and ix fun _=>.and (ac (aa (.one (v:=.list (os.map W.v)) ix) (fO hz)) ix rfl) fun _=>.and (ac (x:=text s0) ix ix (gK (fD fun c m=>sk.lowA m))) fun _=>.nil)
 have c2:Val cf (g25 cell s0 s1 s2 R os most ((cell.fdiv 4).fmod R) ((cell.fdiv 16).fmod R) ((cell.fdiv 64).fmod R)) (.nd .and [.nd (.cmp .Lt) [.nd (.bin .Mod) [vv 0,ii 4],ii 2],.nd (.cmp .NotEq) [.nd .sub [vv 1,ii 1],ss k0]]) (.bool (decide (cell.fmod 4 < 2)&&(!s1.isEmpty&&true))):=
  aT (.and ix fun _=>.and (ac (x:=text s1) ix ix (gK (fD fun c m=>sk.lowB m))) fun _=>.nil)
 have c3:Val cf (g25 cell s0 s1 s2 R os most ((cell.fdiv 4).fmod R) ((cell.fdiv 16).fmod R) ((cell.fdiv 64).fmod R)) (.nd (.cmp .NotEq) [.nd .sub [vv 1,ii 2],ss k0]) (.bool (!s2.isEmpty)):=ac (x:=text s2) ix ix (gK (fD fun c m=>sk.lowC m))
 have ne:∀ {s:List Nat},(!s.isEmpty)=true→s≠[]:=fun h e=>by rw [e] at h; (injection h; done)
 cases t1:(cell.fmod 4==0)&&(decide (((os.map W.v).length:Int) < most)&&(!s0.isEmpty&&true)) with
 | true=>
  rw [t1] at c1
  have z:=zA2 (zA2 (zA2 t1).2).2
  obtain ⟨v,hv,h⟩:=uG (cf:=cf) (cell:=cell) (most:=most) sk ok hl fl (ne z.1) (in' (cell.fdiv 4)) (in' (cell.fdiv 16)) (in' (cell.fdiv 64))
  exact ⟨v,hv,fun K k=>start K (aV c1 (h _ _ fun _=>k))⟩
 | false=>
  rw [t1] at c1
  cases t2:decide (cell.fmod 4 < 2)&&(!s1.isEmpty&&true) with
  | true=>
   rw [t2] at c2
   have z:=zA2 (zA2 t2).2
   obtain ⟨v,hv,h⟩:=tn (cf:=cf) (cell:=cell) (most:=most) sk ok hl fl (ne z.1) (in' (cell.fdiv 4)) (in' (cell.fdiv 16)) (in' (cell.fdiv 64))
   exact ⟨v,hv,fun K k=>start K (bW c1 (aV c2 (h _ _ fun _=>k)))⟩
  | false=>
   rw [t2] at c2
   cases t3:s2.isEmpty with
   | true=>
    rw [t3] at c3
    exact ⟨.none,.inl rfl,fun K k=>start K (bW c1 (bW c2 (bW c3 (ai ix k))))⟩
   | false=>
    rw [t3] at c3
    have h2:s2≠[]:=ne (by rw [t3]; rfl)
    exact ⟨_,.inr ⟨.on ((cell.fdiv 4).fmod R) (fh cell s2) ((cell.fdiv 16).fmod R),⟨in' _,cG h2,in' _⟩,rfl⟩,fun K k=>start K (bW c1 (bW c2 (aV c3 (ai (aa (.cons ix (.cons ix (.two (jQ ix ix h2 sk.lc) ix))) rfl) k))))⟩
theorem rOk_of {n:Int} (h0:0≤n) (h:n≤1000):rOk n=true:=Nat.ble_eq_true_of_le (by lia)
theorem range_len {n:Int}:(a9 0 n).length=n.toNat:=by unfold a9; rw [zA4,List.length_range,Int.sub_zero]
theorem xf {n:Int} (h0:0≤n) (h:n≤1000):opN .range [.int n]=some (.list (a9 0 n)):=(if_pos ⟨rfl,rOk_of h0 h⟩).trans (if_pos (bn (by rw [range_len]; exact Int.toNat_le.mpr (Int.le_trans h (by decide)))))
theorem fg {n:Int} (h:n≤1000):bM (.list (a9 0 n))=some (a9 0 n):=bD (by rw [range_len]; lia)
theorem gt (n:Int):a9 0 n=(List.range n.toNat).map fun i:Nat=>.int (0+(i:Int)):=by unfold a9; rw [Int.sub_zero]
theorem fc {cf:ad} {G:Gs} {e:E} {n:Int} (h:Val cf G e (.int n)) (h0:0≤n) (hz:n≤1000):Val cf G (.nd .range [e]) (.list (a9 0 n)):=aa (.one h) (xf h0 hz)
noncomputable def pickR (n:Nat) (p:Nat→Bool):List Int:=((List.range n).filter p).map fun i:Nat=>0+(i:Int)
theorem oB {R:Int} {p:Nat→Bool} (h:R≤4):RoomsOk R (pickR R.toNat p) where
 len:=by
  unfold pickR
  rw [zA4]
  have:=List.length_filter_le p (List.range R.toNat)
  rw [List.length_range] at this
  lia
 nodup:=List.pairwise_map.mpr ((List.nodup_range.filter p).imp fun h e=>h (by lia))
 rooms:=fun i m=>by
  obtain ⟨j,mj,rfl⟩:=zA7 m
  have:=List.mem_range.mp (List.mem_filter.mp mj).1
  exact ⟨by exact Int.add_nonneg (Int.le_refl _) (Int.natCast_nonneg _),by lia⟩
theorem kP {cf:ad} {G:Gs} {e t:E} {R:Int} {k:Nat} {p:Nat→Bool} (h:Val cf G e (.int R)) (h0:0≤R) (h1:R≤4) (ht:∀ i:Nat,(i:Int) < R→Val cf (G.set k (.v (.int (0+(i:Int))))) t (.bool (p i))) (hv:∀ i:Nat,Val cf (G.set k (.v (.int (0+(i:Int))))) (vv k) (.int (0+(i:Int)))) :
  Val cf G (.nd (.comp k) [.nd .range [e],vv k,t]) (ae (pickR R.toNat p)):=by
 have q:=ci (k:=k) (e:=vv k) (ts:=[t]) (p:=p) (f:=fun i:Nat=>.int (0+(i:Int))) (fc h h0 (by lia)) ((fg (by lia)).trans (congrArg some (gt R))) (fun i m=>bq.one (ht i (by have:=List.mem_range.mp m; lia))) fun i m _=>hv i
 unfold ae pickR
 rw [List.map_map]
 exact q
theorem BE {i:Nat} {R:Int} (h:(i:Int) < R) (h4:R≤4):0 < 4 * (0+(i:Int))+1∧4 * (0+(i:Int))+1≤1000000:=by lia
theorem BD {i:Nat} {R:Int} (h:(i:Int) < R) (h4:R≤4):0 < 5 * (0+(i:Int))+7∧5 * (0+(i:Int))+7≤1000000:=by lia
structure PartsOk (s0 s1 s2:List Nat) (R:Int) (st en:List Int) (ws:List W):Prop where
 r1:1≤R
 r4:R≤4
 st:RoomsOk R st
 en:RoomsOk R en
 len:ws.length≤10
 ok:∀ w∈ws,W.ok s0 s1 s2 R w
noncomputable def S26 (cf:ad):Prop:=∀ scr s0 s1 s2 K,scr.length≤63→SgOk s0 s1 s2→(∀ R st en ws,PartsOk s0 s1 s2 R st en ws→K (dH (sg s0 s1 s2) R st en ws))→cf 26 [kf scr,.int 3,sg s0 s1 s2,.int 4] K
noncomputable def opB:W→Bool
 | .op _ _ _ _=>true
 | _=>false
theorem p26 (cf:ad) (hA:S20 cf) (hB:S21 cf) (hC:S25 cf):S26 (step cf):=fun scr s0 s1 s2 K hs sk h=>by
 have mR:=m6 (a7 scr 3)
 have mR1:1≤1+(a7 scr 3).fmod 4:=Int.add_le_add_left (aP (a7 scr 3) (b:=4) (by decide)) 1
 have n1:0≤2+((a7 scr 3).fdiv 4).fmod 9:=Int.add_le_add (show 0≤(2:Int) by decide) (aP _ (by decide))
 have n2:2+((a7 scr 3).fdiv 4).fmod 9≤10:=Int.add_le_add_left (Int.le_of_lt_add_one (bj _ (b:=8+1) (by decide))) 2
 have cA:∀ {G a b} {i:Int},Val cf G a (kf scr)→Val cf G b (.int i)→0≤i→Val cf G (.nd (.call 20) [a,b]) (.int (a7 scr i)):=fun ha hb hi=>ak (.two ha hb) fun K h=>hA scr _ K hs hi h
 have e1:=l7 (l:=[4,2,1,1]) (i:=1+(a7 scr 3).fmod 4 - 1) (Int.sub_nonneg_of_le mR1) (Int.sub_lt_iff.mpr (Int.lt_add_one_of_le mR.2))
 refine run (fn:=f26) rfl rfl rfl ?_
 have mR2:=mR.2
 have mR0:=mR.1
 clear mR
 generalize hR:1+(a7 scr 3).fmod 4=R at e1 mR0 mR1 mR2
 refine ag (v:=.int R) (hR▸aa (.two ix (aa (.two (cA ix ix (by decide)) ix) (b9 (by decide)))) rfl) ?_
 refine ag (aa (.two (x:=.list [.int 4,.int 2,.int 1,.int 1]) ix ix) (cI (by decide) (Int.sub_nonneg_of_le mR1) e1)) ?_
 generalize ([4,2,1,1]:List Int).getD (R - 1).toNat 0=many
 refine ag (kP (p:=fun i=>decide (0 < ((a7 scr 4).fdiv (4 * (0+(i:Int))+1)).fmod 3)) ix mR0 mR2 (fun i hi=>ac (aa (.two (aa (.two (cA (i:=4) ix ix (by decide)) (aa (.two (aa (.two ix ix) (kH (.inr (by decide)))) ix) rfl)) (jc (BE hi mR2).1 (BE hi mR2).2)) ix) (b9 (by decide))) ix rfl) fun i=>ix) ?_
 refine ag (kP (p:=fun i=>((a7 scr 4).fdiv (5 * (0+(i:Int))+7)).fmod 2==0) ix mR0 mR2 (fun i hi=>ac (aa (.two (aa (.two (cA (i:=4) ix ix (by decide)) (aa (.two (aa (.two ix ix) (kH (.inr (by decide)))) ix) rfl)) (jc (BD hi mR2).1 (BD hi mR2).2)) ix) (b9 (by decide))) ix rfl) fun i=>ix) (vA ?_)
 have ost:=oB (R:=R) (p:=fun i=>decide (0 < ((a7 scr 4).fdiv (4 * (0+(i:Int))+1)).fmod 3)) mR2
 have oen:=oB (R:=R) (p:=fun i=>((a7 scr 4).fdiv (5 * (0+(i:Int))+7)).fmod 2==0) mR2
 generalize pickR R.toNat (fun i=>decide (0 < ((a7 scr 4).fdiv (4 * (0+(i:Int))+1)).fmod 3))=st at ost
 generalize pickR R.toNat (fun i=>((a7 scr 4).fdiv (5 * (0+(i:Int))+7)).fmod 2==0)=en at oen
 refine tP (xs:=a9 0 (2+((a7 scr 3).fdiv 4).fmod 9)) (P:=fun xs G=>∃ ws s9 s10 s11,(∀ x∈xs,∃ i:Int,0≤i∧x=.int i)∧ws.length+xs.length≤10∧(∀ w∈ws,W.ok s0 s1 s2 R w)∧G=[.v (kf scr),.v (.int 3),.v (sg s0 s1 s2),.v (.int 4),.v (.int R),.v (.int many),.v (ae st),.v (ae en),.ownL (ws.map W.v),s9,s10,s11,.unset,.unset])
  (fc (aa (.two ix (aa (.two (aa (.two (cA ix ix (by decide)) ix) (jc (by decide) (by decide))) ix) (b9 (by decide)))) rfl) n1 (Int.le_trans n2 (by decide))) (fg (Int.le_trans n2 (by decide))) ⟨[],_,_,_,fun x m=>?_,by rw [range_len,List.length_nil,Nat.zero_add]; exact Int.toNat_le.mpr n2,fun w m=>(nomatch m),rfl⟩ (fun G hP=>?_) fun x xs' G Kt hP nx _=>?_
 ·rw [gt] at m
  obtain ⟨i,_,rfl⟩:=zA7 m
  exact ⟨_,Int.add_nonneg (by decide) (Int.natCast_nonneg i),rfl⟩
 ·obtain ⟨ws,s9,s10,s11,_,hl,hw,rfl⟩:=hP
  rw [List.length_nil] at hl
  exact jO (l:=ws.map W.v) rfl (ai ix (h R st en ws ⟨mR1,mR2,ost,oen,zB1 hl (by decide),hw⟩))
 ·obtain ⟨ws,s9,s10,s11,hx,hl,hw,rfl⟩:=hP
  rw [zB4,← Nat.add_assoc] at hl
  have hl':=Nat.le_of_succ_le hl
  have hw10:ws.length≤10:=zB1 (Nat.le_add_right _ _) hl'
  obtain ⟨i,hi,rfl⟩:=hx x (.head _)
  have hz:(ws.map W.v).length≤5000:=by rw [zA4]; exact zB1 hw10 (by decide)
  refine ag (v:=bP (ws.filter opB)) (ci (g:=W.v) (p:=opB) (f:=W.v) (x:=.list (ws.map W.v)) ix (bD hz) (fun w m=>bq.one ?_) fun w m _=>ix) ?_
  ·cases w with
   | on a c b=>exact ac (x:=.str kOn) ix ix ((fQ m7 cM).trans (congrArg some (by rfl)))
   | op a c b t=>exact ac (x:=.str kOpen) ix ix ((fQ cM cM).trans (congrArg some (by rfl)))
   | cl a b c t=>exact ac (x:=.str kClose) ix ix ((fQ bR cM).trans (congrArg some (by rfl)))
  obtain ⟨v,hv,hC⟩:=hC (xh (a7 scr (3+2+i)) i) s0 s1 s2 R (ws.filter opB) many sk mR1 (zB1 (List.length_filter_le opB ws) (zB1 hw10 (by decide))) fun w m=>by
   have m:=List.mem_filter.mp m
   exact ⟨(by cases w with | op=>trivial | _=>(injection m.2; done)),hw w m.1⟩
  refine ag (v:=v) (ak (vs:=[.int (xh (a7 scr (3+2+i)) i),sg s0 s1 s2,.int R,bP (ws.filter opB),.int many]) (.cons (ak (.two (cA (i:=3+2+i) ix ix (Int.add_nonneg (by decide) hi)) ix) fun K h=>hB _ _ K h) (.cons ix (.cons ix (.two ix ix)))) hC (by rcases hv with rfl | ⟨w,_,rfl⟩ <;> rfl)) ?_
  have hx':∀ x∈xs',∃ i:Int,0≤i∧x=.int i:=fun x m=>hx x (.tail _ m)
  rcases hv with rfl | ⟨w,ow,rfl⟩
  ·exact bW ix (iR (nx _ ⟨ws,_,_,_,hx',hl',hw,rfl⟩))
  ·refine aV (by cases w <;> exact ix) (dG (l:=ws.map W.v) rfl (v:=w.v) ix (Nat.lt_of_le_of_lt hz (by decide)) (iR (nx _ ⟨ws++[w],_,_,_,hx',by rw [zB5,List.length_singleton,Nat.add_right_comm]; exact hl,fun u m=>?_,by rw [List.map_append]; rfl⟩)))
   rcases List.mem_append.mp m with m | m
   ·exact hw u m
   ·obtain rfl:=zA6 m; exact ow
noncomputable def dv (w:List Nat):Int:=match w with
 | [a]=>if bf a=true then ((a - 48:Nat):Int) else -1
 | [a,b]=>if bf a=true∧bf b=true then (((a - 48) * 10+(b - 48):Nat):Int) else -1
 | _=>-1
theorem eY:∀ n,n < 100→dv (figs n)=(n:Int)∧(figs n).all bf=true∧figs n≠[]∧(figs n).length≤2:=by decide +kernel
theorem dJ {i:Int} (h0:0≤i) (h:i < 100):dv (figs i.toNat)=i:=by
 rw [(eY i.toNat (by exact (Int.toNat_lt h0).mpr (Int.lt_of_lt_of_le h (by decide)))).1]; exact Int.toNat_of_nonneg h0
theorem u0 {i j:Int} (hi:In 100 i) (hj:In 100 j) (e:figs i.toNat=figs j.toNat):i=j:=by
 rw [← dJ hi.1 hi.2,← dJ hj.1 hj.2,e]
noncomputable def qr (w:List Nat):Bool:=(List.range 100).any fun k=>decide (figs k=w)
noncomputable def aN (w:List Nat):Int:=if qr w=true then dv w else -1
theorem hW {w:List Nat}:qr w=true ↔ ∃ n,n < 100∧figs n=w:=by
 unfold qr
 rw [List.any_eq_true]
 exact ⟨fun ⟨k,m,q⟩=>⟨k,List.mem_range.mp m,of_decide_eq_true q⟩,fun ⟨k,m,q⟩=>⟨k,List.mem_range.mpr m,decide_eq_true q⟩⟩
theorem gY {i:Int} (h:In 100 i):aN (figs i.toNat)=i:=by
 unfold aN
 have h1:=h.1
 have h2:=h.2
 rw [if_pos (hW.mpr ⟨i.toNat,by exact (Int.toNat_lt h1).mpr (Int.lt_of_lt_of_le h2 (by decide)),rfl⟩),dJ h1 h2]
theorem rX {w:List Nat} (h:0≤aN w):In 100 (aN w)∧figs (aN w).toNat=w:=by
 unfold aN at h ⊢
 by_cases c:qr w=true
 ·rw [if_pos c] at h ⊢
  obtain ⟨n,hn,rfl⟩:=hW.mp c
  rw [(eY n hn).1]
  exact ⟨⟨by exact Int.natCast_nonneg _,by exact Int.ofNat_lt.mpr hn⟩,by rw [Int.toNat_natCast]⟩
 ·rw [if_neg c] at h; lia
noncomputable def hd0:List Nat:=[111,112,101,110,105,110,103]
noncomputable def hd1:List Nat:=[99,108,111,115,105,110,103]
noncomputable def hd2:List Nat:=[112,108,97,105,110]
noncomputable def hd3:List Nat:=[114,111,111,109,115]
noncomputable def hd4:List Nat:=[115,116,97,114,116,115]
noncomputable def hd5:List Nat:=[101,110,100,115]
noncomputable def kn (s:Str):List Nat:=s.cps.toList
noncomputable def nw (i:Int):List Nat:=figs i.toNat
noncomputable def W.words:W→List (List Nat)
 | .on a c b=>[kn kOn,nw a,[c],nw b]
 | .op a c b t=>[kn kOpen,nw a,[c],nw b,nw t]
 | .cl a b c t=>[kn kClose,nw a,nw b,[c],nw t]
structure Ds where
 s0:List Nat
 s1:List Nat
 s2:List Nat
 R:Int
 st:List Int
 en:List Int
 ws:List W
noncomputable def tl (s:List Nat):List (List Nat):=match s with
 | []=>[]
 | s=>[s]
noncomputable def Ds.words (D:Ds):List (List (List Nat)):=(hd0 :: tl D.s0) :: (hd1 :: tl D.s1) :: (hd2 :: tl D.s2) :: [hd3,nw D.R] :: (hd4 :: D.st.map nw) :: (hd5 :: D.en.map nw) :: D.ws.map W.words
noncomputable def Ds.rows (D:Ds):List (List Nat):=D.words.map (aM [32])
noncomputable def Ds.text (D:Ds):List Nat:=aM [10] D.rows
structure Ds.Ok (D:Ds):Prop where
 g:ah D.s0 D.s1 D.s2 D.R D.st D.en D.ws
 o1:D.st.Pairwise (·≤·)
 o2:D.en.Pairwise (·≤·)
 nd:(D.ws.map W.v).Nodup
 up:gD (D.ws.map W.v)
noncomputable def Wd (w:List Nat):Prop:=w≠[]∧32∉w∧10∉w∧∀ c∈w,c < 128
theorem mP {w:List Nat} (hn:w≠[]) (h:∀ c∈w,low c=true):Wd w:=by
 have lo:∀ c,low c=true→c≠32∧c≠10∧c < 128:=fun c q=>by
  exact (by decide:∀ c∈abc.cps.toList,c≠32∧c≠10∧c < 128) c (List.elem_iff.mp q)
 exact ⟨hn,fun m=>(lo _ (h _ m)).1 rfl,fun m=>(lo _ (h _ m)).2.1 rfl,fun c m=>(lo c (h c m)).2.2⟩
theorem eD {i:Int} (h:In 100 i):Wd (nw i):=by
 have h1:=h.1
 have h2:=h.2
 obtain ⟨_,ha,hn,_⟩:=eY i.toNat (by exact (Int.toNat_lt h1).mpr (Int.lt_of_lt_of_le h2 (by decide)))
 have lo:∀ c∈nw i,c≠32∧c≠10∧c < 128:=fun c m=>by
  have q:=zA2 (List.all_eq_true.mp ha c m)
  have q1:=Nat.le_of_ble_eq_true q.1
  have q2:=Nat.le_of_ble_eq_true q.2
  lia
 exact ⟨hn,fun m=>(lo _ m).1 rfl,fun m=>(lo _ m).2.1 rfl,fun c m=>(lo c m).2.2⟩
theorem In.up {R S i:Int} (h:In R i) (q:R≤S):In S i:=⟨h.1,Int.lt_of_lt_of_le h.2 q⟩
theorem re {s0 s1 s2:List Nat} {R:Int} {w:W} (sk:SgOk s0 s1 s2) (hR:R≤100) (ok:W.ok s0 s1 s2 R w):∀ x∈w.words,Wd x:=by
 have c1:∀ {c},low c=true→Wd [c]:=fun h=>mP nofun fun x m=>by obtain rfl:=zA6 m; exact h
 have no:∀ x∈([]:List (List Nat)),Wd x:=nofun
 have kw:∀ w∈[kn kOn,kn kOpen,kn kClose],Wd w:=fun w m=>mP (by revert w; decide) (by revert w; decide)
 cases w with
 | on a c b=>exact zA1 ⟨kw _ (.head _),zA1 ⟨eD (ok.1.up hR),zA1 ⟨c1 (sk.lowC ok.2.1),zA1 ⟨eD (ok.2.2.up hR),no⟩⟩⟩⟩
 | op a c b t=>exact zA1 ⟨kw _ (.tail _ (.head _)),zA1 ⟨eD (ok.1.up hR),zA1 ⟨c1 (sk.lowA ok.2.1),zA1 ⟨eD (ok.2.2.1.up hR),zA1 ⟨eD (ok.2.2.2.up hR),no⟩⟩⟩⟩⟩
 | cl a b c t=>exact zA1 ⟨kw _ (.tail _ (.tail _ (.head _))),zA1 ⟨eD (ok.1.up hR),zA1 ⟨eD (ok.2.1.up hR),zA1 ⟨c1 (sk.lowB ok.2.2.1),zA1 ⟨eD (ok.2.2.2.up hR),no⟩⟩⟩⟩⟩
theorem ue (w:W):w.words≠[]:=by cases w <;> exact nofun
theorem wf {s:List Nat} (h:∀ c∈s,low c=true):∀ x∈tl s,Wd x:=by
 cases s with
 | nil=>exact nofun
 | cons a r=>exact fun x m=>by obtain rfl:=zA6 m; exact mP nofun h
theorem pY:∀ w∈[hd0,hd1,hd2,hd3,hd4,hd5],Wd w:=fun w m=>mP (by revert w; decide) (by revert w; decide)
theorem Ds.Ok.wd {D:Ds} (ok:D.Ok):∀ r∈D.words,r≠[]∧∀ w∈r,Wd w:=by
 have sk:=ok.g.sk
 have r1:=ok.g.r1
 have r2:=ok.g.r2
 have rm:∀ {is:List Int},RoomsOk D.R is→∀ w∈is.map nw,Wd w:=fun h w m=>by
  obtain ⟨i,mi,rfl⟩:=zA7 m
  exact eD ((h.rooms i mi).up (by exact Int.le_trans r2 (by decide)))
 have c:∀ {h:List Nat} {t:List (List Nat)},h∈[hd0,hd1,hd2,hd3,hd4,hd5]→(∀ w∈t,Wd w)→(h :: t)≠[]∧∀ w∈h :: t,Wd w:=fun h1 h2=>⟨nofun,zA1 ⟨pY _ h1,h2⟩⟩
 refine zA1 ⟨c (by decide) (wf fun _=>sk.lowA),zA1 ⟨c (by decide) (wf fun _=>sk.lowB),zA1 ⟨c (by decide) (wf fun _=>sk.lowC),zA1 ⟨c (by decide) (zA1 ⟨eD ⟨by exact Int.le_trans (by decide) r1,by exact Int.lt_of_le_of_lt r2 (by decide)⟩,nofun⟩),zA1 ⟨c (by decide) (rm ok.g.st),zA1 ⟨c (by decide) (rm ok.g.en),fun r m=>?_⟩⟩⟩⟩⟩⟩
 obtain ⟨w,mw,rfl⟩:=zA7 m
 exact ⟨ue w,re sk (by exact Int.le_trans r2 (by decide)) (ok.g.ok w mw)⟩
theorem sq {c s:Nat} (hs:c≠s):∀ {ws:List (List Nat)},(∀ w∈ws,c∉w)→c∉aM [s] ws
 | [],_=>nofun
 | [w],h=>h w (.head _)
 | a :: b :: r,h=>fun m=>by
  rw [joinL_cons] at m
  rcases List.mem_append.mp m with m | m
  ·rcases List.mem_append.mp m with m | m
   ·exact h a (.head _) m
   ·exact hs (zA6 m)
  ·exact sq hs (fun w q=>h w (.tail _ q)) m
theorem Ds.Ok.split {D:Ds} (ok:D.Ok):af 10 D.text=D.rows∧D.rows.map (af 32)=D.words:=by
 have wd:=ok.wd
 refine ⟨dS nofun fun w m=>?_,?_⟩
 ·obtain ⟨r,mr,rfl⟩:=zA7 m
  exact sq (by decide) fun x q=>((wd r mr).2 x q).2.2.1
 ·unfold Ds.rows
  rw [List.map_map]
  refine (List.map_congr_left fun r mr=>?_).trans (List.map_id _)
  exact dS (wd r mr).1 fun x q=>((wd r mr).2 x q).2.1
theorem iA {s t:List Nat} (e:tl s=tl t):s=t:=by
 cases s with
 | nil=>cases t with
  | nil=>rfl
  | cons=>exact nomatch e
 | cons a r=>cases t with
  | nil=>exact nomatch e
  | cons b q=>exact (zA5 e).1
theorem cH {R:Int} (hR:R≤100) {i j:Int} (hi:In R i) (hj:In R j) (e:nw i=nw j):i=j:=u0 (hi.up hR) (hj.up hR) e
theorem dy {α β:Type} {f:α→β} {P:α→Prop} (hf:∀ a b,P a→P b→f a=f b→a=b):∀ {l m:List α},(∀ a∈l,P a)→(∀ a∈m,P a)→l.map f=m.map f→l=m
 | [],[],_,_,_=>rfl
 | [],_ :: _,_,_,e=>nomatch e
 | _ :: _,[],_,_,e=>nomatch e
 | a :: l,b :: m,h1,h2,e=>by
  obtain ⟨e1,e2⟩:=zA5 e
  rw [hf a b (h1 a (.head _)) (h2 b (.head _)) e1,dy hf (fun a q=>h1 a (.tail _ q)) (fun a q=>h2 a (.tail _ q)) e2]
theorem gS {s0 s1 s2 t0 t1 t2:List Nat} {R:Int} (hR:R≤100) {w u:W} (hw:W.ok s0 s1 s2 R w) (hu:W.ok t0 t1 t2 R u) (e:w.words=u.words):w=u:=by
 have k1:kn kOn≠kn kOpen:=by decide
 have k2:kn kOn≠kn kClose:=by decide
 have k3:kn kOpen≠kn kClose:=by decide
 cases w with
 | on a c b=>cases u with
  | on a' c' b'=>
   obtain ⟨_,e⟩:=zA5 e
   obtain ⟨e1,e⟩:=zA5 e
   obtain ⟨e2,e⟩:=zA5 e
   obtain ⟨e3,e⟩:=zA5 e
   rw [cH hR hw.1 hu.1 e1,(zA5 e2).1,cH hR hw.2.2 hu.2.2 e3]
  | op=>exact absurd (zA5 e).1 k1
  | cl=>exact absurd (zA5 e).1 k2
 | op a c b t=>cases u with
  | op a' c' b' t'=>
   obtain ⟨_,e⟩:=zA5 e
   obtain ⟨e1,e⟩:=zA5 e
   obtain ⟨e2,e⟩:=zA5 e
   obtain ⟨e3,e⟩:=zA5 e
   obtain ⟨e4,e⟩:=zA5 e
   rw [cH hR hw.1 hu.1 e1,(zA5 e2).1,cH hR hw.2.2.1 hu.2.2.1 e3,cH hR hw.2.2.2 hu.2.2.2 e4]
  | on=>exact absurd (zA5 e).1.symm k1
  | cl=>exact absurd (zA5 e).1 k3
 | cl a b c t=>cases u with
  | cl a' b' c' t'=>
   obtain ⟨_,e⟩:=zA5 e
   obtain ⟨e1,e⟩:=zA5 e
   obtain ⟨e2,e⟩:=zA5 e
   obtain ⟨e3,e⟩:=zA5 e
   obtain ⟨e4,e⟩:=zA5 e
   rw [cH hR hw.1 hu.1 e1,cH hR hw.2.1 hu.2.1 e2,(zA5 e3).1,cH hR hw.2.2.2 hu.2.2.2 e4]
  | on=>exact absurd (zA5 e).1.symm k2
  | op=>exact absurd (zA5 e).1.symm k3
noncomputable def Rd (T:List Nat) (D:Ds):Prop:=D.Ok∧T=D.text
theorem Ds.ext7 {a b:Ds} (h0:a.s0=b.s0) (h1:a.s1=b.s1) (h2:a.s2=b.s2) (h3:a.R=b.R) (h4:a.st=b.st) (h5:a.en=b.en) (h6:a.ws=b.ws):a=b:=by
 refine (?_:Ds.mk a.s0 a.s1 a.s2 a.R a.st a.en a.ws=b)
 rw [h0,h1,h2,h3,h4,h5,h6]
theorem Rd.uniq {T:List Nat} {D D':Ds} (h:Rd T D) (h':Rd T D'):D=D':=by
 have ok:=h.1
 have ok':=h'.1
 have ew:D.words=D'.words:=by rw [← ok.split.2,← ok'.split.2,← ok.split.1,← ok'.split.1,← h.2,← h'.2]
 have e0:=zA5 ew
 have e1:=zA5 e0.2
 have e2:=zA5 e1.2
 have e3:=zA5 e2.2
 have e4:=zA5 e3.2
 have e5:=zA5 e4.2
 have h0:=iA (zA5 e0.1).2
 have h1:=iA (zA5 e1.1).2
 have h2:=iA (zA5 e2.1).2
 have in1:∀ {D:Ds},D.Ok→In 100 D.R:=fun ok=>⟨Int.le_trans (by decide) ok.g.r1,Int.lt_of_le_of_lt ok.g.r2 (by decide)⟩
 have h3:D.R=D'.R:=cH (R:=100) (Int.le_refl _) (in1 ok) (in1 ok') (zA5 (zA5 e3.1).2).1
 have hR:D.R≤100:=Int.le_of_lt (in1 ok).2
 refine Ds.ext7 h0 h1 h2 h3 (dy (P:=In D.R) (fun a b=>cH hR) ok.g.st.rooms (fun i m=>h3▸ok'.g.st.rooms i m) (zA5 e4.1).2) (dy (P:=In D.R) (fun a b=>cH hR) ok.g.en.rooms (fun i m=>h3▸ok'.g.en.rooms i m) (zA5 e5.1).2) (dy (P:=W.ok D.s0 D.s1 D.s2 D.R) (fun a b=>gS hR) ok.g.ok (fun w m=>?_) e5.2)
 rw [h0,h1,h2,h3]
 exact ok'.g.ok w m
theorem bt {w:List Nat} (h:∀ c∈w,c < 128):PyData.strOk ⟨w.toArray⟩=true:=by
 rw [cV]
 exact List.all_eq_true.mpr fun c m=>decide_eq_true (Nat.lt_trans (h c m) (by decide))
theorem l8 {cf:ad} {G:Gs}:Val cf G (.nd .neg [ii 1]) (.int (-1)):=ix
noncomputable def S16 (cf:ad):Prop:=∀ (w:List Nat) K,w.length≤5000→K (.int (dv w))→cf 16 [text w] K
theorem figs_in (c:Nat):([48,49,50,51,52,53,54,55,56,57]:List Nat).elem c=bf c:=by
 by_cases h:c < 58
 ·exact (by decide +kernel:∀ c,c < 58→([48,49,50,51,52,53,54,55,56,57]:List Nat).elem c=bf c) c h
 ·rw [show bf c=false from (Bool.and_eq_false_iff).mpr (.inr (Bool.eq_false_iff.mpr fun q=>h (Nat.lt_succ_of_le (Nat.le_of_ble_eq_true q))))]
  refine Bool.eq_false_iff.mpr fun q=>?_
  have:=List.elem_iff.mp q
  simp at this
  lia
theorem gT {cf:ad} {G:Gs} {lt:Bool} {a b c:E} {i j k:Int} (ha:Val cf G a (.int i)) (hb:Val cf G b (.int j)) (hc:Val cf G c (.int k)):Val cf G (.nd (.chain lt) [a,b,c]) (.bool (decide (i≤j)&&(if lt=true then decide (j < k) else decide (j≤k)))):=fun K h=>ha _ (hb _ (by
 refine (?_:if decide (i≤j)=true then _ else _)
 by_cases q:i≤j
 ·rw [decide_eq_true q] at h ⊢
  rw [if_pos rfl]
  refine hc _ ?_
  cases lt <;> exact h
 ·rw [decide_eq_false q] at h ⊢
  rw [if_neg Bool.false_ne_true]; exact h))
theorem vC {cf:ad} {G:Gs} {K:Option V→Gs→Prop} {k:Nat} {r:List S} {s c e:E} {v y:V} {xs:List V} {p:V→Bool} {I:Gs→Prop} (hs:Val cf G s v) (hq:bM v=some xs) (h0:I G) (hI:∀ G x,I G→I (G.set k (.v x))) (hc:∀ G x,I G→x∈xs→Val cf (G.set k (.v x)) c (.bool (!p x))) (hy:∀ G,Val cf G e y) (hn:noX y=true)
  (hT:xs.all p=true→∀ G,I G→exs sup cf r G K) (hF:xs.all p=false→∀ G,I G→K (some y) G):exs sup cf (.mk (.forS k) [s] [.mk .ite [c] [.mk .ret [e] [] []] []] [] :: r) G K:=by
 refine tP (P:=fun l G=>I G∧(∀ x∈l,x∈xs)∧l.all p=xs.all p) hs hq ⟨h0,fun _ m=>m,rfl⟩ (fun G ⟨i,_,e⟩=>hT e.symm G i) fun x l G Kt ⟨i,m,e⟩ nx rt=>?_
 have e:(p x&&l.all p)=xs.all p:=e
 refine bz (hc G x i (m x (.head _))) (fun q=>ai (hy _) (rt _ _ hn (hF ?_ _ (hI G x i))) hn) fun q=>iR (nx _ ⟨hI G x i,fun y z=>m y (.tail _ z),?_⟩)
 ·rw [← e,dU q]; rfl
 ·rw [← e,bS q]; rfl
theorem p16 (cf:ad):S16 (step cf):=fun w K hw h=>by
 refine run (fn:=f16) rfl rfl rfl ?_
 have hl:Val cf [.v (text w),.unset] (.nd .len [vv 0]) (.int w.length):=aa (.one ix) (iD hw)
 refine bz (au (gT (lt:=false) ix hl ix)) (fun q=>ai l8 ?_) fun q=>?_
 ·have q:=dU q
  have:dv w = -1:=by
   unfold dv
   split
   ·exact nomatch q
   ·exact nomatch q
   ·rfl
  rw [this] at h; exact h
 ·have q:=zA2 (bS q)
  have q1:=of_decide_eq_true q.1
  have q2:(w.length:Int)≤2:=of_decide_eq_true q.2
  have hch:∀ G x,(∃ t,G=[.v (text w),t])→x∈br w→Val cf (G.set 1 (.v x)) (.nd (.cmp .NotIn) [vv 1,ss ⟨#[48,49,50,51,52,53,54,55,56,57]⟩]) (.bool (!((lX x).all bf))):=fun G x ⟨t,e⟩ m=>by
   obtain ⟨c,_,rfl⟩:=zA7 m
   subst e
   refine ac ix ix ?_
   refine (?_:some (!([48,49,50,51,52,53,54,55,56,57]:List Nat).elem c)=some (!([c].all bf)))
   rw [figs_in,List.all_cons,List.all_nil,Bool.and_true]
  have hall:(br w).all (fun x=>(lX x).all bf)=w.all bf:=by
   unfold br
   rw [List.all_map]
   exact List.all_congr rfl fun c=>by refine (?_:[c].all bf=bf c); rw [List.all_cons,List.all_nil,Bool.and_true]
  refine vC (p:=fun x=>(lX x).all bf) (I:=fun G=>∃ t,G=[.v (text w),t]) ix (om hw) ⟨_,rfl⟩ (fun G x ⟨t,e⟩=>⟨.v x,e▸rfl⟩) hch (fun _=>l8) rfl (fun q G ⟨t,e⟩=>?_) fun q G _=>?_
  ·subst e
   rw [hall] at q
   have e:nA (text w)=some (.int (dv w)):=by
    match w,q1,q2,q with
    | [a],_,_,q=>
     have q:(bf a&&true)=true:=q
     rw [Bool.and_true] at q
     exact (if_pos q).trans (congrArg (fun x=>some (PyData.int x)) (if_pos q).symm)
    | [a,b],_,_,q=>
     have q:=zA2 q
     have q':bf a=true∧bf b=true:=⟨q.1,by have:=q.2; rw [List.all_cons,List.all_nil,Bool.and_true] at this; exact this⟩
     exact (if_pos q').trans (congrArg (fun x=>some (PyData.int x)) (if_pos q').symm)
    | [],q1,_,_=>exact absurd q1 (by decide)
    | a :: b :: c :: r,_,q2,_=>rw [zB4,zB4,zB4] at q2; lia
   exact ai (aa (.one ix) e) h
  ·rw [hall] at q
   have:dv w = -1:=by
    match w,q with
    | [],_=>rfl
    | [a],q=>exact if_neg fun z=>by rw [List.all_cons,z] at q; exact nomatch q
    | [a,b],q=>exact if_neg fun z=>by rw [List.all_cons,List.all_cons,z.1,z.2] at q; exact nomatch q
    | a :: b :: c :: r,_=>rfl
   rw [this] at h; exact h
noncomputable def cy (w:List Nat):V:=if 0≤dv w then .int (dv w) else text w
noncomputable def S17 (cf:ad):Prop:=∀ (w:List Nat) K,w.length≤5000→K (cy w)→cf 17 [text w] K
theorem p17 (cf:ad) (h16:S16 cf):S17 (step cf):=fun w K hw h=>by
 refine run (fn:=f17) rfl rfl rfl ?_
 have hn:Val cf [.v (text w)] (.nd (.call 16) [vv 0]) (.int (dv w)):=ak (.one ix) fun K h=>h16 w K hw h
 refine bz (t:=decide (0≤dv w)) (ac hn ix rfl) (fun q=>ai hn ?_) fun q=>ai (v:=text w) ix ?_
 ·unfold cy at h; rw [if_pos (of_decide_eq_true q)] at h; exact h
 ·unfold cy at h; rw [if_neg (of_decide_eq_false q)] at h; exact h
theorem meths (cf:ad):MethOk (step cf):=⟨fun _ _ _ _ _ _ h h'=>p9 h h',fun _ _ _ _ _ _ h=>p10 h,fun _ _ _ _ _ _ h h'=>p11 h h',fun _ _ _ _ _ _ h h'=>p12 h h',fun _ _ _ _ _ _ h h'=>p13 h h'⟩
theorem oi:∀ ws:List (List Nat),dR (ws.map text)=some ws
 | []=>rfl
 | w :: r=>by unfold dR; rw [List.map_cons,List.mapM_cons]; refine (?_:(dR (r.map text)).bind _=_); rw [oi r]; rfl
theorem eW {ws:List (List Nat)} {n s:Nat} (h:∀ w∈ws,w.length≤n):(ws.map List.length).sum+ws.length * s≤ws.length * (n+s):=by
 induction ws with
 | nil=>exact zB2 (by simp)
 | cons w r ih=>
  have h1:=h w (.head _)
  have h2:=ih fun w m=>h w (.tail _ m)
  rw [List.map_cons,List.sum_cons,zB4,Nat.add_mul,Nat.add_mul,Nat.one_mul,Nat.one_mul]
  lia
theorem bK {cf:ad} {G:Gs} {a:E} {s:Str} {ws:List (List Nat)} (ha:Val cf G a (.list (ws.map text))) (hz:(ws.map List.length).sum+ws.length * s.cps.toList.length≤100000):Val cf G (.nd .join [ss s,a]) (text (aM s.cps.toList ws)):=fun K h=>by
 refine ⟨rfl,ha _ (aL (z:=text (aM s.cps.toList ws)) ?_ h)⟩
 refine (?_:(dR (ws.map text)).bind _=_)
 rw [oi]
 exact if_pos (zB1 hz (by decide))
noncomputable def cx (x:V):Prop:=(∃ w:List Nat,x=text w∧w.length≤10∧∀ c∈w,c < 128)∨∃ i:Int,In 100 i∧x=.int i
noncomputable def wd1 (x:V):List Nat:=match x with
 | .str s=>s.cps.toList
 | .int i=>nw i
 | _=>[]
theorem gb {i:Int} (h:In 100 i):(nw i).length≤2:=by
 have h1:=h.1
 have h2:=h.2
 exact (eY i.toNat (by exact (Int.toNat_lt h1).mpr (Int.lt_of_lt_of_le h2 (by decide)))).2.2.2
theorem gv {x:V} (h:cx x):(wd1 x).length≤10:=by
 rcases h with ⟨w,rfl,hl,_⟩ | ⟨i,hi,rfl⟩
 ·exact hl
 ·exact zB1 (gb hi) (by decide)
theorem yi {x:V} (h:cx x):opN .strOf [x]=some (text (wd1 x)):=by
 rcases h with ⟨w,rfl,_⟩ | ⟨i,hi,rfl⟩
 ·rfl
 ·exact if_pos hi
theorem wY {x:V} (h:cx x):aS .NotEq x (.str k0)=some (!(wd1 x).isEmpty):=by
 rcases h with ⟨w,rfl,_,hw⟩ | ⟨i,hi,rfl⟩
 ·exact gK (bt hw)
 ·have h1:=hi.1
  have h2:=hi.2
  have:(nw i).isEmpty=false:=by
   cases e:nw i with
   | nil=>exact absurd e (eD hi).1
   | cons=>rfl
  refine (?_:(if (da (.int i)&&da (.str k0))=true then some (PyData.eqv (.int i) (.str k0)) else none).map _=some (!(nw i).isEmpty))
  rw [this,okS wZ]; rfl
noncomputable def lZ (xs:List V):List (List Nat):=(xs.filter fun x=>!(wd1 x).isEmpty).map wd1
noncomputable def S14 (cf:ad):Prop:=∀ (xs:List V) K,xs.length≤60→(∀ x∈xs,cx x)→K (text (aM [32] (lZ xs)))→cf 14 [.list xs] K
theorem jt {α:Type} {p:α→Bool} {l:List α} {n:Nat} (h:l.length≤n):(l.filter p).length≤n:=zB1 (List.length_filter_le ..) h
theorem p14 (cf:ad):S14 (step cf):=fun xs K hl hp h=>by
 refine run (fn:=f14) rfl rfl rfl (ai ?_ h)
 have c:=ci (cf:=cf) (G:=[.v (.list xs),.unset,.unset]) (k:=1) (s:=vv 0) (e:=f14c0) (ts:=[.nd (.cmp .NotEq) [vv 1,ss k0]]) (x:=.list xs) (g:=fun x:V=>x) (p:=fun x=>!(wd1 x).isEmpty) (f:=fun x=>text (wd1 x)) (ws:=xs) ix (by rw [vZ]; exact bD (Nat.le_add_left_of_le hl)) (fun x m=>.one (ac ix ix (wY (hp x m)))) fun x m _=>aa (.one ix) (yi (hp x m))
 rw [show ((xs.filter fun x=>!(wd1 x).isEmpty).map fun x=>text (wd1 x))=(lZ xs).map text by unfold lZ; rw [List.map_map]; rfl] at c
 refine bK c ?_
 have hlen:(lZ xs).length≤60:=by unfold lZ; rw [zA4]; exact jt hl
 refine zB1 (eW (n:=10) fun w m=>?_) (zB1 (Nat.mul_le_mul_right _ hlen) (by decide))
 obtain ⟨x,mx,rfl⟩:=zA7 m
 exact gv (hp x (List.mem_filter.mp mx).1)
theorem dI {R i:Int} (h:In R i) (hR:R≤100):cx (.int i):=.inr ⟨i,h.up hR,rfl⟩
theorem iC {w:List Nat} (hl:w.length≤10) (h:∀ c∈w,c < 128):cx (text w):=.inl ⟨w,rfl,hl,h⟩
theorem qN {w:List Nat} (h:∀ c∈w,low c=true):∀ c∈w,c < 128:=fun c m=>by
 exact (by decide:∀ c∈abc.cps.toList,c < 128) c (List.elem_iff.mp (h c m))
theorem jS {xs:List V} {ws:List (List Nat)} (e:xs.map wd1=ws) (h:∀ w∈ws,w≠[]):lZ xs=ws:=by
 subst e
 unfold lZ
 rw [List.filter_eq_self.mpr fun x m=>?_]
 have:=h _ (List.mem_map.mpr ⟨x,m,rfl⟩)
 cases e:wd1 x with
 | nil=>exact absurd e this
 | cons=>rfl
theorem wV {h s:List Nat} (hh:h≠[]):lZ [text h,text s]=h :: tl s:=by
 cases h with
 | nil=>exact absurd rfl hh
 | cons a r=>cases s with
  | nil=>rfl
  | cons b q=>rfl
section
variable {s0 s1 s2:List Nat} {R:Int} {w:W} (sk:SgOk s0 s1 s2) (hR:R≤100) (ok:W.ok s0 s1 s2 R w)
include sk hR ok
theorem gI:∀ x∈w.l,cx x:=by
 have c1:∀ {c},low c=true→cx (text [c]):=fun h=>iC (by refine (?_:1≤10); decide) (qN fun x m=>by obtain rfl:=zA6 m; exact h)
 have no:∀ x∈([]:List V),cx x:=nofun
 have k1:cx (.str kOn):=iC (w:=kn kOn) (by decide) (by decide)
 have k2:cx (.str kOpen):=iC (w:=kn kOpen) (by decide) (by decide)
 have k3:cx (.str kClose):=iC (w:=kn kClose) (by decide) (by decide)
 cases w with
 | on a c b=>exact zA1 ⟨k1,zA1 ⟨dI ok.1 hR,zA1 ⟨c1 (sk.lowC ok.2.1),zA1 ⟨dI ok.2.2 hR,no⟩⟩⟩⟩
 | op a c b t=>exact zA1 ⟨k2,zA1 ⟨dI ok.1 hR,zA1 ⟨c1 (sk.lowA ok.2.1),zA1 ⟨dI ok.2.2.1 hR,zA1 ⟨dI ok.2.2.2 hR,no⟩⟩⟩⟩⟩
 | cl a b c t=>exact zA1 ⟨k3,zA1 ⟨dI ok.1 hR,zA1 ⟨dI ok.2.1 hR,zA1 ⟨c1 (sk.lowB ok.2.2.1),zA1 ⟨dI ok.2.2.2 hR,no⟩⟩⟩⟩⟩
omit sk hR ok in
theorem t8:w.l.map wd1=w.words:=by cases w <;> rfl
theorem AC:lZ w.l=w.words:=jS t8 fun x m=>(re sk hR ok x m).1
end
theorem mQ (w:W):w.l.length≤5:=by
 cases w with
 | on=>exact (by decide:4≤5)
 | op=>exact Nat.le_refl 5
 | cl=>exact Nat.le_refl 5
noncomputable def Ds.mach (D:Ds):V:=cO (sg D.s0 D.s1 D.s2) D.R D.st D.en (D.ws.map W.v)
noncomputable def Ds.parts (D:Ds):V:=dH (sg D.s0 D.s1 D.s2) D.R D.st D.en D.ws
theorem Ds.Ok.of_held {s0 s1 s2:List Nat} {R:Int} {st en st' en':List Int} {ws:List W} {r:List V} (g:ah s0 s1 s2 R st en ws) (h:Held st en (ws.map W.v) st' en' r):∃ ws':List W,Ds.Ok ⟨s0,s1,s2,R,st',en',ws'⟩∧r=ws'.map W.v∧ws'.length≤ws.length:=by
 have:∀ r:List V,(∀ y∈r,y∈ws.map W.v)→∃ ws':List W,r=ws'.map W.v∧∀ w∈ws',w∈ws:=fun r=>by
  induction r with
  | nil=>exact fun _=>⟨[],rfl,nofun⟩
  | cons y r ih=>
   intro q
   obtain ⟨w,mw,ew⟩:=zA7 (q y (.head _))
   obtain ⟨ws',e,h⟩:=ih fun y m=>q y (.tail _ m)
   exact ⟨w :: ws',by rw [List.map_cons,ew,e],zA1 ⟨mw,h⟩⟩
 obtain ⟨ws',rfl,hw⟩:=this r fun y m=>(h.mem y).mp m
 have hl:ws'.length≤ws.length:=by
  have q:=oI h.nd fun y m=>(h.mem y).mp m
  rw [zA4,zA4] at q; exact q
 have rm:∀ {a b:List Int},b.Perm a→RoomsOk R a→RoomsOk R b:=fun p k=>⟨p.length_eq▸k.len,p.nodup_iff.mpr k.nodup,fun i m=>k.rooms i (p.mem_iff.mp m)⟩
 refine ⟨ws',⟨⟨g.sk,g.r1,g.r2,rm h.p1 g.st,rm h.p2 g.en,zB1 hl g.len,fun w m=>g.ok w (hw w m),?_⟩,h.o1,h.o2,h.nd,h.up⟩,rfl,hl⟩
 refine g.few.imp (fun q=>?_) fun q x mx y my=>q x ((h.mem x).mp mx) y ((h.mem y).mp my)
 rw [zA4] at q ⊢; exact Nat.lt_of_le_of_lt hl q
section
variable {cf:ad} {G G':Gs} {k:Nat} {es:List E} {vs:List V} {s:E} {ks:List Nat} {body r:List S} {v x:V} {l:List V} {K:Option V→Gs→Prop}
theorem yU (hv:gP cf G es vs) (hz:vs.length≤5000) (n:exs sup cf r (G.set k (.ownL vs)) K):exs sup cf (.mk (.ownL k) es [] [] :: r) G K:=by
 refine (?_:bY (es.map (ev cf)) G _)
 rw [jw]
 exact hv _ ⟨bn hz,n⟩
theorem sE {α:Type} {X:List S} {b:Gs→V→Option Gs} {e:E} {g f:α→V} {ws:List α} {I:List V→Gs→Prop} (turn:∀ l G w,I l G→w∈ws→∃ G',b G (g w)=some G'∧eF G' k=some l∧Val cf G' e (f w)∧I (l++[f w]) (G'.set k (.ownL (l++[f w])))) (l0:List V) (hz:l0.length+ws.length≤5000) (h0:I l0 G)
  (lp:∀ (P:List V→Gs→Prop),P (ws.map g) G→(∀ G,P [] G→exs sup cf r G K)→(∀ x l G Kt,P (x :: l) G→(∀ G',P l G'→Kt none G')→okK (b G x) fun G'=>exs sup cf [.mk (.append k) [e] [] []] G' Kt)→exs sup cf X G K)
  (done:∀ G,I (l0++ws.map f) G→exs sup cf r G K):exs sup cf X G K:=by
 refine lp (fun l G=>∃ ws1 ws2,ws=ws1++ws2∧l=ws2.map g∧I (l0++ws1.map f) G) ⟨[],ws,rfl,rfl,by rw [List.map_nil,List.append_nil]; exact h0⟩ (fun G ⟨ws1,ws2,e1,e2,h⟩=>?_) fun x l G Kt ⟨ws1,ws2,e1,e2,h⟩ nx=>?_
 ·have:ws2=[]:=List.map_eq_nil_iff.mp e2.symm
  subst this
  rw [List.append_nil] at e1
  exact done G (e1.symm▸h)
 ·cases ws2 with
  | nil=>exact nomatch e2
  | cons w ws2=>
   obtain ⟨rfl,rfl⟩:=zA5 e2
   obtain ⟨G',q1,q2,q4,q5⟩:=turn _ G w h (e1▸List.mem_append_right _ (.head _))
   have q3:(l0++ws1.map f).length < 5000:=by
    rw [e1,zB5,zB4] at hz
    rw [zB5,zA4]; lia
   refine aL q1 (dG q2 q4 (Nat.lt_of_lt_of_le q3 (by decide)) (iR (nx _ ⟨ws1++[w],ws2,by rw [e1,List.append_assoc]; rfl,rfl,?_⟩)))
   rw [List.map_append,← List.append_assoc]
   exact q5
theorem ud {α:Type} {e:E} {j:Nat} {g f:α→V} {ws:List α} {I:List V→Gs→Prop} (hs:Val cf G s v) (hq:bM v=some (ws.map g)) (l0:List V) (hz:l0.length+ws.length≤5000) (h0:I l0 G) (turn:∀ l G w,I l G→w∈ws→∃ G',some (G.set j (.v (g w)))=some G'∧eF G' k=some l∧Val cf G' e (f w)∧I (l++[f w]) (G'.set k (.ownL (l++[f w]))))
  (done:∀ G,I (l0++ws.map f) G→exs sup cf r G K):exs sup cf (.mk (.forS j) [s] [.mk (.append k) [e] [] []] [] :: r) G K:=
 sE (b:=iB j) turn l0 hz h0 (fun P p0 pd pt=>tP hs hq p0 pd fun x l G Kt h nx _=>pt x l G Kt h nx) done
theorem kL {α:Type} {e:E} {g f:α→V} {ws:List α} {I:List V→Gs→Prop} (hs:Val cf G s v) (hq:bM v=some (ws.map g)) (l0:List V) (hz:l0.length+ws.length≤5000) (h0:I l0 G) (turn:∀ l G w,I l G→w∈ws→∃ G',cj ks G (g w)=some G'∧eF G' k=some l∧Val cf G' e (f w)∧I (l++[f w]) (G'.set k (.ownL (l++[f w]))))
  (done:∀ G,I (l0++ws.map f) G→exs sup cf r G K):exs sup cf (.mk (.forM ks) [s] [.mk (.append k) [e] [] []] [] :: r) G K:=
 sE turn l0 hz h0 (fun P p0 pd pt=>qy hs hq p0 pd fun x l G Kt h nx _=>pt x l G Kt h nx) done
end
noncomputable def six (D:Ds):List (List (List Nat)):=[hd0 :: tl D.s0,hd1 :: tl D.s1,hd2 :: tl D.s2,[hd3,nw D.R],hd4 :: D.st.map nw,hd5 :: D.en.map nw]
noncomputable def rT (ws:List (List Nat)):V:=text (aM [32] ws)
theorem rM (D:Ds):(six D).map rT++D.ws.map (fun w=>rT w.words)=D.rows.map text:=by
 unfold Ds.rows
 rw [List.map_map]
 refine (?_:_=((six D)++D.ws.map W.words).map (text ∘ aM [32]))
 rw [List.map_append,List.map_map]; rfl
theorem mt:∀ h∈[hd0,hd1,hd2,hd3,hd4,hd5],cx (text h):=fun h m=>iC ((by decide:∀ h∈[hd0,hd1,hd2,hd3,hd4,hd5],h.length≤10) h m) ((by decide:∀ h∈[hd0,hd1,hd2,hd3,hd4,hd5],∀ c∈h,c < 128) h m)
theorem Ds.Ok.rowlen {D:Ds} (ok:D.Ok):∀ r∈D.rows,r.length≤1000:=fun r m=>by
 obtain ⟨ws,mw,rfl⟩:=zA7 m
 have key:∀ {ws:List (List Nat)},ws.length≤50→(∀ w∈ws,w.length≤10)→(aM [32] ws).length≤1000:=fun {ws} h1 h2=>by
  have q:=eW (s:=1) h2
  have:∀ ws:List (List Nat),(aM [32] ws).length≤(ws.map List.length).sum+ws.length * 1:=fun ws=>by
   induction ws with
   | nil=>exact Nat.zero_le _
   | cons a r ih=>
    cases r with
    | nil=>refine (?_:a.length≤_); rw [List.map_cons,List.sum_cons]; exact Nat.le_add_right_of_le (Nat.le_add_right _ _)
    | cons b r=>
     rw [joinL_cons,zB5,zB5,List.map_cons,List.sum_cons,List.length_cons (as:=b :: r),Nat.add_mul]
     refine (?_:a.length+1+_≤_)
     lia
  have z:=this ws
  exact zB1 z (zB1 q (zB1 (Nat.mul_le_mul_right _ h1) (by decide)))
 have sk:=ok.g.sk
 have r1:=ok.g.r1
 have r2:=ok.g.r2
 have tll:∀ {h s:List Nat},h.length≤10→s.length≤4→(h :: tl s).length≤50∧∀ w∈h :: tl s,w.length≤10:=fun {h s} h1 h2=>by
  cases s with
  | nil=>exact ⟨by refine (?_:1≤50); decide,zA1 ⟨h1,nofun⟩⟩
  | cons=>exact ⟨by refine (?_:2≤50); decide,zA1 ⟨h1,zA1 ⟨by exact Nat.le_add_left_of_le h2,nofun⟩⟩⟩
 have rml:∀ {h:List Nat} {is:List Int},h.length≤10→RoomsOk D.R is→(h :: is.map nw).length≤50∧∀ w∈h :: is.map nw,w.length≤10:=fun {h is} h1 k=>by
  have:=k.len
  refine ⟨by exact zB1 (Nat.add_le_add (zB1 (zB2 (List.length_map _)) k.len) (Nat.le_refl _)) (by decide),zA1 ⟨h1,fun w m=>?_⟩⟩
  obtain ⟨i,mi,rfl⟩:=zA7 m
  exact zB1 (gb ((k.rooms i mi).up (by exact Int.le_trans r2 (by decide)))) (by decide)
 have go:ws.length≤50∧∀ w∈ws,w.length≤10:=by
  revert ws
  refine zA1 ⟨fun _=>tll (by decide) sk.la,zA1 ⟨fun _=>tll (by decide) sk.lb,zA1 ⟨fun _=>tll (by decide) sk.lc,zA1 ⟨fun _=>⟨by refine (?_:2≤50); decide,zA1 ⟨by decide,zA1 ⟨zB1 (gb ⟨by exact Int.le_trans (by decide) r1,by exact Int.lt_of_le_of_lt r2 (by decide)⟩) (by decide),nofun⟩⟩⟩,zA1 ⟨fun _=>rml (by decide) ok.g.st,zA1 ⟨fun _=>rml (by decide) ok.g.en,fun ws mw _=>?_⟩⟩⟩⟩⟩⟩
  obtain ⟨w,m',rfl⟩:=zA7 mw
  rw [← t8]
  refine ⟨by rw [zA4]; exact zB1 (mQ w) (by decide),fun x mx=>?_⟩
  obtain ⟨y,my,rfl⟩:=zA7 mx
  exact gv (gI sk (by exact Int.le_trans r2 (by decide)) (ok.g.ok w m') y my)
 exact key go.1 go.2
theorem ot {D:Ds} (ok:D.Ok) (hl:D.ws.length≤63):(D.rows.map List.length).sum+D.rows.length * 1≤100000:=by
 refine zB1 (eW ok.rowlen) ?_
 have:D.rows.length=6+D.ws.length:=by
  unfold Ds.rows Ds.words
  rw [zA4]
  simp only [zB4,zA4]
  lia
 rw [this]
 refine zB1 (Nat.mul_le_mul_right _ (Nat.add_le_add_left hl 6:6+D.ws.length≤69)) (by decide)
theorem aJ {α:Type} {l:List α} {f:α→V} (h:l.length≤5000):bM (.list (l.map f))=some (l.map f):=bD (by rw [zA4]; exact h)
theorem gc {a b:List V} (h:(a++b).length≤5000):opN (.bin .Add) [.list a,.list b]=some (.list (a++b)):=if_pos (bn h)
theorem xg {l:List V} (h:l.length≤5000):opN .listOf [.tuple l]=some (.list l):=by
 refine (?_:(bO l l).map _=_)
 rw [show bO l l=some l from if_pos (bn h)]; rfl
theorem qL {l:List V} (h:l.length≤5000):opN .list l=some (.list l):=if_pos (bn h)
theorem kQ {cf:ad} {G:Gs} {a b:E} {x y:V} (ha:Val cf G a x) (hb:Val cf G b y):Val cf G (.nd .list [a,b]) (.list [x,y]):=aa (.two ha hb) (qL (by refine (?_:2≤5000); decide))
theorem zb {h:List Nat} (hh:h≠[]) {is:List Int} {R:Int} (k:RoomsOk R is) (hR:R≤100):lZ (text h :: is.map .int)=h :: is.map nw:=jS (by rw [List.map_cons,List.map_map]; rfl) (zA1 ⟨hh,fun w m=>by
 obtain ⟨i,mi,rfl⟩:=zA7 m
 exact (eD ((k.rooms i mi).up hR)).1⟩)
theorem bE {sv:V} {R:Int} {st en:List Int} {r:List V}:nz (cO sv R st en r)=true:=rfl
noncomputable def S15 (cf:ad):Prop:=∀ (D:Ds) K,D.Ok→D.ws.length≤63→K (text D.text)→cf 15 [D.mach] K
theorem p15 (cf:ad) (hm:MethOk cf) (h14:S14 cf):S15 (step cf):=fun D K ok hl h=>by
 have sk:=ok.g.sk
 have r1:=ok.g.r1
 have r2:=ok.g.r2
 have l1:=ok.g.st.len
 have l2:=ok.g.en.len
 have hR:D.R≤100:=by exact Int.le_trans r2 (by decide)
 refine run (fn:=f15) rfl rfl rfl ?_
 refine kM (G':=[.v D.mach,.v (text D.s0),.v (text D.s1),.v (text D.s2),.unset,.unset]) (bC (v:=sg D.s0 D.s1 D.s2) ix bE fun K h=>hm.m9 _ _ _ _ _ K rfl h) rfl ?_
 have hrow:∀ {G:Gs} {h s:List Nat} {a b:E},h∈[hd0,hd1,hd2,hd3,hd4,hd5]→s.length≤4→(∀ c∈s,low c=true)→Val cf G a (text h)→Val cf G b (text s)→Val cf G (.nd (.call 14) [.nd .list [a,b]]) (rT (h :: tl s)):=fun {G h s a b} hh hs hls ha hb=>ak (.one (kQ ha hb)) fun K k=>h14 _ K (by refine (?_:2≤60); decide) (zA1 ⟨mt _ hh,zA1 ⟨iC (Nat.le_add_left_of_le hs) (qN hls),nofun⟩⟩) (by rw [wV (pY _ hh).1]; exact k)
 refine yU (vs:=[rT (hd0 :: tl D.s0),rT (hd1 :: tl D.s1),rT (hd2 :: tl D.s2)]) (.cons (hrow (by decide) sk.la (fun _=>sk.lowA) ix ix) (.two (hrow (by decide) sk.lb (fun _=>sk.lowB) ix ix) (hrow (by decide) sk.lc (fun _=>sk.lowC) ix ix))) (by refine (?_:3≤5000); decide) ?_
 have z:∀ n,n≤10→n < az:=fun n q=>Nat.lt_of_le_of_lt q (by decide)
 refine dG (l:=[_,_,_]) rfl (v:=rT [hd3,nw D.R]) (ak (.one (kQ (x:=text hd3) (y:=.int D.R) ix (bC ix bE fun K h=>hm.m10 _ _ _ _ _ K h))) fun K k=>h14 _ K (by refine (?_:2≤60); decide) (zA1 ⟨mt _ (by decide),zA1 ⟨dI (R:=100) ⟨by exact Int.le_trans (by decide) r1,by exact Int.lt_of_le_of_lt r2 (by decide)⟩ (Int.le_refl _),nofun⟩⟩) (by rw [jS (ws:=[hd3,nw D.R]) rfl (zA1 ⟨nofun,zA1 ⟨(eD ⟨by exact Int.le_trans (by decide) r1,by exact Int.lt_of_le_of_lt r2 (by decide)⟩).1,nofun⟩⟩)]; exact k)) (z 3 (by decide)) ?_
 have hrm:∀ {G:Gs} {h:List Nat} {is:List Int} {a b:E},h∈[hd0,hd1,hd2,hd3,hd4,hd5]→RoomsOk D.R is→Val cf G a (text h)→Val cf G b (ae is)→Val cf G (.nd (.call 14) [.nd (.bin .Add) [.nd .list [a],b]]) (rT (h :: is.map nw)):=fun {G h is a b} hh k ha hb=>ak (.one (aa (.two (aa (.one ha) (qL (by refine (?_:1≤5000); decide))) hb) (gc (a:=[text h]) (b:=is.map .int) (by have:=k.len; rw [zB5,zA4]; refine (?_:1+_≤5000); exact zB1 (Nat.add_le_add (Nat.le_refl _) k.len) (by decide))))) fun K kk=>h14 _ K (by have:=k.len; refine (?_:(text h :: is.map PyData.int).length≤60); rw [zB4,zA4]; exact Nat.add_le_add_right (zB1 k.len (by decide)) 1) (zA1 ⟨mt _ hh,fun x m=>by
  obtain ⟨i,mi,rfl⟩:=zA7 m
  exact dI (k.rooms i mi) hR⟩) (by refine (?_:K (text (aM [32] (lZ (text h :: is.map PyData.int))))); rw [zb (pY _ hh).1 k hR]; exact kk)
 refine dG (l:=[_,_,_,_]) rfl (v:=rT (hd4 :: D.st.map nw)) (hrm (by decide) ok.g.st ix (bC ix bE fun K h=>hm.m11 _ _ _ _ _ K (Nat.le_add_left_of_le l1) h)) (z 4 (by decide)) ?_
 refine dG (l:=[_,_,_,_,_]) rfl (v:=rT (hd5 :: D.en.map nw)) (hrm (by decide) ok.g.en ix (bC ix bE fun K h=>hm.m12 _ _ _ _ _ K (Nat.le_add_left_of_le l2) h)) (z 5 (by decide)) ?_
 refine ud (k:=4) (j:=5) (g:=W.v) (f:=fun w=>rT w.words) (ws:=D.ws) (I:=fun l G=>∃ t,G=[.v D.mach,.v (text D.s0),.v (text D.s1),.v (text D.s2),.ownL l,t]) (v:=.list (D.ws.map W.v)) (bC ix bE fun K h=>hm.m13 _ _ _ _ _ K (by exact zB1 (zB2 (List.length_map _)) (zB1 ok.g.len (by decide))) h) (aJ (Nat.le_add_left_of_le hl)) ((six D).map rT) (by refine (?_:6+_≤5000); exact zB1 (Nat.add_le_add (Nat.le_refl _) hl) (by decide)) ⟨_,rfl⟩ (fun l G w ⟨t,e⟩ mw=>?_) fun G ⟨t,e⟩=>?_
 ·subst e
  refine ⟨_,rfl,rfl,?_,_,rfl⟩
  refine ak (.one (aa (.one ix) (xg (by exact zB1 (mQ w) (by decide))))) fun K k=>h14 _ K (by exact zB1 (mQ w) (by decide)) (gI sk hR (ok.g.ok w mw)) (by rw [AC sk hR (ok.g.ok w mw)]; exact k)
 ·subst e
  refine jO (l:=(six D).map rT++D.ws.map fun w=>rT w.words) rfl (ai ?_ h)
  have q:=bK (cf:=cf) (G:=[.v D.mach,.v (text D.s0),.v (text D.s1),.v (text D.s2),.v (.list (D.rows.map text)),t]) (a:=vv 4) (s:=⟨#[10]⟩) (ws:=D.rows) ix (ot ok hl)
  rw [rM]
  exact q
noncomputable def S27 (cf:ad):Prop:=∀ s0 s1 s2 R st en ws K,ah s0 s1 s2 R st en ws→(∀ st' en' r,Held st en (ws.map W.v) st' en' r→K (cO (sg s0 s1 s2) R st' en' r))→cf 27 [dH (sg s0 s1 s2) R st en ws] K
theorem l9 {l:List V} (h:l.length≤5000):opN .listOf [.list l]=some (.list l):=by
 refine (?_:(bO l l).map _=_)
 rw [show bO l l=some l from if_pos (bn h)]; rfl
theorem p27 (cf:ad) (h8:S8 cf):S27 (step cf):=fun s0 s1 s2 R st en ws K g h=>by
 have l1:=g.st.len
 have l2:=g.en.len
 have l3:=g.len
 refine run (fn:=f27) rfl rfl rfl ?_
 have hv:gP cf [.v (dH (sg s0 s1 s2) R st en ws)] [.nd .sub [vv 0,ii 0],.nd .sub [vv 0,ii 1],.nd .listOf [.nd .sub [vv 0,ii 2]],.nd .listOf [.nd .sub [vv 0,ii 3]],.nd .listOf [.nd .sub [vv 0,ii 4]]] [sg s0 s1 s2,.int R,ae st,ae en,bP ws]:=
  .cons ix (.cons ix (.cons (aa (.one ix) (l9 (by exact zB1 (zB2 (List.length_map _)) (zB1 g.st.len (by decide))))) (.two (aa (.one ix) (l9 (by exact zB1 (zB2 (List.length_map _)) (zB1 g.en.len (by decide))))) (aa (.one ix) (l9 (by exact zB1 (zB2 (List.length_map _)) (zB1 g.len (by decide))))))))
 exact hv (fun xs=>cf 8 xs fun y=>noX y=true∧noX y=true∧K y) (h8 s0 s1 s2 R st en ws _ g fun st' en' r hd=>⟨rfl,rfl,h st' en' r hd⟩)
noncomputable def S28 (cf:ad):Prop:=∀ (D:Ds) K,D.Ok→K D.parts→cf 28 [D.mach] K
theorem p28 (cf:ad) (hm:MethOk cf):S28 (step cf):=fun D K ok h=>by
 have l1:=ok.g.st.len
 have l2:=ok.g.en.len
 have l3:=ok.g.len
 refine run (fn:=f28) rfl rfl rfl (ai (v:=D.parts) (aa (vs:=[sg D.s0 D.s1 D.s2,.int D.R,ae D.st,ae D.en,bP D.ws]) (.cons (bC ix bE fun K h=>hm.m9 _ _ _ _ _ K rfl h) (.cons (bC ix bE fun K h=>hm.m10 _ _ _ _ _ K h) (.cons (bC ix bE fun K h=>hm.m11 _ _ _ _ _ K (Nat.le_add_left_of_le l1) h) (.two (bC ix bE fun K h=>hm.m12 _ _ _ _ _ K (Nat.le_add_left_of_le l2) h) (bC ix bE fun K h=>hm.m13 _ _ _ _ _ K (by exact zB1 (zB2 (List.length_map _)) (zB1 ok.g.len (by decide))) h))))) ?_) h)
 rfl
theorem fF {a b:List Nat} (h:(a++b).length≤5000):opN (.bin .Add) [text a,text b]=some (text (a++b)):=qM (a:=⟨a.toArray⟩) (b:=⟨b.toArray⟩) h
theorem qK {i:Int} (h:In 100 i):opN .strOf [.int i]=some (text (nw i)):=if_pos h
theorem yh {a b l:List V} (ha:a.length≤5000) (hb:b.length≤5000) (e:pn a b=l):opN .zip [.tuple a,.tuple b]=some (.list l):=by
 refine (?_:(bO a a).bind _=_)
 rw [show bO a a=some a from if_pos (bn ha)]
 refine (?_:(bO b b).map _=_)
 rw [show bO b b=some b from if_pos (bn hb),← e]; rfl
theorem uh {cf:ad} {G:Gs} {k:Nat} {a:E} {is:List Int} (ha:Val cf G a (ae is)) (hk:∀ x,Val cf (G.set k (.v x)) (vv k) x) (hi:∀ i∈is,In 100 i) (hz:is.length≤40):Val cf G (.nd (.comp k) [a,.nd .strOf [vv k]]) (.list ((is.map nw).map text)):=by
 have q:=aG (cf:=cf) (G:=G) (k:=k) (s:=a) (e:=.nd .strOf [vv k]) (g:=PyData.int) (f:=fun i=>text (nw i)) (ws:=is) ha (aJ (Nat.le_add_left_of_le hz)) fun i m=>aa (.one (hk _)) (qK (hi i m))
 rw [List.map_map]; exact q
noncomputable def S29 (cf:ad):Prop:=∀ (D:Ds) K,D.Ok→D.ws.length≤63→K (text D.text)→cf 29 [D.parts] K
theorem p29 (cf:ad):S29 (step cf):=fun D K ok hl h=>by
 have sk:=ok.g.sk
 have r1:=ok.g.r1
 have r2:=ok.g.r2
 have l1:=ok.g.st.len
 have l2:=ok.g.en.len
 have hR:D.R≤100:=by exact Int.le_trans r2 (by decide)
 refine run (fn:=f29) rfl rfl rfl (vA ?_)
 -- the signs
 refine kL (k:=1) (ks:=[2,3]) (g:=fun p:List Nat×List Nat=>.tuple [text p.1,text p.2]) (f:=fun p=>rT (p.1 :: tl p.2)) (ws:=[(hd0,D.s0),(hd1,D.s1),(hd2,D.s2)]) (I:=fun l G=>∃ t u,G=[.v D.parts,.ownL l,t,u,.unset,.unset,.unset,.unset,.unset])
  (v:=.list [.tuple [text hd0,text D.s0],.tuple [text hd1,text D.s1],.tuple [text hd2,text D.s2]]) (aa (.two (x:=.tuple [text hd0,text hd1,text hd2]) (y:=sg D.s0 D.s1 D.s2) ix ix) (yh (by refine (?_:3≤5000); decide) (by refine (?_:3≤5000); decide) rfl)) (bD (by refine (?_:3≤5000); decide)) [] (by refine (?_:0+3≤5000); decide) ⟨_,_,rfl⟩ (fun l G p ⟨t,u,e⟩ mp=>?_) fun G ⟨t,u,e⟩=>?_
 ·subst e
  refine ⟨_,rfl,rfl,?_,_,_,rfl⟩
  have hp:p.1.length≤10∧p.2.length≤4∧∀ c∈p.2,low c=true:=by
   rcases List.mem_cons.mp mp with rfl | mp
   ·exact ⟨by refine (?_:hd0.length≤10); decide,sk.la,fun _=>sk.lowA⟩
   rcases List.mem_cons.mp mp with rfl | mp
   ·exact ⟨by refine (?_:hd1.length≤10); decide,sk.lb,fun _=>sk.lowB⟩
   ·obtain rfl:=zA6 mp
    exact ⟨by refine (?_:hd2.length≤10); decide,sk.lc,fun _=>sk.lowC⟩
  obtain ⟨a,s⟩:=p
  have hp:a.length≤10∧s.length≤4∧∀ c∈s,low c=true:=hp
  refine (?_:Val cf [.v D.parts,.ownL l,.v (text a),.v (text s),.unset,.unset,.unset,.unset,.unset] _ (rT (a :: tl s)))
  have hi:Val cf [.v D.parts,.ownL l,.v (text a),.v (text s),.unset,.unset,.unset,.unset,.unset] (.nd .intOf [.nd (.cmp .NotEq) [vv 3,ss k0]]) (.int (if s.isEmpty=true then 0 else 1)):=aa (.one (ac ix ix (gK (bt (qN hp.2.2))))) (by cases s <;> rfl)
  cases s with
  | nil=>
   refine aa (.two (x:=text a) (y:=text []) (aa (.two (x:=text a) (y:=text []) ix (aa (.two ix hi) rfl)) ((fF (by rw [List.append_nil]; exact zB1 hp.1 (by decide))).trans (by rw [List.append_nil]))) ix) ?_
   rw [fF (by rw [List.append_nil]; exact zB1 hp.1 (by decide)),List.append_nil]; rfl
  | cons c s=>
   refine aa (.two (x:=text (a++[32])) (y:=text (c :: s)) (aa (.two (x:=text a) (y:=text [32]) ix (aa (.two ix hi) rfl)) (fF (by exact zB1 (zB2 zB5) (zB1 (Nat.add_le_add hp.1 (Nat.le_refl _)) (by decide))))) ix) ?_
   exact fF (by rw [zB5,zB5]; have:=hp.2.1; refine (?_:_+1+_≤5000); exact zB1 (Nat.add_le_add (Nat.add_le_add hp.1 (Nat.le_refl _)) hp.2.1) (by decide))
 subst e
 -- the rooms
 refine dG (l:=[_,_,_]) rfl (v:=rT [hd3,nw D.R]) (aa (.two (x:=text [114,111,111,109,115,32]) (y:=text (nw D.R)) ix (aa (.one (v:=.int D.R) ix) (qK ⟨by exact Int.le_trans (by decide) r1,by exact Int.lt_of_le_of_lt r2 (by decide)⟩))) (fF (by have:=gb (i:=D.R) ⟨by exact Int.le_trans (by decide) r1,by exact Int.lt_of_le_of_lt r2 (by decide)⟩; rw [zB5]; refine (?_:6+_≤5000); exact zB1 (Nat.add_le_add (Nat.le_refl _) this) (by decide)))) (by refine (?_:3 < az); decide) ?_
 -- starts and ends
 refine kL (k:=1) (ks:=[2,4]) (g:=fun p:List Nat×List Int=>.tuple [text p.1,ae p.2]) (f:=fun p=>rT (p.1 :: p.2.map nw)) (ws:=[(hd4,D.st),(hd5,D.en)]) (I:=fun l G=>∃ t u x,G=[.v D.parts,.ownL l,t,u,x,.unset,.unset,.unset,.unset])
  (v:=.list [.tuple [text hd4,ae D.st],.tuple [text hd5,ae D.en]]) (aa (.two (x:=.tuple [text hd4,text hd5]) (y:=.tuple [ae D.st,ae D.en]) ix ix) (yh (by refine (?_:2≤5000); decide) (by refine (?_:2≤5000); decide) rfl)) (bD (by refine (?_:2≤5000); decide)) [rT (hd0 :: tl D.s0),rT (hd1 :: tl D.s1),rT (hd2 :: tl D.s2),rT [hd3,nw D.R]] (by refine (?_:4+2≤5000); decide) ⟨_,_,_,rfl⟩ (fun l G p ⟨t,u,x,e⟩ mp=>?_) fun G ⟨t,u,x,e⟩=>?_
 ·subst e
  refine ⟨_,rfl,rfl,?_,_,_,_,rfl⟩
  have hp:p.1.length≤10∧RoomsOk D.R p.2:=by
   rcases List.mem_cons.mp mp with rfl | mp
   ·exact ⟨by refine (?_:hd4.length≤10); decide,ok.g.st⟩
   ·obtain rfl:=zA6 mp
    exact ⟨by refine (?_:hd5.length≤10); decide,ok.g.en⟩
  obtain ⟨a,is⟩:=p
  have hp:a.length≤10∧RoomsOk D.R is:=hp
  have hl:=hp.2.len
  refine (?_:Val cf [.v D.parts,.ownL l,.v (text a),u,.v (ae is),.unset,.unset,.unset,.unset] _ (rT (a :: is.map nw)))
  refine bK (s:=⟨#[32]⟩) (ws:=a :: is.map nw) ?_ ?_
  ·exact aa (.two (x:=.list [text a]) (aa (.one ix) (qL (by refine (?_:1≤5000); decide))) (uh (k:=5) ix (fun x _ h=>h) (fun i m=>(hp.2.rooms i m).up hR) hl)) (gc (by rw [zB5,zA4,zA4]; refine (?_:1+_≤5000); exact zB1 (Nat.add_le_add (Nat.le_refl _) hp.2.len) (by decide)))
  ·refine zB1 (eW (n:=10) (zA1 ⟨hp.1,fun w m=>?_⟩)) (zB1 (Nat.mul_le_mul_right _ (by exact Nat.add_le_add_right (zB1 (zB2 (List.length_map _)) hp.2.len) 1:(a :: is.map nw).length≤41)) (by decide))
   obtain ⟨i,mi,rfl⟩:=zA7 m
   exact zB1 (gb ((hp.2.rooms i mi).up hR)) (by decide)
 subst e
 refine jO (l:=(six D).map rT) rfl (ai ?_ h)
 have wy:Val cf [.v D.parts,.v (.list ((six D).map rT)),t,u,x,.unset,.unset,.unset,.unset] (.nd (.comp 5) [.nd .sub [vv 0,ii 4],wv]) (.list (D.ws.map fun w=>rT w.words)):=by
  refine aG (g:=W.v) (x:=bP D.ws) ix (aJ (Nat.le_add_left_of_le hl)) fun w mw=>?_
  refine bK (s:=⟨#[32]⟩) (ws:=w.words) ?_ ?_
  ·have q:=aG (cf:=cf) (G:=[.v D.parts,.v (.list ((six D).map rT)),t,u,x,.v w.v,.unset,.unset,.unset]) (k:=7) (s:=vv 5) (e:=yF) (x:=w.v) (g:=fun x:V=>x) (f:=fun x=>text (wd1 x)) (ws:=w.l) ix (by rw [vZ]; exact if_pos (bn (by exact zB1 (mQ w) (by decide)))) fun x m=>aa (.one ix) (yi (gI sk hR (ok.g.ok w mw) x m))
   rw [← t8,List.map_map]
   exact q
  ·have hlw:w.words.length≤5:=by rw [← t8,zA4]; exact mQ w
   refine zB1 (eW (n:=10) fun y m=>?_) (zB1 (Nat.mul_le_mul_right _ hlw) (by decide))
   rw [← t8] at m
   obtain ⟨z,mz,rfl⟩:=zA7 m
   exact gv (gI sk hR (ok.g.ok w mw) z mz)
 have q:=bK (cf:=cf) (G:=[.v D.parts,.v (.list ((six D).map rT)),t,u,x,.unset,.unset,.unset,.unset]) (a:=.nd (.bin .Add) [vv 1,.nd (.comp 5) [.nd .sub [vv 0,ii 4],wv]]) (s:=⟨#[10]⟩) (ws:=D.rows) (by
  rw [← rM]
  exact aa (.two (x:=.list ((six D).map rT)) ix wy) (gc (by rw [zB5,zA4,zA4]; refine (?_:6+_≤5000); exact zB1 (Nat.add_le_add (Nat.le_refl _) hl) (by decide)))) (ot ok hl)
 exact q
theorem AI {a b c:List Nat} (h:asB (sg a b c)=true):SgOk a b c:=by
 have h:(true&&(([text a,text b,text c]:List V).all alB&&((ded (a++b++c)).length==(a++b++c).length)))=true:=h
 obtain ⟨_,h⟩:=zA2 h
 obtain ⟨h1,h2⟩:=zA2 h
 have al:∀ {l:List Nat},alB (text l)=true→l.length≤4∧∀ x∈l,low x=true:=fun h=>(zA2 h).imp of_decide_eq_true fun q=>List.all_eq_true.mp q
 have ha:=al (List.all_eq_true.mp h1 _ (.head _))
 have hb:=al (List.all_eq_true.mp h1 _ (.tail _ (.head _)))
 have hc:=al (List.all_eq_true.mp h1 _ (.tail _ (.tail _ (.head _))))
 rw [ded_len] at h2
 refine ⟨ha.1,hb.1,hc.1,fun x m=>?_,of_decide_eq_true h2⟩
 rcases List.mem_append.mp m with m | m
 ·exact (List.mem_append.mp m).elim (ha.2 x) (hb.2 x)
 ·exact hc.2 x m
theorem iZ {R:Int} {x:V} (h:rmB R x=true):∃ i,x=.int i∧In R i:=by
 cases x with
 | int i=>have h:=zA2 h; exact ⟨i,rfl,of_decide_eq_true h.1,of_decide_eq_true h.2⟩
 | _=>(injection h; done)
theorem qD {k:Str} {x:V} (h:rH k x=true):x=.str k:=by
 cases x with
 | str t=>rw [eq_of_beq h]
 | _=>(injection h; done)
theorem jZ {a b c:List Nat} {d:Nat}:(cg a b c d=kOpen→d∈a)∧(cg a b c d=kClose→d∈b)∧(cg a b c d=kOn→d∈c):=by
 have k1:kClose≠kOpen:=by decide
 have k2:kOn≠kOpen:=by decide
 have k3:k0≠kOpen:=by decide
 have k4:kOn≠kClose:=by decide
 have k5:k0≠kClose:=by decide
 have k6:k0≠kOn:=by decide
 unfold cg
 by_cases h1:a.elem d=true
 ·rw [if_pos h1]; exact ⟨fun _=>List.elem_iff.mp h1,fun q=>absurd q k1.symm,fun q=>absurd q k2.symm⟩
 ·rw [if_neg h1]
  by_cases h2:b.elem d=true
  ·rw [if_pos h2]; exact ⟨fun q=>absurd q k1,fun _=>List.elem_iff.mp h2,fun q=>absurd q k4.symm⟩
  ·rw [if_neg h2]
   by_cases h3:c.elem d=true
   ·rw [if_pos h3]; exact ⟨fun q=>absurd q k2,fun q=>absurd q k4,fun _=>List.elem_iff.mp h3⟩
   ·rw [if_neg h3]; exact ⟨fun q=>absurd q k3,fun q=>absurd q k5,fun q=>absurd q k6⟩
theorem wm {a b c:List Nat} {x:V} {k:Str} (hk:k≠k0) (h:(kdV a b c x==k)=true):∃ d,x=text [d]∧cg a b c d=k:=by
 have h:=eq_of_beq h
 cases x with
 | str t=>
  have h2:(match t.cps.toList with | [d]=>cg a b c d | _=>k0)=k:=h
  generalize e:t.cps.toList=l at h2
  match l,e,h2 with
  | [d],e,h2=>exact ⟨d,by unfold text; rw [← e,Array.toArray_toList],h2⟩
  | [],_,h2=>exact absurd h2.symm hk
  | _ :: _ :: _,_,h2=>exact absurd h2.symm hk
 | _=>exact absurd h.symm hk
theorem Az {s0 s1 s2:List Nat} {R:Int} {x:V} (h:wyB s0 s1 s2 R x=true):∃ w:W,x=w.v∧W.ok s0 s1 s2 R w:=by
 cases x with
 | tuple l=>
  cases l with
  | nil=>(injection h; done)
  | cons a l=>
  cases l with
  | nil=>(injection h; done)
  | cons b l=>
  cases l with
  | nil=>(injection h; done)
  | cons c l=>
  cases l with
  | nil=>(injection h; done)
  | cons d l=>
  cases l with
  | nil=>
   have h:(rmB R b&&_)=true:=h
   obtain ⟨q1,p1⟩:=zA2 h
   obtain ⟨q2,p2⟩:=zA2 p1
   obtain ⟨q3,q4⟩:=zA2 p2
   obtain ⟨i,ei,hi⟩:=iZ q1
   have ea:=qD q2
   obtain ⟨e,ee,he⟩:=wm (by decide) q3
   obtain ⟨j,ej,hj⟩:=iZ q4
   exact ⟨.on i e j,by rw [ei,ea,ee,ej]; rfl,hi,jZ.2.2 he,hj⟩
  | cons e l=>
  cases l with
  | nil=>
   have h:(rmB R b&&_)=true:=h
   obtain ⟨q1,p1⟩:=zA2 h
   obtain ⟨q2,p2⟩:=zA2 p1
   obtain ⟨i,ei,hi⟩:=iZ q1
   obtain ⟨l,el,hl⟩:=iZ q2
   rcases (Bool.or_eq_true _ _).mp p2 with p3 | p3
   ·obtain ⟨q3,p4⟩:=zA2 p3
    obtain ⟨q4,q5⟩:=zA2 p4
    have ea:=qD q3
    obtain ⟨e,ee,he⟩:=wm (by decide) q4
    obtain ⟨j,ej,hj⟩:=iZ q5
    exact ⟨.op i e j l,by rw [ei,el,ea,ee,ej]; rfl,hi,jZ.1 he,hj,hl⟩
   ·obtain ⟨q3,p4⟩:=zA2 p3
    obtain ⟨q4,q5⟩:=zA2 p4
    have ea:=qD q3
    obtain ⟨j,ej,hj⟩:=iZ q4
    obtain ⟨e,ee,he⟩:=wm (by decide) q5
    exact ⟨.cl i j e l,by rw [ei,el,ea,ee,ej]; rfl,hi,hj,jZ.2.1 he,hl⟩
  | cons=>(injection h; done)
 | _=>(injection h; done)
theorem vD {s0 s1 s2:List Nat} {R:Int}:∀ {l:List V},l.all (wyB s0 s1 s2 R)=true→∃ ws:List W,l=ws.map W.v∧∀ w∈ws,W.ok s0 s1 s2 R w
 | [],_=>⟨[],rfl,nofun⟩
 | x :: l,h=>by
  obtain ⟨h1,h2⟩:=zA2 h
  obtain ⟨w,rfl,hw⟩:=Az h1
  obtain ⟨ws,rfl,hs⟩:=vD h2
  exact ⟨w :: ws,rfl,zA1 ⟨hw,hs⟩⟩
theorem oJ {R:Int} {is:List Int} (hR:R≤40) (hn:is.Nodup) (h:∀ i∈is,In R i):is.length≤40:=by
 have q:=hn.length_le_of_subset (l₂:=(List.range 40).map fun n:Nat=>(n:Int)) fun i m=>by
  have h1:=(h i m).1
  have h2:=(h i m).2
  exact List.mem_map.mpr ⟨i.toNat,List.mem_range.mpr (by exact (Int.toNat_lt h1).mpr (Int.lt_of_lt_of_le h2 (Int.le_trans hR (by decide)))),Int.toNat_of_nonneg h1⟩
 rw [zA4,List.length_range] at q; exact q
theorem yQ {R:Int} {is:List Int} (hR:R≤40) (h:arB R (ae is)=true):RoomsOk R is:=by
 have h:((is.map PyData.int).all (rmB R)&&((ded ((is.map PyData.int).map iJ)).length==(is.map PyData.int).length))=true:=h
 obtain ⟨h1,h2⟩:=zA2 h
 rw [ints_map,zA4,ded_len] at h2
 have hi:∀ i∈is,In R i:=fun i m=>by
  obtain ⟨j,e,hj⟩:=iZ (List.all_eq_true.mp h1 (.int i) (List.mem_map.mpr ⟨i,m,rfl⟩))
  exact PyData.int.inj e▸hj
 exact ⟨oJ hR (of_decide_eq_true h2) hi,of_decide_eq_true h2,hi⟩
theorem xE {s0 s1 s2:List Nat} {R:Int} {st en:List Int} {l:List V} (sk:SgOk s0 s1 s2) (hl:l.length < 64) (h:mcB s0 s1 s2 (.int R) (ae st) (ae en) (.list l)=true):∃ ws,l=ws.map W.v∧ah s0 s1 s2 R st en ws:=by
 unfold mcB at h
 obtain ⟨h1,h⟩:=zA2 h
 obtain ⟨h2,h⟩:=zA2 h
 obtain ⟨h3,h⟩:=zA2 h
 obtain ⟨h4,h5⟩:=zA2 h
 have h2:1≤R:=of_decide_eq_true h2
 obtain ⟨i,e,hi⟩:=iZ h1
 obtain rfl:=PyData.int.inj e
 have hR:R≤40:=by have:=hi.2; lia
 obtain ⟨_,h5⟩:=zA2 (h5:(decide (l.length≤4000)&&l.all (wyB s0 s1 s2 R))=true)
 obtain ⟨ws,rfl,hw⟩:=vD h5
 have hl':=hl
 rw [zA4] at hl'
 exact ⟨ws,rfl,sk,h2,hR,yQ hR h3,yQ hR h4,by exact zB1 (Nat.le_of_lt hl') (by decide),hw,.inl hl⟩
theorem xF {s0 s1 s2:List Nat} {R:Int} {st en:List Int} {ws:List W} (g:ah s0 s1 s2 R st en ws):mcB s0 s1 s2 (.int R) (ae st) (ae en) (bP ws)=true:=by
 have aw:=sV g.sk g.len g.ok
 have r1:=g.r1
 have r2:=g.r2
 unfold mcB
 rw [fN (⟨by exact Int.le_trans (by decide) r1,by exact Int.lt_of_le_of_lt r2 (by decide)⟩:In 41 R),show decide (1≤iJ (.int R))=true from decide_eq_true r1]
 refine (?_:(true&&(true&&(arB R (ae st)&&(arB R (ae en)&&awB s0 s1 s2 R (bP ws)))))=true)
 rw [jK g.st,jK g.en,aw.1]; rfl
structure Few (T:List Nat):Prop where
 len:T.length≤1000
 asc:∀ c∈T,c < 128
 nl:T.count 10≤30
 bl:T.count 32≤60
theorem bH {c:Nat} (l:List Nat):(af c l).length=l.count c+1:=by
 induction l with
 | nil=>rfl
 | cons x r ih=>
  by_cases h:x=c
  ·subst h; rw [splitL_eq,zB4,ih,List.count_cons_self]
  ·rw [bI h,List.length_modifyHead,ih,List.count_cons_of_ne h]
theorem oh {s:List Nat}:∀ {ws:List (List Nat)} {w:List Nat},w∈ws→w.Sublist (aM s ws)
 | [a],w,m=>by obtain rfl:=zA6 m; exact .refl _
 | a :: b :: r,w,m=>by
  rw [joinL_cons]
  rcases List.mem_cons.mp m with rfl | m
  ·rw [List.append_assoc]; exact List.sublist_append_left _ _
  ·exact (oh m).trans (List.sublist_append_right _ _)
theorem cD {c:Nat} {l w:List Nat} (m:w∈af c l):w.Sublist l:=by
 have:=oh (s:=[c]) m
 rw [join_split] at this; exact this
structure WsOk (ws:List (List Nat)):Prop where
 ne:ws≠[]
 len:ws.length≤61
 word:∀ w∈ws,w.length≤1000∧∀ c∈w,c < 128
 all:(ws.map List.length).sum≤1000
theorem jR {s:List Nat}:∀ ws:List (List Nat),(ws.map List.length).sum≤(aM s ws).length
 | []=>Nat.le_refl _
 | [a]=>by refine (?_:a.length+0≤a.length); lia
 | a :: b :: r=>by
  have:=jR (s:=s) (b :: r)
  rw [joinL_cons,zB5,zB5,List.map_cons,List.sum_cons]; exact Nat.add_le_add (Nat.le_add_right _ _) this
theorem Few.words {T:List Nat} (f:Few T):∀ r∈af 10 T,WsOk (af 32 r):=fun r m=>by
 have s1:=cD m
 refine ⟨gV r,?_,fun w mw=>?_,?_⟩
 ·rw [bH]; have:=s1.count_le 32; have:=f.bl; lia
 ·have s2:=(cD mw).trans s1
  exact ⟨zB1 s2.length_le f.len,fun c q=>f.asc c (s2.subset q)⟩
 ·have:=jR (s:=[32]) (af 32 r)
  rw [join_split] at this
  exact zB1 this (zB1 s1.length_le f.len)
theorem Few.rows {T:List Nat} (f:Few T):(af 10 T).length≤31:=by rw [bH]; have:=f.nl; exact Nat.add_le_add_right f.nl 1
section
variable {cf:ad} {G G':Gs} {k:Nat} {ks:List Nat} {s a b c e:E} {r:List S} {v x y:V} {K:Option V→Gs→Prop}
theorem yV {α:Type} {g:α→V} {ws:List α} {p:α→Bool} {I:Gs→Prop} (hs:Val cf G s v) (hq:bM v=some (ws.map g)) (h0:I G) (hc:∀ G w,I G→w∈ws→∃ G',cj ks G (g w)=some G'∧I G'∧Val cf G' c (.bool (!p w))) (hy:∀ G,Val cf G e y) (hn:noX y=true)
  (hT:ws.all p=true→∀ G,I G→exs sup cf r G K) (hF:ws.all p=false→∀ G,I G→K (some y) G):exs sup cf (.mk (.forM ks) [s] [.mk .ite [c] [.mk .ret [e] [] []] []] [] :: r) G K:=by
 refine qy (P:=fun l G=>I G∧∃ ws',l=ws'.map g∧(∀ x∈ws',x∈ws)∧ws'.all p=ws.all p) hs hq ⟨h0,ws,rfl,fun _ m=>m,rfl⟩ (fun G ⟨i,ws',e,_,e2⟩=>?_) fun x l G Kt ⟨i,ws',e,m,e2⟩ nx rt=>?_
 ·have:ws'=[]:=List.map_eq_nil_iff.mp e.symm
  subst this
  exact hT e2.symm G i
 ·cases ws' with
  | nil=>exact nomatch e
  | cons w ws'=>
   obtain ⟨rfl,rfl⟩:=zA5 e
   obtain ⟨G',q1,q2,q3⟩:=hc G w i (m w (.head _))
   have e2:(p w&&ws'.all p)=ws.all p:=e2
   refine aL q1 (bz q3 (fun q=>ai (hy _) (rt _ _ hn (hF ?_ _ q2)) hn) fun q=>iR (nx _ ⟨q2,ws',rfl,fun y z=>m y (.tail _ z),?_⟩))
   ·rw [← e2,dU q]; rfl
   ·rw [← e2,bS q]; rfl
theorem dC {l:List Nat} {n:Nat} (ha:Val cf G a (text l)) (hz:l.length≤5000):Val cf G (.nd .split [a,ss ⟨#[n]⟩]) (.list ((af n l).map text)):=fun K h=>ha _ ⟨rfl,aL (if_pos (Nat.lt_of_le_of_lt hz (by decide))) h⟩
theorem nk {l:List V} {n:Nat} (hz:l.length≤5000):opN (.slice true false) [.list l,.int n]=some (.list (l.drop n)):=by
 by_cases h:n≤l.length
 ·refine (eL (l:=l) (f:=PyData.list) (lo:=some (.int n)) (hi:=none) (i:=n) (j:=l.length) hz (by rw [dO (Int.natCast_nonneg _) (by rw [Int.toNat_natCast]; exact h),Int.toNat_natCast]) rfl h).trans ?_
  rw [List.take_of_length_le (by rw [List.length_drop]; exact Nat.le_refl _)]
 ·refine (eL (l:=l) (f:=PyData.list) (lo:=some (.int n)) (hi:=none) (i:=l.length) (j:=l.length) hz ?_ rfl (Nat.le_refl _)).trans ?_
  ·refine (?_:some (if 0≤(n:Int) then min (n:Int).toNat l.length else _)=_)
   rw [if_pos (Int.natCast_nonneg _),Int.toNat_natCast,Nat.min_eq_right (by exact Nat.le_of_lt (Nat.not_le.mp h))]
  ·rw [List.drop_eq_nil_of_le (Nat.le_refl _),List.drop_eq_nil_of_le (by exact Nat.le_of_lt (Nat.not_le.mp h)),List.take_nil]
theorem m8 {l:List V} {n:Nat} (hz:l.length≤5000) (h:n≤l.length):opN (.slice false true) [.list l,.int n]=some (.list (l.take n)):=by
 refine (eL (l:=l) (f:=PyData.list) (lo:=none) (hi:=some (.int n)) (i:=0) (j:=n) hz rfl (by rw [dO (Int.natCast_nonneg _) (by rw [Int.toNat_natCast]; exact h),Int.toNat_natCast]) (Nat.zero_le _)).trans ?_
 rw [List.drop_zero,Nat.sub_zero]
end
noncomputable def aI (p:List (List Nat)):V:=.list (p.map text)
noncomputable def cat (p:List (List Nat)):List Nat:=aM [] p.tail
noncomputable def rn (p:List (List Nat)):V:=.tuple (p.map cy)
theorem gi {cf:ad} {G:Gs} {a:E} {p:List (List Nat)} (ha:Val cf G a (aI p)) (hp:WsOk p):Val cf G (.nd (.slice true false) [a,ii 1]) (.list (p.tail.map text)):=by
 have q:opN (.slice true false) [aI p,.int ((1:Nat):Int)]=some (.list ((p.map text).drop 1)):=nk (by exact zB1 (zB2 (List.length_map _)) (zB1 hp.len (by decide)))
 rw [show (p.map text).drop 1=p.tail.map text by cases p <;> rfl] at q
 exact aa (.two ha ix) q
theorem WsOk.tail {p:List (List Nat)} (h:WsOk p):p.tail.length≤61∧(∀ w∈p.tail,w.length≤1000∧∀ c∈w,c < 128)∧(p.tail.map List.length).sum≤1000:=by
 cases p with
 | nil=>exact absurd rfl h.ne
 | cons a r=>
  refine ⟨zB1 (Nat.le_succ _) h.len,fun w m=>h.word w (.tail _ m),?_⟩
  have:=h.all
  rw [List.map_cons,List.sum_cons] at this
  refine (?_:(r.map List.length).sum≤1000)
  exact zB1 (Nat.le_add_left _ _) this
theorem lS {cf:ad} {G:Gs} {a:E} {p:List (List Nat)} (ha:Val cf G a (aI p)) (hp:WsOk p):Val cf G (.nd .join [ss k0,.nd (.slice true false) [a,ii 1]]) (text (cat p)):=by
 obtain ⟨_,_,h3⟩:=hp.tail
 refine bK (s:=k0) (gi ha hp) ?_
 refine (?_:_+_ * 0≤100000)
 exact zB1 h3 (by decide)
theorem yt:∀ ws:List (List Nat),aM [] ws=ws.flatten
 | []=>rfl
 | [a]=>(List.append_nil a).symm
 | a :: b :: r=>by rw [joinL_cons,List.append_nil,yt (b :: r)]; rfl
theorem iG {p:List (List Nat)} (hp:WsOk p):(cat p).length≤1000∧∀ c∈cat p,c < 128:=by
 obtain ⟨_,h2,h3⟩:=hp.tail
 unfold cat
 rw [yt]
 refine ⟨by rw [List.length_flatten]; exact h3,fun c m=>?_⟩
 obtain ⟨w,mw,mc⟩:=List.mem_flatten.mp m
 exact (h2 w mw).2 c mc
noncomputable def eK:List (List Nat):=[hd0,hd1,hd2,hd3,hd4,hd5]
theorem nU:∀ (hs:List (List Nat)) (ps:List (List (List Nat))),pn (hs.map text) (ps.map aI)=(hs.zip ps).map fun q=>.tuple [text q.1,aI q.2]
 | [],ps=>by cases ps <;> rfl
 | _ :: _,[]=>rfl
 | h :: hs,p :: ps=>congrArg (_ :: ·) (nU hs ps)
theorem xd {a b l:List V} (ha:a.length≤5000) (hb:b.length≤5000) (e:pn a b=l):opN .zip [.tuple a,.list b]=some (.list l):=by
 refine (?_:(bO a a).bind _=_)
 rw [show bO a a=some a from if_pos (bn ha)]
 refine (?_:(bO b b).map _=_)
 rw [show bO b b=some b from if_pos (bn hb),← e]; rfl
noncomputable def yA (q:List Nat×List (List Nat)):Bool:=decide (q.2.headD []=q.1)
theorem rA {a b:List Nat} (ha:∀ c∈a,c < 128) (hb:∀ c∈b,c < 128):aS .NotEq (text a) (text b)=some (!decide (a=b)):=(yN (bt ha) (bt hb)).trans (congrArg (fun b=>some (!b)) (by
 rw [Bool.eq_iff_iff,beq_iff_eq,decide_eq_true_iff]
 exact ⟨fun e=>by simpa using e,fun e=>by rw [e]⟩))
theorem nj {p:List (List Nat)} (hp:WsOk p):opN .sub [aI p,.int 0]=some (text (p.headD [])):=cI (by exact zB1 (zB2 (List.length_map _)) (zB1 hp.len (by decide))) (Int.le_refl _) (by
 cases p with
 | nil=>exact absurd rfl hp.ne
 | cons a r=>rfl)
theorem zh {w:List Nat} (h:w.length≤1000∧∀ c∈w,c < 128):vOk (cy w)=true:=by
 unfold cy
 split
 ·rfl
 ·exact zA3 ⟨bt h.2,decide_eq_true h.1⟩
theorem AE {p:List (List Nat)} (hp:WsOk p):tOk (rn p)=true:=zA3 ⟨List.all_eq_true.mpr fun x m=>by
 obtain ⟨w,mw,rfl⟩:=zA7 m
 exact zh (hp.word w mw),decide_eq_true (by exact zB1 (zB2 (List.length_map _)) (zB1 hp.len (by decide)))⟩
theorem yT {cf:ad} {G:Gs} {f c c':Nat} {es:List E} {vs:List V} {r:List S} {K:Option V→Gs→Prop} (hv:gP cf G es vs) (h:cf f vs fun y=>match jv y with
  | none=>K (some y) G
  | some d=>(sup d c||sup d c')=true∧K (some .none) G):exs sup cf (.mk (.try2 f c c') es [] [] :: r) G K:=by
 refine (?_:bY (es.map (ev cf)) G _)
 rw [jw]
 exact hv _ h
structure Src (ps:List (List (List Nat))) (p0 p1 p2 p3 p4 p5:List (List Nat)) (rest:List (List (List Nat))):Prop where
 eq:ps=p0 :: p1 :: p2 :: p3 :: p4 :: p5 :: rest
 ok:∀ p∈ps,WsOk p
 few:ps.length≤40
noncomputable abbrev ir (p:List (List Nat)):List Int:=p.tail.map dv
noncomputable abbrev MkP (p0 p1 p2 p3 p4 p5:List (List Nat)) (ws:List W):Prop:=ah (cat p0) (cat p1) (cat p2) (dv (cat p3)) (ir p4) (ir p5) ws
noncomputable abbrev Hd6 (ps:List (List (List Nat))):Prop:=(eK.zip ps).all yA=true
noncomputable def S18 (cf:ad):Prop:=∀ (rows:List (List Nat)) ps p0 p1 p2 p3 p4 p5 rest (K:V→Prop),rows.map (af 32)=ps→(∀ r∈rows,r.length≤1000)→Src ps p0 p1 p2 p3 p4 p5 rest →
 ((∀ ws,Hd6 ps→rest.map rn=ws.map W.v→¬ MkP p0 p1 p2 p3 p4 p5 ws)→K .none) →
 (∀ ws,Hd6 ps→rest.map rn=ws.map W.v→MkP p0 p1 p2 p3 p4 p5 ws→∀ st' en' r,Held (ir p4) (ir p5) (ws.map W.v) st' en' r→K (cO (sg (cat p0) (cat p1) (cat p2)) (dv (cat p3)) st' en' r))→cf 18 [.list (rows.map text)] K
theorem nV {cf:ad} {G:Gs} {a:E} {k:Nat} {p:List (List Nat)} (h16:S16 cf) (ha:Val cf G a (aI p)) (hp:WsOk p) (hk:∀ x,Val cf (G.set k (.v x)) (vv k) x):Val cf G (.nd (.comp k) [.nd (.slice true false) [a,ii 1],.nd (.call 16) [vv k]]) (ae (ir p)):=by
 obtain ⟨h1,h2,_⟩:=hp.tail
 have q:=aG (cf:=cf) (G:=G) (k:=k) (e:=.nd (.call 16) [vv k]) (g:=text) (f:=fun w=>.int (dv w)) (ws:=p.tail) (gi ha hp) (aJ (Nat.le_add_left_of_le h1)) fun w m=>ak (.one (hk _)) fun K h=>h16 w K (by exact zB1 ((h2 w m).1) (by decide)) h
 unfold ae
 rw [List.map_map]; exact q
theorem p18 (cf:ad) (h8a:S8a cf) (h8b:S8b cf) (h8:S8 cf) (h16:S16 cf) (h17:S17 cf):S18 (step cf):=fun rows ps p0 p1 p2 p3 p4 p5 rest K er hr src hN hG=>by
 obtain ⟨eq,wok,few⟩:=src
 have hlr:rows.length≤40:=by rw [← er,zA4] at few; exact few
 have w0:=wok p0 (eq▸.head _)
 have w1:=wok p1 (eq▸.tail _ (.head _))
 have w2:=wok p2 (eq▸.tail _ (.tail _ (.head _)))
 have w3:=wok p3 (eq▸.tail _ (.tail _ (.tail _ (.head _))))
 have w4:=wok p4 (eq▸.tail _ (.tail _ (.tail _ (.tail _ (.head _)))))
 have w5:=wok p5 (eq▸.tail _ (.tail _ (.tail _ (.tail _ (.tail _ (.head _))))))
 have wr:∀ p∈rest,WsOk p:=fun p m=>wok p (eq▸.tail _ (.tail _ (.tail _ (.tail _ (.tail _ (.tail _ m))))))
 have hrl:rest.length≤40:=by rw [eq] at few; simp only [zB4] at few; lia
 refine run (fn:=f18) rfl rfl rfl ?_
 refine ag (v:=.list (ps.map aI)) ?_ ?_
 ·have q:=aG (cf:=cf) (G:=[.v (.list (rows.map text)),.unset,.unset,.unset,.unset,.unset,.unset,.unset,.unset,.unset,.unset,.unset,.unset]) (k:=9) (s:=vv 0) (e:=yJ) (g:=text) (f:=fun r=>aI (af 32 r)) (ws:=rows) ix (aJ (Nat.le_add_left_of_le hlr)) fun r m=>dC ix (by exact zB1 (hr r m) (by decide))
  rw [← er,List.map_map]; exact q
 refine yV (ks:=[2,3]) (g:=fun q:List Nat×List (List Nat)=>.tuple [text q.1,aI q.2]) (ws:=eK.zip ps) (p:=yA) (I:=fun G=>∃ t u,G=[.v (.list (rows.map text)),.v (.list (ps.map aI)),t,u,.unset,.unset,.unset,.unset,.unset,.unset,.unset,.unset,.unset]) (y:=.none) (v:=.list ((eK.zip ps).map fun q=>.tuple [text q.1,aI q.2])) ?_ ?_ ⟨_,_,rfl⟩ (fun G q ⟨t,u,e⟩ m=>?_) (fun _ _ h=>h) rfl ?rT ?rF
 ·exact aa (.two (x:=.tuple (eK.map text)) ix ix) (xd (by refine (?_:6≤5000); decide) (by exact zB1 (zB2 (List.length_map _)) (zB1 few (by decide))) (nU eK ps))
 ·refine aJ ?_
  rw [List.length_zip]
  exact zB1 (Nat.min_le_left _ _) (by decide)
 ·subst e
  refine ⟨_,rfl,⟨_,_,rfl⟩,?_⟩
  obtain ⟨h,p⟩:=q
  have mp:=wok p (List.of_mem_zip m).2
  have mh:h∈eK:=(List.of_mem_zip m).1
  refine ac (x:=text (p.headD [])) (y:=text h) (aa (.two (x:=aI p) ix ix) (nj mp)) ix ?_
  refine rA (fun c mc=>?_) fun c mc=>(pY h mh).2.2.2 c mc
  cases p with
  | nil=>exact nomatch mc
  | cons w r=>exact (mp.word w (.head _)).2 c mc
 case rF=>exact fun q G _=>hN fun ws hd _=>by rw [show (eK.zip ps).all yA=true from hd] at q; exact nomatch q
 intro q G ⟨t,u,e⟩
 subst e
 have hp:∀ (i:Nat) p,ps[i]?=some p→∀ {G:Gs} {n:Int},n=(i:Int)→Val cf G (vv 1) (.list (ps.map aI))→Val cf G (.nd .sub [vv 1,ii n]) (aI p):=fun i p hi G n en h=>aa (.two h ix) (by
  subst en
  exact cI (by exact zB1 (zB2 (List.length_map _)) (zB1 few (by decide))) (Int.natCast_nonneg _) (by rw [Int.toNat_natCast,List.getElem?_map,hi]; rfl))
 refine ag (v:=sg (cat p0) (cat p1) (cat p2)) ?_ ?_
 ·have q:=aG (cf:=cf) (G:=[.v (.list (rows.map text)),.v (.list (ps.map aI)),t,u,.unset,.unset,.unset,.unset,.unset,.unset,.unset,.unset,.unset]) (k:=9) (s:=.nd (.slice false true) [vv 1,ii 3]) (e:=yI) (x:=.list ([p0,p1,p2].map aI)) (g:=aI) (f:=fun p=>text (cat p)) (ws:=[p0,p1,p2]) (aa (.two (x:=.list (ps.map aI)) ix ix) (by
   refine (m8 (n:=3) (by exact zB1 (zB2 (List.length_map _)) (zB1 few (by decide))) (by rw [zA4,eq]; simp only [zB4]; lia)).trans ?_
   rw [eq]; rfl)) (aJ (by refine (?_:3≤5000); decide)) fun p m=>lS ix ((zA1 ⟨w0,zA1 ⟨w1,zA1 ⟨w2,nofun⟩⟩⟩:∀ p∈[p0,p1,p2],WsOk p) p m)
  exact aa (.one q) rfl
 refine ag (v:=.int (dv (cat p3))) (ak (.one (lS (hp 3 p3 (by rw [eq]; rfl) rfl ix) w3)) fun K h=>h16 _ K (by exact zB1 ((iG w3).1) (by decide)) h) ?_
 refine ag (v:=ae (ir p4)) (nV h16 (hp 4 p4 (by rw [eq]; rfl) rfl ix) w4 fun x _ h=>h) ?_
 refine ag (v:=ae (ir p5)) (nV h16 (hp 5 p5 (by rw [eq]; rfl) rfl ix) w5 fun x _ h=>h) ?_
 refine ag (v:=.list (rest.map rn)) ?_ ?_
 ·refine aG (g:=aI) (x:=.list (rest.map aI)) (aa (.two (x:=.list (ps.map aI)) ix ix) ?_) (aJ (Nat.le_add_left_of_le hrl)) fun p m=>?_
  ·refine (nk (n:=6) (by exact zB1 (zB2 (List.length_map _)) (zB1 few (by decide)))).trans ?_
   rw [eq]; rfl
  ·have wp:=wr p m
   have hlp:=wp.len
   refine aa (.one (v:=.list (p.map cy)) ?_) ?_
   ·exact aG (g:=text) (x:=aI p) ix (aJ (Nat.le_add_left_of_le hlp)) fun w mw=>ak (.one ix) (fun K h=>h17 w K (by exact zB1 ((wp.word w mw).1) (by decide)) h) (by unfold cy; split <;> rfl)
   ·refine (?_:(bO (p.map cy) (p.map cy)).map PyData.tuple=_)
    rw [show bO (p.map cy) (p.map cy)=some (p.map cy) from if_pos (bn (by exact zB1 (zB2 (List.length_map _)) (zB1 wp.len (by decide))))]; rfl
 refine yT (vs:=[sg (cat p0) (cat p1) (cat p2),.int (dv (cat p3)),ae (ir p4),ae (ir p5),.list (rest.map rn)]) (.cons ix (.cons ix (.cons ix (.two ix ix)))) ?_
 have tsg:tOk (sg (cat p0) (cat p1) (cat p2))=true:=by
  have v:∀ {p},WsOk p→vOk (text (cat p))=true:=fun h=>zA3 ⟨bt (iG h).2,decide_eq_true (iG h).1⟩
  exact zA3 ⟨List.all_eq_true.mpr (zA1 ⟨v w0,zA1 ⟨v w1,zA1 ⟨v w2,nofun⟩⟩⟩),rfl⟩
 have ln:∀ {p},WsOk p→(ir p).length≤61:=fun h=>by rw [zA4]; exact h.tail.1
 have sh:∀ {p},WsOk p→mW (ae (ir p)):=fun h l e=>by rw [← PyData.list.inj e,zA4]; have:=ln h; exact zB1 this (by decide)
 cases hs:asB (sg (cat p0) (cat p1) (cat p2)) with
 | false=>exact h8a _ _ _ _ _ _ tsg hs ⟨rfl,hN fun ws _ _ g=>by rw [(ye g.sk).1] at hs; exact nomatch hs⟩
 | true=>
  have sk:=AI hs
  cases hm:mcB (cat p0) (cat p1) (cat p2) (.int (dv (cat p3))) (ae (ir p4)) (ae (ir p5)) (.list (rest.map rn)) with
  | false=>exact h8b _ _ _ _ _ _ _ _ sk rfl (jj _ (by exact zB1 (ln w4) (by decide))) (sh w4) (jj _ (by exact zB1 (ln w5) (by decide))) (sh w5) (zA3 ⟨decide_eq_true (by exact zB1 (zB2 (List.length_map _)) (zB1 hrl (by decide))),List.all_eq_true.mpr fun x m=>by
    obtain ⟨p,mp,rfl⟩:=zA7 m
    exact AE (wr p mp)⟩) hm ⟨rfl,hN fun ws _ e g=>by rw [e,show (PyData.list (ws.map W.v))=bP ws from rfl,xF g] at hm; exact nomatch hm⟩
  | true=>
   obtain ⟨ws,e,g⟩:=xE sk (by exact Nat.lt_succ_of_le (zB1 (zB2 (List.length_map _)) (zB1 hrl (by decide)))) hm
   rw [e]
   exact h8 _ _ _ _ _ _ ws _ g fun st' en' r hd=>hG ws q e g st' en' r hd
section
variable {cf:ad} {G:Gs} {k f:Nat} {e:E} {es:List E} {vs:List V} {r:List S} {K:Option V→Gs→Prop}
theorem cC (h:ev cf e G fun v=>exs sup cf r (G.set k (.v v)) K):exs sup cf (.mk (.assign k) [e] [] [] :: r) G K:=h
theorem dM {K:V→Prop} (hv:gP cf G es vs) (h:cf f vs fun y=>noX y=true∧K y):ev cf (.nd (.call f) es) G K:=hv _ h
end
theorem AD {w u:W} (h:w.v=u.v):w=u:=by
 have h:=PyData.tuple.inj h
 have k1:PyData.str kOn≠.str kOpen:=fun e=>absurd (PyData.str.inj e) (by decide)
 have k2:PyData.str kOn≠.str kClose:=fun e=>absurd (PyData.str.inj e) (by decide)
 have k3:PyData.str kOpen≠.str kClose:=fun e=>absurd (PyData.str.inj e) (by decide)
 have tx:∀ {a b:Nat},text [a]=text [b]→a=b:=fun e=>by
  have:=congrArg lX e
  exact (zA5 this).1
 cases w with
 | on a c b=>cases u with
  | on a' c' b'=>
   obtain ⟨_,h⟩:=zA5 h
   obtain ⟨e1,h⟩:=zA5 h
   obtain ⟨e2,h⟩:=zA5 h
   obtain ⟨e3,h⟩:=zA5 h
   rw [PyData.int.inj e1,tx e2,PyData.int.inj e3]
  | op=>exact absurd (zA5 h).1 k1
  | cl=>exact absurd (zA5 h).1 k2
 | op a c b t=>cases u with
  | op a' c' b' t'=>
   obtain ⟨_,h⟩:=zA5 h
   obtain ⟨e1,h⟩:=zA5 h
   obtain ⟨e2,h⟩:=zA5 h
   obtain ⟨e3,h⟩:=zA5 h
   obtain ⟨e4,h⟩:=zA5 h
   rw [PyData.int.inj e1,tx e2,PyData.int.inj e3,PyData.int.inj e4]
  | on=>exact absurd (zA5 h).1.symm k1
  | cl=>exact absurd (zA5 h).1 k3
 | cl a b c t=>cases u with
  | cl a' b' c' t'=>
   obtain ⟨_,h⟩:=zA5 h
   obtain ⟨e1,h⟩:=zA5 h
   obtain ⟨e2,h⟩:=zA5 h
   obtain ⟨e3,h⟩:=zA5 h
   obtain ⟨e4,h⟩:=zA5 h
   rw [PyData.int.inj e1,PyData.int.inj e2,tx e3,PyData.int.inj e4]
  | on=>exact absurd (zA5 h).1.symm k2
  | op=>exact absurd (zA5 h).1.symm k3
theorem yY {a b:List W} (h:a.map W.v=b.map W.v):a=b:=dy (P:=fun _=>True) (fun _ _ _ _ e=>AD e) (fun _ _=>trivial) (fun _ _=>trivial) h
theorem du {i:Int} (h:In 100 i):cy (nw i)=.int i:=by
 unfold cy
 have e:dv (nw i)=i:=dJ h.1 h.2
 rw [e,if_pos h.1]
theorem qG {c:Nat} (h:low c=true):cy [c]=text [c]:=by
 have:bf c=false:=(by decide:∀ c∈abc.cps.toList,bf c=false) c (List.elem_iff.mp h)
 unfold cy
 rw [show dv [c] = -1 from if_neg (by rw [this]; exact Bool.false_ne_true),if_neg (by decide)]
theorem qF:∀ w∈[kn kOn,kn kOpen,kn kClose],cy w=text w:=fun w m=>if_neg ((by decide:∀ w∈[kn kOn,kn kOpen,kn kClose],¬ 0≤dv w) w m)
theorem AA {s0 s1 s2:List Nat} {R:Int} {w:W} (sk:SgOk s0 s1 s2) (hR:R≤100) (ok:W.ok s0 s1 s2 R w):rn w.words=w.v:=by
 refine (?_:PyData.tuple _=PyData.tuple _)
 cases w with
 | on a c b=>exact congrArg PyData.tuple (by unfold W.words W.l; rw [List.map_cons,List.map_cons,List.map_cons,List.map_cons,qF _ (.head _),du (ok.1.up hR),qG (sk.lowC ok.2.1),du (ok.2.2.up hR)]; rfl)
 | op a c b t=>exact congrArg PyData.tuple (by unfold W.words W.l; rw [List.map_cons,List.map_cons,List.map_cons,List.map_cons,List.map_cons,qF _ (.tail _ (.head _)),du (ok.1.up hR),qG (sk.lowA ok.2.1),du (ok.2.2.1.up hR),du (ok.2.2.2.up hR)]; rfl)
 | cl a b c t=>exact congrArg PyData.tuple (by unfold W.words W.l; rw [List.map_cons,List.map_cons,List.map_cons,List.map_cons,List.map_cons,qF _ (.tail _ (.tail _ (.head _))),du (ok.1.up hR),du (ok.2.1.up hR),qG (sk.lowB ok.2.2.1),du (ok.2.2.2.up hR)]; rfl)
theorem cat_tl {h s:List Nat}:cat (h :: tl s)=s:=by
 cases s with
 | nil=>rfl
 | cons a r=>rfl
theorem rW {R:Int} {h:List Nat} {is:List Int} (k:RoomsOk R is) (hR:R≤100):ir (h :: is.map nw)=is:=by
 refine (?_:(is.map nw).map dv=is)
 rw [List.map_map]
 refine (List.map_congr_left fun i m=>?_).trans (List.map_id _)
 have:=(k.rooms i m).up hR
 exact dJ this.1 this.2
theorem Rd.back {T:List Nat} {D:Ds} {p0 p1 p2 p3 p4 p5:List (List Nat)} {rest:List (List (List Nat))} (h:Rd T D) (eq:(af 10 T).map (af 32)=p0 :: p1 :: p2 :: p3 :: p4 :: p5 :: rest):Hd6 (p0 :: p1 :: p2 :: p3 :: p4 :: p5 :: rest)∧rest.map rn=D.ws.map W.v∧cat p0=D.s0∧cat p1=D.s1∧cat p2=D.s2∧dv (cat p3)=D.R∧ir p4=D.st∧ir p5=D.en:=by
 obtain ⟨ok,rfl⟩:=h
 have r1:=ok.g.r1
 have r2:=ok.g.r2
 rw [ok.split.1,ok.split.2] at eq
 obtain ⟨e0,t0⟩:=zA5 eq
 obtain ⟨e1,t1⟩:=zA5 t0
 obtain ⟨e2,t2⟩:=zA5 t1
 obtain ⟨e3,t3⟩:=zA5 t2
 obtain ⟨e4,t4⟩:=zA5 t3
 obtain ⟨e5,t5⟩:=zA5 t4
 subst e0 e1 e2 e3 e4 e5 t5
 refine ⟨?_,?_,cat_tl,cat_tl,cat_tl,dJ (by exact Int.le_trans (by decide) r1) (by exact Int.lt_of_le_of_lt r2 (by decide)),rW ok.g.st (by exact Int.le_trans r2 (by decide)),rW ok.g.en (by exact Int.le_trans r2 (by decide))⟩
 ·have z:∀ (h:List Nat) t,yA (h,h :: t)=true:=fun h t=>decide_eq_true rfl
  unfold Hd6 eK
  simp only [List.zip_cons_cons,List.all_cons,z,Bool.true_and,List.zip_nil_left,List.all_nil]
 ·rw [List.map_map]
  exact List.map_congr_left fun w m=>AA ok.g.sk (by exact Int.le_trans r2 (by decide)) (ok.g.ok w m)
theorem jf {s:Nat} (hs:s < 128):∀ {ws:List (List Nat)},(∀ w∈ws,∀ c∈w,c < 128)→∀ c∈aM [s] ws,c < 128
 | [],_=>nofun
 | [w],h=>h w (.head _)
 | a :: b :: r,h=>fun c m=>by
  rw [joinL_cons] at m
  rcases List.mem_append.mp m with m | m
  ·rcases List.mem_append.mp m with m | m
   ·exact h a (.head _) c m
   ·exact zA6 m▸hs
  ·exact jf hs (fun w q=>h w (.tail _ q)) c m
theorem Ds.Ok.asc {D:Ds} (ok:D.Ok):∀ c∈D.text,c < 128:=jf (by decide) fun r mr=>by
 obtain ⟨ws,mw,rfl⟩:=zA7 mr
 exact jf (by decide) fun w m=>((ok.wd ws mw).2 w m).2.2.2
noncomputable def S19 (cf:ad):Prop:=∀ (T:List Nat) K,Few T→(∀ D,Rd T D→D.ws.length≤40→K D.mach)→((∀ D,¬ Rd T D)→K (eP 7))→cf 19 [text T] K
noncomputable def BL (cf:ad):Prop:=∀ (x:V) K,vOk x=true→isB x 0=false→K (eP 7)→cf 19 [x] K
theorem BU (cf:ad):BL (step cf):=fun x K hv hb h=>run (fn:=f19) rfl rfl rfl (by
 refine aV ?_ (dk h)
 have:=au (cf:=cf) (fA (G:=[.v x,.unset,.unset]) (a:=vv 0) (t:=0) ix hv)
 rw [hb] at this; exact this)
theorem p19 (cf:ad) (h15:S15 cf) (h18:S18 cf):S19 (step cf):=fun T K few hD hN=>by
 have hlen:=few.len
 have hrow:=few.rows
 have vT:vOk (text T)=true:=zA3 ⟨bt few.asc,decide_eq_true few.len⟩
 refine run (fn:=f19) rfl rfl rfl ?_
 have v0:=au (cf:=cf) (fA (G:=[.v (text T),.unset,.unset]) (a:=vv 0) (t:=0) ix vT)
 refine bW v0 ?_
 refine ag (dC (l:=T) ix (Nat.le_add_left_of_le hlen)) ?_
 refine ag (v:=.none) ix ?_
 generalize hrs:af 10 T=rows
 rw [hrs] at hrow
 refine bz (t:=decide ((6:Int)≤rows.length)) (ac (x:=.int rows.length) (y:=.int 6) (aa (.one ix) (by rw [fO (by exact zB1 (zB2 (List.length_map _)) (zB1 hrow (by decide))),zA4])) ix rfl) (fun q=>?_) fun q=>?_
 ·have q:=of_decide_eq_true q
  obtain ⟨q0,q1,q2,q3,q4,q5,rs,er⟩:∃ q0 q1 q2 q3 q4 q5 rs,rows=q0 :: q1 :: q2 :: q3 :: q4 :: q5 :: rs:=by
   have no:∀ n:Nat,n < 6→¬ (6:Int)≤(n:Int):=by lia
   match rows,q with
   | q0 :: q1 :: q2 :: q3 :: q4 :: q5 :: rs,_=>exact ⟨q0,q1,q2,q3,q4,q5,rs,rfl⟩
   | [],q=>exact absurd q (no 0 (by decide))
   | [_],q=>exact absurd q (no 1 (by decide))
   | [_,_],q=>exact absurd q (no 2 (by decide))
   | [_,_,_],q=>exact absurd q (no 3 (by decide))
   | [_,_,_,_],q=>exact absurd q (no 4 (by decide))
   | [_,_,_,_,_],q=>exact absurd q (no 5 (by decide))
  have ep:(af 10 T).map (af 32)=af 32 q0 :: af 32 q1 :: af 32 q2 :: af 32 q3 :: af 32 q4 :: af 32 q5 :: rs.map (af 32):=by rw [hrs,er]; rfl
  have wok:∀ p∈rows.map (af 32),WsOk p:=fun p m=>by
   obtain ⟨r,mr,rfl⟩:=zA7 m
   exact few.words r (hrs▸mr)
  rw [hrs] at ep
  refine cC (dM (vs:=[.list (rows.map text)]) (.one ix) (h18 rows _ _ _ _ _ _ _ _ _ rfl (fun r m=>?_) ⟨ep,wok,by exact zB1 (zB2 (List.length_map _)) (zB1 hrow (by decide))⟩ (fun no=>⟨rfl,?_⟩) fun ws hd e g st' en' r hh=>⟨rfl,?_⟩))
  ·exact zB1 (cD (hrs▸m:r∈af 10 T)).length_le few.len
  ·refine aV (aE (.stop (b:=false) (ac ix ix rfl))) (dk (hN fun D rd=>?_))
   obtain ⟨b1,b2,b3,b4,b5,b6,b7,b8⟩:=rd.back (hrs.symm▸ep)
   refine no D.ws (ep▸b1) b2 ?_
   unfold MkP
   rw [b3,b4,b5,b6,b7,b8]; exact rd.1.g
  ·obtain ⟨ws',ok,rfl,hl⟩:=Ds.Ok.of_held g hh
   generalize hDD:(⟨_,_,_,_,st',en',ws'⟩:Ds)=D' at ok
   have hws:ws.length≤31:=by
    have:=congrArg List.length e
    rw [zA4,zA4,zA4] at this
    have:=congrArg List.length er
    simp only [zB4] at this
    lia
   have hl':D'.ws.length≤40:=by rw [← hDD]; refine (?_:ws'.length≤40); exact zB1 hl (zB1 hws (by decide))
   have sT:PyData.strOk ⟨T.toArray⟩=true:=bt few.asc
   have vm:∀ {G:Gs},Val cf G (vv 2) D'.mach→Val cf G (.nd (.call 15) [vv 2]) (text D'.text):=fun h=>ak (.one h) fun K h=>h15 D' K ok (Nat.le_add_left_of_le hl') h
   have hc:Val cf [.v (text T),.v (.list (rows.map text)),.v D'.mach] (.nd .or [.nd (.cmp .Is) [vv 2,nn],.nd (.cmp .NotEq) [.nd (.call 15) [vv 2],vv 0]]) (.bool (false||!decide (D'.text=T))):=aE (.or (ac ix ix rfl) fun _=>.one' (ac (vm ix) (y:=text T) ix (rA ok.asc few.asc)))
   have em:cO (sg (cat (af 32 q0)) (cat (af 32 q1)) (cat (af 32 q2))) (dv (cat (af 32 q3))) st' en' (ws'.map W.v)=D'.mach:=by rw [← hDD]; rfl
   rw [em]
   refine bz hc (fun z=>dk (hN fun D rd=>?_)) fun z=>?_
   ·have z:=of_decide_eq_false (dU z)
    obtain ⟨b1,b2,b3,b4,b5,b6,b7,b8⟩:=rd.back (hrs.symm▸ep)
    refine z ?_
    rw [rd.2]
    refine congrArg Ds.text ?_
    rw [← hDD,b3,b4,b5,b6]
    rw [b7,b8] at hh
    rw [g9 hh.p1 hh.o1 (.refl _) rd.1.o1,g9 hh.p2 hh.o2 (.refl _) rd.1.o2]
    have:=kU (ws:=ws) g.sk g.ok hh.nd hh.mem hh.up rd.1.nd (fun y=>by rw [← e,b2]) rd.1.up
    rw [yY this]
   ·have z:=of_decide_eq_true (bS z)
    exact ai (v:=D'.mach) ix (hD D' ⟨ok,z.symm⟩ hl')
 ·have q:=of_decide_eq_false q
  refine aV (aE (.stop (b:=false) (ac ix ix rfl))) (dk (hN fun D rd=>?_))
  obtain ⟨ok,rfl⟩:=rd
  rw [ok.split.1] at hrs
  rw [← hrs] at q
  refine q ?_
  unfold Ds.rows Ds.words
  simp only [zA4,zB4]
  lia
theorem kr {w:List Nat} (h:∀ c∈w,c < 128):d5 0 (text w):=jr (x:=text w) (bt h)
theorem wx (a b:List Nat):PyData.eqv (text a) (text b)=decide (a=b):=by
 refine (?_:((⟨a.toArray⟩:Str)==⟨b.toArray⟩)=_)
 rw [Bool.eq_iff_iff,beq_iff_eq,decide_eq_true_iff]
 exact ⟨fun e=>by simpa using e,fun e=>by rw [e]⟩
theorem dz {ws:List (List Nat)} (h:∀ w∈ws,∀ c∈w,c < 128):∀ x∈ws.map text,d5 0 x:=fun x m=>by
 obtain ⟨w,mw,rfl⟩:=zA7 m
 exact kr (h w mw)
theorem Bi {w:List Nat} {ws:List (List Nat)} (h:∀ w∈ws,∀ c∈w,c < 128) (hw:∀ c∈w,c < 128):aS .In (text w) (.list (ws.map text))=some (ws.any fun z=>decide (z=w)):=(if_pos (by rw [aR (kr hw) (by decide),aR (aC (dz h)) (by decide)]; rfl)).trans (congrArg some (by
 rw [List.any_map]
 exact List.any_congr rfl fun z=>wx z w))
theorem Ab {w:List Nat} {ws:List (List Nat)} (h:∀ w∈ws,∀ c∈w,c < 128) (hw:∀ c∈w,c < 128):aS .NotIn (text w) (.tuple (ws.map text))=some (!(ws.any fun z=>decide (z=w))):=congrArg (Option.map (!·)) ((if_pos (by rw [aR (kr hw) (by decide),aR (cR (dz h)) (by decide)]; rfl)).trans (congrArg some (by
 rw [List.any_map]
 exact List.any_congr rfl fun z=>wx z w)))
noncomputable def S31 (cf:ad):Prop:=∀ (w:List Nat) K,(∀ c∈w,c < 128)→K (.int (aN w))→cf 31 [text w] K
theorem p31 (cf:ad):S31 (step cf):=fun w K hw h=>by
 refine run (fn:=f31) rfl rfl rfl ?_
 have v:Val cf [.v (text w),.unset,.unset] (.nd (.comp 1) [.nd .range [ii 100],wu]) (.list (((List.range 100).map figs).map text)):=by
  have q:=aG (cf:=cf) (G:=[.v (text w),.unset,.unset]) (k:=1) (e:=wu) (f:=fun i:Nat=>text (figs i)) (fc (e:=ii 100) (n:=100) ix (by decide) (by decide)) ((fg (by decide)).trans (congrArg some (gt 100))) fun i m=>by
   have:=List.mem_range.mp m
   have:=qK (i:=0+(i:Int)) ⟨by exact Int.add_nonneg (Int.le_refl _) (Int.natCast_nonneg _),by lia⟩
   rw [show nw (0+(i:Int))=figs i by unfold nw; rw [Int.zero_add,Int.toNat_natCast]] at this
   exact aa (.one ix) this
  rw [List.map_map]; exact q
 have lt:∀ z∈(List.range 100).map figs,∀ c∈z,c < 128:=by decide +kernel
 have e:=Bi lt hw
 rw [List.any_map] at e
 refine bz (t:=qr w) (ac ix v e) (fun q=>ai (v:=.int (dv w)) (aa (.one ix) ?_) ?_) fun q=>ai l8 ?_
 ·obtain ⟨n,hn,rfl⟩:=hW.mp q
  obtain ⟨_,h2,h3,h4⟩:=eY n hn
  generalize figs n=w at h2 h3 h4
  match w,h2,h3,h4 with
  | [a],q,_,_=>
   have q:(bf a&&true)=true:=q
   rw [Bool.and_true] at q
   exact (if_pos q).trans (congrArg (fun x=>some (PyData.int x)) (if_pos q).symm)
  | [a,b],q,_,_=>
   have q:=zA2 q
   have q':bf a=true∧bf b=true:=⟨q.1,by have:=q.2; rw [List.all_cons,List.all_nil,Bool.and_true] at this; exact this⟩
   exact (if_pos q').trans (congrArg (fun x=>some (PyData.int x)) (if_pos q').symm)
  | [],_,h3,_=>exact absurd rfl h3
  | a :: b :: c :: r,_,_,h4=>rw [zB4,zB4,zB4] at h4; lia
 ·unfold aN at h; rw [if_pos q] at h; exact h
 ·unfold aN at h; rw [if_neg (by rw [q]; exact Bool.false_ne_true)] at h; exact h
noncomputable def inB (R:Int) (i:Int):Bool:=decide (0≤i)&&decide (i < R)
noncomputable def at1 (a:Nat) (i:Nat):Bool:=i==0||i==a
noncomputable def eH (p:List (List Nat)) (a:Nat):List Int:=((List.range ((p.length:Int) - 1).toNat).filter fun i:Nat=>!(1+(i:Int)==(a:Int))).map fun i=>aN (p.getD (1+i) [])
noncomputable def wj (p:List (List Nat)) (a:Nat):List V:=(List.range p.length).map fun i=>if at1 a i=true then text (p.getD i []) else .int (aN (p.getD i []))
theorem pJ {p:List (List Nat)} {i:Int} {j:Nat} (hz:p.length≤100) (e:i=(j:Int)) (h:j < p.length):opN .sub [aI p,.int i]=some (text (p.getD j [])):=by
 subst e
 refine cI (by exact zB1 (zB2 (List.length_map _)) (zB1 hz (by decide))) (Int.natCast_nonneg _) ?_
 rw [Int.toNat_natCast,List.getElem?_map,List.getElem?_eq_getElem h,List.getD_eq_getElem?_getD,List.getElem?_eq_getElem h]; rfl
theorem wE {l:List V} (hl:da (.list l)=true):aS .NotEq (.list l) (.list [])=some (!l.isEmpty):=congrArg (Option.map (!·)) (yP hl)
theorem dF (is:List Int):∀ x∈is.map PyData.int,d5 0 x:=fun x m=>by
 obtain ⟨i,_,rfl⟩:=zA7 m
 exact ⟨rfl,Nat.le_refl _⟩
theorem oG {α:Type} {p:α→Bool} {l:List α} {f:α→V}:((l.filter fun x=>!p x).map f).isEmpty=l.all p:=by
 induction l with
 | nil=>rfl
 | cons x l ih=>
  cases h:p x with
  | true=>rw [List.filter_cons_of_neg (by rw [h]; exact Bool.false_ne_true),ih,List.all_cons,h]; rfl
  | false=>rw [List.filter_cons_of_pos (by rw [h]; rfl),List.all_cons,h]; rfl
theorem rg {cf:ad} {G:Gs} {k:Nat} {a b:E} {is:List Int} {R:Int} (ha:Val cf G a (ae is)) (hz:is.length≤5000) (hk:∀ x,Val cf (G.set k (.v x)) (vv k) x) (hb:∀ x,Val cf (G.set k (.v x)) b (.int R)):Val cf G (.nd (.cmp .NotEq) [.nd (.comp k) [a,vv k,.nd .not [.nd (.chain true) [ii 0,vv k,b]]],.nd .list []]) (.bool (!is.all (inB R))):=by
 refine ac (ci (g:=PyData.int) (f:=PyData.int) (p:=fun i=>!inB R i) ha (aJ hz) (fun i m=>.one (au (gT (lt:=true) (i:=0) ix (hk _) (hb _)))) fun i m _=>hk _) ix ?_
 rw [wE (aR (aC (dF _)) (by decide)),oG]
theorem y3 {cf:ad} {p:List (List Nat)} {sv pv:V} {R:Int} {a:Nat} {K:Option V→Gs→Prop} (h31:S31 cf) (hp:WsOk p) (hT:(eH p a).all (inB R)=true→∀ G,K (some (.tuple (wj p a))) G) (hF:(eH p a).all (inB R)=false→∀ G,K (some .none) G):exs sup cf (f32.body.drop 5) [.v (aI p),.v sv,.v (.int R),.v (.int (a:Int)),.v pv,.unset,.unset,.unset] K:=by
 have hl:=hp.len
 have lt:∀ j,∀ c∈p.getD j [],c < 128:=fun j c m=>by
  rw [List.getD_eq_getElem?_getD] at m
  cases e:p[j]? with
  | none=>rw [e] at m; exact nomatch m
  | some w=>rw [e] at m; exact (hp.word w (List.mem_of_getElem? e)).2 c m
 have len:∀ {G:Gs},Val cf G (vv 0) (aI p)→Val cf G (.nd .len [vv 0]) (.int p.length):=fun h=>aa (.one h) (by
  have:=fO (l:=p.map text) (by exact zB1 (zB2 (List.length_map _)) (zB1 hp.len (by decide)))
  rw [zA4] at this; exact this)
 have num:∀ {G:Gs} {b:E} {i:Int} {j:Nat},i=(j:Int)→j < p.length→Val cf G (vv 0) (aI p)→Val cf G b (.int i)→Val cf G (.nd (.call 31) [.nd .sub [vv 0,b]]) (.int (aN (p.getD j []))):=fun e hj h0 hb=>ak (.one (aa (.two h0 hb) (pJ (Nat.le_add_left_of_le hl) e hj))) fun K h=>h31 _ K (lt _) h
 refine ag (v:=ae (eH p a)) ?_ ?_
 ·have q:=ci (cf:=cf) (G:=[.v (aI p),.v sv,.v (.int R),.v (.int (a:Int)),.v pv,.unset,.unset,.unset]) (k:=6) (s:=.nd .range [ii 1,.nd .len [vv 0]]) (e:=f32c0) (ts:=[.nd (.cmp .NotEq) [vv 6,vv 3]]) (x:=.list (a9 1 p.length)) (g:=fun i:Nat=>.int (1+(i:Int))) (p:=fun i:Nat=>!(1+(i:Int)==(a:Int))) (f:=fun i=>.int (aN (p.getD (1+i) []))) (ws:=List.range ((p.length:Int) - 1).toNat) (aa (.two (x:=.int 1) (y:=.int p.length) ix (len ix)) ((if_pos ⟨rfl,rOk_of (Int.natCast_nonneg _) (by exact Int.ofNat_le.mpr (zB1 hp.len (by decide)))⟩).trans (if_pos (bn (by unfold a9; rw [zA4,List.length_range]; omega))))) (aJ (by rw [List.length_range]; omega)) (fun i m=>.one (ac ix ix pb)) fun i m _=>num (by lia) (by have:=List.mem_range.mp m; omega) ix ix
  unfold ae eH
  rw [List.map_map]; exact q
 have hz:(eH p a).length≤5000:=by
  unfold eH
  rw [zA4]
  exact jt (by rw [List.length_range]; omega)
 refine bz (rg (k:=6) (R:=R) ix hz (fun x _ h=>h) fun x _ h=>h) (fun q=>ai (v:=.none) ix (hF (dU q) _)) fun q=>ai ?_ (hT (bS q) _)
 have q:=aG (cf:=cf) (G:=[.v (aI p),.v sv,.v (.int R),.v (.int (a:Int)),.v pv,.v (ae (eH p a)),.unset,.unset]) (k:=6) (s:=.nd .range [.nd .len [vv 0]]) (e:=yE) (f:=fun i:Nat=>if at1 a i=true then text (p.getD i []) else .int (aN (p.getD i []))) (fc (n:=p.length) (len ix) (Int.natCast_nonneg _) (by exact Int.ofNat_le.mpr (zB1 hp.len (by decide)))) ((fg (by exact Int.ofNat_le.mpr (zB1 hp.len (by decide)))).trans (congrArg some (gt p.length))) fun i m=>by
  have hi:i < p.length:=by have:=List.mem_range.mp m; rw [Int.toNat_natCast] at this; exact this
  refine iT (t:=at1 a i) (ac (x:=.int (0+(i:Int))) (y:=.tuple [.int 0,.int a]) ix ix ?_) (fun t=>?_) fun t=>?_
  ·refine (?_:(if (da (.int (0+(i:Int)))&&da (.tuple [.int 0,.int (a:Int)]))=true then some _ else none)=_)
   refine (if_pos rfl).trans (congrArg some ?_)
   refine (?_:((0:Int)==0+(i:Int)||(((a:Int)==0+(i:Int))||false))=(i==0||i==a))
   rw [Bool.or_false,Bool.eq_iff_iff,Bool.or_eq_true,Bool.or_eq_true,beq_iff_eq,beq_iff_eq,beq_iff_eq,beq_iff_eq]
   lia
  ·rw [if_pos t]; exact aa (.two ix ix) (pJ (Nat.le_add_left_of_le hl) (by lia) hi)
  ·rw [if_neg (by rw [t]; exact Bool.false_ne_true)]; exact num (by lia) hi ix ix
 refine aa (.one q) ?_
 unfold wj
 refine (?_:(bO _ _).map PyData.tuple=_)
 rw [Int.toNat_natCast]
 exact congrArg (Option.map PyData.tuple) (if_pos (bn (by rw [zA4,List.length_range]; exact zB1 hp.len (by decide))))
theorem wk {cf:ad} {p:List (List Nat)} {s0 s1 s2 s:List Nat} {R:Int} {k:Str} {n a:Nat} {K:V→Prop} (h31:S31 cf) (hp:WsOk p) (hh:p.headD []=kn k) (ha:a < n)
  (e1:∀ {G:Gs} {e:E},Val cf G e (.str k)→Val cf G (.nd .sub [.nd .list [ii 4,ii 5,ii 5],.nd (.index [kOn,kOpen,kClose]) [e]]) (.int (n:Int)))
  (e2:∀ {G:Gs} {e:E},Val cf G e (.str k)→Val cf G (.nd .ite [.nd (.cmp .Eq) [e,ss kClose],ii 3,ii 2]) (.int (a:Int)))
  (e3:∀ {G:Gs} {e b:E},Val cf G e (.str k)→Val cf G b (sg s0 s1 s2)→Val cf G (.nd .sub [b,.nd (.index [kOpen,kClose,kOn]) [e]]) (text s))
  (hG:p.length=n→∀ c,p.getD a []=[c]→c∈s→(eH p a).all (inB R)=true→K (.tuple (wj p a)))
  (hB:(p.length=n→∀ c,p.getD a []=[c]→c∈s→(eH p a).all (inB R)=true→False)→K .none) :
  exs sup cf (f32.body.drop 1) [.v (aI p),.v (sg s0 s1 s2),.v (.int R),.unset,.unset,.unset,.unset,.unset] fun fl _=>K (fl.getD .none):=by
 have hl:=hp.len
 have h0:∀ {G:Gs},Val cf G (vv 0) (aI p)→Val cf G (.nd .sub [vv 0,ii 0]) (.str k):=fun h=>aa (.two h ix) ((nj hp).trans (by rw [hh]; rfl))
 have len:∀ {G:Gs},Val cf G (vv 0) (aI p)→Val cf G (.nd .len [vv 0]) (.int p.length):=fun h=>aa (.one h) (by
  have:=fO (l:=p.map text) (by exact zB1 (zB2 (List.length_map _)) (zB1 hp.len (by decide)))
  rw [zA4] at this; exact this)
 refine bz (ac (len ix) (e1 (h0 ix)) pb) (fun q=>ai (v:=.none) ix (hB fun e=>?_)) fun q=>?_
 ·have q:=dU q
  rw [e,beq_self_eq_true] at q; exact nomatch q
 have hn:p.length=n:=Int.ofNat.inj (beq_iff_eq.mp (bS q))
 refine ag (e2 (h0 ix)) ?_
 refine ag (e3 (h0 ix) ix) ?_
 have hs:∀ {G:Gs},Val cf G (vv 0) (aI p)→Val cf G (vv 3) (.int (a:Int))→Val cf G (.nd .sub [vv 0,vv 3]) (text (p.getD a [])):=fun h h'=>aa (.two h h') (pJ (Nat.le_add_left_of_le hl) rfl (by exact Nat.lt_of_lt_of_le ha (zB2 hn.symm)))
 have wl:(p.getD a []).length≤1000:=by
  rw [List.getD_eq_getElem?_getD,List.getElem?_eq_getElem (by exact Nat.lt_of_lt_of_le ha (zB2 hn.symm))]
  exact (hp.word _ (List.getElem_mem _)).1
 have hc:Val cf [.v (aI p),.v (sg s0 s1 s2),.v (.int R),.v (.int (a:Int)),.v (text s),.unset,.unset,.unset] (.nd .or [.nd (.cmp .NotEq) [.nd .len [.nd .sub [vv 0,vv 3]],ii 1],.nd (.cmp .NotIn) [.nd .sub [vv 0,vv 3],vv 4]]) (.bool (!(((p.getD a []).length:Int)==1)||!(s.elem ((p.getD a []).headD 0)))):=aE (.or (ac (aa (.one (hs ix ix)) (iD (Nat.le_add_left_of_le wl))) ix pb) fun q=>.one' (ac (y:=text s) (hs ix ix) ix (by
  have q:=beq_iff_eq.mp (bS q)
  generalize p.getD a []=w at q
  match w,q with
  | [c],_=>rfl
  | [],q=>exact nomatch q
  | a :: b :: r,q=>rw [zB4,zB4] at q; lia)))
 refine bz hc (fun q=>ai (v:=.none) ix (hB fun e c ec hm=>?_)) fun q=>?_
 ·rw [ec] at q
  have q:(!s.elem c)=true:=q
  rw [List.elem_iff.mpr hm] at q; exact nomatch q
 ·obtain ⟨q1,q2⟩:=Bool.or_eq_false_iff.mp q
  have q1:=beq_iff_eq.mp (bS q1)
  have q2:=bS q2
  obtain ⟨c,ec⟩:∃ c,p.getD a []=[c]:=by
   generalize p.getD a []=w at q1
   match w,q1 with
   | [c],_=>exact ⟨c,rfl⟩
   | [],q=>exact nomatch q
   | a :: b :: r,q=>rw [zB4,zB4] at q; exact absurd (Int.le_of_eq q) (Int.not_le.mpr (Int.ofNat_lt.mpr (Nat.lt_succ_of_le (Nat.le_add_left _ _))))
  rw [ec] at q2
  have hm:c∈s:=List.elem_iff.mp q2
  exact y3 h31 hp (fun t G=>hG hn c ec hm t) fun t G=>hB fun _ _ _ _ t'=>by rw [t'] at t; exact nomatch t
noncomputable def S32 (cf:ad):Prop:=∀ (p:List (List Nat)) s0 s1 s2 R K,WsOk p→R≤40→(∀ w,W.ok s0 s1 s2 R w→w.words=p→K w.v)→((∀ w,W.ok s0 s1 s2 R w→w.words≠p)→K .none)→cf 32 [aI p,sg s0 s1 s2,.int R] K
theorem inB_iff {R i:Int}:inB R i=true ↔ In R i:=by
 unfold inB
 rw [Bool.and_eq_true,decide_eq_true_iff,decide_eq_true_iff]; rfl
theorem eG {R:Int} {w:List Nat} (h:In R (aN w)):nw (aN w)=w:=(rX h.1).2
theorem eI {R i:Int} (h:In R i) (hR:R≤40):aN (nw i)=i:=gY (h.up (by exact Int.le_trans hR (by decide)))
theorem xp {α:Type} {n:Nat} {l:List α} (h:l.length=n+1):∃ a r,l=a :: r∧r.length=n:=by
 cases l with
 | nil=>exact nomatch h
 | cons a r=>exact ⟨a,r,rfl,Nat.succ.inj h⟩
theorem Bu {α:Type} {l:List α} (h:l.length=4):∃ a b c d,l=[a,b,c,d]:=by
 obtain ⟨a,r,e,h⟩:=xp h
 obtain ⟨b,r,e1,h⟩:=xp h
 obtain ⟨c,r,e2,h⟩:=xp h
 obtain ⟨d,r,e3,h⟩:=xp h
 exact ⟨a,b,c,d,by rw [e,e1,e2,e3,List.length_eq_zero_iff.mp h]⟩
theorem Bt {α:Type} {l:List α} (h:l.length=5):∃ a b c d e,l=[a,b,c,d,e]:=by
 obtain ⟨a,r,e,h⟩:=xp h
 obtain ⟨b,c,d,f,e1⟩:=Bu h
 exact ⟨a,b,c,d,f,by rw [e,e1]⟩
theorem p32 (cf:ad) (h31:S31 cf):S32 (step cf):=fun p s0 s1 s2 R K hp hR hw hn=>by
 refine run (fn:=f32) rfl rfl rfl ?_
 have hl:=hp.len
 have c0:∀ c∈p.headD [],c < 128:=by
  cases p with
  | nil=>exact nofun
  | cons w r=>exact (hp.word w (.head _)).2
 have k0:∀ w∈[kn kOn,kn kOpen,kn kClose],∀ c∈w,c < 128:=by decide
 refine bz (ac (x:=text (p.headD [])) (y:=.tuple ([kn kOn,kn kOpen,kn kClose].map text)) (aa (.two (x:=aI p) ix ix) (nj hp)) ix (Ab k0 c0)) (fun q=>ai (v:=.none) ix (hn fun w ok e=>?_)) fun q=>?_
 ·have q:=dU q
  subst e
  cases w with
  | on=>
   have q:([kn kOn,kn kOpen,kn kClose].any fun z=>decide (z=kn kOn))=false:=q
   exact absurd q (by decide)
  | op=>
   have q:([kn kOn,kn kOpen,kn kClose].any fun z=>decide (z=kn kOpen))=false:=q
   exact absurd q (by decide)
  | cl=>
   have q:([kn kOn,kn kOpen,kn kClose].any fun z=>decide (z=kn kClose))=false:=q
   exact absurd q (by decide)
 obtain ⟨z,mz,ez⟩:=List.any_eq_true.mp (bS q)
 have ez:=of_decide_eq_true ez
 have all2:∀ {i j:Int},([i,j].all (inB R))=true ↔ In R i∧In R j:=fun {i j}=>by rw [List.all_cons,List.all_cons,List.all_nil,Bool.and_true,Bool.and_eq_true,inB_iff,inB_iff]
 have all3:∀ {i j l:Int},([i,j,l].all (inB R))=true ↔ In R i∧In R j∧In R l:=fun {i j l}=>by rw [List.all_cons,List.all_cons,List.all_cons,List.all_nil,Bool.and_true,Bool.and_eq_true,Bool.and_eq_true,inB_iff,inB_iff,inB_iff]
 have k1:kn kOn≠kn kOpen:=by decide
 have k2:kn kOn≠kn kClose:=by decide
 have k3:kn kOpen≠kn kClose:=by decide
 rcases List.mem_cons.mp mz with rfl | mz
 ·refine wk (k:=kOn) (n:=4) (a:=2) (s:=s2) h31 hp ez.symm (by decide) (fun h=>aa (.two ix (aa (.one h) rfl)) rfl) (fun h=>iT (t:=false) (ac h ix (fQ m7 bR)) (fun q=>nomatch q) fun _ _ h=>h) (fun h h'=>aa (.two h' (aa (.one h) rfl)) rfl) (fun el c ec mc al=>?_) fun no=>hn fun w ok e=>?_
  ·obtain ⟨h,a,b,d,ep⟩:=Bu el
   rw [ep] at ez ec al ⊢
   obtain rfl:kn kOn=h:=ez
   obtain rfl:b=[c]:=ec
   obtain ⟨i1,i2⟩:=(all2 (i:=aN a) (j:=aN d)).mp al
   exact hw (.on (aN a) c (aN d)) ⟨i1,mc,i2⟩ (by rw [ep]; refine (?_:[_,_,_,_]=_); rw [eG i1,eG i2])
  ·subst e
   cases w with
   | on a c b=>exact no rfl c rfl ok.2.1 (all2.mpr (by refine (?_:In R (aN (nw a))∧In R (aN (nw b))); rw [eI ok.1 hR,eI ok.2.2 hR]; exact ⟨ok.1,ok.2.2⟩))
   | op=>exact absurd ez k1
   | cl=>exact absurd ez k2
 rcases List.mem_cons.mp mz with rfl | mz
 ·refine wk (k:=kOpen) (n:=5) (a:=2) (s:=s0) h31 hp ez.symm (by decide) (fun h=>aa (.two ix (aa (.one h) rfl)) rfl) (fun h=>iT (t:=false) (ac h ix (fQ cM bR)) (fun q=>nomatch q) fun _ _ h=>h) (fun h h'=>aa (.two h' (aa (.one h) rfl)) rfl) (fun el c ec mc al=>?_) fun no=>hn fun w ok e=>?_
  ·obtain ⟨h,a,b,d,f,ep⟩:=Bt el
   rw [ep] at ez ec al ⊢
   obtain rfl:kn kOpen=h:=ez
   obtain rfl:b=[c]:=ec
   obtain ⟨i1,i2,i3⟩:=(all3 (i:=aN a) (j:=aN d) (l:=aN f)).mp al
   exact hw (.op (aN a) c (aN d) (aN f)) ⟨i1,mc,i2,i3⟩ (by rw [ep]; refine (?_:[_,_,_,_,_]=_); rw [eG i1,eG i2,eG i3])
  ·subst e
   cases w with
   | op a c b t=>exact no rfl c rfl ok.2.1 (all3.mpr (by refine (?_:In R (aN (nw a))∧In R (aN (nw b))∧In R (aN (nw t))); rw [eI ok.1 hR,eI ok.2.2.1 hR,eI ok.2.2.2 hR]; exact ⟨ok.1,ok.2.2⟩))
   | on=>exact absurd ez k1.symm
   | cl=>exact absurd ez k3
 ·obtain rfl:=zA6 mz
  refine wk (k:=kClose) (n:=5) (a:=3) (s:=s1) h31 hp ez.symm (by decide) (fun h=>aa (.two ix (aa (.one h) rfl)) rfl) (fun h=>iT (t:=true) (ac h ix (fQ bR bR)) (fun _ _ h=>h) fun q=>nomatch q) (fun h h'=>aa (.two h' (aa (.one h) rfl)) rfl) (fun el c ec mc al=>?_) fun no=>hn fun w ok e=>?_
  ·obtain ⟨h,a,b,d,f,ep⟩:=Bt el
   rw [ep] at ez ec al ⊢
   obtain rfl:kn kClose=h:=ez
   obtain rfl:d=[c]:=ec
   obtain ⟨i1,i2,i3⟩:=(all3 (i:=aN a) (j:=aN b) (l:=aN f)).mp al
   exact hw (.cl (aN a) (aN b) c (aN f)) ⟨i1,i2,mc,i3⟩ (by rw [ep]; refine (?_:[_,_,_,_,_]=_); rw [eG i1,eG i2,eG i3])
  ·subst e
   cases w with
   | cl a b c t=>exact no rfl c rfl ok.2.2.1 (all3.mpr (by refine (?_:In R (aN (nw a))∧In R (aN (nw b))∧In R (aN (nw t))); rw [eI ok.1 hR,eI ok.2.1 hR,eI ok.2.2.2 hR]; exact ⟨ok.1,ok.2.1,ok.2.2.2⟩))
   | on=>exact absurd ez k2.symm
   | op=>exact absurd ez k3.symm
theorem jA {P:V→Prop} (hP:∀ x y,P x→P y→PyData.eqv x y=true→x=y):∀ {a b:List V},(∀ x∈a,P x)→(∀ x∈b,P x)→PyData.eqv (.list a) (.list b)=true→a=b
 | [],[],_,_,_=>rfl
 | [],_ :: _,_,_,e=>nomatch e
 | _ :: _,[],_,_,e=>nomatch e
 | x :: a,y :: b,ha,hb,e=>by
  obtain ⟨e1,e2⟩:=zA2 (e:(PyData.eqv x y&&PyData.eqv (.list a) (.list b))=true)
  rw [hP x y (ha x (.head _)) (hb y (.head _)) e1,jA hP (fun x m=>ha x (.tail _ m)) (fun x m=>hb x (.tail _ m)) e2]
theorem vk (a b:List Int):PyData.eqv (ae a) (ae b)=decide (a=b):=by
 rw [Bool.eq_iff_iff,decide_eq_true_iff]
 refine ⟨fun e=>?_,fun e=>?_⟩
 ·have:=jA (P:=fun x=>∃ i:Int,x=.int i) (fun x y ⟨i,hi⟩ ⟨j,hj⟩ e=>by
   subst hi hj
   rw [beq_iff_eq.mp (e:(i==j)=true)]) (fun x m=>by obtain ⟨i,_,rfl⟩:=zA7 m; exact ⟨i,rfl⟩) (fun x m=>by obtain ⟨i,_,rfl⟩:=zA7 m; exact ⟨i,rfl⟩) e
  exact dy (P:=fun _=>True) (fun _ _ _ _ e=>PyData.int.inj e) (fun _ _=>trivial) (fun _ _=>trivial) this
 ·subst e
  exact PySem.SeqAt.eqv_refl _ (aC (dF a)).1
theorem lz {a b:List (List Nat)} (ha:∀ w∈a,∀ c∈w,c < 128):PyData.eqv (.list (a.map text)) (.list (b.map text))=decide (a=b):=by
 have ti:∀ {x y:List Nat},text x=text y→x=y:=fun e=>congrArg lX e
 rw [Bool.eq_iff_iff,decide_eq_true_iff]
 refine ⟨fun e=>?_,fun e=>?_⟩
 ·have:=jA (P:=fun x=>∃ w:List Nat,x=text w) (fun x y ⟨i,hi⟩ ⟨j,hj⟩ e=>by
   subst hi hj
   rw [wx] at e
   rw [of_decide_eq_true e]) (fun x m=>by obtain ⟨i,_,rfl⟩:=zA7 m; exact ⟨i,rfl⟩) (fun x m=>by obtain ⟨i,_,rfl⟩:=zA7 m; exact ⟨i,rfl⟩) e
  exact dy (P:=fun _=>True) (fun _ _ _ _ e=>ti e) (fun _ _=>trivial) (fun _ _=>trivial) this
 ·subst e
  exact PySem.SeqAt.eqv_refl _ (aC (dz ha)).1
theorem Bh {a b:List (List Nat)} (ha:∀ w∈a,∀ c∈w,c < 128) (hb:∀ w∈b,∀ c∈w,c < 128):aS .NotEq (.list (a.map text)) (.list (b.map text))=some (!decide (a=b)):=congrArg (Option.map (!·)) ((if_pos (by rw [aR (aC (dz ha)) (by decide),aR (aC (dz hb)) (by decide)]; rfl)).trans (congrArg some (lz ha)))
theorem Bj {a b:List (List Nat)} (ha:∀ w∈a,∀ c∈w,c < 128) (hb:∀ w∈b,∀ c∈w,c < 128):aS .Eq (.list (a.map text)) (.list (b.map text))=some (decide (a=b)):=(if_pos (by rw [aR (aC (dz ha)) (by decide),aR (aC (dz hb)) (by decide)]; rfl)).trans (congrArg some (lz ha))
noncomputable def upB (is:List Int):Bool:=decide (is.Nodup∧is.Pairwise (·≤·))
theorem s4 {cf:ad} {G:Gs} {a:E} {is:List Int} (ha:Val cf G a (ae is)) (hz:is.length < 64):Val cf G (.nd (.cmp .NotEq) [a,.nd .sortedSetI [a]]) (.bool (!upB is)):=fun K h=>ha _ (ha _ (aL (jk is) ⟨hz,fun r hn hm hr=>aL (z:=!upB is) (by
 refine congrArg (Option.map (!·)) ((if_pos (zA3 ⟨aR (aC (dF is)) (by decide),aR (aC (dF r)) (by decide)⟩)).trans (congrArg some ((vk is r).trans ?_)))
 unfold upB
 rw [Bool.eq_iff_iff,decide_eq_true_iff,decide_eq_true_iff]
 refine ⟨fun e=>e▸⟨hn,hr⟩,fun ⟨h1,h2⟩=>?_⟩
 exact (g9 (((List.perm_ext_iff_of_nodup hn h1).mpr hm)) hr (.refl _) h2).symm) h⟩))
open Classical in
noncomputable def upW (l:List V):Bool:=decide (l.Nodup∧gD l)
open Classical in
theorem lT {l:List V}:upW l=true ↔ l.Nodup∧gD l:=decide_eq_true_iff
theorem sZ {cf:ad} {G:Gs} {a:E} {s0 s1 s2:List Nat} {R:Int} {ws:List W} (sk:SgOk s0 s1 s2) (ok:∀ w∈ws,W.ok s0 s1 s2 R w) (ha:Val cf G a (bP ws)) (hz:ws.length < 64):Val cf G (.nd (.cmp .NotEq) [a,.nd .sortedSet [a]]) (.bool (!upW (ws.map W.v))):=fun K h=>ha _ (jx (K:=fun y=>okK (aS .NotEq (bP ws) y) fun b=>K (.bool b)) ha ⟨zA3 ⟨List.all_eq_true.mpr fun x m=>by
  obtain ⟨w,mw,rfl⟩:=zA7 m
  exact vE sk (ok w mw),decide_eq_true (bn (by exact zB1 (zB2 (List.length_map _)) (zB1 (Nat.le_of_lt hz) (by decide))))⟩,fun x mx y my=>by
  obtain ⟨w,mw,rfl⟩:=zA7 mx
  obtain ⟨u,mu,rfl⟩:=zA7 my
  exact vF w u,⟨ws.map W.v,by rw [zA4]; exact hz,fun _ m=>m⟩,fun r hn hm hr=>aL (z:=!upW (ws.map W.v)) (by
 refine congrArg (Option.map (!·)) ((if_pos (zA3 ⟨aR (aC (dE sk ok fun _ m=>m)) (by decide),aR (aC (dE sk ok fun y m=>(hm y).mp m)) (by decide)⟩)).trans (congrArg some ?_))
 rw [Bool.eq_iff_iff,lT]
 refine ⟨fun e=>?_,fun ⟨h1,h2⟩=>?_⟩
 ·have:=jA (P:=fun x=>x∈ws.map W.v) (fun x y hx hy e=>xU sk ok hx hy e) (fun _ m=>m) (fun y m=>(hm y).mp m) e
  rw [this]; exact ⟨hn,hr⟩
 ·rw [kU sk ok hn hm hr h1 (fun _=>.rfl) h2]
  exact PySem.SeqAt.eqv_refl _ (aC (dE sk ok fun _ m=>m)).1) h⟩)
theorem s5 {cf:ad} {G:Gs} {a:E} {k:Nat} {p:List (List Nat)} (h31:S31 cf) (ha:Val cf G a (aI p)) (hp:WsOk p) (hk:∀ x,Val cf (G.set k (.v x)) (vv k) x):Val cf G (.nd (.comp k) [.nd (.slice true false) [a,ii 1],.nd (.call 31) [vv k]]) (ae (p.tail.map aN)):=by
 obtain ⟨h1,h2,_⟩:=hp.tail
 have q:=aG (cf:=cf) (G:=G) (k:=k) (e:=.nd (.call 31) [vv k]) (g:=text) (f:=fun w=>.int (aN w)) (ws:=p.tail) (gi ha hp) (aJ (Nat.le_add_left_of_le h1)) fun w m=>ak (.one (hk _)) fun K h=>h31 w K (h2 w m).2 h
 unfold ae
 rw [List.map_map]; exact q
noncomputable def jn (R:Int) (x:V):Bool:=match dW x bZ with
 | some is=>upB is&&is.all (inB R)
 | none=>false
theorem goodI_eq {R:Int} {is:List Int}:jn R (ae is)=(upB is&&is.all (inB R)):=by
 unfold jn
 rw [show dW (ae is) bZ=some is from jk is]
open Classical in
noncomputable def rc (a b c:List Nat) (R:Int) (p:List (List Nat)):V:=if h:∃ w,W.ok a b c R w∧w.words=p then h.choose.v else .none
theorem qz {a b c:List Nat} {R:Int} {w:W} (hR:R≤40) (ok:W.ok a b c R w):rc a b c R w.words=w.v:=by
 have h:∃ u,W.ok a b c R u∧u.words=w.words:=⟨w,ok,rfl⟩
 unfold rc
 rw [dif_pos h]
 exact congrArg W.v (gS (by exact Int.le_trans hR (by decide)) h.choose_spec.1 ok h.choose_spec.2)
theorem qA {a b c:List Nat} {R:Int} {p:List (List Nat)} (h:¬ ∃ w,W.ok a b c R w∧w.words=p):rc a b c R p=.none:=dif_neg h
theorem ways_or {a b c:List Nat} {R:Int}:∀ rest:List (List (List Nat)),(∃ ws:List W,(∀ w∈ws,W.ok a b c R w)∧ws.map W.words=rest)∨∃ p∈rest,¬ ∃ w,W.ok a b c R w∧w.words=p
 | []=>.inl ⟨[],nofun,rfl⟩
 | p :: rest=>by
  by_cases h:∃ w,W.ok a b c R w∧w.words=p
  ·rcases ways_or (a:=a) (b:=b) (c:=c) (R:=R) rest with ⟨ws,h1,h2⟩ | ⟨q,mq,hq⟩
   ·obtain ⟨w,hw,e⟩:=h
    exact .inl ⟨w :: ws,zA1 ⟨hw,h1⟩,by rw [List.map_cons,e,h2]⟩
   ·exact .inr ⟨q,.tail _ mq,hq⟩
  ·exact .inr ⟨p,.head _,h⟩
structure PsEq (ps:List (List (List Nat))) (a b c r:List Nat) (t4 t5:List (List Nat)) (rest:List (List (List Nat))):Prop where
 eq:ps=(hd0 :: tl a) :: (hd1 :: tl b) :: (hd2 :: tl c) :: [hd3,r] :: (hd4 :: t4) :: (hd5 :: t5) :: rest
 ok:∀ p∈ps,WsOk p
 few:ps.length≤40
theorem PsEq.inv {ps:List (List (List Nat))} {a b c r:List Nat} {t4 t5:List (List Nat)} {rest:List (List (List Nat))} {R:Int} (h:PsEq ps a b c r t4 t5 rest) (er:nw R=r) (r1:1≤R) (r2:R≤40) {D:Ds} (ok:D.Ok) (e:D.words=ps):D.s0=a∧D.s1=b∧D.s2=c∧D.R=R∧D.st.map nw=t4∧D.en.map nw=t5∧D.ws.map W.words=rest:=by
 have a1:=ok.g.r1
 have a2:=ok.g.r2
 obtain ⟨e0,h0⟩:=zA5 (e.trans h.eq)
 obtain ⟨e1,h1⟩:=zA5 h0
 obtain ⟨e2,h2⟩:=zA5 h1
 obtain ⟨e3,h3⟩:=zA5 h2
 obtain ⟨e4,h4⟩:=zA5 h3
 obtain ⟨e5,h5⟩:=zA5 h4
 refine ⟨iA (zA5 e0).2,iA (zA5 e1).2,iA (zA5 e2).2,?_,(zA5 e4).2,(zA5 e5).2,h5⟩
 exact cH (R:=100) (Int.le_refl _) ⟨by exact Int.le_trans (by decide) a1,by exact Int.lt_of_le_of_lt a2 (by decide)⟩ ⟨by exact Int.le_trans (by decide) r1,by exact Int.lt_of_le_of_lt r2 (by decide)⟩ ((zA5 (zA5 e3).2).1.trans er.symm)
theorem k9 {R:Int} {is:List Int} (k:∀ i∈is,In R i) (hR:R≤40):(is.map nw).map aN=is:=by
 rw [List.map_map]
 exact (List.map_congr_left fun i m=>eI (k i m) hR).trans (List.map_id _)
theorem oE {R:Int} {t:List (List Nat)} (h:(t.map aN).all (inB R)=true):(t.map aN).map nw=t:=by
 rw [List.map_map]
 exact (List.map_congr_left fun w m=>eG (inB_iff.mp (List.all_eq_true.mp h _ (List.mem_map.mpr ⟨w,m,rfl⟩)))).trans (List.map_id _)
theorem jm {R:Int} {is:List Int} (k:RoomsOk R is) (o:is.Pairwise (·≤·)):jn R (ae is)=true:=by
 rw [goodI_eq,Bool.and_eq_true]
 exact ⟨decide_eq_true ⟨k.nodup,o⟩,List.all_eq_true.mpr fun i m=>inB_iff.mpr (k.rooms i m)⟩
theorem y2 {cf:ad} {T a b c r:List Nat} {t4 t5:List (List Nat)} {ps rest:List (List (List Nat))} {R:Int} {hv ev4:V} {K:V→Prop} (h31:S31 cf) (h32:S32 cf) (hp:PsEq ps a b c r t4 t5 rest) (sk:SgOk a b c) (er:nw R=r) (r1:1≤R) (r2:R≤40)
  (hD:∀ D:Ds,D.Ok→D.words=ps→D.ws.length≤40→K D.parts) (hN:(∀ D:Ds,D.Ok→D.words≠ps)→K .none) :
  exs sup cf (f33.body.drop 11) [.v (text T),.v (.list (ps.map aI)),.v hv,.v (sg a b c),.v ev4,.unset,.unset,.unset,.unset,.unset,.unset,.unset,.unset] fun fl _=>K (fl.getD .none):=by
 obtain ⟨eq,wok,few⟩:=id hp
 have w4:=wok (hd4 :: t4) (eq▸.tail _ (.tail _ (.tail _ (.tail _ (.head _)))))
 have w5:=wok (hd5 :: t5) (eq▸.tail _ (.tail _ (.tail _ (.tail _ (.tail _ (.head _))))))
 have w3:=wok [hd3,r] (eq▸.tail _ (.tail _ (.tail _ (.head _))))
 have wr:∀ p∈rest,WsOk p:=fun p m=>wok p (eq▸.tail _ (.tail _ (.tail _ (.tail _ (.tail _ (.tail _ m))))))
 have hrl:rest.length≤34:=by rw [eq] at few; simp only [zB4] at few; lia
 have hz:(ps.map aI).length≤5000:=by exact zB1 (zB2 (List.length_map _)) (zB1 hp.few (by decide))
 have inv:=fun D=>hp.inv er r1 r2 (D:=D)
 refine ag (v:=.list [ae (t4.map aN),ae (t5.map aN)]) ?_ ?_
 ·refine aG (g:=aI) (ws:=[hd4 :: t4,hd5 :: t5]) (f:=fun p=>ae (p.tail.map aN)) (x:=.list ([hd4 :: t4,hd5 :: t5].map aI)) (aa (vs:=[.list (ps.map aI),.int 4,.int 6]) (.cons ix (.two ix ix)) ?_) (aJ (by refine (?_:2≤5000); decide)) fun p m=>s5 h31 ix ((zA1 ⟨w4,zA1 ⟨w5,nofun⟩⟩:∀ p∈[hd4 :: t4,hd5 :: t5],WsOk p) p m) fun x _ h=>h
  refine (eL (l:=ps.map aI) (f:=PyData.list) (lo:=some (.int 4)) (hi:=some (.int 6)) (i:=4) (j:=6) hz (dO (by decide) ?_) (dO (by decide) ?_) (by decide)).trans ?_
  ·rw [zA4,eq]; simp only [zB4]; refine (?_:4≤_); exact Nat.le_add_left _ _
  ·rw [zA4,eq]; simp only [zB4]; refine (?_:6≤_); exact Nat.le_add_left _ _
  ·rw [eq]; rfl
 have hR:aN r=R:=er▸gY ⟨by exact Int.le_trans (by decide) r1,by exact Int.lt_of_le_of_lt r2 (by decide)⟩
 have lt3:∀ c∈r,c < 128:=(w3.word r (.tail _ (.head _))).2
 have hr3:∀ {G:Gs},Val cf G (vv 1) (.list (ps.map aI))→Val cf G (.nd (.call 31) [.nd .sub [.nd .sub [vv 1,ii 3],ii 1]]) (.int R):=fun h=>ak (.one (aa (.two (aa (.two h ix) (cI hz (by decide) (x:=aI [hd3,r]) (by rw [eq]; rfl))) ix) (pJ (p:=[hd3,r]) (j:=1) (by refine (?_:2≤100); decide) rfl (by refine (?_:1 < 2); decide)))) fun K h=>h31 r K lt3 (by rw [hR]; exact h)
 refine ag (hr3 ix) ?_
 have l4:(t4.map aN).length < 64:=by rw [zA4]; have:=w4.len; rw [zB4] at this; lia
 have l5:(t5.map aN).length < 64:=by rw [zA4]; have:=w5.len; rw [zB4] at this; lia
 refine vC (p:=jn R) (xs:=[ae (t4.map aN),ae (t5.map aN)]) (I:=fun G=>∃ t u,G=[.v (text T),.v (.list (ps.map aI)),.v hv,.v (sg a b c),.v ev4,.v (.list [ae (t4.map aN),ae (t5.map aN)]),.v (.int R),t,.unset,u,.unset,.unset,.unset]) (v:=.list [ae (t4.map aN),ae (t5.map aN)]) (y:=.none) ix (bD (by refine (?_:2≤5000); decide)) ⟨_,_,rfl⟩ (fun G x ⟨t,u,e⟩=>⟨.v x,u,by rw [e]; rfl⟩) (fun G x ⟨t,u,e⟩ m=>?_) (fun _ _ h=>h) rfl ?rT ?rF
 ·subst e
  obtain ⟨is,li,rfl⟩:∃ is:List Int,is.length < 64∧x=ae is:=by
   rcases List.mem_cons.mp m with rfl | m
   ·exact ⟨_,l4,rfl⟩
   ·obtain rfl:=zA6 m
    exact ⟨_,l5,rfl⟩
  rw [goodI_eq,Bool.not_and]
  exact aE (.or (s4 ix li) fun _=>.one' (rg (k:=9) (R:=R) ix (by exact zB1 (Nat.le_of_lt li) (by decide)) (fun x _ h=>h) fun x _ h=>h))
 case rF=>
  refine fun q G _=>hN fun D ok e=>?_
  obtain ⟨i0,i1,i2,i3,i4,i5,i6⟩:=inv D ok e
  rw [← i4,← i5,k9 (i3▸ok.g.st.rooms) r2,k9 (i3▸ok.g.en.rooms) r2] at q
  have q:(jn R (ae D.st)&&(jn R (ae D.en)&&true))=false:=q
  rw [jm (i3▸ok.g.st) ok.o1,jm (i3▸ok.g.en) ok.o2] at q
  exact nomatch q
 intro q G ⟨t,u,e⟩
 subst e
 have q:(jn R (ae (t4.map aN))&&(jn R (ae (t5.map aN))&&true))=true:=q
 rw [Bool.and_true,Bool.and_eq_true,goodI_eq,goodI_eq,Bool.and_eq_true,Bool.and_eq_true] at q
 obtain ⟨⟨u4,b4⟩,⟨u5,b5⟩⟩:=q
 have u4:=of_decide_eq_true u4
 have u5:=of_decide_eq_true u5
 have rm:∀ {is:List Int},is.Nodup→is.all (inB R)=true→RoomsOk R is:=fun hn hb=>by
  have hi:∀ i∈_,In R i:=fun i m=>inB_iff.mp (List.all_eq_true.mp hb i m)
  exact ⟨oJ r2 hn hi,hn,hi⟩
 refine ag (v:=.list (rest.map (rc a b c R))) ?_ ?_
 ·refine aG (g:=aI) (x:=.list (rest.map aI)) (aa (.two (x:=.list (ps.map aI)) ix ix) ?_) (aJ (Nat.le_add_left_of_le hrl)) fun p m=>ak (vs:=[aI p,sg a b c,.int R]) (.cons ix (.two ix ix)) (fun K h=>h32 p a b c R K (wr p m) r2 (fun w ok e=>?_) fun no=>?_) ?_
  ·refine (nk (n:=6) hz).trans ?_
   rw [eq]; rfl
  ·subst e; rw [qz r2 ok] at h; exact h
  ·rw [qA fun ⟨w,ok,e⟩=>no w ok e] at h; exact h
  ·unfold rc; split <;> rfl
 rcases ways_or (a:=a) (b:=b) (c:=c) (R:=R) rest with ⟨ws,okw,ew⟩ | ⟨p,mp,no⟩
 ·have el:rest.map (rc a b c R)=ws.map W.v:=by
   rw [← ew,List.map_map]
   exact List.map_congr_left fun w m=>qz r2 (okw w m)
  rw [el]
  have hwl:ws.length≤34:=by rw [← ew,zA4] at hrl; exact hrl
  have c1:aS .In .none (.list (ws.map W.v))=some false:=(if_pos (zA3 ⟨rfl,aR (aC (dE sk okw fun _ m=>m)) (by decide)⟩)).trans (congrArg some (by
   rw [List.any_map]
   refine Bool.eq_false_iff.mpr fun z=>?_
   obtain ⟨w,_,z⟩:=List.any_eq_true.mp z
   exact nomatch z))
  refine bz (aE (.or (ac (x:=.none) (y:=.list (ws.map W.v)) ix ix c1) fun _=>.one' (sZ sk okw ix (by exact Nat.lt_of_le_of_lt hwl (by decide))))) (fun z=>ai (v:=.none) ix (hN fun D ok e=>?_)) fun z=>?_
  ·obtain ⟨i0,i1,i2,i3,i4,i5,i6⟩:=inv D ok e
   have z:=dU z
   have:D.ws=ws:=dy (P:=W.ok a b c R) (fun w u=>gS (by exact Int.le_trans r2 (by decide))) (by have:=ok.g.ok; rw [i0,i1,i2,i3] at this; exact this) okw (i6.trans ew.symm)
   rw [← this,lT.mpr ⟨ok.nd,ok.up⟩] at z; exact nomatch z
  ·have z:=lT.mp (bS z)
   have hh:=hD ⟨a,b,c,R,t4.map aN,t5.map aN,ws⟩ ⟨⟨sk,r1,r2,rm u4.1 b4,rm u5.1 b5,by exact Nat.le_add_left_of_le hwl,okw,.inl (by refine (?_:(ws.map W.v).length < 64); rw [zA4]; exact Nat.lt_of_le_of_lt hwl (by decide))⟩,u4.2,u5.2,z.1,z.2⟩ (by
    unfold Ds.words
    rw [eq,oE b4,oE b5,er,ew]) (Nat.le_add_left_of_le hwl)
   refine ai (v:=.tuple [sg a b c,.int R,ae (t4.map aN),ae (t5.map aN),.list (ws.map W.v)]) (aa (vs:=[sg a b c,.int R,ae (t4.map aN),ae (t5.map aN),.list (ws.map W.v)]) (.cons ix (.cons ix (.cons ix (.two ix ix)))) rfl) hh
 ·have c1:aS .In .none (.list (rest.map (rc a b c R)))=some true:=(if_pos (zA3 ⟨rfl,aR (aC (n:=1) fun x m=>by
   obtain ⟨p,mp,rfl⟩:=zA7 m
   by_cases h:∃ w,W.ok a b c R w∧w.words=p
   ·obtain ⟨w,ok,rfl⟩:=h
    rw [qz r2 ok]; exact j3 sk ok
   ·rw [qA h]; exact ⟨rfl,Nat.zero_le _⟩) (by decide)⟩)).trans (congrArg some (List.any_eq_true.mpr ⟨.none,List.mem_map.mpr ⟨p,mp,qA no⟩,rfl⟩))
  refine aV (aE (.stop (b:=false) (ac (x:=.none) (y:=.list (rest.map (rc a b c R))) ix ix c1))) (ai (v:=.none) ix (hN fun D ok e=>?_))
  obtain ⟨i0,i1,i2,i3,i4,i5,i6⟩:=inv D ok e
  rw [← i6] at mp
  obtain ⟨w,mw,ew⟩:=zA7 mp
  have:=ok.g.ok w mw
  rw [i0,i1,i2,i3] at this
  exact no ⟨w,this,ew⟩
theorem zr {l:List Nat} (h:l.length < 4000):opN .lenSet [text l]=some (.int (ded l).length):=by
 refine (?_:(fC (text l)).map _=_)
 rw [show fC (text l)=some (ded l).length from if_pos h]; rfl
theorem Bs {a b c:Int}:opN .max [.list [.int a,.int b,.int c]]=some (.int (max (max a b) c)):=rfl
structure Six (ps:List (List (List Nat))) (t0 t1 t2 t3 t4 t5:List (List Nat)) (rest:List (List (List Nat))):Prop where
 eq:ps=(hd0 :: t0) :: (hd1 :: t1) :: (hd2 :: t2) :: (hd3 :: t3) :: (hd4 :: t4) :: (hd5 :: t5) :: rest
 ok:∀ p∈ps,WsOk p
 few:ps.length≤40
theorem Six.inv {ps:List (List (List Nat))} {t0 t1 t2 t3 t4 t5:List (List Nat)} {rest:List (List (List Nat))} (h:Six ps t0 t1 t2 t3 t4 t5 rest) {D:Ds} (ok:D.Ok) (e:D.words=ps):tl D.s0=t0∧tl D.s1=t1∧tl D.s2=t2∧[nw D.R]=t3:=by
 obtain ⟨e0,h0⟩:=zA5 (e.trans h.eq)
 obtain ⟨e1,h1⟩:=zA5 h0
 obtain ⟨e2,h2⟩:=zA5 h1
 obtain ⟨e3,h3⟩:=zA5 h2
 exact ⟨(zA5 e0).2,(zA5 e1).2,(zA5 e2).2,(zA5 e3).2⟩
theorem iz (s:List Nat):(tl s).length≤1:=by
 cases s with
 | nil=>exact Nat.zero_le _
 | cons=>exact Nat.le_refl _
theorem wg (s:List Nat):tl s≠[[]]:=by
 cases s with
 | nil=>exact nofun
 | cons=>exact fun e=>nomatch (zA5 e).1
theorem qB {h:List Nat} {t:List (List Nat)} (hl:t.length≤1) (hn:t≠[[]]):tl (cat (h :: t))=t:=by
 match t,hl,hn with
 | [],_,_=>rfl
 | [[]],_,hn=>exact absurd rfl hn
 | [a :: r],_,_=>rfl
 | _ :: _ :: _,hl,_=>rw [zB4,zB4] at hl; lia
theorem AK {cf:ad} {T:List Nat} {t0 t1 t2 t3 t4 t5:List (List Nat)} {ps rest:List (List (List Nat))} {hv:V} {K:V→Prop} (h31:S31 cf) (h32:S32 cf) (hp:Six ps t0 t1 t2 t3 t4 t5 rest)
  (hD:∀ D:Ds,D.Ok→D.words=ps→D.ws.length≤40→K D.parts) (hN:(∀ D:Ds,D.Ok→D.words≠ps)→K .none) :
  exs sup cf (f33.body.drop 4) [.v (text T),.v (.list (ps.map aI)),.v hv,.unset,.unset,.unset,.unset,.unset,.unset,.unset,.unset,.unset,.unset] fun fl _=>K (fl.getD .none):=by
 obtain ⟨eq,wok,few⟩:=id hp
 have w0:=wok (hd0 :: t0) (eq▸.head _)
 have w1:=wok (hd1 :: t1) (eq▸.tail _ (.head _))
 have w2:=wok (hd2 :: t2) (eq▸.tail _ (.tail _ (.head _)))
 have w3:=wok (hd3 :: t3) (eq▸.tail _ (.tail _ (.tail _ (.head _))))
 have hz:(ps.map aI).length≤5000:=by exact zB1 (zB2 (List.length_map _)) (zB1 hp.few (by decide))
 have inv:=fun D=>hp.inv (D:=D)
 have non:∀ {G:Gs} {r:List S},(∀ D:Ds,D.Ok→D.words≠ps)→exs sup cf (.mk .ret [nn] [] [] :: r) G fun fl _=>K (fl.getD .none):=fun h=>ai (v:=.none) ix (hN h)
 have three:∀ p∈[hd0 :: t0,hd1 :: t1,hd2 :: t2],WsOk p:=zA1 ⟨w0,zA1 ⟨w1,zA1 ⟨w2,nofun⟩⟩⟩
 have v3:∀ {G:Gs},Val cf G (vv 1) (.list (ps.map aI))→Val cf G (.nd (.slice false true) [vv 1,ii 3]) (.list ([hd0 :: t0,hd1 :: t1,hd2 :: t2].map aI)):=fun h=>aa (.two h ix) (by
  refine (m8 (n:=3) hz (by rw [zA4,eq]; simp only [zB4]; lia)).trans ?_
  rw [eq]; rfl)
 have s3:bM (.list ([hd0 :: t0,hd1 :: t1,hd2 :: t2].map aI))=some ([hd0 :: t0,hd1 :: t1,hd2 :: t2].map aI):=aJ (by refine (?_:3≤5000); decide)
 have row3:∀ {G:Gs},Val cf G (vv 1) (.list (ps.map aI))→Val cf G (.nd .sub [vv 1,ii 3]) (aI (hd3 :: t3)):=fun h=>aa (.two h ix) (cI hz (by decide) (by rw [eq]; rfl))
 have len:∀ {G:Gs} {e:E} {p:List (List Nat)},WsOk p→Val cf G e (aI p)→Val cf G (.nd .len [e]) (.int p.length):=fun {G e p} hp h=>aa (.one h) (by
  have:=fO (l:=p.map text) (by exact zB1 (zB2 (List.length_map _)) (zB1 hp.len (by decide)))
  rw [zA4] at this; exact this)
 -- how long the rows are
 have c4:Val cf [.v (text T),.v (.list (ps.map aI)),.v hv,.unset,.unset,.unset,.unset,.unset,.unset,.unset,.unset,.unset,.unset] (.nd .or [.nd (.cmp .Gt) [.nd .max [.nd (.comp 9) [.nd (.slice false true) [vv 1,ii 3],wq]],ii 2],.nd (.cmp .NotEq) [.nd .len [.nd .sub [vv 1,ii 3]],ii 2]]) (.bool (decide ((2:Int) < max (max ((hd0 :: t0).length:Int) (hd1 :: t1).length) (hd2 :: t2).length)||!(((hd3 :: t3).length:Int)==2))):=
  aE (.or (ac (aa (.one (aG (k:=9) (e:=wq) (g:=aI) (f:=fun p=>.int p.length) (v3 ix) s3 fun p m=>len (three p m) ix)) Bs) ix rfl) fun _=>.one' (ac (len w3 (row3 ix)) ix pb))
 refine bz c4 (fun q=>non fun D ok e=>?_) fun q=>?_
 ·obtain ⟨rfl,rfl,rfl,rfl⟩:=inv D ok e
  have:=iz D.s0
  have:=iz D.s1
  have:=iz D.s2
  rcases (Bool.or_eq_true _ _).mp q with q | q
  ·have q:=of_decide_eq_true q
   simp only [zB4] at q
   omega
  ·exact nomatch q
 obtain ⟨q1,q2⟩:=Bool.or_eq_false_iff.mp q
 have q1:=of_decide_eq_false q1
 have q2:=beq_iff_eq.mp (bS q2)
 simp only [zB4] at q1 q2
 have l0:t0.length≤1:=by grind
 have l1:t1.length≤1:=by grind
 have l2:t2.length≤1:=by omega
 have l3:t3.length=1:=by lia
 obtain ⟨r,rfl⟩:=List.length_eq_one_iff.mp l3
 have lt3:∀ c∈r,c < 128:=(w3.word r (.tail _ (.head _))).2
 have hr3:∀ {G:Gs},Val cf G (vv 1) (.list (ps.map aI))→Val cf G (.nd (.call 31) [.nd .sub [.nd .sub [vv 1,ii 3],ii 1]]) (.int (aN r)):=fun h=>ak (.one (aa (.two (row3 h) ix) (pJ (p:=[hd3,r]) (j:=1) (by refine (?_:2≤100); decide) rfl (by refine (?_:1 < 2); decide)))) fun K h=>h31 r K lt3 h
 refine bz (au (gT (lt:=false) (i:=1) (k:=40) ix (hr3 ix) ix)) (fun z=>non fun D ok e=>?_) fun z=>?_
 ·obtain ⟨rfl,rfl,rfl,e3⟩:=inv D ok e
  obtain ⟨rfl,_⟩:=zA5 e3
  have r1:=ok.g.r1
  have r2:=ok.g.r2
  have q:=dU z
  have:aN (nw D.R)=D.R:=gY ⟨by exact Int.le_trans (by decide) r1,by exact Int.lt_of_le_of_lt r2 (by decide)⟩
  rw [this,decide_eq_true r1] at q
  have q:decide (D.R≤40)=false:=q
  exact of_decide_eq_false q r2
 obtain ⟨q3,q4⟩:=zA2 (bS z)
 have r1:1≤aN r:=of_decide_eq_true q3
 have r2:aN r≤40:=of_decide_eq_true (q4:decide (aN r≤40)=true)
 have er:nw (aN r)=r:=(rX (by exact Int.le_trans (by decide) r1)).2
 generalize ea:cat (hd0 :: t0)=a
 generalize eb:cat (hd1 :: t1)=b
 generalize ec:cat (hd2 :: t2)=c
 have oa:=iG w0
 have ob:=iG w1
 have oc:=iG w2
 rw [ea] at oa
 rw [eb] at ob
 rw [ec] at oc
 refine ag (v:=sg a b c) ?_ ?_
 ·have q:=aG (cf:=cf) (G:=[.v (text T),.v (.list (ps.map aI)),.v hv,.unset,.unset,.unset,.unset,.unset,.unset,.unset,.unset,.unset,.unset]) (k:=9) (e:=yC) (g:=aI) (f:=fun p=>text (cat p)) (v3 ix) s3 fun p m=>lS ix (three p m)
  refine aa (.one q) ?_
  rw [← ea,← eb,← ec]; rfl
 refine ag (v:=text (a++b++c)) (aa (.two (aa (.two ix ix) (fF (a:=a) (b:=b) (by exact zB1 (zB2 zB5) (zB1 (Nat.add_le_add oa.1 ob.1) (by decide))))) ix) (fF (a:=a++b) (b:=c) (by rw [zB5,zB5]; exact zB1 (Nat.add_le_add (Nat.add_le_add oa.1 ob.1) oc.1) (by decide)))) ?_
 have sinv:∀ D:Ds,D.Ok→D.words=ps→D.s0=a∧D.s1=b∧D.s2=c:=fun D ok e=>by
  obtain ⟨e0,e1,e2,_⟩:=inv D ok e
  rw [← ea,← eb,← ec,← e0,← e1,← e2,cat_tl,cat_tl,cat_tl]; exact ⟨rfl,rfl,rfl⟩
 have labc:(a++b++c).length≤3000:=by rw [zB5,zB5]; exact Nat.add_le_add (Nat.add_le_add oa.1 ob.1) oc.1
 -- no empty word,no sign twice
 have fl:d5 2 (.list (([hd0 :: t0,hd1 :: t1,hd2 :: t2].filter fun p=>decide (p.tail=[[]])).map aI)):=aC fun x m=>by
  obtain ⟨p,mp,rfl⟩:=zA7 m
  exact aC (dz fun w mw=>((three p (List.mem_filter.mp mp).1).word w mw).2)
 have c8:Val cf [.v (text T),.v (.list (ps.map aI)),.v hv,.v (sg a b c),.v (text (a++b++c)),.unset,.unset,.unset,.unset,.unset,.unset,.unset,.unset] (.nd .or [.nd (.cmp .NotEq) [.nd (.comp 9) [.nd (.slice false true) [vv 1,ii 3],f33c4,.nd (.cmp .Eq) [.nd (.slice true false) [vv 9,ii 1],.nd .list [ss k0]]],.nd .list []],.nd (.cmp .NotEq) [.nd .lenSet [vv 4],.nd .len [vv 4]]]) (.bool (!(([hd0 :: t0,hd1 :: t1,hd2 :: t2].filter fun p=>decide (p.tail=[[]])).map aI).isEmpty||!(((ded (a++b++c)).length:Int)==(a++b++c).length))):=
  aE (.or (ac (ci (k:=9) (e:=f33c4) (g:=aI) (f:=aI) (p:=fun p=>decide (p.tail=[[]])) (v3 ix) s3 (fun p m=>.one (ac (gi ix (three p m)) (y:=.list ([[]].map text)) ix (Bj (fun w mw=>((three p m).tail.2.1 w mw).2) (by decide)))) fun p m _ _ h=>h) ix (wE (aR fl (by decide)))) fun _=>.one' (ac (aa (.one ix) (zr (by exact Nat.lt_of_le_of_lt labc (by decide)))) (aa (.one ix) (iD (Nat.le_add_left_of_le labc))) pb))
 refine bz c8 (fun z=>non fun D ok e=>?_) fun z=>?_
 ·obtain ⟨e0,e1,e2,_⟩:=inv D ok e
  obtain ⟨s0,s1,s2⟩:=sinv D ok e
  have sk:=ok.g.sk
  rw [s0,s1,s2] at sk
  have n0:decide (t0=[[]])=false:=decide_eq_false (e0▸wg _)
  have n1:decide (t1=[[]])=false:=decide_eq_false (e1▸wg _)
  have n2:decide (t2=[[]])=false:=decide_eq_false (e2▸wg _)
  have el:([hd0 :: t0,hd1 :: t1,hd2 :: t2].filter fun p=>decide (p.tail=[[]]))=[]:=List.filter_eq_nil_iff.mpr (zA1 ⟨by refine (?_:¬ decide (t0=[[]])=true); rw [n0]; exact Bool.false_ne_true,zA1 ⟨by refine (?_:¬ decide (t1=[[]])=true); rw [n1]; exact Bool.false_ne_true,zA1 ⟨by refine (?_:¬ decide (t2=[[]])=true); rw [n2]; exact Bool.false_ne_true,nofun⟩⟩⟩)
  rw [el] at z
  have z:(!(((ded (a++b++c)).length:Int)==(a++b++c).length))=true:=z
  have y:((ded (a++b++c)).length==(a++b++c).length)=true:=(ded_len _).trans (decide_eq_true sk.nodup)
  rw [beq_iff_eq.mp y,beq_self_eq_true] at z
  exact nomatch z
 obtain ⟨z1,z2⟩:=Bool.or_eq_false_iff.mp z
 have z1:=List.map_eq_nil_iff.mp (List.isEmpty_iff.mp (bS z1))
 have z1:=List.filter_eq_nil_iff.mp z1
 have n0:t0≠[[]]:=fun e=>z1 _ (.head _) (decide_eq_true e)
 have n1:t1≠[[]]:=fun e=>z1 _ (.tail _ (.head _)) (decide_eq_true e)
 have n2:t2≠[[]]:=fun e=>z1 _ (.tail _ (.tail _ (.head _))) (decide_eq_true e)
 have nd:(a++b++c).Nodup:=by
  have:=Int.ofNat.inj (beq_iff_eq.mp (bS z2))
  exact of_decide_eq_true ((ded_len (a++b++c)).symm.trans (beq_iff_eq.mpr this))
 -- few signs
 have c9:Val cf [.v (text T),.v (.list (ps.map aI)),.v hv,.v (sg a b c),.v (text (a++b++c)),.unset,.unset,.unset,.unset,.unset,.unset,.unset,.unset] (.nd (.cmp .Gt) [.nd .max [.nd (.comp 9) [vv 3,wn]],ii 4]) (.bool (decide ((4:Int) < max (max (a.length:Int) b.length) c.length))):=
  ac (aa (.one (aG (k:=9) (e:=wn) (x:=sg a b c) (g:=text) (f:=fun s=>.int s.length) (ws:=[a,b,c]) ix rfl fun s m=>aa (.one ix) (iD ((zA1 ⟨by exact Nat.le_add_left_of_le oa.1,zA1 ⟨by exact Nat.le_add_left_of_le ob.1,zA1 ⟨by exact Nat.le_add_left_of_le oc.1,nofun⟩⟩⟩:∀ s∈[a,b,c],s.length≤5000) s m)))) Bs) ix rfl
 refine bz c9 (fun y=>non fun D ok e=>?_) fun y=>?_
 ·obtain ⟨s0,s1,s2⟩:=sinv D ok e
  have sk:=ok.g.sk
  rw [s0,s1,s2] at sk
  have:=sk.la
  have:=sk.lb
  have:=sk.lc
  have y:=of_decide_eq_true y
  lia
 have y:=of_decide_eq_false y
 -- signs are letters
 have c10:Val cf [.v (text T),.v (.list (ps.map aI)),.v hv,.v (sg a b c),.v (text (a++b++c)),.unset,.unset,.unset,.unset,.unset,.unset,.unset,.unset] (.nd (.cmp .NotEq) [.nd (.comp 9) [vv 4,f33c6,.nd (.cmp .NotIn) [vv 9,ss abc]],.nd .list []]) (.bool (!(a++b++c).all low)):=by
  refine ac (ci (k:=9) (e:=f33c6) (x:=text (a++b++c)) (g:=fun d=>text [d]) (f:=fun d=>text [d]) (p:=fun d=>!low d) (ws:=a++b++c) ix (om (Nat.le_add_left_of_le labc)) (fun d m=>.one (ac (x:=text [d]) (y:=.str abc) ix ix rfl)) fun d m _ _ h=>h) ix ?_
  rw [wE (aR (aC (n:=0) fun x m=>?_) (by decide)),oG]
  obtain ⟨d,md,rfl⟩:=zA7 m
  have md:=(List.mem_filter.mp md).1
  refine kr fun x mx=>?_
  obtain rfl:=zA6 mx
  rcases List.mem_append.mp md with md | md
  ·exact (List.mem_append.mp md).elim (oa.2 _) (ob.2 _)
  ·exact oc.2 _ md
 refine bz c10 (fun x=>non fun D ok e=>?_) fun x=>?_
 ·obtain ⟨s0,s1,s2⟩:=sinv D ok e
  have sk:=ok.g.sk
  rw [s0,s1,s2] at sk
  rw [List.all_eq_true.mpr sk.lows] at x
  exact nomatch x
 refine y2 (t4:=t4) (t5:=t5) (rest:=rest) h31 h32 ⟨?_,wok,few⟩ ⟨by grind,by grind,by grind,List.all_eq_true.mp (bS x),nd⟩ er r1 r2 hD hN
 rw [eq,← ea,← eb,← ec,qB l0 n0,qB l1 n1,qB l2 n2]
theorem kN {T:List Nat} {D:Ds} (ok:D.Ok):Rd T D ↔ D.words=(af 10 T).map (af 32):=by
 refine ⟨fun h=>?_,fun h=>⟨ok,?_⟩⟩
 ·rw [h.2,ok.split.1,ok.split.2]
 ·unfold Ds.text Ds.rows
  rw [h,List.map_map,(List.map_congr_left fun r m=>join_split r:(af 10 T).map (aM [32] ∘ af 32)=(af 10 T).map id),List.map_id,join_split]
noncomputable def S33 (cf:ad):Prop:=∀ (T:List Nat) K,Few T→(∀ D,Rd T D→D.ws.length≤40→K D.parts)→((∀ D,¬ Rd T D)→K .none)→cf 33 [text T] K
noncomputable def BK (cf:ad):Prop:=∀ (x:V) K,vOk x=true→isB x 0=false→K .none→cf 33 [x] K
theorem BT (cf:ad):BK (step cf):=fun x K hv hb h=>run (fn:=f33) rfl rfl rfl (by
 refine aV ?_ (ai (v:=.none) ix h)
 have:=au (cf:=cf) (fA (G:=[.v x,.unset,.unset,.unset,.unset,.unset,.unset,.unset,.unset,.unset,.unset,.unset,.unset]) (a:=vv 0) (t:=0) ix hv)
 rw [hb] at this; exact this)
theorem p33 (cf:ad) (h31:S31 cf) (h32:S32 cf):S33 (step cf):=fun T K few hD hN=>by
 have hlen:=few.len
 have hrow:=few.rows
 have vT:vOk (text T)=true:=zA3 ⟨bt few.asc,decide_eq_true few.len⟩
 have hD:∀ D:Ds,D.Ok→D.words=(af 10 T).map (af 32)→D.ws.length≤40→K D.parts:=fun D ok e=>hD D ((kN ok).mpr e)
 have hN:(∀ D:Ds,D.Ok→D.words≠(af 10 T).map (af 32))→K .none:=fun h=>hN fun D rd=>h D rd.1 ((kN rd.1).mp rd)
 have wok:∀ p∈(af 10 T).map (af 32),WsOk p:=fun p m=>by
  obtain ⟨r,mr,rfl⟩:=zA7 m
  exact few.words r mr
 have hrl:∀ r∈af 10 T,r.length≤5000:=fun r m=>zB1 (cD m).length_le (Nat.le_add_left_of_le hlen)
 refine run (fn:=f33) rfl rfl rfl ?_
 have v0:=au (cf:=cf) (fA (G:=[.v (text T),.unset,.unset,.unset,.unset,.unset,.unset,.unset,.unset,.unset,.unset,.unset,.unset]) (a:=vv 0) (t:=0) ix vT)
 refine bW v0 ?_
 refine ag (v:=.list (((af 10 T).map (af 32)).map aI)) ?_ ?_
 ·have q:=aG (cf:=cf) (G:=[.v (text T),.unset,.unset,.unset,.unset,.unset,.unset,.unset,.unset,.unset,.unset,.unset,.unset]) (k:=9) (e:=yD) (g:=text) (f:=fun r=>aI (af 32 r)) (ws:=af 10 T) (dC (l:=T) (n:=10) (a:=vv 0) ix (Nat.le_add_left_of_le hlen)) (aJ (Nat.le_add_left_of_le hrow)) fun r m=>dC ix (hrl r m)
  rw [List.map_map]; exact q
 refine ag (v:=.list (eK.map text)) ix ?_
 have hpl:((af 10 T).map (af 32)).length≤31:=by rw [zA4]; exact hrow
 generalize (af 10 T).map (af 32)=ps at *
 have hz:(ps.map aI).length≤5000:=by exact zB1 (zB2 (List.length_map _)) (zB1 hpl (by decide))
 have len:∀ {G:Gs},Val cf G (vv 1) (.list (ps.map aI))→Val cf G (.nd .len [vv 1]) (.int ps.length):=fun h=>aa (.one h) (by
  have:=fO hz
  rw [zA4] at this; exact this)
 by_cases h6:(ps.length:Int) < 6
 ·refine aV (aE (.stop (b:=false) (ac (len ix) ix (BG h6)))) (ai (v:=.none) ix (hN fun D ok e=>?_))
  have:=congrArg List.length e
  unfold Ds.words at this
  simp only [zB4] at this
  lia
 obtain ⟨p0,p1,p2,p3,p4,p5,rest,eq⟩:∃ p0 p1 p2 p3 p4 p5 rest,ps=p0 :: p1 :: p2 :: p3 :: p4 :: p5 :: rest:=by
  have no:∀ n:Nat,n < 6→(n:Int) < 6:=by lia
  match ps,h6 with
  | p0 :: p1 :: p2 :: p3 :: p4 :: p5 :: rest,_=>exact ⟨p0,p1,p2,p3,p4,p5,rest,rfl⟩
  | [],q=>exact absurd (no 0 (by decide)) q
  | [_],q=>exact absurd (no 1 (by decide)) q
  | [_,_],q=>exact absurd (no 2 (by decide)) q
  | [_,_,_],q=>exact absurd (no 3 (by decide)) q
  | [_,_,_,_],q=>exact absurd (no 4 (by decide)) q
  | [_,_,_,_,_],q=>exact absurd (no 5 (by decide)) q
 have six:∀ p∈[p0,p1,p2,p3,p4,p5],WsOk p:=fun p m=>wok p (by
  rw [eq]
  exact List.mem_append_left rest m)
 have hlt:∀ w∈[p0,p1,p2,p3,p4,p5].map (fun p=>p.headD []),∀ c∈w,c < 128:=fun w m=>by
  obtain ⟨p,mp,rfl⟩:=zA7 m
  have:=six p mp
  cases p with
  | nil=>exact nofun
  | cons w r=>exact (this.word w (.head _)).2
 have hh:∀ w∈eK,∀ c∈w,c < 128:=fun w m=>(pY w m).2.2.2
 have c3:Val cf [.v (text T),.v (.list (ps.map aI)),.v (.list (eK.map text)),.unset,.unset,.unset,.unset,.unset,.unset,.unset,.unset,.unset,.unset] (.nd .or [.nd (.cmp .Lt) [.nd .len [vv 1],ii 6],.nd (.cmp .NotEq) [.nd (.comp 9) [.nd (.slice false true) [vv 1,ii 6],wt],vv 2]]) (.bool (false||!decide ([p0,p1,p2,p3,p4,p5].map (fun p=>p.headD [])=eK))):=by
  refine aE (.or (ac (len ix) ix (wD h6)) fun _=>.one' (ac (x:=.list (([p0,p1,p2,p3,p4,p5].map fun p=>p.headD []).map text)) ?_ ix (Bh hlt hh)))
  have q:=aG (cf:=cf) (G:=[.v (text T),.v (.list (ps.map aI)),.v (.list (eK.map text)),.unset,.unset,.unset,.unset,.unset,.unset,.unset,.unset,.unset,.unset]) (k:=9) (s:=.nd (.slice false true) [vv 1,ii 6]) (e:=wt) (x:=.list ([p0,p1,p2,p3,p4,p5].map aI)) (g:=aI) (f:=fun p=>text (p.headD [])) (aa (.two ix ix) (by
   refine (m8 (n:=6) hz (by rw [zA4,eq]; simp only [zB4]; lia)).trans ?_
   rw [eq]; rfl)) (aJ (by refine (?_:6≤5000); decide)) fun p m=>aa (.two ix ix) (nj (six p m))
  exact q
 refine bz c3 (fun z=>ai (v:=.none) ix (hN fun D ok e=>?_)) fun z=>?_
 ·have z:=of_decide_eq_false (dU z)
  refine z ?_
  have:=e.trans eq
  obtain ⟨e0,h0⟩:=zA5 this
  obtain ⟨e1,h1⟩:=zA5 h0
  obtain ⟨e2,h2⟩:=zA5 h1
  obtain ⟨e3,h3⟩:=zA5 h2
  obtain ⟨e4,h4⟩:=zA5 h3
  obtain ⟨e5,h5⟩:=zA5 h4
  rw [← e0,← e1,← e2,← e3,← e4,← e5]; rfl
 ·have z:=of_decide_eq_true (bS z)
  have hd:∀ {p:List (List Nat)} {h:List Nat},WsOk p→p.headD []=h→p=h :: p.tail:=fun {p h} wp e=>by
   cases p with
   | nil=>exact absurd rfl wp.ne
   | cons w r=>rw [← e]; rfl
  obtain ⟨a0,z0⟩:=zA5 z
  obtain ⟨a1,z1⟩:=zA5 z0
  obtain ⟨a2,z2⟩:=zA5 z1
  obtain ⟨a3,z3⟩:=zA5 z2
  obtain ⟨a4,z4⟩:=zA5 z3
  obtain ⟨a5,z5⟩:=zA5 z4
  have b0:=hd (six p0 (.head _)) a0
  have b1:=hd (six p1 (.tail _ (.head _))) a1
  have b2:=hd (six p2 (.tail _ (.tail _ (.head _)))) a2
  have b3:=hd (six p3 (.tail _ (.tail _ (.tail _ (.head _))))) a3
  have b4:=hd (six p4 (.tail _ (.tail _ (.tail _ (.tail _ (.head _)))))) a4
  have b5:=hd (six p5 (.tail _ (.tail _ (.tail _ (.tail _ (.tail _ (.head _))))))) a5
  refine AK (t0:=p0.tail) (t1:=p1.tail) (t2:=p2.tail) (t3:=p3.tail) (t4:=p4.tail) (t5:=p5.tail) (rest:=rest) h31 h32 ⟨?_,wok,by exact Nat.le_add_left_of_le hpl⟩ hD hN
  rw [← b0,← b1,← b2,← b3,← b4,← b5]; exact eq
theorem q7 {cf:ad} {G:Gs} {g f c k:Nat} {es:List E} {vs:List V} {X r:List S} {K:Option V→Gs→Prop} (hv:gP cf G es vs) (h:cf f vs fun y=>match jv y with
  | none=>cf g [y] fun z=>noX z=true∧K (some z) G
  | some d=>sup d c=true∧exs sup cf X (G.set k (.v y)) fun fl G'=>(match fl with | some x=>noX x=true | none=>False)∧(match (generalizing:=false) fl with | none=>exs sup cf r (G'.set k .unset) K | some x=>K (some x) (G'.set k .unset))):exs sup cf (.mk (.tryCC g f c k) es X [] :: r) G K:=by
 rw [← exi_eq X] at h
 refine (?_:bY (es.map (ev cf)) G _)
 rw [jw]
 exact hv _ h
noncomputable def pH:V:=.tuple [.str As,.bool true]
noncomputable def S34 (cf:ad):Prop:=∀ (T:List Nat) K,Few T→(∀ D,Rd T D→D.ws.length≤40→K D.parts)→((∀ D,¬ Rd T D)→K pH)→cf 34 [text T] K
noncomputable def BJ (cf:ad):Prop:=∀ (x:V) K,vOk x=true→isB x 0=false→K pH→cf 34 [x] K
theorem yf {cf:ad} {x:V} {K:V→Prop} (h22:S22 cf) (h:K pH):exs sup cf [.mk .ret [.nd .tuple [ss ⟨#[114,101,102,117,115,101,100]⟩,.nd (.call 22) [vv 1,ii 6]]] [] []] [.v x,.v (eP 7)] fun fl G'=>(match fl with | some x=>noX x=true | none=>False)∧(match (generalizing:=false) fl with | none=>exs sup cf [] (G'.set 1 .unset) (fun fl _=>K (fl.getD .none)) | some x=>(fun (fl:Option V) (_:Gs)=>K (fl.getD .none)) (some x) (G'.set 1 .unset)):=
 ai (v:=pH) (aa (.two ix (ak (v:=.bool true) (.two ix ix) fun K h=>h22 K h)) rfl) ⟨rfl,h⟩
theorem p34 (cf:ad) (h19:S19 cf) (h22:S22 cf) (h28:S28 cf):S34 (step cf):=fun T K few hD hN=>by
 refine run (fn:=f34) rfl rfl rfl ?_
 refine q7 (vs:=[text T]) (.one ix) (h19 T _ few (fun D rd hl=>?_) fun no=>?_)
 ·exact h28 D _ rd.1 ⟨rfl,hD D rd hl⟩
 ·exact ⟨rfl,yf h22 (hN no)⟩
theorem BS (cf:ad) (h19:BL cf) (h22:S22 cf):BJ (step cf):=fun x K hv hb h=>by
 refine run (fn:=f34) rfl rfl rfl ?_
 exact q7 (vs:=[x]) (.one ix) (h19 x _ hv hb ⟨rfl,yf h22 h⟩)
structure Tight (T:List Nat):Prop where
 len:T.length≤800
 asc:∀ c∈T,c < 128
 nl:T.count 10≤20
 bl:T.count 32≤54
 row:∀ r∈af 10 T,r.count 32≤5∧r.length≤100
theorem Tight.few {T:List Nat} (h:Tight T):Few T:=⟨by exact zB1 h.len (by decide),h.asc,by exact zB1 h.nl (by decide),by exact zB1 h.bl (by decide)⟩
theorem ju {T A B m:List Nat} (h:Tight T) (s:(A++B).Sublist T) (lm:m.length≤1) (am:∀ c∈m,c < 128):Few (A++m++B):=by
 have cn:∀ c,(A++m++B).count c≤T.count c+1:=fun c=>by
  have h1:=s.count_le c
  have h2:=List.count_le_length (a:=c) (l:=m)
  rw [List.count_append] at h1 ⊢
  rw [List.count_append]; lia
 have l:=h.len
 have n:=h.nl
 have b:=h.bl
 have c1:=cn 10
 have c2:=cn 32
 refine ⟨?_,fun c q=>?_,by exact zB1 c1 (Nat.add_le_add_right (zB1 h.nl (by decide)) 1),by exact zB1 c2 (Nat.add_le_add_right (zB1 h.bl (by decide)) 1)⟩
 ·have h1:=s.length_le
  rw [zB5] at h1 ⊢
  rw [zB5]; lia
 ·rcases List.mem_append.mp q with q | q
  ·rcases List.mem_append.mp q with q | q
   ·exact h.asc c (s.subset (List.mem_append_left _ q))
   ·exact am c q
  ·exact h.asc c (s.subset (List.mem_append_right _ q))
theorem mG {T:List Nat} {i j:Nat} (h:i≤j):(T.take i++T.drop j).Sublist T:=by
 have e:T.drop j=(T.drop i).drop (j - i):=by rw [List.drop_drop]; congr 1; grind
 have:=List.Sublist.append (List.Sublist.refl (T.take i)) (List.drop_sublist (j - i) (T.drop i))
 rw [List.take_append_drop] at this
 rw [e]; exact this
theorem r0 {l:List Nat} {n:Int} (hz:l.length≤5000) (h0:0≤n):opN (.slice true false) [text l,.int n]=some (text (l.drop n.toNat)):=by
 by_cases h:n.toNat≤l.length
 ·refine (eL (l:=l) (f:=text) (lo:=some (.int n)) (hi:=none) (i:=n.toNat) (j:=l.length) hz (dO h0 h) rfl h).trans ?_
  rw [List.take_of_length_le (by rw [List.length_drop]; exact Nat.le_refl _)]
 ·refine (eL (l:=l) (f:=text) (lo:=some (.int n)) (hi:=none) (i:=l.length) (j:=l.length) hz ?_ rfl (Nat.le_refl _)).trans ?_
  ·refine (?_:some (if 0≤n then min n.toNat l.length else _)=_)
   rw [if_pos h0,Nat.min_eq_right (by exact Nat.le_of_lt (Nat.not_le.mp h))]
  ·rw [List.drop_eq_nil_of_le (Nat.le_refl _),List.drop_eq_nil_of_le (by exact Nat.le_of_lt (Nat.not_le.mp h)),List.take_nil]
theorem xe {l:List Nat} {n:Int} (hz:l.length≤5000) (h0:0≤n) (h:n≤l.length):opN (.slice false true) [text l,.int n]=some (text (l.take n.toNat)):=by
 have q:=r6 (l:=l) (j:=n.toNat) hz (Int.toNat_le.mpr h)
 rw [Int.toNat_of_nonneg h0] at q; exact q
theorem gU {c:Nat} {s:List Nat}:∀ ws:List (List Nat),(ws.map (List.count c)).sum≤(aM s ws).count c
 | []=>Nat.zero_le _
 | [a]=>by refine (?_:a.count c+0≤a.count c); lia
 | a :: b :: r=>by
  have:=gU (c:=c) (s:=s) (b :: r)
  rw [joinL_cons,List.count_append,List.count_append,List.map_cons,List.sum_cons]; exact Nat.add_le_add (Nat.le_add_right _ _) this
theorem dY {c:Nat}:∀ ws:List (List Nat),(aM [10] ws).count c≤(ws.map (List.count c)).sum+ws.length * [10].count c
 | []=>Nat.zero_le _
 | [a]=>by refine (?_:a.count c≤_); rw [List.map_cons,List.sum_cons]; exact Nat.le_add_right_of_le (Nat.le_add_right _ _)
 | a :: b :: r=>by
  have:=dY (c:=c) (b :: r)
  rw [joinL_cons,List.count_append,List.count_append,List.map_cons,List.sum_cons,List.length_cons (as:=b :: r),Nat.add_mul]
  lia
theorem j0:∀ ws:List (List Nat),(aM [10] ws).length≤(ws.map List.length).sum+ws.length
 | []=>Nat.zero_le _
 | [a]=>by refine (?_:a.length≤_); rw [List.map_cons,List.sum_cons]; exact Nat.le_add_right_of_le (Nat.le_add_right _ _)
 | a :: b :: r=>by
  have:=j0 (b :: r)
  rw [joinL_cons,zB5,zB5,List.map_cons,List.sum_cons,List.length_cons (as:=b :: r)]
  refine (?_:a.length+1+_≤_)
  lia
theorem Bn:∀ {l:List Nat},(∀ n∈l,n=0)→l.sum=0
 | [],_=>rfl
 | a :: l,h=>by rw [List.sum_cons,h a (.head _),Bn fun n m=>h n (.tail _ m)]
theorem oX {T:List Nat} (h:Tight T) {rs A B C:List (List Nat)} {x:List Nat} (e:af 10 T=A++x :: B) (hr:rs=A++B++[x]∨rs=A++x :: x :: B):Few (aM [10] rs)∧(rs.map List.length).sum+rs.length * 1≤100000:=by
 have hl:=h.len
 have hnl:=h.nl
 have hbl:=h.bl
 have len:(af 10 T).length=T.count 10+1:=bH T
 have key:∀ f:List Nat→Nat,(rs.map f).sum≤((af 10 T).map f).sum+f x:=fun f=>by
  rw [e]
  rcases hr with rfl | rfl
  ·simp only [List.map_append,List.map_cons,List.map_nil,List.sum_append,List.sum_cons,List.sum_nil]; lia
  ·simp only [List.map_append,List.map_cons,List.sum_append,List.sum_cons]; lia
 have rl:rs.length≤(af 10 T).length+1:=by
  rw [e]
  rcases hr with rfl | rfl
  ·simp only [zB5,zB4,List.length_nil]; exact Nat.add_le_add_right (Nat.add_le_add_left (Nat.le_add_right _ _) _) _
  ·simp only [zB5,zB4]; lia
 have mx:x∈af 10 T:=e▸List.mem_append_right _ (.head _)
 have sub:∀ r∈rs,r∈af 10 T:=fun r m=>by
  rw [e]
  rcases hr with rfl | rfl
  ·rcases List.mem_append.mp m with m | m
   ·rcases List.mem_append.mp m with m | m
    ·exact List.mem_append_left _ m
    ·exact List.mem_append_right _ (.tail _ m)
   ·exact List.mem_append_right _ (zA6 m▸.head _)
  ·rcases List.mem_append.mp m with m | m
   ·exact List.mem_append_left _ m
   ·rcases List.mem_cons.mp m with rfl | m
    ·exact List.mem_append_right _ (.head _)
    ·exact List.mem_append_right _ m
 have s10:=gU (c:=10) (s:=[10]) (af 10 T)
 have s32:=gU (c:=32) (s:=[10]) (af 10 T)
 have sl:=jR (s:=[10]) (af 10 T)
 rw [join_split] at s10 s32 sl
 have xl:=(h.row x mx).2
 have x10:=(cD mx).count_le 10
 have x32:=(h.row x mx).1
 have k1:=key List.length
 have j1:=j0 rs
 have k32:=key (List.count 32)
 have j32:(aM [10] rs).count 32≤(rs.map (List.count 32)).sum+rs.length * 0:=dY rs
 have n10:∀ r∈af 10 T,r.count 10=0:=fun r m=>List.count_eq_zero.mpr (nJ m)
 have z10:(rs.map (List.count 10)).sum=0:=Bn fun n m=>by
  obtain ⟨r,mr,rfl⟩:=zA7 m
  exact n10 r (sub r mr)
 have j10:(aM [10] rs).count 10≤(rs.map (List.count 10)).sum+rs.length * 1:=dY rs
 refine ⟨⟨by lia,?_,by lia,by lia⟩,by lia⟩
 exact jf (by decide) fun r mr c mc=>h.asc c ((cD (sub r mr)).subset mc)
noncomputable def Ay (y:V):Prop:=(∃ U,Few U∧y=text U)∨(vOk y=true∧isB y 0=false∧noX y=true)
noncomputable def S30 (cf:ad):Prop:=∀ (T:List Nat) (c:Int) K,Tight T→0≤c→(∀ y,Ay y→K y)→cf 30 [text T,.int c] K
noncomputable def qu:List Nat:=[97,98,121,122,48,49,56,57,32,10,9,65,45,111,110,111,112]
theorem rZ {l:List V} {n:Int} (hz:l.length≤5000) (h0:0≤n) (h:n≤l.length):opN (.slice false true) [.list l,.int n]=some (.list (l.take n.toNat)):=by
 have q:=m8 (l:=l) (n:=n.toNat) hz (Int.toNat_le.mpr h)
 rw [Int.toNat_of_nonneg h0] at q; exact q
theorem r5 {l:List V} {n:Int} (hz:l.length≤5000) (h0:0≤n):opN (.slice true false) [.list l,.int n]=some (.list (l.drop n.toNat)):=by
 have q:=nk (l:=l) (n:=n.toNat) hz
 rw [Int.toNat_of_nonneg h0] at q; exact q
theorem p30 (cf:ad):S30 (step cf):=fun T c K ti hc h=>by
 have hl:=ti.len
 have hnl:=ti.nl
 have few:=ti.few
 refine run (fn:=f30) rfl rfl rfl ?_
 have d8:0≤c.fdiv 8:=Int.fdiv_nonneg hc (by decide)
 generalize e8:c.fdiv 8=d at d8
 have vd:∀ {G:Gs},Val cf G (vv 1) (.int c)→Val cf G (.nd (.bin .FloorDiv) [vv 1,ii 8]) (.int d):=fun h=>e8▸aa (.two h ix) (jc (by decide) (by decide))
 have vt:∀ {G:Gs},Val cf G (vv 1) (.int c)→Val cf G (.nd (.bin .Mod) [vv 1,ii 8]) (.int (c.fmod 8)):=fun h=>aa (.two h ix) (b9 (by decide))
 have lenT:∀ {G:Gs},Val cf G (vv 0) (text T)→Val cf G (.nd .len [vv 0]) (.int T.length):=fun h=>aa (.one h) (iD (Nat.le_add_left_of_le hl))
 have m0:=aP d (b:=(T.length:Int)+1) (by exact Int.lt_add_one_of_le (Int.natCast_nonneg _))
 have m1:=bj d (b:=(T.length:Int)+1) (by exact Int.lt_add_one_of_le (Int.natCast_nonneg _))
 refine ag (v:=.int (d.fmod ((T.length:Int)+1))) (aa (.two (vd ix) (aa (.two (lenT ix) ix) rfl)) (b9 (by exact Int.lt_add_one_of_le (Int.natCast_nonneg _)))) ?_
 generalize d.fmod ((T.length:Int)+1)=at0 at m0 m1
 have p0:=aP (c.fdiv 3000) (b:=17) (by decide)
 have p1:=bj (c.fdiv 3000) (b:=17) (by decide)
 obtain ⟨s,hs,lts⟩:∃ s,qu[((c.fdiv 3000).fmod 17).toNat]?=some s∧s < 128:=by
  have hb:((c.fdiv 3000).fmod 17).toNat < qu.length:=by exact (Int.toNat_lt p0).mpr (Int.lt_of_lt_of_le p1 (by decide))
  exact ⟨qu[((c.fdiv 3000).fmod 17).toNat],List.getElem?_eq_getElem hb,(by decide:∀ s∈qu,s < 128) _ (List.getElem_mem hb)⟩
 refine ag (v:=text [s]) (aa (.two (x:=text qu) (y:=.int ((c.fdiv 3000).fmod 17)) ix (aa (.two (aa (.two ix ix) (jc (by decide) (by decide))) ix) (b9 (by decide)))) (vR (by refine (?_:17≤5000); decide) p0 hs)) ?_
 refine ag (v:=.list ((af 10 T).map text)) (dC (l:=T) (n:=10) ix (Nat.le_add_left_of_le hl)) ?_
 have ls:∀ x∈[s],x < 128:=fun x m=>zA6 m▸lts
 have tk:∀ {G:Gs},Val cf G (vv 0) (text T)→Val cf G (vv 2) (.int at0)→Val cf G (.nd (.slice false true) [vv 0,vv 2]) (text (T.take at0.toNat)):=fun h h'=>aa (.two h h') (xe (Nat.le_add_left_of_le hl) m0 (Int.le_of_lt_add_one m1))
 have dr:∀ {G:Gs},Val cf G (vv 0) (text T)→Val cf G (vv 2) (.int at0)→Val cf G (.nd (.slice true false) [vv 0,vv 2]) (text (T.drop at0.toNat)):=fun h h'=>aa (.two h h') (r0 (Nat.le_add_left_of_le hl) m0)
 have dr1:∀ {G:Gs},Val cf G (vv 0) (text T)→Val cf G (vv 2) (.int at0)→Val cf G (.nd (.slice true false) [vv 0,.nd (.bin .Add) [vv 2,ii 1]]) (text (T.drop (at0+1).toNat)):=fun h h'=>aa (.two h (aa (.two h' ix) rfl)) (r0 (Nat.le_add_left_of_le hl) (by exact Int.add_nonneg m0 (by decide)))
 have tl0:(T.take at0.toNat).length≤800:=zB1 (List.length_take_le' ..) hl
 have dl0:∀ n,(T.drop n).length≤800:=fun n=>by rw [List.length_drop]; exact zB1 (Nat.sub_le _ _) ti.len
 have addT:∀ {A B:List Nat},A.length≤801→B.length≤800→opN (.bin .Add) [text A,text B]=some (text (A++B)):=fun h1 h2=>fF (by exact zB1 (zB2 zB5) (zB1 (Nat.add_le_add h1 h2) (by decide)))
 have lA:(T.take at0.toNat++[s]).length≤801:=by rw [zB5]; refine (?_:_+1≤801); exact Nat.add_le_add_right tl0 1
 refine bz (ac (vt ix) ix rfl) (fun q=>ai (v:=text (T.take at0.toNat++[s]++T.drop at0.toNat)) (aa (.two (aa (.two (tk ix ix) ix) (addT (Nat.le_succ_of_le tl0) (by refine (?_:1≤800); decide))) (dr ix ix)) (addT lA (dl0 _))) (h _ (.inl ⟨_,ju (m:=[s]) ti (mG (Nat.le_refl _)) (Nat.le_refl 1) ls,rfl⟩))) fun q=>?_
 refine bz (ac (vt ix) ix qt) (fun q=>ai (v:=text (T.take at0.toNat++T.drop (at0+1).toNat)) (aa (.two (tk ix ix) (dr1 ix ix)) (addT (Nat.le_succ_of_le tl0) (dl0 _))) (h _ (.inl ⟨_,?_,rfl⟩))) fun q=>?_
 ·have:=ju ti (mG (i:=at0.toNat) (j:=(at0+1).toNat) (by lia)) (m:=[]) (Nat.zero_le _) nofun
  rw [List.append_nil] at this; exact this
 refine bz (ac (vt ix) ix qt) (fun q=>ai (v:=text (T.take at0.toNat++[s]++T.drop (at0+1).toNat)) (aa (.two (aa (.two (tk ix ix) ix) (addT (Nat.le_succ_of_le tl0) (by refine (?_:1≤800); decide))) (dr1 ix ix)) (addT lA (dl0 _))) (h _ (.inl ⟨_,ju (m:=[s]) ti (mG (by lia)) (Nat.le_refl 1) ls,rfl⟩))) fun q=>?_
 have ln:(af 10 T).length=T.count 10+1:=bH T
 generalize hrs:af 10 T=rs at ln
 have o0:=aP d (b:=(rs.length:Int)) (by exact Int.ofNat_lt.mpr (zB1 (Nat.le_add_left _ _) (zB2 ln.symm)))
 have o1:=bj d (b:=(rs.length:Int)) (by exact Int.ofNat_lt.mpr (zB1 (Nat.le_add_left _ _) (zB2 ln.symm)))
 have v5:∀ {G:Gs},Val cf G (vv 1) (.int c)→Val cf G (vv 4) (.list (rs.map text))→Val cf G (.nd (.bin .Mod) [.nd (.bin .FloorDiv) [vv 1,ii 8],.nd .len [vv 4]]) (.int (d.fmod rs.length)):=fun h h'=>aa (.two (vd h) (aa (.one h') (by
  have:=fO (l:=rs.map text) (by exact zB1 (zB2 (List.length_map _)) (zB1 (zB2 ln) (zB1 (Nat.add_le_add ti.nl (Nat.le_refl _)) (by decide))))
  rw [zA4] at this; exact this))) (b9 (Int.lt_of_le_of_lt o0 o1))
 generalize d.fmod (rs.length:Int)=one at o0 o1 v5
 obtain ⟨A,x,B,eAB,eA,eB,eX,eA1,eB1⟩:∃ A x B,rs=A++x :: B∧rs.take one.toNat=A∧rs.drop (one+1).toNat=B∧(rs.drop one.toNat).take 1=[x]∧rs.take (one+1).toNat=A++[x]∧rs.drop one.toNat=x :: B:=by
  have hi:one.toNat < rs.length:=by exact (Int.toNat_lt ‹_›).mpr o1
  have e1:(one+1).toNat=one.toNat+1:=by lia
  have hd:=List.drop_eq_getElem_cons hi
  refine ⟨rs.take one.toNat,rs[one.toNat],rs.drop (one.toNat+1),?_,rfl,by rw [e1],?_,?_,hd⟩
  ·rw [← hd,List.take_append_drop]
  ·rw [hd]; rfl
  ·rw [e1,List.take_add_one,List.getElem?_eq_getElem hi]; rfl
 have hz:(rs.map text).length≤5000:=by exact zB1 (zB2 (List.length_map _)) (zB1 (zB2 ln) (zB1 (Nat.add_le_add ti.nl (Nat.le_refl _)) (by decide)))
 have zl:∀ {C:List (List Nat)},C.length≤100→(C.map text).length≤5000:=fun h=>by exact zB1 (zB2 (List.length_map _)) (zB1 h (by decide))
 have hab:=congrArg List.length eAB
 rw [zB5,zB4] at hab
 refine bz (ac (vt ix) ix qt) (fun q=>?_) fun q=>?_
 ·refine ag (v5 ix ix) ?_
  obtain ⟨f1,f2⟩:=oX ti (C:=[]) (hrs.trans eAB) (.inl rfl)
  refine ai (bK (s:=⟨#[10]⟩) (ws:=A++B++[x]) (aa (.two (x:=.list ((A++B).map text)) (y:=.list ([x].map text)) (aa (.two (x:=.list (A.map text)) (y:=.list (B.map text)) (aa (.two ix ix) ?_) (aa (.two ix (aa (.two ix ix) rfl)) ?_)) ?_) (aa (vs:=[.list (rs.map text),.int one,.int (one+1)]) (.cons ix (.two ix (aa (.two ix ix) rfl))) ?_)) ?_) f2) (h _ (.inl ⟨_,f1,rfl⟩))
  ·rw [rZ hz o0 (by rw [zA4]; exact Int.le_of_lt o1),← List.map_take,eA]
  ·rw [r5 hz (by exact Int.add_nonneg o0 (by decide)),← List.map_drop,eB]
  ·rw [List.map_append]; exact gc (by rw [← List.map_append]; exact zl (by rw [zB5]; lia))
  ·refine (eL (l:=rs.map text) (f:=PyData.list) (lo:=some (.int one)) (hi:=some (.int (one+1))) (i:=one.toNat) (j:=(one+1).toNat) hz (dO o0 (by rw [zA4]; exact Int.toNat_le.mpr (Int.le_of_lt o1))) (dO (by exact Int.add_nonneg o0 (by decide)) (by rw [zA4]; grind)) (by lia)).trans ?_
   rw [show (one+1).toNat - one.toNat=1 by lia,← List.map_drop,← List.map_take,eX]
  ·rw [List.map_append (l₁:=A++B)]; exact gc (by rw [← List.map_append]; exact zl (by rw [zB5,zB5]; refine (?_:_+1≤100); lia))
 refine bz (ac (vt ix) ix qt) (fun q=>?_) fun q=>?_
 ·refine ag (v5 ix ix) ?_
  obtain ⟨f1,f2⟩:=oX ti (C:=[]) (hrs.trans eAB) (.inr rfl)
  refine ai (bK (s:=⟨#[10]⟩) (ws:=A++x :: x :: B) (aa (.two (x:=.list ((A++[x]).map text)) (y:=.list ((x :: B).map text)) (aa (.two ix (aa (.two ix ix) rfl)) ?_) (aa (.two ix ix) ?_)) ?_) f2) (h _ (.inl ⟨_,f1,rfl⟩))
  ·rw [rZ hz (by exact Int.add_nonneg o0 (by decide)) (by rw [zA4]; grind),← List.map_take,eA1]
  ·rw [r5 hz o0,← List.map_drop,eB1]
  ·rw [show A++x :: x :: B=A++[x]++(x :: B) by rw [List.append_assoc]; rfl,List.map_append (l₁:=A++[x])]; exact gc (by rw [← List.map_append]; exact zl (by simp only [zB5,zB4,List.length_nil]; lia))
 have i0:=aP d (b:=8) (by decide)
 have i1:=bj d (b:=8) (by decide)
 have ok:∀ y∈[PyData.none,.int 5,.bool true,.list [text T],.tuple [text T],.str k0,text (T++[10]),.dict []],Ay y:=by
  have no:∀ y∈([]:List V),Ay y:=nofun
  have e0:Few []:=⟨Nat.zero_le _,nofun,Nat.zero_le _,Nat.zero_le _⟩
  have f7:Few (T++[10]):=by
   have:=ju ti (A:=T) (B:=[]) (m:=[10]) (by rw [List.append_nil]; exact .refl _) (Nat.le_refl 1) (by decide)
   rw [List.append_nil] at this; exact this
  exact zA1 ⟨.inr ⟨rfl,rfl,rfl⟩,zA1 ⟨.inr ⟨rfl,rfl,rfl⟩,zA1 ⟨.inr ⟨rfl,rfl,rfl⟩,zA1 ⟨.inr ⟨rfl,rfl,rfl⟩,zA1 ⟨.inr ⟨rfl,rfl,rfl⟩,zA1 ⟨.inl ⟨[],e0,rfl⟩,zA1 ⟨.inl ⟨_,f7,rfl⟩,zA1 ⟨.inr ⟨rfl,rfl,rfl⟩,no⟩⟩⟩⟩⟩⟩⟩⟩
 have vl:∀ {G:Gs},Val cf G (vv 0) (text T)→Val cf G (.nd .list [nn,ii 5,bb true,.nd .list [vv 0],.nd .tuple [vv 0],ss k0,.nd (.bin .Add) [vv 0,ss ⟨#[10]⟩],.nd .edict []]) (.list [PyData.none,.int 5,.bool true,.list [text T],.tuple [text T],.str k0,text (T++[10]),.dict []]):=fun h=>aa (.cons ix (.cons ix (.cons ix (.cons (aa (.one h) rfl) (.cons (aa (.one h) rfl) (.cons ix (.two (aa (.two h ix) (addT (A:=T) (B:=[10]) (Nat.le_succ_of_le hl) (by refine (?_:1≤800); decide))) (aa .nil rfl)))))))) rfl
 obtain ⟨y,ey,my⟩:∃ y,([PyData.none,.int 5,.bool true,.list [text T],.tuple [text T],.str k0,text (T++[10]),.dict []]:List V)[(d.fmod 8).toNat]?=some y∧y∈[PyData.none,.int 5,.bool true,.list [text T],.tuple [text T],.str k0,text (T++[10]),.dict []]:=by
  have hb:(d.fmod 8).toNat < ([PyData.none,.int 5,.bool true,.list [text T],.tuple [text T],.str k0,text (T++[10]),.dict []]:List V).length:=by refine (?_:_ < 8); exact (Int.toNat_lt i0).mpr (Int.lt_of_lt_of_le i1 (by decide))
  exact ⟨_,List.getElem?_eq_getElem hb,List.getElem_mem hb⟩
 have by':=ok y my
 exact ai (v:=y) (aa (.two (vl ix) (aa (.two (vd ix) ix) (b9 (by decide)))) (cI (by refine (?_:8≤5000); decide) i0 ey)) (h y by') (by
  rcases by' with ⟨U,_,rfl⟩ | ⟨_,_,h⟩
  ·rfl
  ·exact h)
theorem Ds.Ok.wlen {D:Ds} (ok:D.Ok):∀ ws∈D.words,∀ w∈ws,w.length≤10:=by
 have sk:=ok.g.sk
 have r1:=ok.g.r1
 have r2:=ok.g.r2
 have tll:∀ {h s:List Nat},h.length≤10→s.length≤4→∀ w∈h :: tl s,w.length≤10:=fun {h s} h1 h2=>by
  cases s with
  | nil=>exact zA1 ⟨h1,nofun⟩
  | cons=>exact zA1 ⟨h1,zA1 ⟨by exact Nat.le_add_left_of_le h2,nofun⟩⟩
 have rml:∀ {h:List Nat} {is:List Int},h.length≤10→RoomsOk D.R is→∀ w∈h :: is.map nw,w.length≤10:=fun {h is} h1 k=>zA1 ⟨h1,fun w m=>by
  obtain ⟨i,mi,rfl⟩:=zA7 m
  exact zB1 (gb ((k.rooms i mi).up (by exact Int.le_trans r2 (by decide)))) (by decide)⟩
 refine zA1 ⟨tll (by decide) sk.la,zA1 ⟨tll (by decide) sk.lb,zA1 ⟨tll (by decide) sk.lc,zA1 ⟨zA1 ⟨by decide,zA1 ⟨zB1 (gb ⟨by exact Int.le_trans (by decide) r1,by exact Int.lt_of_le_of_lt r2 (by decide)⟩) (by decide),nofun⟩⟩,zA1 ⟨rml (by decide) ok.g.st,zA1 ⟨rml (by decide) ok.g.en,fun ws mw=>?_⟩⟩⟩⟩⟩⟩
 obtain ⟨w,m',rfl⟩:=zA7 mw
 rw [← t8]
 intro x mx
 obtain ⟨y,my,rfl⟩:=zA7 mx
 exact gv (gI sk (by exact Int.le_trans r2 (by decide)) (ok.g.ok w m') y my)
theorem BA:∀ ws:List (List Nat),(aM [32] ws).length≤(ws.map List.length).sum+ws.length
 | []=>Nat.zero_le _
 | [a]=>by refine (?_:a.length≤_); rw [List.map_cons,List.sum_cons]; exact Nat.le_add_right_of_le (Nat.le_add_right _ _)
 | a :: b :: r=>by
  have:=BA (b :: r)
  rw [joinL_cons,zB5,zB5,List.map_cons,List.sum_cons,List.length_cons (as:=b :: r)]
  refine (?_:a.length+1+_≤_)
  lia
theorem vG {α:Type} {f g:α→Nat}:∀ {l:List α},(∀ x∈l,f x≤g x)→(l.map f).sum≤(l.map g).sum
 | [],_=>Nat.le_refl _
 | x :: l,h=>by
  have:=h x (.head _)
  have:=vG fun y m=>h y (.tail _ m)
  rw [List.map_cons,List.map_cons,List.sum_cons,List.sum_cons]; lia
theorem iW {α:Type} {f:α→Nat} {n:Nat}:∀ {l:List α},(∀ x∈l,f x≤n)→(l.map f).sum≤n * l.length
 | [],_=>Nat.zero_le _
 | x :: l,h=>by
  have:=h x (.head _)
  have:=iW fun y m=>h y (.tail _ m)
  rw [List.map_cons,List.sum_cons,zB4,Nat.mul_add]; omega
theorem gR (w:W):w.words.length≤5:=by
 rw [← t8,zA4]; exact mQ w
theorem Ds.Ok.tight {D:Ds} (ok:D.Ok) (h1:D.st.length≤5) (h2:D.en.length≤4) (h3:D.ws.length≤10):Tight D.text:=by
 have wl:=ok.wlen
 have wd:=ok.wd
 have sp:=ok.split
 have a0:=iz D.s0
 have a1:=iz D.s1
 have a2:=iz D.s2
 have six:∀ ws∈D.words,1≤ws.length∧ws.length≤6:=fun ws m=>⟨List.length_pos_iff.mpr (wd ws m).1,by
  revert ws
  refine zA1 ⟨by exact Nat.add_le_add_right (zB1 a0 (by decide)) 1,zA1 ⟨by exact Nat.add_le_add_right (zB1 a1 (by decide)) 1,zA1 ⟨by exact Nat.add_le_add_right (zB1 a2 (by decide)) 1,zA1 ⟨by refine (?_:2≤6); decide,zA1 ⟨by exact Nat.add_le_add_right (zB1 (zB2 (List.length_map _)) h1) 1,zA1 ⟨by exact zB1 (Nat.add_le_add (zB1 (zB2 (List.length_map _)) h2) (Nat.le_refl _)) (by decide),fun ws m=>?_⟩⟩⟩⟩⟩⟩
  obtain ⟨w,_,rfl⟩:=zA7 m
  have:=gR w
  exact Nat.le_succ_of_le this⟩
 have cnt:∀ ws∈D.words,(aM [32] ws).count 32+1=ws.length:=fun ws m=>by
  rw [← bH,dS (wd ws m).1 fun x q=>((wd ws m).2 x q).2.1]
 have jl:∀ ws∈D.words,(aM [32] ws).length≤11 * ws.length:=fun ws m=>by
  have q1:=BA ws
  have q2:=iW (f:=List.length) (wl ws m)
  lia
 have tot:(D.words.map List.length).sum≤69:=by
  have:=iW (l:=D.ws) (f:=fun w=>w.words.length) (n:=5) fun w _=>gR w
  unfold Ds.words
  simp only [List.map_cons,List.sum_cons,zB4,zA4,List.map_map,List.length_nil]
  have e:(D.ws.map (List.length ∘ W.words)).sum≤5 * D.ws.length:=this
  lia
 have nrow:D.rows.length=6+D.ws.length:=by
  unfold Ds.rows Ds.words
  simp only [zB4,zA4]
  lia
 have nw':D.words.length=6+D.ws.length:=by
  unfold Ds.words
  simp only [zB4,zA4]
  lia
 have c10:=bH (c:=10) D.text
 rw [sp.1] at c10
 have row:∀ r∈D.rows,r.count 32≤5∧r.length≤100:=fun r m=>by
  obtain ⟨ws,mw,rfl⟩:=zA7 m
  have q1:=cnt ws mw
  have q2:=six ws mw
  have q3:=jl ws mw
  lia
 refine ⟨?_,ok.asc,by lia,?_,fun r m=>row r (sp.1▸m)⟩
 ·have q:=j0 D.rows
  have q2:(D.rows.map List.length).sum≤11 * 69:=by
   unfold Ds.rows
   rw [List.map_map]
   refine zB1 (vG (g:=fun ws=>11 * ws.length) jl) ?_
   have:∀ l:List (List (List Nat)),(l.map fun ws=>11 * ws.length).sum=11 * (l.map List.length).sum:=fun l=>by
    induction l with
    | nil=>rfl
    | cons a l ih=>rw [List.map_cons,List.map_cons,List.sum_cons,List.sum_cons,ih]; lia
   rw [this]; exact Nat.mul_le_mul_left _ tot
  refine zB1 q ?_
  exact zB1 (Nat.add_le_add q2 (zB1 (zB2 nrow) (Nat.add_le_add (Nat.le_refl _) h3))) (by decide)
 ·have q:D.text.count 32≤(D.rows.map (List.count 32)).sum+D.rows.length * 0:=dY D.rows
  have q2:(D.rows.map (List.count 32)).sum+D.words.length=(D.words.map List.length).sum:=by
   unfold Ds.rows
   rw [List.map_map]
   have:∀ l:List (List (List Nat)),(∀ ws∈l,(aM [32] ws).count 32+1=ws.length)→(l.map (List.count 32 ∘ aM [32])).sum+l.length=(l.map List.length).sum:=fun l=>by
    induction l with
    | nil=>exact fun _=>rfl
    | cons a l ih=>
     intro h
     have e1:=ih fun ws m=>h ws (.tail _ m)
     have e2:=h a (.head _)
     rw [List.map_cons,List.map_cons,List.sum_cons,List.sum_cons,zB4,← e1,← e2]
     refine (?_:(aM [32] a).count 32+_+(_+1)=_)
     lia
   exact this _ cnt
  have e:=iW (l:=D.ws) (f:=fun w=>w.words.length) (n:=5) fun w _=>gR w
  have e':(D.words.map List.length).sum≤6+13+5 * D.ws.length:=by
   unfold Ds.words
   simp only [List.map_cons,List.sum_cons,zB4,zA4,List.map_map,List.length_nil]
   have e:(D.ws.map (List.length ∘ W.words)).sum≤5 * D.ws.length:=e
   lia
  lia
theorem sG {m n:Nat} {x:V} (h:d5 m x) (q:m≤n):d5 n x:=⟨h.1,zB1 h.2 q⟩
theorem tZ {x:V} (h:da x=true):aS .Eq x x=some true:=(if_pos (by rw [h]; rfl)).trans (congrArg some (PySem.SeqAt.eqv_refl x (zA2 h).1))
theorem jX {D:Ds} (ok:D.Ok):da D.parts=true:=by
 have rm:∀ is:List Int,d5 2 (ae is):=fun is=>sG (aC (dF is)) (by decide)
 have i:d5 2 (.int D.R):=⟨rfl,Nat.zero_le _⟩
 refine aR (cR (n:=2) ?_) (by decide)
 exact zA1 ⟨sG (xH ok.g.sk) (by decide),zA1 ⟨i,zA1 ⟨rm _,zA1 ⟨rm _,zA1 ⟨aC (dE ok.g.sk ok.g.ok fun _ m=>m),nofun⟩⟩⟩⟩⟩
theorem vN:da pH=true:=by
 refine aR (cR (n:=0) ?_) (by decide)
 exact zA1 ⟨jr (x:=.str As) (by refine (?_:PyData.strOk As=true); rw [cV]; rfl),zA1 ⟨⟨rfl,Nat.le_refl _⟩,nofun⟩⟩
structure All (cf:ad):Prop where
 h15:S15 cf
 h20:S20 cf
 h21:S21 cf
 h24:SgS 24 cf
 h26:S26 cf
 h27:S27 cf
 h28:S28 cf
 h29:S29 cf
 h30:S30 cf
 h33:S33 cf
 h33n:BK cf
 h34:S34 cf
 h34n:BJ cf
theorem told {cf:ad} (A:All cf) {G:Gs} {e:E} {T:List Nat} {D:Ds} (few:Few T) (rd:Rd T D) (h:Val cf G e (text T)):Val cf G (.nd (.call 34) [e]) D.parts:=ak (.one h) fun K k=>A.h34 T K few (fun D' rd' _=>rd.uniq rd'▸k) fun no=>absurd rd (no D)
theorem AG {cf:ad} (A:All cf) {G:Gs} {e:E} {T:List Nat} (few:Few T) (no:∀ D,¬ Rd T D) (h:Val cf G e (text T)):Val cf G (.nd (.call 34) [e]) pH:=ak (.one h) fun K k=>A.h34 T K few (fun D rd _=>absurd rd (no D)) fun _=>k
theorem AF {cf:ad} (A:All cf) {G:Gs} {e:E} {x:V} (hv:vOk x=true) (hb:isB x 0=false) (h:Val cf G e x):Val cf G (.nd (.call 34) [e]) pH:=ak (.one h) fun K k=>A.h34n x K hv hb k
theorem yk {cf:ad} (A:All cf) {scr:List Int} (hs:scr.length≤63) {s0 s1 s2:List Nat} {R:Int} {st en:List Int} {ws:List W} (g:ah s0 s1 s2 R st en ws) (h1:st.length≤5) (h2:en.length≤4) (h3:ws.length≤10) {sv:V} {K:V→Prop} (h:K (.bool true)) :
  exs sup cf (f35.body.drop 3) [.v (kf scr),.v sv,.v (dH (sg s0 s1 s2) R st en ws),.unset,.unset,.unset,.unset] fun fl _=>K (fl.getD .none):=by
 have cell:∀ {G:Gs} {b:E} {i:Int},Val cf G (vv 0) (kf scr)→Val cf G b (.int i)→0≤i→Val cf G (.nd (.call 20) [vv 0,b]) (.int (a7 scr i)):=fun ha hb hi=>ak (.two ha hb) fun K h=>A.h20 scr _ K hs hi h
 refine cC (dM (vs:=[dH (sg s0 s1 s2) R st en ws]) (.one ix) (A.h27 s0 s1 s2 R st en ws _ g fun st' en' r hh=>⟨rfl,?_⟩))
 obtain ⟨ws',ok,rfl,hl⟩:=Ds.Ok.of_held g hh
 have e1:=hh.p1.length_eq
 have e2:=hh.p2.length_eq
 generalize hD:(⟨s0,s1,s2,R,st',en',ws'⟩:Ds)=D at ok
 have em:cO (sg s0 s1 s2) R st' en' (ws'.map W.v)=D.mach:=by rw [← hD]; rfl
 have ti:Tight D.text:=ok.tight (by rw [← hD]; refine (?_:st'.length≤5); exact zB1 (zB2 e1) h1) (by rw [← hD]; refine (?_:en'.length≤4); exact zB1 (zB2 e2) h2) (by rw [← hD]; refine (?_:ws'.length≤10); exact zB1 hl h3)
 have hl':D.ws.length≤10:=by rw [← hD]; refine (?_:ws'.length≤10); exact zB1 hl h3
 have few:=ti.few
 rw [em]
 have vp:∀ {G:Gs},Val cf G (vv 3) D.mach→Val cf G (.nd (.call 28) [vv 3]) D.parts:=fun h=>ak (.one h) fun K h=>A.h28 D K ok h
 refine ag (vp ix) ?_
 refine ag (v:=text D.text) (ak (.one (v:=D.parts) ix) fun K h=>A.h29 D K ok (Nat.le_add_left_of_le hl') h) ?_
 have vs:∀ {G:Gs},Val cf G (vv 3) D.mach→Val cf G (.nd (.call 15) [vv 3]) (text D.text):=fun h=>ak (.one h) fun K h=>A.h15 D K ok (Nat.le_add_left_of_le hl') h
 have vT:vOk (text D.text)=true:=zA3 ⟨bt few.asc,decide_eq_true few.len⟩
 have ni:=au (cf:=cf) (fA (G:=[.v (kf scr),.v sv,.v (dH (sg s0 s1 s2) R st en ws),.v D.mach,.v D.parts,.v (text D.text),.unset]) (a:=.nd (.call 15) [vv 3]) (t:=0) (vs ix) vT)
 have c6:Val cf [.v (kf scr),.v sv,.v (dH (sg s0 s1 s2) R st en ws),.v D.mach,.v D.parts,.v (text D.text),.unset] (.nd .or [.nd (.cmp .NotEq) [.nd (.call 15) [vv 3],vv 5],.nd .not [.nd (.isinst 0) [.nd (.call 15) [vv 3]]],.nd (.cmp .NotEq) [.nd (.call 34) [vv 5],vv 4]]) (.bool false):=aE (.go (ac (vs ix) ix (yO (aR (kr few.asc) (by decide)))) (.go ni (.go (ac (told A few ⟨ok,rfl⟩ ix) ix (yO (jX ok))) .nil)))
 refine bW c6 ?_
 refine bz (ac (aa (.two (cell (i:=1) ix ix (by decide)) ix) (b9 (b:=3) (by decide))) ix qt) (fun _=>ai (v:=.bool true) (ac (vp ix) ix (tZ (jX ok))) h) fun _=>?_
 have m0:0≤xh (a7 scr 2) 1:=aP _ (by decide)
 refine cC (dM (vs:=[text D.text,.int (xh (a7 scr 2) 1)]) (.two ix (ak (.two (cell (i:=2) ix ix (by decide)) ix) fun K h=>A.h21 _ _ K h)) (A.h30 D.text _ _ ti m0 fun y hy=>?_))
 rcases hy with ⟨U,fu,rfl⟩ | ⟨b1,b2,b3⟩
 ·refine ⟨rfl,?_⟩
  refine cC (dM (vs:=[text U]) (.one ix) (A.h33 U _ fu (fun D' rd hl=>⟨rfl,?_⟩) fun no=>⟨rfl,?_⟩))
  ·refine bW (ac ix ix rfl) ?_
   exact ai (v:=.bool true) (ac (told A fu rd ix) (y:=D'.parts) ix (tZ (jX rd.1))) h
  ·refine aV (ac ix ix rfl) ?_
   exact ai (v:=.bool true) (ac (AG A fu no ix) (y:=pH) ix (tZ vN)) h
 ·refine ⟨b3,?_⟩
  refine cC (dM (vs:=[y]) (.one ix) (A.h33n y _ b1 b2 ⟨rfl,?_⟩))
  refine aV (ac ix ix rfl) ?_
  exact ai (v:=.bool true) (ac (AF A b1 b2 ix) (y:=pH) ix (tZ vN)) h
theorem vP {R:Int} {is:List Int} (hR:R≤4) (k:RoomsOk R is):is.length≤4:=by
 have q:=k.nodup.length_le_of_subset (l₂:=(List.range 4).map fun n:Nat=>(n:Int)) fun i m=>by
  have h1:=(k.rooms i m).1
  have h2:=(k.rooms i m).2
  exact List.mem_map.mpr ⟨i.toNat,List.mem_range.mpr (by exact (Int.toNat_lt h1).mpr (Int.lt_of_lt_of_le h2 (Int.le_trans hR (by decide)))),Int.toNat_of_nonneg h1⟩
 rw [zA4,List.length_range] at q; exact q
theorem yX {s0 s1 s2:List Nat} {R R':Int} {w:W} (ok:W.ok s0 s1 s2 R w) (hr:R≤R'):W.ok s0 s1 s2 R' w:=by
 cases w with
 | on a c b=>exact ⟨ok.1.up hr,ok.2.1,ok.2.2.up hr⟩
 | op a c b t=>exact ⟨ok.1.up hr,ok.2.1,ok.2.2.1.up hr,ok.2.2.2.up hr⟩
 | cl a b c t=>exact ⟨ok.1.up hr,ok.2.1.up hr,ok.2.2.1,ok.2.2.2.up hr⟩
theorem p35 (cf:ad) (A:All cf) (scr:List Int) (hs:scr.length≤63) (K:V→Prop) (h:K (.bool true)):step cf 35 [kf scr] K:=by
 have cell:∀ {G:Gs} {b:E} {i:Int},Val cf G (vv 0) (kf scr)→Val cf G b (.int i)→0≤i→Val cf G (.nd (.call 20) [vv 0,b]) (.int (a7 scr i)):=fun ha hb hi=>ak (.two ha hb) fun K h=>A.h20 scr _ K hs hi h
 obtain ⟨s0,s1,s2,sk,hsg⟩:=A.h24 (a7 scr 0)
 refine run (fn:=f35) rfl rfl rfl (ag (v:=sg s0 s1 s2) (ak (vs:=[.int (a7 scr 0)]) (.one (cell ix ix (by decide))) hsg) ?_)
 refine cC (dM (vs:=[kf scr,.int 3,sg s0 s1 s2,.int 4]) (.cons ix (.cons ix (.two ix ix))) (A.h26 scr s0 s1 s2 _ hs sk fun R st en ws po=>⟨rfl,?_⟩))
 have p1:=po.r1
 have p4:=po.r4
 have ls:=vP p4 po.st
 have le:=vP p4 po.en
 have lw:=po.len
 refine bz (ac (aa (.two (aa (.two (cell (i:=1) ix ix (by decide)) ix) (jc (b:=4) (by decide) (by decide))) ix) (b9 (b:=8) (by decide))) ix qt) (fun _=>?_) fun _=>yk A hs ⟨sk,p1,by exact Int.le_trans p4 (by decide),po.st,po.en,by exact Nat.le_add_left_of_le lw,po.ok,.inl (by exact Nat.lt_succ_of_le (zB1 (zB2 (List.length_map _)) (zB1 po.len (by decide))))⟩ (Nat.le_succ_of_le ls) le lw h
 have m0:=aP ((a7 scr 1).fdiv 32) (b:=3) (by decide)
 have m1:=bj ((a7 scr 1).fdiv 32) (b:=3) (by decide)
 have hv:Val cf [.v (kf scr),.v (sg s0 s1 s2),.v (dH (sg s0 s1 s2) R st en ws),.unset,.unset,.unset,.unset] (.nd (.bin .Add) [ii 38,.nd (.bin .Mod) [.nd (.bin .FloorDiv) [.nd (.call 20) [vv 0,ii 1],ii 32],ii 3]]) (.int (38+((a7 scr 1).fdiv 32).fmod 3)):=aa (.two ix (aa (.two (aa (.two (cell ix ix (by decide)) ix) (jc (by decide) (by decide))) ix) (b9 (by decide)))) rfl
 generalize ((a7 scr 1).fdiv 32).fmod 3=m at m0 m1 hv
 have rm:∀ {is:List Int},RoomsOk R is→RoomsOk (38+m) is:=fun k=>⟨k.len,k.nodup,fun i mi=>(k.rooms i mi).up (by lia)⟩
 have r1:RoomsOk (38+m) (st++[37]):=by
  refine ⟨by exact zB1 (zB2 zB5) (zB1 (Nat.add_le_add ls (Nat.le_refl _)) (by decide)),List.nodup_append.mpr ⟨po.st.nodup,List.pairwise_singleton _ _,fun a ma b mb=>?_⟩,fun i mi=>?_⟩
  ·have:=(po.st.rooms a ma).2
   rw [zA6 mb]; exact Int.ne_of_lt (Int.lt_of_lt_of_le this (Int.le_trans po.r4 (by decide)))
  ·rcases List.mem_append.mp mi with mi | mi
   ·exact (po.st.rooms i mi).up (by lia)
   ·rw [zA6 mi]; exact ⟨by exact by decide,by lia⟩
 refine ag (v:=dH (sg s0 s1 s2) (38+m) (st++[37]) en ws) (aa (vs:=[sg s0 s1 s2,.int (38+m),ae (st++[37]),ae en,bP ws]) (.cons ix (.cons hv (.cons ?_ (.two ix ix)))) rfl) ?_
 ·refine aa (.two (x:=.list (st.map .int)) (y:=.list [.int 37]) ix ix) ?_
  unfold ae
  rw [List.map_append]
  exact gc (by exact zB1 (zB2 zB5) (zB1 (Nat.add_le_add (zB1 (zB2 (List.length_map _)) ls) (Nat.le_refl _)) (by decide)))
 ·exact yk A hs ⟨sk,by lia,by lia,r1,rm po.en,by exact Nat.le_add_left_of_le lw,fun w mw=>yX (po.ok w mw) (by lia),.inl (by exact Nat.lt_succ_of_le (zB1 (zB2 (List.length_map _)) (zB1 po.len (by decide))))⟩ (by exact zB1 (zB2 zB5) (Nat.add_le_add_right ls 1)) le lw h
theorem Aa (scr:List Int) (hs:scr.length≤63):aq prog 8 35 [.list (scr.map .int)] fun y=>y=.bool true:=by
 have b:∀ n,S2 (aq prog (n+3))∧S4 (aq prog (n+3))∧S5 (aq prog (n+3))∧S7 (aq prog (n+3)):=fun n=>⟨p2 _ (p1 _ (p0 (aq prog n))),p4 (aq prog (n+2)),p5 _ (p4 (aq prog (n+1))),p7 _ (p6 _ (p3 (aq prog n)) (p4 (aq prog n)))⟩
 have m:∀ n,S15 (aq prog (n+2)):=fun n=>p15 _ (meths (aq prog n)) (p14 (aq prog n))
 have c18:S18 (aq prog 5):=p18 _ (p8a _ (b 0).1) (p8b _ (b 0).1 (b 0).2.1 (b 0).2.2.1 (b 0).2.2.2) (p8 _ (b 0).1 (b 0).2.1 (b 0).2.2.1 (b 0).2.2.2) (p16 (aq prog 3)) (p17 _ (p16 (aq prog 2)))
 have c33:S33 (aq prog 7):=p33 _ (p31 (aq prog 5)) (p32 _ (p31 (aq prog 4)))
 have A:All (aq prog 7):={
  h15:=m 5
  h20:=p20 (aq prog 6)
  h21:=p21 (aq prog 6)
  h24:=p24 _ (p23 (aq prog 5))
  h26:=p26 _ (p20 (aq prog 5)) (p21 (aq prog 5)) (p25 (aq prog 5))
  h27:=p27 _ (p8 _ (b 2).1 (b 2).2.1 (b 2).2.2.1 (b 2).2.2.2)
  h28:=p28 _ (meths (aq prog 5))
  h29:=p29 (aq prog 6)
  h30:=p30 (aq prog 6)
  h33:=c33
  h33n:=BT (aq prog 6)
  h34:=p34 _ (p19 _ (m 3) c18) (p22 (aq prog 5)) (p28 _ (meths (aq prog 4)))
  h34n:=BS _ (BU (aq prog 5)) (p22 (aq prog 5)) }
 exact p35 _ A scr hs _ rfl
end Mine.L15
end
noncomputable section
open PySem PySem.W PyProof.Rows
namespace Mine.L15
theorem said:PySem.Challenge.rw_uf010006_15.wellSaid=true:=by kernel_rfl
theorem law15:PySem.Challenge.rw_uf010006_15.Holds:=by
 w_on
 refine holds_law said fun said=>?_
 refine holds_open (q:=vw) (loose:=[]) (Xt:=vwX) (XP:=XL vw []) (Yf:=Hook.obs ua) (Ya:=Hook.val ua) (YP:=Hook.says ua) (N:=6238) zA (Hook.of ua) (Hook.keeps ua) (fun s e=>xl_of s (Bool.and_eq_true_iff.mp e).1) XL.keeps (by rfl) (by rfl) (by rfl) (fun s e=>recFacts_of (Bool.and_eq_true_iff.mp e).2) (by rfl) said (by decide +kernel) ⟨rfl,rfl,rfl,rfl,rfl,by decide +kernel⟩ ?hw ?hc
 case hw=>w_witness2
 intro w s₀ s₁ mg mb G Y fa o pm cd doc dV kV ho hd hcd hD hmg hg args vals as hpre hlay hrd hwl hlo
 obtain ⟨K,KX,e,hbd⟩:=Y
 have c:=x1 (g:=⟨PySem.Challenge.rw_uf010006_15.row.prog,w,s₁.heap,mg,mb,fun f=>fnA.getD f 0,mchA,K,fldN,s₁.os,prog,fun c=>clsA.getD c 0,8,safe,newf,fnN,clsN,conN⟩) KX e hbd rfl rfl rfl rfl rfl rfl rfl rfl rfl rfl rfl G.T.g G.T.b G.T.nolimit G.T.builtins (fun o ho=>let ⟨C,O,_⟩:=G.T.own o ho; ⟨C,O⟩) (by decide +kernel) 8
 have hm:some (Value.ref fa)=some (Value.ref 360):=hmg.symm.trans (c.1.fns "law" 35 rfl)
 cases hm
 exact uQ (l:=PySem.Challenge.rw_uf010006_15) rfl rfl c.2 rfl rfl rfl hg (f:=35) (by decide) hpre hwl (fun scr hs=>Aa scr hs)
end Mine.L15
theorem PySem.Challenge.cw_uf010006_15_holds : PySem.Challenge.rw_uf010006_15.Holds :=
 Mine.L15.law15
end
